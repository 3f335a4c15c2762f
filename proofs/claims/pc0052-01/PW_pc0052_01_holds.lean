import PyProof.Rows.All
import Wide.All
import OpenK.AllK
import Wide.FinOn
import PySem.Challenge.RW_pc0052_01
open PySem PySem.W PyProof.Rows PySem.Calls
set_option Elab.async false
set_option maxRecDepth 100000
set_option maxHeartbeats 0
set_option linter.unusedSimpArgs false
set_option linter.unusedVariables false
-- Core
namespace Mine

theorem bindE {α β : Type} {x : Option α} {f : α → Option β} {r : β} {P : Prop} (z : x.bind f = some r) (k : ∀ a, x = some a → f a = some r → P) : P := by
  cases x with
  | none => cases z
  | some a => exact k a rfl z
theorem bindE2 {α α' β : Type} {x : Option (α × α')} {f : α × α' → Option β} {r : β} {P : Prop} (z : x.bind f = some r) (k : ∀ a b, x = some (a, b) → f (a, b) = some r → P) : P := bindE z fun q => k q.1 q.2
theorem bindE3 {α α' α'' β : Type} {x : Option (α × α' × α'')} {f : α × α' × α'' → Option β} {r : β} {P : Prop} (z : x.bind f = some r) (k : ∀ a b c, x = some (a, b, c) → f (a, b, c) = some r → P) : P := bindE z fun q => k q.1 q.2.1 q.2.2

/-! ## Values, memory -/
inductive V where
  | none
  | bool (b : Bool)
  | int (i : Int)
  | str (s : Str)
  | tup (l : List V)
  | lst (l : List V)
  | rng (a b : Int)
  | set (led : Bool) (l : List Int)
  | inst (C : Addr) (fs : List (Str × V))
  | ref (k : Nat)
  | raw (w : Value)

inductive MO where
  | lst (l : List V)
  | dicI (l : List (Int × V))
  | dicS (l : List (Str × V))
  | dead

abbrev G := Addr → Option Obj

/-- the tables of small sets: every rising list of at most four numbers below eight -/
noncomputable def subsL : List Nat → List (List Nat)
  | [] => [[]]
  | x :: xs => (subsL xs).map (x :: ·) ++ subsL xs
noncomputable def smallLists : List (List Nat) := (subsL (List.range 8)).filter fun l => decide (l.length ≤ 4)
noncomputable def setTab (led : Bool) (ks : List Nat) : SetTable := ⟨7, ks.toArray, #[], 0, led, 0, true⟩
noncomputable def SmallTab (o : Obj) (led : Bool) (l : List Int) : Prop :=
  (∀ k ∈ l, 0 ≤ k ∧ k < 8) → l.length ≤ 4 → ∃ es ep ks, o.data = .set es ep (setTab led ks) ∧ ks ∈ smallLists ∧ es.toList.map (·.1) = ks.map Int.ofNat

noncomputable def SeqObj (ty : String) (o : Obj) (vs : List Value) : Prop := o.cls = .type ty ∧ ∃ n, o.data = .seq vs.toArray n

mutual
inductive VRel (g : G) (φ : List Addr) : Value → V → Prop
  | none : VRel g φ .none .none
  | bool (b : Bool) : VRel g φ (.bool b) (.bool b)
  | int (i : Int) (t : Tok) : VRel g φ (.int i t) (.int i)
  | str (s : Str) (t : Tok) : VRel g φ (.str s t) (.str s)
  | tup {a : Addr} {o : Obj} {vs : List Value} {l : List V} : g a = some o → SeqObj "tuple" o vs → VRels g φ vs l → VRel g φ (.ref a) (.tup l)
  | lst {a : Addr} {o : Obj} {vs : List Value} {l : List V} : g a = some o → SeqObj "list" o vs → VRels g φ vs l → VRel g φ (.ref a) (.lst l)
  | rng {a : Addr} {x y : Int} {t u v : Tok} : g a = some { cls := .type "range", dict := Option.none, data := .fields #[.int x t, .int y u, .int 1 v], slots := #[] } → VRel g φ (.ref a) (.rng x y)
  | set {a : Addr} {o : Obj} {led : Bool} {l : List Int} : g a = some o → l.Nodup → o.IntSetOf (fun k => l.contains k) l.length → SmallTab o led l → VRel g φ (.ref a) (.set led l)
  | inst {a d C : Addr} {es : List DictEntry} {n : Nat} {fs : List (Str × V)} : g a = some (instObj C d) → g d = some (dictOf es n) → FRels g φ es fs → VRel g φ (.ref a) (.inst C fs)
  | ref {k : Nat} {a : Addr} : φ[k]? = some a → VRel g φ (.ref a) (.ref k)
  | raw (w : Value) : VRel g φ w (.raw w)
inductive VRels (g : G) (φ : List Addr) : List Value → List V → Prop
  | nil : VRels g φ [] []
  | cons {w : Value} {ws : List Value} {v : V} {vs : List V} : VRel g φ w v → VRels g φ ws vs → VRels g φ (w :: ws) (v :: vs)
inductive FRels (g : G) (φ : List Addr) : List DictEntry → List (Str × V) → Prop
  | nil : FRels g φ [] []
  | cons {e : DictEntry} {es : List DictEntry} {x : Str} {t : Tok} {v : V} {fs : List (Str × V)} : e.key = .str x t → VRel g φ e.val v → FRels g φ es fs → FRels g φ (e :: es) ((x, v) :: fs)
end

section
variable {g g' : G} {φ φ' : List Addr} (hg : ∀ a o, g a = some o → g' a = some o) (hφ : ∀ (k : Nat) (a : Addr), φ[k]? = some a → φ'[k]? = some a)
include hg hφ
theorem VRel.mono {w : Value} {v : V} (x : VRel g φ w v) : VRel g' φ' w v := VRel.rec (motive_1 := fun w v _ => VRel g' φ' w v) (motive_2 := fun w v _ => VRels g' φ' w v) (motive_3 := fun w v _ => FRels g' φ' w v) (.none) (.bool) (.int) (.str) (fun a b _ c => .tup (hg _ _ a) b c) (fun a b _ c => .lst (hg _ _ a) b c) (fun a => .rng (hg _ _ a)) (fun a b c d => .set (hg _ _ a) b c d) (fun a b _ c => .inst (hg _ _ a) (hg _ _ b) c) (fun a => .ref (hφ _ _ a)) (.raw) (.nil) (fun _ _ a b => .cons a b) (.nil) (fun e _ _ a b => .cons e a b) x
theorem VRels.mono {w : List Value} {v : List V} (x : VRels g φ w v) : VRels g' φ' w v := VRels.rec (motive_1 := fun w v _ => VRel g' φ' w v) (motive_2 := fun w v _ => VRels g' φ' w v) (motive_3 := fun w v _ => FRels g' φ' w v) (.none) (.bool) (.int) (.str) (fun a b _ c => .tup (hg _ _ a) b c) (fun a b _ c => .lst (hg _ _ a) b c) (fun a => .rng (hg _ _ a)) (fun a b c d => .set (hg _ _ a) b c d) (fun a b _ c => .inst (hg _ _ a) (hg _ _ b) c) (fun a => .ref (hφ _ _ a)) (.raw) (.nil) (fun _ _ a b => .cons a b) (.nil) (fun e _ _ a b => .cons e a b) x
theorem FRels.mono {w : List DictEntry} {v : List (Str × V)} (x : FRels g φ w v) : FRels g' φ' w v := FRels.rec (motive_1 := fun w v _ => VRel g' φ' w v) (motive_2 := fun w v _ => VRels g' φ' w v) (motive_3 := fun w v _ => FRels g' φ' w v) (.none) (.bool) (.int) (.str) (fun a b _ c => .tup (hg _ _ a) b c) (fun a b _ c => .lst (hg _ _ a) b c) (fun a => .rng (hg _ _ a)) (fun a b c d => .set (hg _ _ a) b c d) (fun a b _ c => .inst (hg _ _ a) (hg _ _ b) c) (fun a => .ref (hφ _ _ a)) (.raw) (.nil) (fun _ _ a b => .cons a b) (.nil) (fun e _ _ a b => .cons e a b) x
end
/-- values in a row, by their rows -/
noncomputable def VRelsF (g : G) (φ : List Addr) : List Value → List V → Prop
  | [], [] => True
  | w :: ws, v :: vs => VRel g φ w v ∧ VRels g φ ws vs
  | _, _ => False
theorem VRels.toF {g : G} {φ : List Addr} {ws : List Value} {vs : List V} (r : VRels g φ ws vs) : VRelsF g φ ws vs := by
  cases r with
  | nil => exact trivial
  | cons a b => exact ⟨a, b⟩
theorem VRels.consE {g : G} {φ : List Addr} {w : Value} {ws : List Value} {v : V} {vs : List V} (r : VRels g φ (w :: ws) (v :: vs)) : VRel g φ w v ∧ VRels g φ ws vs := r.toF
noncomputable def FRelsF (g : G) (φ : List Addr) : List DictEntry → List (Str × V) → Prop
  | [], [] => True
  | e :: es, p :: fs => (∃ t, e.key = .str p.1 t) ∧ VRel g φ e.val p.2 ∧ FRels g φ es fs
  | _, _ => False
theorem FRels.toF {g : G} {φ : List Addr} {es : List DictEntry} {fs : List (Str × V)} (r : FRels g φ es fs) : FRelsF g φ es fs := by
  cases r with
  | nil => exact trivial
  | cons a b c => exact ⟨⟨_, a⟩, b, c⟩
theorem FRels.ind {g : G} {φ : List Addr} {P : List DictEntry → List (Str × V) → Prop} (h0 : P [] []) (h1 : ∀ e x t v es fs, e.key = .str x t → VRel g φ e.val v → FRels g φ es fs → P es fs → P (e :: es) ((x, v) :: fs)) {es : List DictEntry} : ∀ {fs : List (Str × V)}, FRels g φ es fs → P es fs := by
  induction es with
  | nil =>
    intro fs r
    cases fs with
    | nil => exact h0
    | cons p fs => exact r.toF.elim
  | cons e es ih =>
    intro fs r
    cases fs with
    | nil => exact r.toF.elim
    | cons p fs => exact r.toF.1.elim fun t q => h1 e p.1 t p.2 es fs q r.toF.2.1 r.toF.2.2 (ih r.toF.2.2)
/-- by the rows -/
theorem VRels.ind {g : G} {φ : List Addr} {P : List Value → List V → Prop} (h0 : P [] []) (h1 : ∀ w v ws vs, VRel g φ w v → VRels g φ ws vs → P ws vs → P (w :: ws) (v :: vs)) {ws : List Value} : ∀ {vs : List V}, VRels g φ ws vs → P ws vs := by
  induction ws with
  | nil =>
    intro vs r
    cases vs with
    | nil => exact h0
    | cons v vs => exact r.toF.elim
  | cons w ws ih =>
    intro vs r
    cases vs with
    | nil => exact r.toF.elim
    | cons v vs => exact h1 _ _ _ _ r.toF.1 r.toF.2 (ih r.toF.2)


noncomputable def V.onInt {α : Type} (v : V) (f : Int → Option α) : Option α := match v with | .int b => f b | _ => Option.none
noncomputable def V.onStr {α : Type} (v : V) (f : Str → Option α) : Option α := match v with | .str b => f b | _ => Option.none
noncomputable def V.onBool {α : Type} (v : V) (f : Bool → Option α) : Option α := match v with | .bool b => f b | _ => Option.none
noncomputable def V.onRef {α : Type} (v : V) (f : Nat → Option α) : Option α := match v with | .ref k => f k | _ => Option.none
noncomputable def V.onTup {α : Type} (v : V) (f : List V → Option α) : Option α := match v with | .tup l => f l | _ => Option.none
noncomputable def V.onLst {α : Type} (v : V) (f : List V → Option α) : Option α := match v with | .lst l => f l | _ => Option.none
noncomputable def V.onRng {α : Type} (v : V) (f : Int → Int → Option α) : Option α := match v with | .rng a b => f a b | _ => Option.none
noncomputable def V.onNone {α : Type} (v : V) (f : Option α) : Option α := match v with | .none => f | _ => Option.none
theorem V.onInt_int {α : Type} (b : Int) (f : Int → Option α) : (V.int b).onInt f = f b := rfl
theorem V.onBool_bool {α : Type} (b : Bool) (f : Bool → Option α) : (V.bool b).onBool f = f b := rfl
theorem V.onTup_tup {α : Type} (l : List V) (f : List V → Option α) : (V.tup l).onTup f = f l := rfl
theorem V.onLst_lst {α : Type} (l : List V) (f : List V → Option α) : (V.lst l).onLst f = f l := rfl
theorem V.onNone_none {α : Type} (f : Option α) : V.none.onNone f = f := rfl
section
variable {g : G} {φ : List Addr} {α : Type} {w : Value} {v : V} {r : α} {P : Value → Prop}
/-- what a value is, by what it stands for -/
noncomputable def VRelF (g : G) (φ : List Addr) (w : Value) : V → Prop
  | .none => w = .none
  | .bool b => w = .bool b
  | .int i => ∃ t, w = .int i t
  | .str x => ∃ t, w = .str x t
  | .tup l => ∃ a o vs, w = .ref a ∧ g a = some o ∧ SeqObj "tuple" o vs ∧ VRels g φ vs l
  | .lst l => ∃ a o vs, w = .ref a ∧ g a = some o ∧ SeqObj "list" o vs ∧ VRels g φ vs l
  | .ref k => ∃ a, w = .ref a ∧ φ[k]? = some a
  | .raw u => w = u
  | .rng x y => ∃ a t u v, w = .ref a ∧ g a = some { cls := .type "range", dict := Option.none, data := .fields #[.int x t, .int y u, .int 1 v], slots := #[] }
  | .set led l => ∃ a o, w = .ref a ∧ g a = some o ∧ l.Nodup ∧ o.IntSetOf (fun k => l.contains k) l.length ∧ SmallTab o led l
  | .inst C fs => ∃ a d es n, w = .ref a ∧ g a = some (instObj C d) ∧ g d = some (dictOf es n) ∧ FRels g φ es fs
theorem VRel.toF (x : VRel g φ w v) : VRelF g φ w v := by
  cases x with
  | none => exact rfl
  | bool b => exact rfl
  | int i t => exact ⟨t, rfl⟩
  | str i t => exact ⟨t, rfl⟩
  | tup a b c => exact ⟨_, _, _, rfl, a, b, c⟩
  | lst a b c => exact ⟨_, _, _, rfl, a, b, c⟩
  | ref a => exact ⟨_, rfl, a⟩
  | raw u => exact rfl
  | rng a => exact ⟨_, _, _, _, rfl, a⟩
  | set a b c d => exact ⟨_, _, rfl, a, b, c, d⟩
  | inst a b c => exact ⟨_, _, _, _, rfl, a, b, c⟩
theorem noSome {β : Type} {r : β} {P : Prop} (e : (Option.none : Option β) = some r) : P := nomatch e
theorem seqF {ty : String} {vs₀ : List V} (x : ∃ a o vs, w = .ref a ∧ g a = some o ∧ SeqObj ty o vs ∧ VRels g φ vs vs₀) (k : ∀ a o vs, g a = some o → SeqObj ty o vs → VRels g φ vs vs₀ → P (.ref a)) : P w :=
  x.elim fun a x => x.elim fun o x => x.elim fun vs x => x.1 ▸ k a o vs x.2.1 x.2.2.1 x.2.2.2
@[elab_as_elim] theorem VRel.onIntE {f : Int → Option α} (x : VRel g φ w v) (e : v.onInt f = some r) (k : ∀ b t, f b = some r → P (.int b t)) : P w := by
  cases v with
  | int b => exact x.toF.elim fun t h => h ▸ k b t e
  | none => exact noSome e
  | bool _ => exact noSome e
  | str _ => exact noSome e
  | tup _ => exact noSome e
  | lst _ => exact noSome e
  | rng _ _ => exact noSome e
  | set _ _ => exact noSome e
  | inst _ _ => exact noSome e
  | ref _ => exact noSome e
  | raw _ => exact noSome e
@[elab_as_elim] theorem VRel.onStrE {f : Str → Option α} (x : VRel g φ w v) (e : v.onStr f = some r) (k : ∀ b t, f b = some r → P (.str b t)) : P w := by
  cases v with
  | str b => exact x.toF.elim fun t h => h ▸ k b t e
  | none => exact noSome e
  | bool _ => exact noSome e
  | int _ => exact noSome e
  | tup _ => exact noSome e
  | lst _ => exact noSome e
  | rng _ _ => exact noSome e
  | set _ _ => exact noSome e
  | inst _ _ => exact noSome e
  | ref _ => exact noSome e
  | raw _ => exact noSome e
@[elab_as_elim] theorem VRel.onBoolE {f : Bool → Option α} (x : VRel g φ w v) (e : v.onBool f = some r) (k : ∀ b, f b = some r → P (.bool b)) : P w := by
  cases v with
  | bool b => exact (show w = .bool b from x.toF) ▸ k b e
  | none => exact noSome e
  | int _ => exact noSome e
  | str _ => exact noSome e
  | tup _ => exact noSome e
  | lst _ => exact noSome e
  | rng _ _ => exact noSome e
  | set _ _ => exact noSome e
  | inst _ _ => exact noSome e
  | ref _ => exact noSome e
  | raw _ => exact noSome e
@[elab_as_elim] theorem VRel.onNoneE {f : Option α} (x : VRel g φ w v) (e : v.onNone f = some r) (k : f = some r → P .none) : P w := by
  cases v with
  | none => exact (show w = .none from x.toF) ▸ k e
  | bool _ => exact noSome e
  | int _ => exact noSome e
  | str _ => exact noSome e
  | tup _ => exact noSome e
  | lst _ => exact noSome e
  | rng _ _ => exact noSome e
  | set _ _ => exact noSome e
  | inst _ _ => exact noSome e
  | ref _ => exact noSome e
  | raw _ => exact noSome e
@[elab_as_elim] theorem VRel.onTupE {f : List V → Option α} (x : VRel g φ w v) (e : v.onTup f = some r) (k : ∀ a o vs l, g a = some o → SeqObj "tuple" o vs → VRels g φ vs l → f l = some r → P (.ref a)) : P w := by
  cases v with
  | tup l => exact seqF x.toF fun a o vs h1 h2 h3 => k a o vs l h1 h2 h3 e
  | none => exact noSome e
  | bool _ => exact noSome e
  | int _ => exact noSome e
  | str _ => exact noSome e
  | lst _ => exact noSome e
  | rng _ _ => exact noSome e
  | set _ _ => exact noSome e
  | inst _ _ => exact noSome e
  | ref _ => exact noSome e
  | raw _ => exact noSome e
@[elab_as_elim] theorem VRel.onLstE {f : List V → Option α} (x : VRel g φ w v) (e : v.onLst f = some r) (k : ∀ a o vs l, g a = some o → SeqObj "list" o vs → VRels g φ vs l → f l = some r → P (.ref a)) : P w := by
  cases v with
  | lst l => exact seqF x.toF fun a o vs h1 h2 h3 => k a o vs l h1 h2 h3 e
  | none => exact noSome e
  | bool _ => exact noSome e
  | int _ => exact noSome e
  | str _ => exact noSome e
  | tup _ => exact noSome e
  | rng _ _ => exact noSome e
  | set _ _ => exact noSome e
  | inst _ _ => exact noSome e
  | ref _ => exact noSome e
  | raw _ => exact noSome e
@[elab_as_elim] theorem VRel.onRefE {f : Nat → Option α} (x : VRel g φ w v) (e : v.onRef f = some r) (k : ∀ j a, φ[j]? = some a → f j = some r → P (.ref a)) : P w := by
  cases v with
  | ref j => exact x.toF.elim fun a h => h.1 ▸ k j a h.2 e
  | none => exact noSome e
  | bool _ => exact noSome e
  | int _ => exact noSome e
  | str _ => exact noSome e
  | tup _ => exact noSome e
  | lst _ => exact noSome e
  | rng _ _ => exact noSome e
  | set _ _ => exact noSome e
  | inst _ _ => exact noSome e
  | raw _ => exact noSome e
@[elab_as_elim] theorem VRel.rngE {x y : Int} (r : VRel g φ w (.rng x y)) (k : ∀ a t u v, g a = some { cls := .type "range", dict := Option.none, data := .fields #[.int x t, .int y u, .int 1 v], slots := #[] } → P (.ref a)) : P w :=
  r.toF.elim fun a h => h.elim fun t h => h.elim fun u h => h.elim fun v h => h.1 ▸ k a t u v h.2
@[elab_as_elim] theorem VRel.onRngE {f : Int → Int → Option α} (x : VRel g φ w v) (e : v.onRng f = some r) (k : ∀ i j a t u v, g a = some { cls := .type "range", dict := Option.none, data := .fields #[.int i t, .int j u, .int 1 v], slots := #[] } → f i j = some r → P (.ref a)) : P w := by
  cases v with
  | rng i j => exact x.toF.elim fun a h => h.elim fun t h => h.elim fun u h => h.elim fun v h => h.1 ▸ k i j a t u v h.2 e
  | none => exact noSome e
  | bool _ => exact noSome e
  | int _ => exact noSome e
  | str _ => exact noSome e
  | tup _ => exact noSome e
  | lst _ => exact noSome e
  | set _ _ => exact noSome e
  | inst _ _ => exact noSome e
  | ref _ => exact noSome e
  | raw _ => exact noSome e
@[elab_as_elim] theorem VRel.strE {b : Str} (x : VRel g φ w (.str b)) (k : ∀ t, P (.str b t)) : P w := x.toF.elim fun t h => h ▸ k t
@[elab_as_elim] theorem VRel.tupE {l : List V} (x : VRel g φ w (.tup l)) (k : ∀ a o vs, g a = some o → SeqObj "tuple" o vs → VRels g φ vs l → P (.ref a)) : P w := seqF x.toF k
@[elab_as_elim] theorem VRel.lstE {l : List V} (x : VRel g φ w (.lst l)) (k : ∀ a o vs, g a = some o → SeqObj "list" o vs → VRels g φ vs l → P (.ref a)) : P w := seqF x.toF k
@[elab_as_elim] theorem VRel.refE {j : Nat} (x : VRel g φ w (.ref j)) (k : ∀ a, φ[j]? = some a → P (.ref a)) : P w := x.toF.elim fun a h => h.1 ▸ k a h.2
@[elab_as_elim] theorem VRel.rawE {u : Value} (x : VRel g φ w (.raw u)) (k : P u) : P w := (show w = u from x.toF) ▸ k
@[elab_as_elim] theorem VRel.intE {b : Int} (x : VRel g φ w (.int b)) (k : ∀ t, P (.int b t)) : P w := x.toF.elim fun t h => h ▸ k t
@[elab_as_elim] theorem VRel.boolE {b : Bool} (x : VRel g φ w (.bool b)) (k : P (.bool b)) : P w := (show w = .bool b from x.toF) ▸ k
end
noncomputable def onNil {α : Type} (vs : List V) (o : Option α) : Option α := match vs with | [] => o | _ => none
noncomputable def onCons {α : Type} (vs : List V) (f : V → List V → Option α) : Option α := match vs with | v :: vs => f v vs | _ => none
section
variable {g : G} {φ : List Addr} {α : Type} {ws : List Value} {vs : List V} {r : α} {P : List Value → Prop}
@[elab_as_elim] theorem VRels.onNilE {o : Option α} (x : VRels g φ ws vs) (e : onNil vs o = some r) (k : o = some r → P []) : P ws := by
  cases x with
  | nil => exact k e
  | cons _ _ => cases e
@[elab_as_elim] theorem VRels.onConsE {f : V → List V → Option α} (x : VRels g φ ws vs) (e : onCons vs f = some r) (k : ∀ w v ws' vs', VRel g φ w v → VRels g φ ws' vs' → f v vs' = some r → P (w :: ws')) : P ws := by
  cases x with
  | nil => cases e
  | cons a b => exact k _ _ _ _ a b e
end
noncomputable def on1 {α : Type} (vs : List V) (f : V → Option α) : Option α := onCons vs fun a r => onNil r (f a)
noncomputable def on2 {α : Type} (vs : List V) (f : V → V → Option α) : Option α := onCons vs fun a r => onCons r fun b r => onNil r (f a b)
section
variable {g : G} {φ : List Addr} {α : Type} {ws : List Value} {vs : List V} {r : α} {P : List Value → Prop}
@[elab_as_elim] theorem VRels.on1E {f : V → Option α} (x : VRels g φ ws vs) (e : on1 vs f = some r) (k : ∀ w v, VRel g φ w v → f v = some r → P [w]) : P ws := x.onConsE e fun w v ws' vs' a b e => b.onNilE e fun e => k w v a e
@[elab_as_elim] theorem VRels.on2E {f : V → V → Option α} (x : VRels g φ ws vs) (e : on2 vs f = some r) (k : ∀ w v w' v', VRel g φ w v → VRel g φ w' v' → f v v' = some r → P [w, w']) : P ws :=
  x.onConsE e fun w v ws' vs' a b e => b.on1E e fun w' v' b e => k w v w' v' a b e
end
noncomputable def V.onSet {α : Type} (v : V) (f : Bool → List Int → Option α) : Option α := match v with | .set b l => f b l | _ => Option.none
noncomputable def moL {α : Type} (o : Option MO) (f : List V → Option α) : Option α := match o with | some (.lst l) => f l | _ => none
noncomputable def moI {α : Type} (o : Option MO) (f : List (Int × V) → Option α) : Option α := match o with | some (.dicI l) => f l | _ => none
noncomputable def moS {α : Type} (o : Option MO) (f : List (Str × V) → Option α) : Option α := match o with | some (.dicS l) => f l | _ => none
theorem moL_lst {α : Type} (l : List V) (f : List V → Option α) : moL (some (.lst l)) f = f l := rfl
theorem moI_dic {α : Type} (l : List (Int × V)) (f : List (Int × V) → Option α) : moI (some (.dicI l)) f = f l := rfl
theorem moS_dic {α : Type} (l : List (Str × V)) (f : List (Str × V) → Option α) : moS (some (.dicS l)) f = f l := rfl
theorem moLE {α : Type} {o : Option MO} {f : List V → Option α} {r : α} {P : Prop} (e : moL o f = some r) (k : ∀ l, o = some (.lst l) → f l = some r → P) : P := by
  cases o with
  | none => exact noSome e
  | some m => cases m with
    | lst l => exact k l rfl e
    | dicI l => exact noSome e
    | dicS l => exact noSome e
    | dead => exact noSome e
theorem moIE {α : Type} {o : Option MO} {f : List (Int × V) → Option α} {r : α} {P : Prop} (e : moI o f = some r) (k : ∀ l, o = some (.dicI l) → f l = some r → P) : P := by
  cases o with
  | none => exact noSome e
  | some m => cases m with
    | lst l => exact noSome e
    | dicI l => exact k l rfl e
    | dicS l => exact noSome e
    | dead => exact noSome e
theorem moSE {α : Type} {o : Option MO} {f : List (Str × V) → Option α} {r : α} {P : Prop} (e : moS o f = some r) (k : ∀ l, o = some (.dicS l) → f l = some r → P) : P := by
  cases o with
  | none => exact noSome e
  | some m => cases m with
    | lst l => exact noSome e
    | dicI l => exact noSome e
    | dicS l => exact k l rfl e
    | dead => exact noSome e
/-- an `if` that gives something -/
theorem ifE {α : Type} {c : Prop} [Decidable c] {t : Option α} {r : α} {P : Prop} (e : (if c then t else Option.none) = some r) (k : c → t = some r → P) : P := by
  by_cases h : c
  · rw [if_pos h] at e; exact k h e
  · rw [if_neg h] at e; cases e
theorem someE2 {α β : Type} {a a' : α} {b b' : β} (e : some (a, b) = some (a', b')) : a = a' ∧ b = b' := by cases e; exact ⟨rfl, rfl⟩
section
variable {g : G} {φ : List Addr}
theorem VRels.length {ws : List Value} {vs : List V} (r : VRels g φ ws vs) : ws.length = vs.length :=
  VRels.ind (P := fun ws vs => ws.length = vs.length) rfl (fun _ _ _ _ _ _ ih => congrArg Nat.succ ih) r
theorem VRels.append {ws ws' : List Value} {vs vs' : List V} (r : VRels g φ ws vs) (h : VRels g φ ws' vs') : VRels g φ (ws ++ ws') (vs ++ vs') :=
  VRels.ind (P := fun ws vs => VRels g φ (ws ++ ws') (vs ++ vs')) h (fun _ _ _ _ a _ ih => .cons a ih) r
theorem VRels.at {ws : List Value} {vs : List V} (r : VRels g φ ws vs) : ∀ i : Nat, (ws[i]? = none ∧ vs[i]? = none) ∨ ∃ w v, ws[i]? = some w ∧ vs[i]? = some v ∧ VRel g φ w v :=
  VRels.ind (P := fun ws vs => ∀ i : Nat, (ws[i]? = none ∧ vs[i]? = none) ∨ ∃ w v, ws[i]? = some w ∧ vs[i]? = some v ∧ VRel g φ w v) (fun _ => .inl ⟨rfl, rfl⟩)
    (fun w v _ _ a _ ih i => match i with | 0 => .inr ⟨w, v, rfl, rfl, a⟩ | i + 1 => ih i) r
theorem VRels.get {ws : List Value} {vs : List V} (r : VRels g φ ws vs) {i : Nat} {w : Value} (e : ws[i]? = some w) : ∃ v, vs[i]? = some v ∧ VRel g φ w v :=
  (r.at i).elim (fun h => nomatch h.1.symm.trans e) fun ⟨_, v, h1, h2, h3⟩ => ⟨v, h2, Option.some.inj (h1.symm.trans e) ▸ h3⟩
theorem VRels.getV {ws : List Value} {vs : List V} (r : VRels g φ ws vs) {i : Nat} {v : V} (e : vs[i]? = some v) : ∃ w, ws[i]? = some w ∧ VRel g φ w v :=
  (r.at i).elim (fun h => nomatch h.2.symm.trans e) fun ⟨w, _, h1, h2, h3⟩ => ⟨w, h1, Option.some.inj (h2.symm.trans e) ▸ h3⟩
theorem VRels.reverse {ws : List Value} {vs : List V} (h : VRels g φ ws vs) : VRels g φ ws.reverse vs.reverse :=
  VRels.ind (P := fun ws vs => VRels g φ ws.reverse vs.reverse) .nil (fun w v ws vs a _ ih => by rw [List.reverse_cons, List.reverse_cons]; exact ih.append (.cons a .nil)) h
end

/-! ## The memory relation -/
/-- keys and values of a dict -/
noncomputable def PairsRel {K : Type} (g : G) (φ : List Addr) (kvs : List (K × Value)) (l : List (K × V)) : Prop := kvs.map (·.1) = l.map (·.1) ∧ VRels g φ (kvs.map (·.2)) (l.map (·.2))

/-- the run: the program, the world, the heap that the law's call found, the text's own objects -/
structure Cx where
  prog : Program
  w : World
  H₀ : Heap
  K : Frag
  mg : Str → Option Value
  mb : Str → Option Value
structure TopW (mg mb : Str → Option Value) (h : Heap) : Prop where
  g : h.Ns mainGlobals mg
  b : h.Ns builtinsNs mb
  nolimit : h.NoLimit
  builtins : ∀ x : Str, x ≠ "__name__" → mb x = bootBuiltins x
structure Cx.Ok (c : Cx) : Prop where
  K : c.K.In c.H₀
  T : TopW c.mg c.mb c.H₀

section
variable (c : Cx)
noncomputable def ORel (g : G) (φ : List Addr) (h : Heap) (a : Addr) : MO → Prop
  | .lst l => ∃ vs n, h.get? a = some (listOf vs.toArray n) ∧ VRels g φ vs l
  | .dicI l => ∃ kvs, h.DictOf (intKind c.prog c.w) a kvs ∧ PairsRel g φ kvs l
  | .dicS l => ∃ kvs, h.DictOf (strKind c.prog c.w) a kvs ∧ PairsRel g φ kvs l
  | .dead => True

structure MRel (g : G) (φ : List Addr) (mem : List MO) (h : Heap) : Prop where
  top : ∀ a o, c.H₀.get? a = some o → g a = some o
  keep : ∀ a o, g a = some o → h.get? a = some o
  len : φ.length = mem.length
  nod : φ.Nodup
  alloc : ∀ a ∈ φ, ∃ o, h.get? a = some o
  lo : ∀ a ∈ φ, 3 < a
  obj : ∀ (k : Nat) (o : MO) (a : Addr), mem[k]? = some o → φ[k]? = some a → o ≠ .dead → ORel c g φ h a o ∧ g a = none
end

noncomputable def Own (φ : List Addr) (mem : List MO) (a : Addr) : Prop := ∃ (k : Nat) (o : MO), φ[k]? = some a ∧ mem[k]? = some o ∧ o ≠ .dead

/-- the object of the dict at an address -/
theorem DictOf.get {K : Type} [DecidableEq K] {prog : Program} {w : World} {knd : KeyKind prog w K} {h : Heap} {a : Addr} {kvs : List (K × Value)} (x : h.DictOf knd a kvs) : ∃ o, h.get? a = some o :=
  let ⟨o, _, _, e, _⟩ := x; ⟨o, e⟩
theorem DictOf.at {K : Type} [DecidableEq K] {prog : Program} {w : World} {knd : KeyKind prog w K} {h h' : Heap} {a : Addr} {kvs : List (K × Value)} (x : h.DictOf knd a kvs) (k : ∀ o, h.get? a = some o → h'.get? a = some o) : h'.DictOf knd a kvs :=
  let ⟨o, es, ep, e, r⟩ := x; ⟨o, es, ep, k _ e, r⟩
theorem PairsRel.mono {K : Type} {g g' : G} {φ φ' : List Addr} (hg : ∀ a o, g a = some o → g' a = some o) (hφ : ∀ (k : Nat) (a : Addr), φ[k]? = some a → φ'[k]? = some a) {kvs : List (K × Value)} {l : List (K × V)} (x : PairsRel g φ kvs l) : PairsRel g' φ' kvs l := ⟨x.1, x.2.mono hg hφ⟩

theorem ORel.mono {c : Cx} {g g' : G} {φ φ' : List Addr} {h h' : Heap} {a : Addr} (hg : ∀ a o, g a = some o → g' a = some o) (hφ : ∀ (k : Nat) (a : Addr), φ[k]? = some a → φ'[k]? = some a) (hk : ∀ o, h.get? a = some o → h'.get? a = some o) :
    ∀ {o : MO}, ORel c g φ h a o → ORel c g' φ' h' a o
  | .lst _, ⟨vs, n, e, r⟩ => ⟨vs, n, hk _ e, r.mono hg hφ⟩
  | .dicI _, ⟨kvs, e, r⟩ => ⟨kvs, DictOf.at e hk, r.mono hg hφ⟩
  | .dicS _, ⟨kvs, e, r⟩ => ⟨kvs, DictOf.at e hk, r.mono hg hφ⟩
  | .dead, _ => trivial
theorem ORel.some {c : Cx} {g : G} {φ : List Addr} {h : Heap} {a : Addr} : ∀ {o : MO}, ORel c g φ h a o → o ≠ .dead → ∃ ob, h.get? a = some ob
  | .lst _, ⟨_, _, e, _⟩, _ => ⟨_, e⟩
  | .dicI _, ⟨_, e, _⟩, _ => DictOf.get e
  | .dicS _, ⟨_, e, _⟩, _ => DictOf.get e
  | .dead, _, n => absurd rfl n

section
variable {c : Cx} {g : G} {φ : List Addr} {mem : List MO} {h : Heap}
theorem MRel.own_some (R : MRel c g φ mem h) {a : Addr} (x : Own φ mem a) : (∃ ob, h.get? a = some ob) ∧ g a = none :=
  let ⟨k, o, e1, e2, n⟩ := x
  let ⟨r, z⟩ := R.obj k o a e2 e1 n
  ⟨r.some n, z⟩
theorem MRel.disj (R : MRel c g φ mem h) {a : Addr} (x : g a ≠ none) : ¬ Own φ mem a := fun y => x (R.own_some y).2
end

/-- a transition of the memory: what an operation may do -/
structure Tr (c : Cx) (g : G) (φ : List Addr) (mem : List MO) (h : Heap) (g' : G) (φ' : List Addr) (mem' : List MO) (h' : Heap) : Prop where
  rel : MRel c g' φ' mem' h'
  pre : φ <+: φ'
  keep : ∀ a o, h.get? a = some o → ¬ Own φ mem a → h'.get? a = some o
  base : ∀ a o, g a = some o → g' a = some o
  new : ∀ a, (g' a ≠ none ∨ Own φ' mem' a) → (g a ≠ none ∨ Own φ mem a ∨ h.get? a = none)
  newφ : ∀ a ∈ φ', a ∈ φ ∨ h.get? a = none

theorem pre_get {φ φ' : List Addr} (p : φ <+: φ') : ∀ (k : Nat) (a : Addr), φ[k]? = some a → φ'[k]? = some a := fun k a e => by
  obtain ⟨t, rfl⟩ := p
  rw [List.getElem?_append_left (List.getElem?_eq_some_iff.mp e).1]; exact e

section
variable {c : Cx} {g g' g'' : G} {φ φ' φ'' : List Addr} {mem mem' mem'' : List MO} {h h' h'' : Heap}
theorem Tr.hφ (T : Tr c g φ mem h g' φ' mem' h') : ∀ (k : Nat) (a : Addr), φ[k]? = some a → φ'[k]? = some a := pre_get T.pre
theorem Tr.vrel (T : Tr c g φ mem h g' φ' mem' h') {wv : Value} {v : V} (x : VRel g φ wv v) : VRel g' φ' wv v := x.mono T.base T.hφ
theorem Tr.vrels (T : Tr c g φ mem h g' φ' mem' h') {wv : List Value} {v : List V} (x : VRels g φ wv v) : VRels g' φ' wv v := x.mono T.base T.hφ
theorem Tr.refl (R : MRel c g φ mem h) : Tr c g φ mem h g φ mem h :=
  ⟨R, List.prefix_refl _, fun _ _ e _ => e, fun _ _ e => e, fun _ x => x.elim .inl fun y => .inr (.inl y), fun _ m => .inl m⟩
theorem Tr.trans (T : Tr c g φ mem h g' φ' mem' h') (U : Tr c g' φ' mem' h' g'' φ'' mem'' h'') : Tr c g φ mem h g'' φ'' mem'' h'' where
  rel := U.rel
  pre := T.pre.trans U.pre
  base := fun a o e => U.base a o (T.base a o e)
  keep := fun a o e n => by
    have e' := T.keep a o e n
    refine U.keep a o e' fun z => ?_
    rcases T.new a (.inr z) with y | y | y
    · cases q : g a with
      | none => exact y q
      | some o' => exact T.rel.disj (a := a) (by rw [T.base a o' q]; simp) z
    · exact n y
    · rw [e] at y; cases y
  new := fun a x => by
    rcases U.new a x with y | y | y
    · exact T.new a (.inl y)
    · exact T.new a (.inr y)
    · cases q : h.get? a with
      | none => exact .inr (.inr rfl)
      | some o =>
        by_cases n : Own φ mem a
        · exact .inr (.inl n)
        · rw [T.keep a o q n] at y; cases y
  newφ := fun a m => by
    rcases U.newφ a m with y | y
    · exact T.newφ a y
    · cases q : h.get? a with
      | none => exact .inr rfl
      | some o =>
        by_cases n : Own φ mem a
        · obtain ⟨k, _, e1, _⟩ := n; exact .inl (List.mem_of_getElem? e1)
        · rw [T.keep a o q n] at y; cases y

theorem MRel.ext (R : MRel c g φ mem h) (k : ∀ a o, h.get? a = some o → h'.get? a = some o) : MRel c g φ mem h' where
  top := R.top
  keep := fun a o e => k a o (R.keep a o e)
  len := R.len
  nod := R.nod
  alloc := fun a m => let ⟨o, e⟩ := R.alloc a m; ⟨o, k a o e⟩
  lo := R.lo
  obj := fun i o a e1 e2 n => ⟨(R.obj i o a e1 e2 n).1.mono (fun _ _ e => e) (fun _ _ e => e) (k a), (R.obj i o a e1 e2 n).2⟩
theorem Tr.ext (R : MRel c g φ mem h) (k : ∀ a o, h.get? a = some o → h'.get? a = some o) : Tr c g φ mem h g φ mem h' :=
  ⟨R.ext k, List.prefix_refl _, fun a o e _ => k a o e, fun _ _ e => e, fun _ x => x.elim .inl fun y => .inr (.inl y), fun _ m => .inl m⟩

/-- new frozen objects: those of a set of addresses that the old heap has not -/
noncomputable def gAdd (g : G) (a : Addr) (o : Obj) : G := fun b => if b = a then some o else g b
theorem gAdd_self (g : G) (a : Addr) (o : Obj) : gAdd g a o a = some o := if_pos rfl
theorem gAdd_base (g : G) (a : Addr) (o : Obj) (hn : g a = none) : ∀ b x, g b = some x → gAdd g a o b = some x := fun b x e => by
  unfold gAdd
  by_cases q : b = a
  · subst q; rw [hn] at e; cases e
  · rw [if_neg q]; exact e
theorem Tr.freezeNew (R : MRel c g φ mem h) (k : ∀ a o, h.get? a = some o → h'.get? a = some o) {a : Addr} {o : Obj} (hn : h.get? a = none) (ho : h'.get? a = some o) :
    Tr c g φ mem h (gAdd g a o) φ mem h' := by
  have gn : g a = none := by
    cases q : g a with
    | none => rfl
    | some x => rw [R.keep a x q] at hn; cases hn
  have gb := gAdd_base g a o gn
  have R' := R.ext k
  refine ⟨⟨fun b x e => gb b x (R.top b x e), fun b x e => ?_, R.len, R.nod, R'.alloc, R.lo, fun i ob b e1 e2 n => ?_⟩, List.prefix_refl _, fun b x e _ => k b x e, gb, fun b x => ?_, fun _ m => .inl m⟩
  · unfold gAdd at e
    by_cases q : b = a
    · rw [if_pos q] at e; subst q; cases e; exact ho
    · rw [if_neg q] at e; exact R'.keep b x e
  · obtain ⟨r, z⟩ := R.obj i ob b e1 e2 n
    refine ⟨r.mono gb (fun _ _ e => e) (k b), ?_⟩
    unfold gAdd
    by_cases q : b = a
    · subst q; obtain ⟨x, hx⟩ := r.some n; rw [hn] at hx; cases hx
    · rw [if_neg q]; exact z
  · rcases x with x | x
    · unfold gAdd at x
      by_cases q : b = a
      · subst q; exact .inr (.inr hn)
      · rw [if_neg q] at x; exact .inl x
    · exact .inr (.inl x)

/-- a new owned object -/
theorem Tr.ownNew (R : MRel c g φ mem h) (k : ∀ a o, h.get? a = some o → h'.get? a = some o) {a : Addr} {o : MO} (hna : h.get? a = none) (hlo : 3 < a) (nd : o ≠ .dead)
    (ho : ORel c g (φ ++ [a]) h' a o) : Tr c g φ mem h g (φ ++ [a]) (mem ++ [o]) h' := by
  have gn : g a = none := by
    cases q : g a with
    | none => rfl
    | some x => rw [R.keep a x q] at hna; cases hna
  have hφ : ∀ (k : Nat) (b : Addr), φ[k]? = some b → (φ ++ [a])[k]? = some b := pre_get (List.prefix_append _ _)
  have hlt : ∀ b ∈ φ, b ≠ a := fun b m q => by obtain ⟨o, e⟩ := R.alloc b m; rw [q, hna] at e; cases e
  refine ⟨⟨R.top, fun b x e => k b x (R.keep b x e), by simp [R.len], ?_, fun b m => ?_, fun b m => ?_, fun i ob b e1 e2 n => ?_⟩, List.prefix_append _ _, fun b x e _ => k b x e, fun _ _ e => e, fun b x => ?_, fun b m => (List.mem_append.mp m).elim .inl fun q => .inr (by rw [List.mem_singleton.mp q]; exact hna)⟩
  · rw [List.nodup_append]
    exact ⟨R.nod, List.nodup_cons.mpr ⟨List.not_mem_nil, List.nodup_nil⟩, fun b hb d hd => by rw [List.mem_singleton.mp hd]; exact hlt b hb⟩
  · rcases List.mem_append.mp m with m | m
    · obtain ⟨o, e⟩ := R.alloc b m; exact ⟨o, k b o e⟩
    · rw [List.mem_singleton.mp m]; exact ho.some nd
  · rcases List.mem_append.mp m with m | m
    · exact R.lo b m
    · rw [List.mem_singleton.mp m]; exact hlo
  · by_cases q : i < mem.length
    · rw [List.getElem?_append_left q] at e1
      rw [List.getElem?_append_left (R.len ▸ q)] at e2
      obtain ⟨r, z⟩ := R.obj i ob b e1 e2 n
      exact ⟨r.mono (fun _ _ e => e) hφ (k b), z⟩
    · have q' : i = mem.length := by
        have := (List.getElem?_eq_some_iff.mp e1).1
        simp at this; omega
      subst q'
      rw [List.getElem?_append_right (Nat.le_refl _), Nat.sub_self] at e1
      rw [List.getElem?_append_right (Nat.le_of_eq R.len), R.len, Nat.sub_self] at e2
      cases e1; cases e2
      exact ⟨ho, gn⟩
  · rcases x with x | ⟨i, ob, e1, e2, n⟩
    · exact .inl x
    · by_cases q : i < mem.length
      · rw [List.getElem?_append_left q] at e2
        rw [List.getElem?_append_left (R.len ▸ q)] at e1
        exact .inr (.inl ⟨i, ob, e1, e2, n⟩)
      · have q' : i = mem.length := by
          have := (List.getElem?_eq_some_iff.mp e2).1
          simp at this; omega
        subst q'
        rw [List.getElem?_append_right (Nat.le_of_eq R.len), R.len, Nat.sub_self] at e1
        cases e1
        exact .inr (.inr hna)

/-- an owned object changes in place -/
theorem Tr.change (R : MRel c g φ mem h) {k : Nat} {a : Addr} {o o' : MO} (hm : mem[k]? = some o) (ha : φ[k]? = some a) (nd : o ≠ .dead) (nd' : o' ≠ .dead) (hs : ∀ b x, b ≠ a → h.get? b = some x → h'.get? b = some x) (ho : ORel c g φ h' a o') :
    Tr c g φ mem h g φ (mem.set k o') h' := by
  obtain ⟨r, z⟩ := R.obj k o a hm ha nd
  have hkl : k < mem.length := (List.getElem?_eq_some_iff.mp hm).1
  have up := hs
  have own_of : ∀ b, Own φ (mem.set k o') b → Own φ mem b := fun b ⟨i, ob, e1, e2, n⟩ => by
    by_cases q : i = k
    · subst q; exact ⟨i, o, e1, hm, nd⟩
    · rw [List.getElem?_set_ne (Ne.symm q)] at e2; exact ⟨i, ob, e1, e2, n⟩
  refine ⟨⟨R.top, fun b x e => up b x (fun q => by rw [q, z] at e; cases e) (R.keep b x e), by simp [R.len], R.nod, fun b m => ?_, R.lo, fun i ob b e1 e2 n => ?_⟩, List.prefix_refl _, fun b x e n => up b x (fun q => n (q ▸ ⟨k, o, ha, hm, nd⟩)) e, fun _ _ e => e, fun b x => ?_, fun _ m => .inl m⟩
  · by_cases q : b = a
    · rw [q]; exact ho.some nd'
    · obtain ⟨x, e⟩ := R.alloc b m; exact ⟨x, up b x q e⟩
  · by_cases q : i = k
    · subst q
      rw [List.getElem?_set_self hkl] at e1
      cases e1
      rw [ha] at e2; cases e2
      exact ⟨ho, z⟩
    · rw [List.getElem?_set_ne (Ne.symm q)] at e1
      obtain ⟨r', z'⟩ := R.obj i ob b e1 e2 n
      refine ⟨r'.mono (fun _ _ e => e) (fun _ _ e => e) fun x e => up b x (fun qa => ?_) e, z'⟩
      subst qa
      exact q ((List.getElem?_inj (List.getElem?_eq_some_iff.mp e2).1 R.nod).mp (e2.trans ha.symm))
  · rcases x with x | x
    · exact .inl x
    · exact .inr (.inl (own_of b x))

/-- an owned list is frozen -/
theorem Tr.freeze (R : MRel c g φ mem h) {k : Nat} {a : Addr} {l : List V} (hm : mem[k]? = some (.lst l)) (ha : φ[k]? = some a) :
    ∃ o vs, h.get? a = some o ∧ SeqObj "list" o vs ∧ VRels (gAdd g a o) φ vs l ∧ Tr c g φ mem h (gAdd g a o) φ (mem.set k .dead) h := by
  obtain ⟨⟨vs, n, e, r⟩, z⟩ := R.obj k (.lst l) a hm ha (fun q => by cases q)
  have hkl : k < mem.length := (List.getElem?_eq_some_iff.mp hm).1
  have gb := gAdd_base g a (listOf vs.toArray n) z
  refine ⟨_, vs, e, ⟨rfl, n, rfl⟩, r.mono gb (fun _ _ e => e), ?_⟩
  refine ⟨⟨fun b x q => gb b x (R.top b x q), fun b x q => ?_, by simp [R.len], R.nod, R.alloc, R.lo, fun i ob b e1 e2 nd => ?_⟩, List.prefix_refl _, fun b x q _ => q, gb, fun b x => ?_, fun _ m => .inl m⟩
  · unfold gAdd at q
    by_cases cc : b = a
    · rw [if_pos cc] at q; subst cc; cases q; exact e
    · rw [if_neg cc] at q; exact R.keep b x q
  · by_cases q : i = k
    · subst q
      rw [List.getElem?_set_self hkl] at e1
      cases e1; exact absurd rfl nd
    · rw [List.getElem?_set_ne (Ne.symm q)] at e1
      obtain ⟨r', z'⟩ := R.obj i ob b e1 e2 nd
      refine ⟨r'.mono gb (fun _ _ e => e) (fun _ e => e), ?_⟩
      unfold gAdd
      by_cases qa : b = a
      · subst qa
        exact absurd ((List.getElem?_inj (List.getElem?_eq_some_iff.mp e2).1 R.nod).mp (e2.trans ha.symm)) q
      · rw [if_neg qa]; exact z'
  · rcases x with x | ⟨i, ob, e1, e2, nd⟩
    · unfold gAdd at x
      by_cases q : b = a
      · subst q; exact .inr (.inl ⟨k, _, ha, hm, fun q => by cases q⟩)
      · rw [if_neg q] at x; exact .inl x
    · by_cases q : i = k
      · subst q
        rw [List.getElem?_set_self hkl] at e2
        cases e2; exact absurd rfl nd
      · rw [List.getElem?_set_ne (Ne.symm q)] at e2
        exact .inr (.inl ⟨i, ob, e1, e2, nd⟩)
end
end Mine
-- EnvL
namespace Mine

structure PE where
  env : Env
  oc : List Addr
structure PEOk (pe : PE) : Prop where
  fn : pe.env.scope.kind = .function
  gl : pe.env.globals = mainGlobals
  bl : pe.env.builtins = builtinsNs
abbrev Rho := Str → Option V
noncomputable def upd (ρ : Rho) (x : Str) (v : V) : Rho := fun y => if y = x then some v else ρ y

structure ERel (pe : PE) (g : G) (φ : List Addr) (own : Addr → Prop) (ρ : Rho) (h : Heap) : Prop where
  loc : ∃ m, h.Ns pe.env.locals m ∧ ∀ x v, pe.env.kindOf x = some .local → ρ x = some v → ∃ w, m x = some w ∧ VRel g φ w v
  cel : ∀ x v, (pe.env.kindOf x = some .cell ∨ pe.env.kindOf x = some .free) → ρ x = some v → ∃ c w, pe.env.cells.lookup x = some c ∧ h.IsCell c (some w) ∧ VRel g φ w v
  gL : g pe.env.locals = none
  oL : ¬ own pe.env.locals
  cells : ∀ x c, pe.env.cells.lookup x = some c → (∃ v, h.IsCell c v) ∧ ¬ own c ∧ c ≠ pe.env.locals
  gC : ∀ c ∈ pe.oc, g c = none
  oc : ∀ c ∈ pe.oc, (∃ v, h.IsCell c v) ∧ ¬ own c ∧ c ≠ pe.env.locals
  cinj : ∀ x y c, pe.env.cells.lookup x = some c → pe.env.cells.lookup y = some c → x = y
  pL : pe.env.locals ∉ φ

structure Rel (c : Cx) (pe : PE) (g : G) (φ : List Addr) (ρ : Rho) (mem : List MO) (h : Heap) : Prop where
  ok : PEOk pe
  m : MRel c g φ mem h
  e : ERel pe g φ (Own φ mem) ρ h

noncomputable def OwnE (pe : PE) (φ : List Addr) (mem : List MO) (a : Addr) : Prop := a = pe.env.locals ∨ a ∈ pe.oc ∨ Own φ mem a

structure TrE (pe : PE) (g : G) (φ : List Addr) (mem : List MO) (h : Heap) (g' : G) (φ' : List Addr) (mem' : List MO) (h' : Heap) : Prop where
  pre : φ <+: φ'
  keep : ∀ a o, h.get? a = some o → ¬ OwnE pe φ mem a → h'.get? a = some o
  base : ∀ a o, g a = some o → g' a = some o
  new : ∀ a, (g' a ≠ none ∨ OwnE pe φ' mem' a) → (g a ≠ none ∨ OwnE pe φ mem a ∨ h.get? a = none)
  newφ : ∀ a ∈ φ', a ∈ φ ∨ h.get? a = none

theorem isCell_some {h : Heap} {c : Addr} {v : Option Value} (x : h.IsCell c v) : ∃ o, h.get? c = some o := let ⟨o, e, _⟩ := x; ⟨o, e⟩
theorem isCell_at {h h' : Heap} {c : Addr} {v : Option Value} (x : h.IsCell c v) (k : ∀ o, h.get? c = some o → h'.get? c = some o) : h'.IsCell c v := let ⟨o, e, r⟩ := x; ⟨o, k _ e, r⟩
theorem isCell_inj {h : Heap} {c : Addr} {v v' : Option Value} (x : h.IsCell c v) (y : h.IsCell c v') : v = v' := by
  obtain ⟨o, e, d⟩ := x
  obtain ⟨o', e', d'⟩ := y
  rw [e] at e'; cases e'
  rw [d] at d'; cases d'; rfl

section
variable {c : Cx} {pe : PE} {g g' g'' : G} {φ φ' φ'' : List Addr} {ρ ρ' : Rho} {mem mem' mem'' : List MO} {h h' h'' : Heap}
theorem Rel.disj (R : Rel c pe g φ ρ mem h) {a : Addr} (x : g a ≠ none) : ¬ OwnE pe φ mem a := by
  rintro (y | y | y)
  · subst y; exact x R.e.gL
  · exact x (R.e.gC a y)
  · exact R.m.disj x y
theorem TrE.refl : TrE pe g φ mem h g φ mem h := ⟨List.prefix_refl _, fun _ _ e _ => e, fun _ _ e => e, fun _ x => x.elim .inl fun y => .inr (.inl y), fun _ m => .inl m⟩
theorem TrE.trans (T : TrE pe g φ mem h g' φ' mem' h') (R : Rel c pe g' φ' ρ mem' h') (U : TrE pe g' φ' mem' h' g'' φ'' mem'' h'') : TrE pe g φ mem h g'' φ'' mem'' h'' where
  pre := T.pre.trans U.pre
  base := fun a o e => U.base a o (T.base a o e)
  keep := fun a o e n => by
    have e' := T.keep a o e n
    refine U.keep a o e' fun z => ?_
    rcases T.new a (.inr z) with y | y | y
    · cases q : g a with
      | none => exact y q
      | some o' => exact R.disj (a := a) (by rw [T.base a o' q]; simp) z
    · exact n y
    · rw [e] at y; cases y
  new := fun a x => by
    rcases U.new a x with y | y | y
    · exact T.new a (.inl y)
    · exact T.new a (.inr y)
    · cases q : h.get? a with
      | none => exact .inr (.inr rfl)
      | some o =>
        by_cases n : OwnE pe φ mem a
        · exact .inr (.inl n)
        · rw [T.keep a o q n] at y; cases y
  newφ := fun a m => by
    rcases U.newφ a m with y | y
    · exact T.newφ a y
    · cases q : h.get? a with
      | none => exact .inr rfl
      | some o =>
        by_cases n : OwnE pe φ mem a
        · rcases n with n | n | n
          · obtain ⟨_, ⟨o', _, _, e, _⟩, _⟩ := R.e.loc
            rw [n] at y; rw [y] at e; cases e
          · obtain ⟨⟨_, ⟨o', e, _⟩⟩, _⟩ := R.e.oc a n
            rw [y] at e; cases e
          · obtain ⟨k, _, e1, _⟩ := n; exact .inl (List.mem_of_getElem? e1)
        · rw [T.keep a o q n] at y; cases y
theorem TrE.vrel (T : TrE pe g φ mem h g' φ' mem' h') {wv : Value} {v : V} (x : VRel g φ wv v) : VRel g' φ' wv v := x.mono T.base (pre_get T.pre)
theorem TrE.vrels (T : TrE pe g φ mem h g' φ' mem' h') {wv : List Value} {v : List V} (x : VRels g φ wv v) : VRels g' φ' wv v := x.mono T.base (pre_get T.pre)

/-- an address that is there, and neither frozen nor owned, stays so -/
theorem Tr.off (T : Tr c g φ mem h g' φ' mem' h') {a : Addr} {o : Obj} (e : h.get? a = some o) (n : ¬ Own φ mem a) (z : g a = none) : h'.get? a = some o ∧ ¬ Own φ' mem' a ∧ g' a = none := by
  refine ⟨T.keep a o e n, fun x => ?_, ?_⟩
  · rcases T.new a (.inr x) with y | y | y
    · exact y z
    · exact n y
    · rw [e] at y; cases y
  · cases q : g' a with
    | none => rfl
    | some o' =>
      rcases T.new a (.inl (by rw [q]; simp)) with y | y | y
      · exact absurd z y
      · exact absurd y n
      · rw [e] at y; cases y
theorem Tr.offOwn (T : Tr c g φ mem h g' φ' mem' h') {a : Addr} {o : Obj} (e : h.get? a = some o) (n : ¬ Own φ mem a) : h'.get? a = some o ∧ ¬ Own φ' mem' a := by
  refine ⟨T.keep a o e n, fun x => ?_⟩
  rcases T.new a (.inr x) with y | y | y
  · cases q : g a with
    | none => exact y q
    | some o' => exact T.rel.disj (a := a) (by rw [T.base a o' q]; simp) x
  · exact n y
  · rw [e] at y; cases y

theorem Tr.lift (R : Rel c pe g φ ρ mem h) (T : Tr c g φ mem h g' φ' mem' h') : TrE pe g φ mem h g' φ' mem' h' ∧ Rel c pe g' φ' ρ mem' h' := by
  obtain ⟨m, hns, hm⟩ := R.e.loc
  have hL := hns
  obtain ⟨oL, _, _, eL, _⟩ := hL
  have L' := T.off eL R.e.oL R.e.gL
  have cellOff : ∀ a v, h.IsCell a v → ¬ Own φ mem a → h'.IsCell a v ∧ ¬ Own φ' mem' a := fun a v x n => by
    obtain ⟨o, e⟩ := isCell_some x
    have z := T.offOwn e n
    exact ⟨isCell_at x fun o' e' => T.keep a o' e' n, z.2⟩
  refine ⟨⟨T.pre, fun a o e n => T.keep a o e fun x => n (.inr (.inr x)), T.base, fun a x => ?_, T.newφ⟩, R.ok, T.rel, ?_⟩
  · rcases x with x | x | x | x
    · rcases T.new a (.inl x) with y | y | y
      · exact .inl y
      · exact .inr (.inl (.inr (.inr y)))
      · exact .inr (.inr y)
    · exact .inr (.inl (.inl x))
    · exact .inr (.inl (.inr (.inl x)))
    · rcases T.new a (.inr x) with y | y | y
      · exact .inl y
      · exact .inr (.inl (.inr (.inr y)))
      · exact .inr (.inr y)
  · refine ⟨⟨m, hns.at' fun o e => T.keep _ o e R.e.oL, fun x v hx hv => ?_⟩, fun x v hx hv => ?_, L'.2.2, L'.2.1, fun x a hx => ?_, fun a ha => ?_, fun a ha => ?_, R.e.cinj, fun m => (T.newφ _ m).elim R.e.pL fun q => by rw [eL] at q; cases q⟩
    · obtain ⟨w, e, r⟩ := hm x v hx hv
      exact ⟨w, e, T.vrel r⟩
    · obtain ⟨a, w, e, r, q⟩ := R.e.cel x v hx hv
      exact ⟨a, w, e, (cellOff a _ r (R.e.cells x a e).2.1).1, T.vrel q⟩
    · obtain ⟨⟨v, r⟩, n, q⟩ := R.e.cells x a hx
      exact ⟨⟨v, (cellOff a v r n).1⟩, (cellOff a v r n).2, q⟩
    · obtain ⟨⟨v, r⟩, n, q⟩ := R.e.oc a ha
      obtain ⟨o, e⟩ := isCell_some r
      exact (T.off e n (R.e.gC a ha)).2.2
    · obtain ⟨⟨v, r⟩, n, q⟩ := R.e.oc a ha
      exact ⟨⟨v, (cellOff a v r n).1⟩, (cellOff a v r n).2, q⟩

/-- a local is stored -/
theorem Rel.setLocal (R : Rel c pe g φ ρ mem h) {x : Str} {wv : Value} {v : V} (hk : pe.env.kindOf x = some .local) (r : VRel g φ wv v)
    (hm : ∀ m, h.Ns pe.env.locals m → h'.Ns pe.env.locals (fun y => if y = x then some wv else m y)) (hs : Heap.SameBut pe.env.locals h h') :
    TrE pe g φ mem h g φ mem h' ∧ Rel c pe g φ (upd ρ x v) mem h' := by
  obtain ⟨m, hns, hl⟩ := R.e.loc
  have up : ∀ b o, b ≠ pe.env.locals → h.get? b = some o → h'.get? b = some o := fun b o n e => (hs.2 b n).trans e
  refine ⟨⟨List.prefix_refl _, fun a o e n => up a o (fun q => n (.inl q)) e, fun _ _ e => e, fun a x => x.elim .inl fun y => .inr (.inl y), fun _ m => .inl m⟩, R.ok, ?_, ?_⟩
  · refine ⟨R.m.top, fun a o e => up a o (fun q => by rw [q, R.e.gL] at e; cases e) (R.m.keep a o e), R.m.len, R.m.nod, fun a m' => ?_, R.m.lo, fun k o a e1 e2 n => ?_⟩
    · obtain ⟨o, e⟩ := R.m.alloc a m'
      by_cases q : a = pe.env.locals
      · obtain ⟨o', _, _, e', _⟩ := hm m hns; exact ⟨o', q ▸ e'⟩
      · exact ⟨o, up a o q e⟩
    obtain ⟨r', z⟩ := R.m.obj k o a e1 e2 n
    exact ⟨r'.mono (fun _ _ e => e) (fun _ _ e => e) fun o' e' => up a o' (fun q => R.e.oL (q ▸ ⟨k, o, e2, e1, n⟩)) e', z⟩
  · refine ⟨⟨_, hm m hns, fun y u hy hu => ?_⟩, fun y u hy hu => ?_, R.e.gL, R.e.oL, fun y a hy => ?_, R.e.gC, fun a ha => ?_, R.e.cinj, R.e.pL⟩
    · by_cases q : y = x
      · subst q
        rw [upd, if_pos rfl] at hu; cases hu
        exact ⟨wv, if_pos rfl, r⟩
      · rw [upd, if_neg q] at hu
        obtain ⟨w', e', r'⟩ := hl y u hy hu
        exact ⟨w', (if_neg q).trans e', r'⟩
    · have q : y ≠ x := fun q => by subst q; rw [hk] at hy; rcases hy with hy | hy <;> cases hy
      rw [upd, if_neg q] at hu
      obtain ⟨a, w', e, r', q'⟩ := R.e.cel y u hy hu
      exact ⟨a, w', e, isCell_at r' fun o e' => up a o (R.e.cells y a e).2.2 e', q'⟩
    · obtain ⟨⟨u, r'⟩, n, q⟩ := R.e.cells y a hy
      exact ⟨⟨u, isCell_at r' fun o e' => up a o q e'⟩, n, q⟩
    · obtain ⟨⟨u, r'⟩, n, q⟩ := R.e.oc a ha
      exact ⟨⟨u, isCell_at r' fun o e' => up a o q e'⟩, n, q⟩

/-- a cell is stored -/
theorem Rel.setCell (R : Rel c pe g φ ρ mem h) {x : Str} {a : Addr} {wv : Value} {v : V} (hk : pe.env.kindOf x = some .cell) (hx : pe.env.cells.lookup x = some a) (hoc : a ∈ pe.oc) (r : VRel g φ wv v)
    (hm : h'.IsCell a (some wv)) (hs : Heap.SameBut a h h') : TrE pe g φ mem h g φ mem h' ∧ Rel c pe g φ (upd ρ x v) mem h' := by
  obtain ⟨m, hns, hl⟩ := R.e.loc
  obtain ⟨⟨v₀, hc₀⟩, hn, hne⟩ := R.e.oc a hoc
  have up : ∀ b o, b ≠ a → h.get? b = some o → h'.get? b = some o := fun b o n e => (hs.2 b n).trans e
  have cellUp : ∀ b u, h.IsCell b u → ∃ u', h'.IsCell b u' := fun b u hb => by
    by_cases q : b = a
    · subst q; exact ⟨_, hm⟩
    · exact ⟨u, isCell_at hb fun o e => up b o q e⟩
  refine ⟨⟨List.prefix_refl _, fun b o e n => up b o (fun q => n (.inr (.inl (q ▸ hoc)))) e, fun _ _ e => e, fun a x => x.elim .inl fun y => .inr (.inl y), fun _ m => .inl m⟩, R.ok, ?_, ?_⟩
  · refine ⟨R.m.top, fun b o e => up b o (fun q => by rw [q, R.e.gC a hoc] at e; cases e) (R.m.keep b o e), R.m.len, R.m.nod, fun b m' => ?_, R.m.lo, fun k o b e1 e2 n => ?_⟩
    · obtain ⟨o, e⟩ := R.m.alloc b m'
      by_cases q : b = a
      · obtain ⟨o', e', _⟩ := hm; exact ⟨o', q ▸ e'⟩
      · exact ⟨o, up b o q e⟩
    obtain ⟨r', z⟩ := R.m.obj k o b e1 e2 n
    exact ⟨r'.mono (fun _ _ e => e) (fun _ _ e => e) fun o' e' => up b o' (fun q => hn (q ▸ ⟨k, o, e2, e1, n⟩)) e', z⟩
  · refine ⟨⟨m, hns.sameBut hs (Ne.symm hne), fun y u hy hu => ?_⟩, fun y u hy hu => ?_, R.e.gL, R.e.oL, fun y b hy => ?_, R.e.gC, fun b hb => ?_, R.e.cinj, R.e.pL⟩
    · have q : y ≠ x := fun q => by subst q; rw [hk] at hy; cases hy
      rw [upd, if_neg q] at hu
      exact hl y u hy hu
    · by_cases q : y = x
      · subst q
        rw [upd, if_pos rfl] at hu; cases hu
        exact ⟨a, wv, hx, hm, r⟩
      · rw [upd, if_neg q] at hu
        obtain ⟨b, w', e, r', q'⟩ := R.e.cel y u hy hu
        exact ⟨b, w', e, isCell_at r' fun o e' => up b o (fun qa => q (R.e.cinj y x b e (qa ▸ hx))) e', q'⟩
    · obtain ⟨⟨u, r'⟩, n, q⟩ := R.e.cells y b hy
      exact ⟨cellUp b u r', n, q⟩
    · obtain ⟨⟨u, r'⟩, n, q⟩ := R.e.oc b hb
      exact ⟨cellUp b u r', n, q⟩
end

/-! ## What it means that a tree refines a function -/
noncomputable def AOk (n : Nat) (A : Around) : Prop := A.handled = none ∧ A.depth + 4 * n < recursionLimit ∧ A.units + 40 * n + 200 < cLine
theorem AOk.le {n m : Nat} {A : Around} (h : AOk n A) (l : m ≤ n) : AOk m A := ⟨h.1, by have := h.2.1; omega, by have := h.2.2; omega⟩
theorem AOk.mark {n : Nat} {A : Around} (h : AOk n A) : AOk n (A.mark none) := ⟨h.1, h.2.1, h.2.2⟩

abbrev EF := Rho → List MO → Option (V × List MO)
abbrev TF := Rho → List MO → Option (Bool × List MO)
inductive Fl where
  | next
  | brk
  | ret (v : V)
abbrev SF := Rho → List MO → Option (Fl × Rho × List MO)
abbrev CF := List V → List MO → Option (V × List MO)
inductive FlRel (g : G) (φ : List Addr) : Flow → Fl → Prop
  | next : FlRel g φ .next .next
  | brk : FlRel g φ .brk .brk
  | ret {w : Value} {v : V} : VRel g φ w v → FlRel g φ (.ret w) (.ret v)
noncomputable def Fls : Value → Shared → Prop := fun _ _ => False
theorem FlRel.mono {g g' : G} {φ φ' : List Addr} (hg : ∀ a o, g a = some o → g' a = some o) (hφ : ∀ (k : Nat) (a : Addr), φ[k]? = some a → φ'[k]? = some a) {f : Flow} {fl : Fl} (x : FlRel g φ f fl) : FlRel g' φ' f fl := by
  cases x with
  | next => exact .next
  | brk => exact .brk
  | ret r => exact .ret (r.mono hg hφ)

/-- what stands behind an expression -/
abbrev PostE (c : Cx) (pe : PE) (g : G) (φ : List Addr) (ρ : Rho) (mem : List MO) (s : Shared) (v : V) (mem' : List MO) (Q : Value → Shared → Prop) : Prop :=
  ∀ g' φ' h' tk wv, TrE pe g φ mem s.heap g' φ' mem' h' → Rel c pe g' φ' ρ mem' h' → VRel g' φ' wv v → Q wv { s with heap := h', toks := tk }
abbrev PostM (c : Cx) (g : G) (φ : List Addr) (mem : List MO) (s : Shared) (v : V) (mem' : List MO) (Q : Value → Shared → Prop) : Prop :=
  ∀ g' φ' h' tk wv, Tr c g φ mem s.heap g' φ' mem' h' → VRel g' φ' wv v → Q wv { s with heap := h', toks := tk }

noncomputable def EvOK (c : Cx) (n : Nat) (pe : PE) (e : Expr) (f : EF) : Prop :=
  ∀ ρ mem v mem', f ρ mem = some (v, mem') → ∀ (A : Around) (g : G) (φ : List Addr) (s : Shared) (Q : Value → Shared → Prop), AOk n A → Rel c pe g φ ρ mem s.heap →
    PostE c pe g φ ρ mem s v mem' Q → wpAny (model c.prog c.w) A (eval e pe.env) Q Fls s
abbrev PostT {α : Type} (c : Cx) (pe : PE) (g : G) (φ : List Addr) (ρ : Rho) (mem : List MO) (s : Shared) (b : α) (mem' : List MO) (Q : α → Shared → Prop) : Prop :=
  ∀ g' φ' h' tk, TrE pe g φ mem s.heap g' φ' mem' h' → Rel c pe g' φ' ρ mem' h' → Q b { s with heap := h', toks := tk }
noncomputable def TeOK (c : Cx) (n : Nat) (pe : PE) (e : Expr) (f : TF) : Prop :=
  ∀ ρ mem b mem', f ρ mem = some (b, mem') → ∀ (A : Around) (g : G) (φ : List Addr) (s : Shared) (Q : Bool → Shared → Prop), AOk n A → Rel c pe g φ ρ mem s.heap →
    PostT c pe g φ ρ mem s b mem' Q → wpAny (model c.prog c.w) A (isTrue e pe.env (eval e pe.env)) Q Fls s
abbrev PostS (c : Cx) (pe : PE) (g : G) (φ : List Addr) (mem : List MO) (s : Shared) (fl : Fl) (ρ' : Rho) (mem' : List MO) (Q : Flow → Shared → Prop) : Prop :=
  ∀ g' φ' h' tk wf, TrE pe g φ mem s.heap g' φ' mem' h' → Rel c pe g' φ' ρ' mem' h' → FlRel g' φ' wf fl → Q wf { s with heap := h', toks := tk }
noncomputable def StOK (c : Cx) (n : Nat) (pe : PE) (st : Stmt) (f : SF) : Prop :=
  ∀ ρ mem fl ρ' mem', f ρ mem = some (fl, ρ', mem') → ∀ (A : Around) (g : G) (φ : List Addr) (s : Shared) (Q : Flow → Shared → Prop), AOk n A → Rel c pe g φ ρ mem s.heap →
    PostS c pe g φ mem s fl ρ' mem' Q → wpAny (model c.prog c.w) A (exec st pe.env) Q Fls s
noncomputable def ExOK (c : Cx) (n : Nat) (pe : PE) (ss : List Stmt) (f : SF) : Prop :=
  ∀ ρ mem fl ρ' mem', f ρ mem = some (fl, ρ', mem') → ∀ (A : Around) (g : G) (φ : List Addr) (s : Shared) (Q : Flow → Shared → Prop), AOk n A → Rel c pe g φ ρ mem s.heap →
    PostS c pe g φ mem s fl ρ' mem' Q → wpAny (model c.prog c.w) A (execs ss pe.env) Q Fls s
/-- a call of a value by positions -/
noncomputable def CallOK (c : Cx) (n : Nat) (fv : Value) (f : CF) : Prop :=
  ∀ vs mem v mem', f vs mem = some (v, mem') → ∀ (A : Around) (g : G) (φ : List Addr) (s : Shared) (ws : List Value) (Q : Value → Shared → Prop), AOk n A → MRel c g φ mem s.heap → VRels g φ ws vs →
    PostM c g φ mem s v mem' Q → wpAny (model c.prog c.w) A (call fv ws) Q Fls s

section
variable {c : Cx} {n : Nat} {pe : PE} {g : G} {φ : List Addr} {ρ : Rho} {mem mem' : List MO} {s : Shared} {v : V}
theorem PostE.of {Q : Value → Shared → Prop} {v₁ : V} {m₁ : List MO} (P : PostE c pe g φ ρ mem s v mem' Q) (e : some (v₁, m₁) = some (v, mem')) : PostE c pe g φ ρ mem s v₁ m₁ Q := by cases e; exact P
theorem PostM.of {Q : Value → Shared → Prop} {v₁ : V} {m₁ : List MO} (P : PostM c g φ mem s v mem' Q) (e : some (v₁, m₁) = some (v, mem')) : PostM c g φ mem s v₁ m₁ Q := by cases e; exact P
theorem PostM.ofV {Q : Value → Shared → Prop} {v₁ : V} (P : PostM c g φ mem s v mem' Q) (e : some v₁ = some v) : PostM c g φ mem s v₁ mem' Q := by cases e; exact P
theorem PostT.of {α : Type} {b b₁ : α} {Q : α → Shared → Prop} {m₁ : List MO} (P : PostT c pe g φ ρ mem s b mem' Q) (e : some (b₁, m₁) = some (b, mem')) : PostT c pe g φ ρ mem s b₁ m₁ Q := by cases e; exact P
theorem PostS.of {Q : Flow → Shared → Prop} {fl fl₁ : Fl} {ρ' ρ₁ : Rho} {m₁ : List MO} (P : PostS c pe g φ mem s fl ρ' mem' Q) (e : some (fl₁, ρ₁, m₁) = some (fl, ρ', mem')) : PostS c pe g φ mem s fl₁ ρ₁ m₁ Q := by cases e; exact P
theorem PostE.toM {Q : Value → Shared → Prop} (R : Rel c pe g φ ρ mem s.heap) (P : PostE c pe g φ ρ mem s v mem' Q) : PostM c g φ mem s v mem' Q :=
  fun g' φ' h' tk wv T r => let ⟨a, b⟩ := T.lift R; P g' φ' h' tk wv a b r
/-- behind a first step -/
theorem PostE.behind {Q : Value → Shared → Prop} {g₁ : G} {φ₁ : List Addr} {mem₁ : List MO} {h₁ : Heap} {tk₁ : Nat} (P : PostE c pe g φ ρ mem s v mem' Q) (T : TrE pe g φ mem s.heap g₁ φ₁ mem₁ h₁) (R : Rel c pe g₁ φ₁ ρ mem₁ h₁) :
    PostE c pe g₁ φ₁ ρ mem₁ { s with heap := h₁, toks := tk₁ } v mem' Q :=
  fun g' φ' h' tk wv T' R' r => P g' φ' h' tk wv (T.trans R T') R' r
theorem PostM.behind {Q : Value → Shared → Prop} {g₁ : G} {φ₁ : List Addr} {mem₁ : List MO} {h₁ : Heap} {tk₁ : Nat} (P : PostM c g φ mem s v mem' Q) (T : Tr c g φ mem s.heap g₁ φ₁ mem₁ h₁) :
    PostM c g₁ φ₁ mem₁ { s with heap := h₁, toks := tk₁ } v mem' Q :=
  fun g' φ' h' tk wv T' r => P g' φ' h' tk wv (T.trans T') r
theorem PostM.same {Q : Value → Shared → Prop} (P : PostM c g φ mem s v mem Q) (R : MRel c g φ mem s.heap) (tk : Nat) {wv : Value} (r : VRel g φ wv v) : Q wv { s with toks := tk } := P g φ s.heap tk wv (.refl R) r
theorem PostM.same' {Q : Value → Shared → Prop} (P : PostM c g φ mem s v mem Q) (R : MRel c g φ mem s.heap) {wv : Value} (r : VRel g φ wv v) : Q wv s := P g φ s.heap s.toks wv (.refl R) r
theorem PostS.behind {Q : Flow → Shared → Prop} {fl : Fl} {ρ' : Rho} {g₁ : G} {φ₁ : List Addr} {mem₁ : List MO} {h₁ : Heap} {tk₁ : Nat} {ρ₁ : Rho} (P : PostS c pe g φ mem s fl ρ' mem' Q) (T : TrE pe g φ mem s.heap g₁ φ₁ mem₁ h₁) (R : Rel c pe g₁ φ₁ ρ₁ mem₁ h₁) :
    PostS c pe g₁ φ₁ mem₁ { s with heap := h₁, toks := tk₁ } fl ρ' mem' Q :=
  fun g' φ' h' tk wv T' R' r => P g' φ' h' tk wv (T.trans R T') R' r

theorem EvOK.mono {e : Expr} {f f' : EF} (h : EvOK c n pe e f) (hf : ∀ ρ m r, f' ρ m = some r → f ρ m = some r) : EvOK c n pe e f' := fun ρ mem v mem' x => h ρ mem v mem' (hf _ _ _ x)
theorem EvOK.up {e : Expr} {f : EF} {m : Nat} (h : EvOK c n pe e f) (l : n ≤ m) : EvOK c m pe e f := fun ρ mem v mem' x A g φ s Q a => h ρ mem v mem' x A g φ s Q (a.le l)
theorem CallOK.up {fv : Value} {f : CF} {m : Nat} (h : CallOK c n fv f) (l : n ≤ m) : CallOK c m fv f := fun ρ mem v mem' x A g φ s Q a P => h ρ mem v mem' x A g φ s Q a (P.le l)
theorem ExOK.bot {ss : List Stmt} : ExOK c n pe ss fun _ _ => none := fun _ _ _ _ _ x => by cases x
theorem EvOK.bot {e : Expr} : EvOK c n pe e fun _ _ => none := fun _ _ _ _ x => by cases x
theorem TeOK.bot {e : Expr} : TeOK c n pe e fun _ _ => none := fun _ _ _ _ x => by cases x

/-! ## Statements in a row -/
noncomputable def nilX : SF := fun ρ m => some (.next, ρ, m)
noncomputable def seqX (a b : SF) : SF := fun ρ m => (a ρ m).bind fun r => match r.1 with | .next => b r.2.1 r.2.2 | _ => some r
theorem ExOK.nil : ExOK c n pe [] nilX := fun ρ mem fl ρ' mem' x A g φ s Q _ R P => by
  exact wpAny_execs_nil (P.of x g φ s.heap s.toks _ .refl R .next)
theorem ExOK.cons {st : Stmt} {ss : List Stmt} {a b : SF} (h1 : StOK c n pe st a) (h2 : ExOK c n pe ss b) : ExOK c n pe (st :: ss) (seqX a b) := fun ρ mem fl ρ' mem' x A g φ s Q hA R P => by
  unfold seqX at x
  refine bindE3 x fun fl₁ ρ₁ mem₁ e1 e2 => ?_
  refine wpAny_execs_cons (h1 ρ mem fl₁ ρ₁ mem₁ e1 A g φ s _ hA R fun g' φ' h' tk wf T R' r => ?_)
  cases r with
  | next => exact h2 ρ₁ mem₁ fl ρ' mem' e2 A g' φ' _ Q hA R' (P.behind T R')
  | brk => exact P.of e2 g' φ' h' tk _ T R' .brk
  | ret r => exact P.of e2 g' φ' h' tk _ T R' (.ret r)

/-! ## Names -/
noncomputable def nameX (x : Str) : EF := fun ρ m => (ρ x).bind fun v => some (v, m)
noncomputable def constX (v : V) : EF := fun _ m => some (v, m)
theorem loadLocal {x : Str} {pos : Pos} (hk : pe.env.kindOf x = some .local) (hd : (x == ("__debug__" : Str)) = false) : EvOK c n pe (.Name x pos) (nameX x) := fun ρ mem v mem' e A g φ s Q hA R P => by
  refine bindE e fun u e1 e2 => R.e.loc.elim fun m hm => (hm.2 x _ hk e1).elim fun w hw => ?_
  exact wpAny_Name (wpAny_loadName_local R.ok.fn hk hm.1 hw.1 (P.of e2 g φ s.heap s.toks w .refl R hw.2)) hd
theorem loadCell {x : Str} {pos : Pos} (hk : pe.env.kindOf x = some .cell) (hd : (x == ("__debug__" : Str)) = false) : EvOK c n pe (.Name x pos) (nameX x) := fun ρ mem v mem' e A g φ s Q hA R P => by
  refine bindE e fun u e1 e2 => ?_
  obtain ⟨a, w, ha, hw, r⟩ := R.e.cel x _ (.inl hk) e1
  exact wpAny_Name (wpAny_loadName_cell R.ok.fn hk ha hw (P.of e2 g φ s.heap s.toks w .refl R r)) hd
theorem loadFree {x : Str} {pos : Pos} (hk : pe.env.kindOf x = some .free) (hd : (x == ("__debug__" : Str)) = false) (hc : (x == ("__classdict__" : Str)) = false) : EvOK c n pe (.Name x pos) (nameX x) := fun ρ mem v mem' e A g φ s Q hA R P => by
  refine bindE e fun u e1 e2 => ?_
  obtain ⟨a, w, ha, hw, r⟩ := R.e.cel x _ (.inr hk) e1
  exact wpAny_Name (wpAny_loadName_free R.ok.fn hk ha hw (P.of e2 g φ s.heap s.toks w .refl R r) hc) hd
theorem Rel.glob (ok : c.Ok) (R : Rel c pe g φ ρ mem s.heap) : s.heap.Ns pe.env.globals c.mg := by
  rw [R.ok.gl]; exact ok.T.g.keeps fun a o e => R.m.keep a o (R.m.top a o e)
theorem Rel.blt (ok : c.Ok) (R : Rel c pe g φ ρ mem s.heap) : s.heap.Ns pe.env.builtins c.mb := by
  rw [R.ok.bl]; exact ok.T.b.keeps fun a o e => R.m.keep a o (R.m.top a o e)
theorem MRel.big (ok : c.Ok) {h : Heap} (R : MRel c g φ mem h) : 3 < h.objs.size := by
  obtain ⟨o, _, _, e, _⟩ := ok.T.g
  exact Heap.lt_size (R.keep _ _ (R.top _ _ e))
theorem MRel.K (ok : c.Ok) {h : Heap} (R : MRel c g φ mem h) : c.K.In h := fun a o e => R.keep a o (R.top a o (ok.K a o e))
theorem loadGlobal' {x : Str} {pos : Pos} {w : Value} (ok : c.Ok) (hk : pe.env.kindOf x = some .globalImplicit) (hd : (x == ("__debug__" : Str)) = false) (hv : nsIn c.K mainGlobals x = some (some w)) : EvOK c n pe (.Name x pos) (constX (.raw w)) := fun ρ mem v mem' e A g φ s Q hA R P => by
  cases e
  exact Name_function_global R.ok.fn hk (loadGlobal_global (R.glob ok) (mg_of ok.K ok.T.g hv) (P g φ s.heap s.toks w .refl R (.raw w))) hd
theorem loadBuiltin {x : Str} {pos : Pos} {w : Value} (ok : c.Ok) (hk : pe.env.kindOf x = some .globalImplicit) (hd : (x == ("__debug__" : Str)) = false) (hm : nsIn c.K mainGlobals x = some none) (hv : bootBuiltins x = some w) (hn : x ≠ "__name__") :
    EvOK c n pe (.Name x pos) (constX (.raw w)) := fun ρ mem v mem' e A g φ s Q hA R P => by
  cases e
  exact Name_function_global R.ok.fn hk (loadGlobal_builtin (R.glob ok) (mg_none_of ok.K ok.T.g hm) (R.blt ok) ((ok.T.builtins x hn).trans hv) (P g φ s.heap s.toks w .refl R (.raw w))) hd
end
end Mine
-- StX
namespace Mine

/-! ## Targets -/
abbrev PostA (c : Cx) (pe : PE) (g : G) (φ : List Addr) (mem : List MO) (s : Shared) (ρ' : Rho) (mem' : List MO) (Q : Unit → Shared → Prop) : Prop :=
  ∀ g' φ' h' tk, TrE pe g φ mem s.heap g' φ' mem' h' → Rel c pe g' φ' ρ' mem' h' → Q () { s with heap := h', toks := tk }
theorem PostA.of {c : Cx} {pe : PE} {g : G} {φ : List Addr} {mem mem' m₁ : List MO} {s : Shared} {ρ' ρ₁ : Rho} {Q : Unit → Shared → Prop} (P : PostA c pe g φ mem s ρ' mem' Q) (e : some (ρ₁, m₁) = some (ρ', mem')) : PostA c pe g φ mem s ρ₁ m₁ Q := by cases e; exact P
abbrev AF := V → Rho → List MO → Option (Rho × List MO)
noncomputable def AsgOK (c : Cx) (n : Nat) (pe : PE) (t : Expr) (f : AF) : Prop :=
  ∀ v ρ mem ρ' mem', f v ρ mem = some (ρ', mem') → ∀ (A : Around) (g : G) (φ : List Addr) (s : Shared) (Q : Unit → Shared → Prop) (wv : Value), AOk n A → Rel c pe g φ ρ mem s.heap → VRel g φ wv v →
    PostA c pe g φ mem s ρ' mem' Q → wpAny (model c.prog c.w) A (assign t pe.env wv) Q Fls s
section
variable {c : Cx} {n : Nat} {pe : PE} {g g' : G} {φ φ' : List Addr} {ρ ρ' : Rho} {mem mem' : List MO} {s : Shared} {v : V} {h h' : Heap}

theorem Rel.extend (R : Rel c pe g φ ρ mem h) (k : ∀ a o, h.get? a = some o → h'.get? a = some o) : TrE pe g φ mem h g φ mem h' ∧ Rel c pe g φ ρ mem h' := (Tr.ext R.m k).lift R

noncomputable def nameSt (x : Str) : AF := fun v ρ m => some (upd ρ x v, m)
theorem ns_same {h : Heap} {a : Addr} {m m₂ : Str → Option Value} (q : h.Ns a m₂) (p : h.Ns a m) : m = m₂ := by
  obtain ⟨o, es, ep, e, d, k, hf⟩ := q
  obtain ⟨o2, es2, ep2, e2, d2, k2, hf2⟩ := p
  rw [e] at e2; cases e2
  rw [d] at d2; cases d2
  exact funext fun y => (hf2 y).symm.trans (hf y)
theorem storeLocal {x : Str} {A : Around} {wv : Value} {Q : Unit → Shared → Prop} (hk : pe.env.kindOf x = some .local) (R : Rel c pe g φ ρ mem s.heap) (r : VRel g φ wv v)
    (P : ∀ h' tk, TrE pe g φ mem s.heap g φ mem h' → Rel c pe g φ (upd ρ x v) mem h' → Q () { s with heap := h', toks := tk }) : wpAny (model c.prog c.w) A (storeName pe.env x wv) Q Fls s := by
  refine R.e.loc.elim fun m hm => ?_
  refine wpAny_storeName_local hk hm.1 (fun h' hn' hs' => ?_) (by rw [R.ok.fn]; rfl)
  have Z := R.setLocal (h' := h') hk r (fun m₂ q => ns_same q hm.1 ▸ hn') hs'
  exact P h' _ Z.1 Z.2
theorem storeCell {x : Str} {a : Addr} {A : Around} {wv : Value} {Q : Unit → Shared → Prop} (hk : pe.env.kindOf x = some .cell) (hx : pe.env.cells.lookup x = some a) (hoc : a ∈ pe.oc) (R : Rel c pe g φ ρ mem s.heap) (r : VRel g φ wv v)
    (P : ∀ h' tk, TrE pe g φ mem s.heap g φ mem h' → Rel c pe g φ (upd ρ x v) mem h' → Q () { s with heap := h', toks := tk }) : wpAny (model c.prog c.w) A (storeName pe.env x wv) Q Fls s := by
  obtain ⟨⟨v₀, hc⟩, _⟩ := R.e.oc a hoc
  refine wpAny_storeName_cell R.ok.fn hk hx hc fun h' hc' hs' => ?_
  have Z := R.setCell (h' := h') hk hx hoc r hc' hs'
  exact P h' s.toks Z.1 Z.2
theorem AsgOK.local {x : Str} {pos : Pos} (hk : pe.env.kindOf x = some .local) : AsgOK c n pe (.Name x pos) (nameSt x) := fun v ρ mem ρ' mem' e A g φ s Q wv hA R r P => by
  exact wpAny_assign_Name (storeLocal hk R r fun h' tk T R' => P.of e g φ h' tk T R')
theorem AsgOK.cell {x : Str} {pos : Pos} {a : Addr} (hk : pe.env.kindOf x = some .cell) (hx : pe.env.cells.lookup x = some a) (hoc : a ∈ pe.oc) : AsgOK c n pe (.Name x pos) (nameSt x) := fun v ρ mem ρ' mem' e A g φ s Q wv hA R r P => by
  exact wpAny_assign_Name (storeCell hk hx hoc R r fun h' tk T R' => P.of e g φ h' tk T R')

/-- targets in a row -/
noncomputable def AsgsOK (c : Cx) (n : Nat) (pe : PE) (ts : List (Value → Sem Unit)) (f : List V → Rho → List MO → Option (Rho × List MO)) : Prop :=
  ∀ vs ρ mem ρ' mem', f vs ρ mem = some (ρ', mem') → ∀ (A : Around) (g : G) (φ : List Addr) (s : Shared) (Q : Unit → Shared → Prop) (ws : List Value), AOk n A → Rel c pe g φ ρ mem s.heap → VRels g φ ws vs →
    PostA c pe g φ mem s ρ' mem' Q → wpAny (model c.prog c.w) A (assignInOrder ts ws) Q Fls s
noncomputable def asgNil : List V → Rho → List MO → Option (Rho × List MO) := fun vs ρ m => match vs with | [] => some (ρ, m) | _ => none
noncomputable def asgCons (a : AF) (b : List V → Rho → List MO → Option (Rho × List MO)) : List V → Rho → List MO → Option (Rho × List MO) := fun vs ρ m => match vs with | [] => none | v :: vs => (a v ρ m).bind fun r => b vs r.1 r.2
theorem AsgsOK.nil : AsgsOK c n pe [] asgNil := fun vs ρ mem ρ' mem' e A g φ s Q ws hA R r P => by
  cases r with
  | cons _ _ => cases e
  | nil => exact wpAny_pure (P.of e g φ s.heap s.toks .refl R)
theorem AsgsOK.cons {t : Expr} {ts : List (Value → Sem Unit)} {a : AF} {b} (h1 : AsgOK c n pe t a) (h2 : AsgsOK c n pe ts b) : AsgsOK c n pe (assign t pe.env :: ts) (asgCons a b) := fun vs ρ mem ρ' mem' e A g φ s Q ws hA R r P => by
  cases r with
  | nil => cases e
  | @cons w ws v vs r rs =>
    refine bindE2 e fun ρ₁ mem₁ e1 e2 => ?_
    show wpAny _ A (do holding ws (assign t pe.env w); assignInOrder ts ws) Q Fls s
    refine wpAny_bind (wpAny_holding (h1 v ρ mem ρ₁ mem₁ e1 A g φ s _ w hA R r fun g' φ' h' tk T R' => ?_))
    exact h2 vs ρ₁ mem₁ ρ' mem' e2 A g' φ' _ Q ws hA R' (T.vrels rs) fun g2 φ2 h2 tk2 T2 R2 => P g2 φ2 h2 tk2 (T.trans R' T2) R2
noncomputable def tupSt (b : List V → Rho → List MO → Option (Rho × List MO)) (k : Nat) : AF := fun v ρ m => v.onTup fun l => if l.length = k then b l ρ m else none
theorem SeqObj.tup {a : Addr} {o : Obj} {vs : List Value} {h : Heap} (e : h.get? a = some o) (x : SeqObj "tuple" o vs) : h.IsTuple a vs.toArray := ⟨o, e, x.1, x.2⟩
theorem SeqObj.list {a : Addr} {o : Obj} {vs : List Value} {h : Heap} (e : h.get? a = some o) (x : SeqObj "list" o vs) : h.IsList a vs.toArray := ⟨o, e, x.1, x.2⟩
theorem unpackTup {t : Addr} {vs : List Value} {A : Around} {k : Nat} {Q : List Value → Shared → Prop} (hh : A.handled = none) (ht : s.heap.IsTuple t vs.toArray) (hk : vs.length = k)
    (hQ : ∀ h', (∀ a o, s.heap.get? a = some o → h'.get? a = some o) → Q vs { s with heap := h' }) : wpAny (model c.prog c.w) A (unpackItems (.ref t) k none) Q Fls s := by
  have := wpAny_unpackItems_tuple (prog := c.prog) (w := c.w) (E := Fls) (Q := Q) hh ht fun h' he => ?_
  · rwa [show vs.toArray.size = k by simpa using hk] at this
  · exact hQ h' fun a o e => he a o (Nat.ne_of_lt (Heap.lt_size e)) e
theorem AsgOK.tup {elts : List Expr} {kk : Nat} {pos : Pos} {b} {k : Nat} (hb : AsgsOK c n pe ((assignEach elts pe.env).map (·.2)) b) (hk : (assignEach elts pe.env).length = k) (hst : (assignEach elts pe.env).findIdx? (·.1) = none) :
    AsgOK c n pe (.Tuple elts kk pos) (tupSt b k) := fun v ρ mem ρ' mem' e A g φ s Q wv hA R r P => by
  refine VRel.onTupE r e fun a o vs l hg ho hvs e => ifE e fun hl e => ?_
  show wpAny _ A (do standAt pos; unpack (.ref _) (assignEach elts pe.env)) Q Fls s
  refine wpAny_bind (wpAny_standAt ?_)
  unfold unpack
  rw [hst, hk]
  refine wpAny_bind (wpAny_holding (unpackTup hA.1 (ho.tup (R.m.keep _ _ hg)) (hvs.length.trans hl) fun h' hk' => ?_))
  have E := R.extend hk'
  exact hb _ ρ mem ρ' mem' e A g φ _ Q _ hA E.2 hvs fun g2 φ2 h2 tk2 T2 R2 => P g2 φ2 h2 tk2 (E.1.trans E.2 T2) R2

/-! ## Assignment -/
noncomputable def assignX (f : EF) (a : AF) : SF := fun ρ m => (f ρ m).bind fun r => (a r.1 ρ r.2).bind fun q => some (.next, q.1, q.2)
theorem StOK.assign {t value : Expr} {pos : Pos} {f : EF} {a : AF} (he : EvOK c n pe value f) (ht : AsgOK c n pe t a) (hs : swapsWithSole [t] value pos.line pe.env = pure false) (hw : swappedStores [t] value pe.env = pure none)
    (h1 : ((assignEach [t] pe.env).map (·.2)) = [assign t pe.env]) : StOK c n pe (.Assign [t] value pos) (assignX f a) := fun ρ mem fl ρ' mem' e A g φ s Q hA R P => by
  refine bindE2 e fun v mem₁ e1 e2 => ?_
  refine bindE2 e2 fun ρ₂ mem₂ e3 e4 => ?_
  rw [exec_Assign]
  refine wpAny_bind (wpAny_standAt ?_)
  rw [hs]
  refine wpAny_bind (wpAny_pure ?_)
  rw [if_neg (by decide)]
  refine wpAny_bind (he ρ mem v mem₁ e1 A g φ s _ hA R fun g' φ' h' tk wv T R' r => ?_)
  rw [hw]
  refine wpAny_bind (wpAny_pure ?_)
  rw [h1]
  show wpAny _ A (do assignAll wv [PySem.assign t pe.env]; pure .next) Q Fls _
  refine wpAny_bind (ht v ρ mem₁ _ _ e3 A g' φ' _ _ wv hA R' r fun g2 φ2 h2 tk2 T2 R2 => wpAny_pure (P.of e4 g2 φ2 h2 tk2 _ (T.trans R' T2) R2 .next))

noncomputable def bindX : List Str → List V → Rho → Option Rho
  | [], [], ρ => some ρ
  | x :: xs, v :: vs, ρ => bindX xs vs (upd ρ x v)
  | _, _, _ => none
theorem bindAll : ∀ (xs : List Str) (vs : List V) (ws : List Value) (ρ ρ' : Rho) (A : Around) (g : G) (φ : List Addr) (s : Shared) (Q : Unit → Shared → Prop), (∀ x ∈ xs, pe.env.kindOf x = some .local) → bindX xs vs ρ = some ρ' → VRels g φ ws vs →
    Rel c pe g φ ρ mem s.heap → (∀ h' tk, TrE pe g φ mem s.heap g φ mem h' → Rel c pe g φ ρ' mem h' → Q () { s with heap := h', toks := tk }) →
    wpAny (model c.prog c.w) A (assignInOrder (xs.map fun n => bindName pe.env n) ws) Q Fls s
  | [], [], ws, ρ, ρ', A, g, φ, s, Q, _, e, r, R, P => by
    cases e; cases r
    exact wpAny_pure (P s.heap s.toks .refl R)
  | x :: xs, v :: vs, _, ρ, ρ', A, g, φ, s, Q, hx, e, .cons (w := w) (ws := ws) r rs, R, P => by
    show wpAny _ A (do holding ws (bindName pe.env x w); assignInOrder (xs.map fun n => bindName pe.env n) ws) Q Fls s
    refine wpAny_bind (wpAny_holding (wpAny_bindName (storeLocal (hx x (.head _)) R r fun h' tk T R' => ?_)))
    exact bindAll xs vs ws _ ρ' A g φ _ Q (fun y hy => hx y (.tail _ hy)) e rs R' fun h2 tk2 T2 R2 => P h2 tk2 (T.trans R' T2) R2
  | [], _ :: _, _, _, _, _, _, _, _, _, _, e, _, _, _ => by cases e
  | _ :: _, [], _, _, _, _, _, _, _, _, _, e, _, _, _ => by cases e
noncomputable def swapX (f : EF) (names : List Str) : SF := fun ρ m => (f ρ m).bind fun r => r.1.onTup fun l => if l.length = names.length then (bindX names.reverse l.reverse ρ).bind fun ρ' => some (.next, ρ', r.2) else none
theorem StOK.swap {elts : List Expr} {k : Nat} {tpos pos : Pos} {value : Expr} {f : EF} {names : List Str} (he : EvOK c n pe value f) (hs : swapsWithSole [.Tuple elts k tpos] value pos.line pe.env = pure false)
    (hw : swappedStores [.Tuple elts k tpos] value pe.env = pure (some names)) (hn : ∀ x ∈ names, pe.env.kindOf x = some .local) : StOK c n pe (.Assign [.Tuple elts k tpos] value pos) (swapX f names) := fun ρ mem fl ρ' mem' e A g φ s Q hA R P => by
  refine bindE2 e fun v mem₁ e1 e2 => ?_
  refine Assign_Tuple_swapped ?_ hs hw
  refine he ρ mem v mem₁ e1 A g φ s _ hA R fun g' φ' h' tk wv T R' r => ?_
  refine VRel.onTupE r e2 fun a o vs l hg ho hvs e2 => ifE e2 fun hl e2 => bindE e2 fun ρ₂ e3 e4 => ?_
  refine unpackTup hA.1 (ho.tup (R'.m.keep _ _ hg)) (hvs.length.trans hl) fun h2 hk2 => ?_
  have E := R'.extend hk2
  exact bindAll _ _ _ ρ _ A g' φ' _ _ (fun x hx => hn x (List.mem_reverse.mp hx)) e3 hvs.reverse E.2 fun h3 tk3 T3 R3 => P.of e4 g' φ' h3 tk3 _ (T.trans R' (E.1.trans E.2 T3)) R3 .next

/-! ## if, return, expression, break, while -/
noncomputable def ifX (t : TF) (a b : SF) : SF := fun ρ m => (t ρ m).bind fun r => if r.1 = true then a ρ r.2 else b ρ r.2
theorem StOK.ite {test : Expr} {body orelse : List Stmt} {pos : Pos} {t : TF} {a b : SF} (ht : TeOK c n pe test t) (ha : ExOK c n pe body a) (hb : ExOK c n pe orelse b) : StOK c n pe (.If test body orelse pos) (ifX t a b) :=
  fun ρ mem fl ρ' mem' e A g φ s Q hA R P => by
    refine bindE2 e fun v mem₁ e1 e2 => ?_
    refine wpAny_If (ht ρ mem v mem₁ e1 A g φ s _ hA R fun g' φ' h' tk T R' => ?_)
    cases v with
    | true => exact ha ρ mem₁ fl ρ' mem' e2 A g' φ' _ Q hA R' (P.behind T R')
    | false => exact hb ρ mem₁ fl ρ' mem' e2 A g' φ' _ Q hA R' (P.behind T R')
noncomputable def retX (f : EF) : SF := fun ρ m => (f ρ m).bind fun r => some (.ret r.1, ρ, r.2)
theorem StOK.ret {e : Expr} {pos : Pos} {f : EF} (he : EvOK c n pe e f) : StOK c n pe (.Return (some e) pos) (retX f) := fun ρ mem fl ρ' mem' x A g φ s Q hA R P => by
  refine bindE2 x fun v mem₁ e1 e2 => ?_
  exact wpAny_Return_some (he ρ mem v _ e1 A g φ s _ hA R fun g' φ' h' tk wv T R' r => P.of e2 g' φ' h' tk _ T R' (.ret r))
noncomputable def retN : SF := fun ρ m => some (.ret .none, ρ, m)
theorem StOK.retNone {pos : Pos} : StOK c n pe (.Return none pos) retN := fun ρ mem fl ρ' mem' x A g φ s Q hA R P => by
  exact wpAny_Return_none (P.of x g φ s.heap s.toks _ .refl R (.ret .none))
noncomputable def exprX (f : EF) : SF := fun ρ m => (f ρ m).bind fun r => r.1.onNone (some (.next, ρ, r.2))
theorem StOK.expr {e : Expr} {pos : Pos} {f : EF} (he : EvOK c n pe e f) (hi : interactive pe.env = false) (hs : swapsWith e none pos.line pe.env = pure false) : StOK c n pe (.Expr e pos) (exprX f) := fun ρ mem fl ρ' mem' x A g φ s Q hA R P => by
  refine bindE2 x fun v mem₁ e1 e2 => ?_
  refine wpAny_Expr (he ρ mem v mem₁ e1 A g φ s _ hA R fun g' φ' h' tk wv T R' r => ?_) hi hs
  exact VRel.onNoneE r e2 fun e2 => P.of e2 g' φ' h' tk _ T R' .next
noncomputable def brkX : SF := fun ρ m => some (.brk, ρ, m)
theorem StOK.brk {pos : Pos} : StOK c n pe (.Break pos) brkX := fun ρ mem fl ρ' mem' x A g φ s Q hA R P => by
  show wpAny _ A (do standAt pos; pure .brk) Q Fls s
  exact wpAny_bind (wpAny_standAt (wpAny_pure (P.of x g φ s.heap s.toks _ .refl R .brk)))

noncomputable def whileX (t : TF) (b : SF) : Nat → SF
  | 0 => fun _ _ => none
  | k + 1 => fun ρ m => (t ρ m).bind fun r => if r.1 = true then (b ρ r.2).bind fun q => match q.1 with | .next => whileX t b k q.2.1 q.2.2 | .brk => some (.next, q.2) | .ret v => some (.ret v, q.2) else some (.next, ρ, r.2)
theorem fls_noted {M : Model} {A : Around} {E : Value → Shared → Prop} {α : Type} {t : Sem α} {Q : α → Shared → Prop} (h : wpAny M A t Q Fls s) : wpAny M A t Q E s := wpAny_mono h (fun _ _ x => x) fun _ _ x => x.elim
theorem StOK.whl {test : Expr} {body : List Stmt} {pos : Pos} {t : TF} {b : SF} (ht : TeOK c n pe test t) (hb : ExOK c n pe body b) (k : Nat) : StOK c n pe (.While test body [] pos) (whileX t b k) := fun ρ mem fl ρ' mem' x A g φ s Q hA R P => by
  refine wpAny_While ?_
  refine codeAny_whileLoop (fun i s₁ => ∃ ρ₁ mem₁ g₁ φ₁ h₁ tk₁, s₁ = { s with heap := h₁, toks := tk₁ } ∧ TrE pe g φ mem s.heap g₁ φ₁ mem₁ h₁ ∧ Rel c pe g₁ φ₁ ρ₁ mem₁ h₁ ∧ whileX t b i ρ₁ mem₁ = some (fl, ρ', mem')) ?_ k
    ⟨ρ, mem, g, φ, s.heap, s.toks, rfl, .refl, R, x⟩
  refine fun i s₁ h => h.elim fun ρ₁ h => h.elim fun mem₁ h => h.elim fun g₁ h => h.elim fun φ₁ h => h.elim fun h₁ h => h.elim fun tk₁ h => h.1 ▸ ?_
  have T₁ := h.2.1
  have R₁ := h.2.2.1
  have x₁ := h.2.2.2
  clear h
  cases i with
  | zero => cases x₁
  | succ i =>
    refine bindE2 x₁ fun bv mem₂ e1 e2 => ?_
    refine fls_noted (ht ρ₁ mem₁ bv mem₂ e1 A g₁ φ₁ _ _ hA R₁ fun g₂ φ₂ h₂ tk₂ T₂ R₂ => ?_)
    have T₂' := T₁.trans R₁ T₂
    cases bv with
    | true =>
      refine bindE3 e2 fun fl₃ ρ₃ mem₃ e3 e4 => ?_
      refine fls_noted (hb ρ₁ mem₂ fl₃ ρ₃ mem₃ e3 A g₂ φ₂ _ _ hA R₂ fun g₃ φ₃ h₃ tk₃ wf T₃ R₃ r => ?_)
      have T₃' := T₂'.trans R₂ T₃
      cases r with
      | next => exact ⟨i, Nat.lt_succ_self i, ρ₃, mem₃, g₃, φ₃, h₃, tk₃, rfl, T₃', R₃, e4⟩
      | brk => exact P.of e4 g₃ φ₃ h₃ tk₃ _ T₃' R₃ .next
      | ret r => exact P.of e4 g₃ φ₃ h₃ tk₃ _ T₃' R₃ (.ret r)
    | false =>
      exact wpAny_execs_nil (P.of e2 g₂ φ₂ h₂ tk₂ _ T₂' R₂ .next)

/-! ## Tests -/
noncomputable def boolT (f : EF) : TF := fun ρ m => (f ρ m).bind fun r => r.1.onBool fun b => some (b, r.2)
theorem TeOK.ofEv {e : Expr} {f : EF} (he : EvOK c n pe e f) (h : ∀ whole, isTrue e pe.env whole = (do let v ← whole; standAt e.pos; holding [v] (truthy v))) : TeOK c n pe e (boolT f) := fun ρ mem b mem' x A g φ s Q hA R P => by
  refine bindE2 x fun v mem₁ e1 e2 => ?_
  rw [h]
  refine wpAny_bind (he ρ mem v mem₁ e1 A g φ s _ hA R fun g' φ' h' tk wv T R' r => ?_)
  exact VRel.onBoolE r e2 fun b e2 => wpAny_bind (wpAny_standAt (wpAny_holding (wpAny_truthy_bool (P.of e2 g' φ' h' tk T R'))))
noncomputable def notT (t : TF) : TF := fun ρ m => (t ρ m).bind fun r => some (!r.1, r.2)
theorem TeOK.not {e : Expr} {pos : Pos} {t : TF} (ht : TeOK c n pe e t) : TeOK c n pe (.UnaryOp .Not e pos) (notT t) := fun ρ mem b mem' x A g φ s Q hA R P => by
  refine bindE2 x fun v mem₁ e1 e2 => ?_
  show wpAny _ A (do return !(← isTrue e pe.env (eval e pe.env))) Q Fls s
  exact wpAny_bind (ht ρ mem v _ e1 A g φ s _ hA R fun g' φ' h' tk T R' => wpAny_pure (P.of e2 g' φ' h' tk T R'))
noncomputable def andT (a b : TF) : TF := fun ρ m => (a ρ m).bind fun r => if r.1 = true then b ρ r.2 else some (false, r.2)
noncomputable def orT (a b : TF) : TF := fun ρ m => (a ρ m).bind fun r => if r.1 = true then some (true, r.2) else b ρ r.2
theorem TeOK.and {x y : Expr} {pos : Pos} {a b : TF} (ha : TeOK c n pe x a) (hb : TeOK c n pe y b) : TeOK c n pe (.BoolOp .And [x, y] pos) (andT a b) := fun ρ mem bv mem' z A g φ s Q hA R P => by
  refine bindE2 z fun v mem₁ e1 e2 => ?_
  show wpAny _ A (do match BoolOp.And, ← isTrue x pe.env (eval x pe.env) with | .And, false => pure false | .Or, true => pure true | _, _ => allTrue .And [y] pe.env) Q Fls s
  refine wpAny_bind (ha ρ mem v mem₁ e1 A g φ s _ hA R fun g' φ' h' tk T R' => ?_)
  cases v with
  | false => exact wpAny_pure (P.of e2 g' φ' h' tk T R')
  | true =>
    show wpAny _ A (do match BoolOp.And, ← isTrue y pe.env (eval y pe.env) with | .And, false => pure false | .Or, true => pure true | _, _ => allTrue .And [] pe.env) Q Fls _
    refine wpAny_bind (hb ρ mem₁ bv mem' e2 A g' φ' _ _ hA R' fun g2 φ2 h2 tk2 T2 R2 => ?_)
    cases bv <;> exact wpAny_pure (P g2 φ2 h2 tk2 (T.trans R' T2) R2)
theorem TeOK.or {x y : Expr} {pos : Pos} {a b : TF} (ha : TeOK c n pe x a) (hb : TeOK c n pe y b) : TeOK c n pe (.BoolOp .Or [x, y] pos) (orT a b) := fun ρ mem bv mem' z A g φ s Q hA R P => by
  refine bindE2 z fun v mem₁ e1 e2 => ?_
  show wpAny _ A (do match BoolOp.Or, ← isTrue x pe.env (eval x pe.env) with | .And, false => pure false | .Or, true => pure true | _, _ => allTrue .Or [y] pe.env) Q Fls s
  refine wpAny_bind (ha ρ mem v mem₁ e1 A g φ s _ hA R fun g' φ' h' tk T R' => ?_)
  cases v with
  | true => exact wpAny_pure (P.of e2 g' φ' h' tk T R')
  | false =>
    show wpAny _ A (do match BoolOp.Or, ← isTrue y pe.env (eval y pe.env) with | .And, false => pure false | .Or, true => pure true | _, _ => allTrue .Or [] pe.env) Q Fls _
    refine wpAny_bind (hb ρ mem₁ bv mem' e2 A g' φ' _ _ hA R' fun g2 φ2 h2 tk2 T2 R2 => ?_)
    cases bv <;> exact wpAny_pure (P g2 φ2 h2 tk2 (T.trans R' T2) R2)

/-! ## Operations on two values -/
noncomputable def Op2OK (c : Cx) (n : Nat) (t : Value → Value → Sem Value) (op : V → V → List MO → Option V) : Prop :=
  ∀ x y mem v, op x y mem = some v → ∀ (A : Around) (g : G) (φ : List Addr) (s : Shared) (Q : Value → Shared → Prop) (wx wy : Value), AOk n A → MRel c g φ mem s.heap → VRel g φ wx x → VRel g φ wy y →
    PostM c g φ mem s v mem Q → wpAny (model c.prog c.w) A (t wx wy) Q Fls s
noncomputable def binX (a b : EF) (op : V → V → List MO → Option V) : EF := fun ρ m => (a ρ m).bind fun r => (b ρ r.2).bind fun q => (op r.1 q.1 q.2).bind fun v => some (v, q.2)
theorem EvOK.bin {l r : Expr} {o : Operator} {pos : Pos} {a b : EF} {op} (ha : EvOK c n pe l a) (hb : EvOK c n pe r b) (ho : Op2OK c n (binaryOp o) op) : EvOK c n pe (.BinOp l o r pos) (binX a b op) := fun ρ mem v mem' x A g φ s Q hA R P => by
  refine bindE2 x fun v₁ mem₁ e1 e2 => ?_
  refine bindE2 e2 fun v₂ mem₂ e3 e4 => ?_
  refine bindE e4 fun v₃ e5 e6 => ?_
  refine wpAny_BinOp (ha ρ mem v₁ mem₁ e1 A g φ s _ hA R fun g1 φ1 h1 tk1 w1 T1 R1 r1 => ?_)
  refine hb ρ mem₁ v₂ _ e3 A g1 φ1 _ _ hA R1 fun g2 φ2 h2 tk2 w2 T2 R2 r2 => ?_
  exact ho v₁ v₂ _ _ e5 A g2 φ2 _ Q w1 w2 hA R2.m (T2.vrel r1) r2 ((((P.of e6).behind T1 R1).behind T2 R2).toM R2)
theorem EvOK.cmp {l r : Expr} {o : CmpOp} {pos : Pos} {a b : EF} {op} (ha : EvOK c n pe l a) (hb : EvOK c n pe r b) (ho : Op2OK c n (compareOp o) op) (hm : behindInMarks o r = false) : EvOK c n pe (.Compare l [o] [r] pos) (binX a b op) := fun ρ mem v mem' x A g φ s Q hA R P => by
  refine bindE2 x fun v₁ mem₁ e1 e2 => ?_
  refine bindE2 e2 fun v₂ mem₂ e3 e4 => ?_
  refine bindE e4 fun v₃ e5 e6 => ?_
  refine wpAny_Compare1 (ha ρ mem v₁ mem₁ e1 A g φ s _ hA R fun g1 φ1 h1 tk1 w1 T1 R1 r1 => ?_) hm
  refine hb ρ mem₁ v₂ _ e3 A g1 φ1 _ _ hA R1 fun g2 φ2 h2 tk2 w2 T2 R2 r2 => ?_
  exact ho v₁ v₂ _ _ e5 A g2 φ2 _ Q w1 w2 hA R2.m (T2.vrel r1) r2 ((((P.of e6).behind T1 R1).behind T2 R2).toM R2)
noncomputable def cmpT (a b : EF) (op : V → V → List MO → Option V) : TF := fun ρ m => (a ρ m).bind fun r => (b ρ r.2).bind fun q => (op r.1 q.1 q.2).bind fun v => v.onBool fun b => some (b, q.2)
theorem TeOK.cmp {l r : Expr} {o : CmpOp} {pos : Pos} {a b : EF} {op} (ha : EvOK c n pe l a) (hb : EvOK c n pe r b) (ho : Op2OK c n (compareOp o) op) (hm : behindInMarks o r = false) : TeOK c n pe (.Compare l [o] [r] pos) (cmpT a b op) := fun ρ mem bv mem' x A g φ s Q hA R P => by
  refine bindE2 x fun v₁ mem₁ e1 e2 => ?_
  refine bindE2 e2 fun v₂ mem₂ e3 e4 => ?_
  refine wpAny_isTrue_Compare1 (ha ρ mem v₁ mem₁ e1 A g φ s _ hA R fun g1 φ1 h1 tk1 w1 T1 R1 r1 => ?_) hm
  refine hb ρ mem₁ v₂ _ e3 A g1 φ1 _ _ hA R1 fun g2 φ2 h2 tk2 w2 T2 R2 r2 => ?_
  refine bindE e4 fun v₃ e5 e6 => ?_
  refine ho v₁ v₂ _ _ e5 A g2 φ2 _ _ w1 w2 hA R2.m (T2.vrel r1) r2 fun g3 φ3 h3 tk3 w3 T3 r3 => ?_
  exact VRel.onBoolE r3 e6 fun b e6 => have E := T3.lift R2; wpAny_truthy_bool (P.of e6 g3 φ3 h3 tk3 (T1.trans R1 (T2.trans R2 E.1)) E.2)

/-! ## and, or, not, if as values -/
noncomputable def orX (a b : EF) : EF := fun ρ m => (a ρ m).bind fun r => r.1.onBool fun t => if t = true then some (.bool true, r.2) else b ρ r.2
noncomputable def andX (a b : EF) : EF := fun ρ m => (a ρ m).bind fun r => r.1.onBool fun t => if t = true then b ρ r.2 else some (.bool false, r.2)
theorem EvOK.or {x y : Expr} {pos : Pos} {a b : EF} (ha : EvOK c n pe x a) (hb : EvOK c n pe y b) : EvOK c n pe (.BoolOp .Or [x, y] pos) (orX a b) := fun ρ mem v mem' z A g φ s Q hA R P => by
  refine bindE2 z fun v₁ mem₁ e1 e2 => ?_
  show wpAny _ A (do let v ← eval x pe.env; standAt pos; let t ← holding [v] (truthy v); match BoolOp.Or, t with | .And, false | .Or, true => pure v | _, _ => eval y pe.env) Q Fls s
  refine wpAny_bind (ha ρ mem v₁ mem₁ e1 A g φ s _ hA R fun g1 φ1 h1 tk1 w1 T1 R1 r1 => wpAny_bind (wpAny_standAt ?_))
  refine VRel.onBoolE r1 e2 fun b₁ e2 => wpAny_bind (wpAny_holding (wpAny_truthy_bool ?_))
  cases b₁ with
  | true => exact wpAny_pure (P.of e2 g1 φ1 h1 tk1 _ T1 R1 (.bool _))
  | false => exact hb ρ mem₁ v mem' e2 A g1 φ1 _ Q hA R1 (P.behind T1 R1)
theorem EvOK.and {x y : Expr} {pos : Pos} {a b : EF} (ha : EvOK c n pe x a) (hb : EvOK c n pe y b) : EvOK c n pe (.BoolOp .And [x, y] pos) (andX a b) := fun ρ mem v mem' z A g φ s Q hA R P => by
  refine bindE2 z fun v₁ mem₁ e1 e2 => ?_
  show wpAny _ A (do let v ← eval x pe.env; standAt pos; let t ← holding [v] (truthy v); match BoolOp.And, t with | .And, false | .Or, true => pure v | _, _ => eval y pe.env) Q Fls s
  refine wpAny_bind (ha ρ mem v₁ mem₁ e1 A g φ s _ hA R fun g1 φ1 h1 tk1 w1 T1 R1 r1 => wpAny_bind (wpAny_standAt ?_))
  refine VRel.onBoolE r1 e2 fun b₁ e2 => wpAny_bind (wpAny_holding (wpAny_truthy_bool ?_))
  cases b₁ with
  | false => exact wpAny_pure (P.of e2 g1 φ1 h1 tk1 _ T1 R1 (.bool _))
  | true => exact hb ρ mem₁ v mem' e2 A g1 φ1 _ Q hA R1 (P.behind T1 R1)
noncomputable def notX (a : EF) : EF := fun ρ m => (a ρ m).bind fun r => r.1.onBool fun b => some (.bool (!b), r.2)
theorem unaryNot {A : Around} {b : Bool} {Q : Value → Shared → Prop} (h : Q (.bool (!b)) s) : wpAny (model c.prog c.w) A (unaryOp .Not (.bool b)) Q Fls s := by
  show wpAny _ A (do return .bool !(← truthy (.bool b))) Q Fls s
  exact wpAny_bind (wpAny_truthy_bool (wpAny_pure h))
theorem EvOK.not {x : Expr} {pos : Pos} {a : EF} (ha : EvOK c n pe x a) : EvOK c n pe (.UnaryOp .Not x pos) (notX a) := fun ρ mem v mem' z A g φ s Q hA R P => by
  refine bindE2 z fun v₁ mem₁ e1 e2 => ?_
  show wpAny _ A (do let v ← eval x pe.env; standAt pos; holding [v] (unaryOp .Not v)) Q Fls s
  refine wpAny_bind (ha ρ mem v₁ mem₁ e1 A g φ s _ hA R fun g1 φ1 h1 tk1 w1 T1 R1 r1 => wpAny_bind (wpAny_standAt (wpAny_holding ?_)))
  exact VRel.onBoolE r1 e2 fun b e2 => unaryNot (P.of e2 g1 φ1 h1 tk1 _ T1 R1 (.bool _))
noncomputable def negX (a : EF) : EF := fun ρ m => (a ρ m).bind fun r => r.1.onInt fun b => some (.int (-b), r.2)
theorem EvOK.neg {x : Expr} {pos : Pos} {a : EF} (ha : EvOK c n pe x a) : EvOK c n pe (.UnaryOp .USub x pos) (negX a) := fun ρ mem v mem' z A g φ s Q hA R P => by
  refine bindE2 z fun v₁ mem₁ e1 e2 => ?_
  show wpAny _ A (do let v ← eval x pe.env; standAt pos; holding [v] (unaryOp .USub v)) Q Fls s
  refine wpAny_bind (ha ρ mem v₁ mem₁ e1 A g φ s _ hA R fun g1 φ1 h1 tk1 w1 T1 R1 r1 => wpAny_bind (wpAny_standAt (wpAny_holding ?_)))
  exact VRel.onIntE r1 e2 fun b t e2 => PySem.P.neg_int (P.of e2 g1 φ1 h1 _ _ T1 R1 (.int _ _))
noncomputable def ifeX (t : TF) (a b : EF) : EF := fun ρ m => (t ρ m).bind fun r => if r.1 = true then a ρ r.2 else b ρ r.2
theorem EvOK.ife {test body orelse : Expr} {pos : Pos} {t : TF} {a b : EF} (ht : TeOK c n pe test t) (ha : EvOK c n pe body a) (hb : EvOK c n pe orelse b) : EvOK c n pe (.IfExp test body orelse pos) (ifeX t a b) := fun ρ mem v mem' x A g φ s Q hA R P => by
  refine bindE2 x fun bv mem₁ e1 e2 => ?_
  show wpAny _ A (do if ← isTrue test pe.env (eval test pe.env) then eval body pe.env else eval orelse pe.env) Q Fls s
  refine wpAny_bind (ht ρ mem bv mem₁ e1 A g φ s _ hA R fun g' φ' h' tk T R' => ?_)
  cases bv with
  | true => exact ha ρ mem₁ v mem' e2 A g' φ' _ Q hA R' (P.behind T R')
  | false => exact hb ρ mem₁ v mem' e2 A g' φ' _ Q hA R' (P.behind T R')

/-! ## Constants, displays -/
theorem EvOK.int {i : Int} {k : Nat} {pos : Pos} : EvOK c n pe (.Constant (.int i) k pos) (constX (.int i)) := fun ρ mem v mem' x A g φ s Q hA R P => by
  exact wpAny_Constant_int (P.of x g φ s.heap _ _ .refl R (.int _ _))
theorem EvOK.str {x : Str} {k : Nat} {pos : Pos} : EvOK c n pe (.Constant (.str x) k pos) (constX (.str x)) := fun ρ mem v mem' z A g φ s Q hA R P => by
  exact Constant_str (P.of z g φ s.heap _ _ .refl R (.str _ _))
theorem EvOK.bool {b : Bool} {k : Nat} {pos : Pos} : EvOK c n pe (.Constant (.bool b) k pos) (constX (.bool b)) := fun ρ mem v mem' x A g φ s Q hA R P => by
  exact wpAny_pure (P.of x g φ s.heap s.toks _ .refl R (.bool _))
theorem EvOK.none {k : Nat} {pos : Pos} : EvOK c n pe (.Constant .none k pos) (constX .none) := fun ρ mem v mem' x A g φ s Q hA R P => by
  exact wpAny_pure (P.of x g φ s.heap s.toks _ .refl R .none)

abbrev LF := Rho → List MO → Option (List V × List MO)
abbrev PostL (c : Cx) (pe : PE) (g : G) (φ : List Addr) (ρ : Rho) (mem : List MO) (s : Shared) (vs : List V) (mem' : List MO) (Q : List Value → Shared → Prop) : Prop :=
  ∀ g' φ' h' tk ws, TrE pe g φ mem s.heap g' φ' mem' h' → Rel c pe g' φ' ρ mem' h' → VRels g' φ' ws vs → Q ws { s with heap := h', toks := tk }
theorem PostL.of {vs vs₁ : List V} {m₁ : List MO} {Q : List Value → Shared → Prop} (P : PostL c pe g φ ρ mem s vs mem' Q) (e : some (vs₁, m₁) = some (vs, mem')) : PostL c pe g φ ρ mem s vs₁ m₁ Q := by cases e; exact P
/-- expressions in a row, as a display or a call asks them -/
noncomputable def EvsOK (c : Cx) (n : Nat) (pe : PE) (pos : Pos) (es : List Expr) (f : LF) : Prop :=
  ∀ ρ mem vs mem', f ρ mem = some (vs, mem') → ∀ (A : Around) (g : G) (φ : List Addr) (s : Shared) (Q : List Value → Shared → Prop), AOk n A → Rel c pe g φ ρ mem s.heap →
    PostL c pe g φ ρ mem s vs mem' Q → wpAny (model c.prog c.w) A (spliced (backTo pos (starEach es pe.env))) Q Fls s
noncomputable def nilL : LF := fun _ m => some ([], m)
noncomputable def consL (a : EF) (b : LF) : LF := fun ρ m => (a ρ m).bind fun r => (b ρ r.2).bind fun q => some (r.1 :: q.1, q.2)
theorem EvsOK.nil {pos : Pos} : EvsOK c n pe pos [] nilL := fun ρ mem vs mem' x A g φ s Q hA R P => by
  exact wpAny_pure (P.of x g φ s.heap s.toks [] .refl R .nil)
theorem EvsOK.cons {pos : Pos} {e : Expr} {es : List Expr} {a : EF} {b : LF} (ha : EvOK c n pe e a) (hb : EvsOK c n pe pos es b) (h : starEach (e :: es) pe.env = (false, eval e pe.env) :: starEach es pe.env) : EvsOK c n pe pos (e :: es) (consL a b) :=
  fun ρ mem vs mem' x A g φ s Q hA R P => by
    refine bindE2 x fun v₁ mem₁ e1 e2 => ?_
    refine bindE2 e2 fun v₂ mem₂ e3 e4 => ?_
    rw [h]
    show wpAny _ A (spliced ((false, eval e pe.env) :: backTo pos (starEach es pe.env))) Q Fls s
    refine spliced_cons (ha ρ mem v₁ mem₁ e1 A g φ s _ hA R fun g1 φ1 h1 tk1 w1 T1 R1 r1 => ?_)
    exact hb ρ mem₁ v₂ _ e3 A g1 φ1 _ _ hA R1 fun g2 φ2 h2 tk2 w2 T2 R2 r2 => P.of e4 g2 φ2 h2 tk2 _ (T1.trans R1 T2) R2 (.cons (T2.vrel r1) r2)

theorem size_mem {h : Heap} (o : Obj) : ∀ a x, h.get? a = some x → (h.push o).get? a = some x := fun _ _ e => Heap.get?_push_of_some _ e
theorem get_size (h : Heap) : h.get? h.objs.size = none := by
  cases q : h.get? h.objs.size with
  | none => rfl
  | some o => exact absurd (Heap.lt_size q) (Nat.lt_irrefl _)
/-- a new frozen sequence -/
theorem PostM.newSeq {ty : String} {ws : List Value} {vs : List V} {Q : Value → Shared → Prop} (R : MRel c g φ mem s.heap) (r : VRels g φ ws vs) (hv : ∀ g' a o, g' a = some o → SeqObj ty o ws → VRels g' φ ws vs → VRel g' φ (.ref a) v)
    (P : PostM c g φ mem s v mem Q) (tk : Nat) : Q (.ref s.heap.objs.size) { s with heap := s.heap.push { cls := .type ty, data := .seq ws.toArray }, toks := tk } := by
  have T := Tr.freezeNew R (h' := s.heap.push { cls := .type ty, data := .seq ws.toArray }) (size_mem _) (get_size _) (Heap.get?_push_size _ rfl)
  exact P _ φ _ tk _ T (hv _ _ _ (gAdd_self _ _ _) ⟨rfl, _, rfl⟩ (T.vrels r))
noncomputable def sizeB : Nat := 100000
theorem sizeB_le {n : Nat} (h : n ≤ sizeB) : n ≤ sizeLine := Nat.le_trans h (by decide +kernel)
noncomputable def tupX (b : LF) : EF := fun ρ m => (b ρ m).bind fun r => if r.1.length ≤ sizeB then some (.tup r.1, r.2) else none
noncomputable def lstX (b : LF) : EF := fun ρ m => (b ρ m).bind fun r => if r.1.length ≤ sizeB then some (.lst r.1, r.2) else none
theorem EvOK.tup {elts : List Expr} {k : Nat} {pos : Pos} {b : LF} (hb : EvsOK c n pe pos elts b) : EvOK c n pe (.Tuple elts k pos) (tupX b) := fun ρ mem v mem' x A g φ s Q hA R P => by
  refine bindE2 x fun vs mem₁ e1 e2 => ?_
  refine ifE e2 fun hz e2 => ?_
  · refine Tuple_ (hb ρ mem vs _ e1 A g φ s _ hA R fun g1 φ1 h1 tk1 ws T1 R1 r1 => ?_)
    exact wpAny_newObj_type (PostM.newSeq R1.m r1 (fun g' a o => .tup) (((P.of e2).behind T1 R1).toM R1) _) (by show ws.toArray.size ≤ sizeLine; rw [List.size_toArray, r1.length]; exact sizeB_le hz)
theorem EvOK.lst {elts : List Expr} {pos : Pos} {b : LF} (hb : EvsOK c n pe pos elts b) : EvOK c n pe (.List elts pos) (lstX b) := fun ρ mem v mem' x A g φ s Q hA R P => by
  refine bindE2 x fun vs mem₁ e1 e2 => ?_
  refine ifE e2 fun hz e2 => ?_
  · refine List_ (hb ρ mem vs _ e1 A g φ s _ hA R fun g1 φ1 h1 tk1 ws T1 R1 r1 => ?_)
    exact wpAny_newObj_type (PostM.newSeq R1.m r1 (fun g' a o => .lst) (((P.of e2).behind T1 R1).toM R1) _) (by show ws.toArray.size ≤ sizeLine; rw [List.size_toArray, r1.length]; exact sizeB_le hz)
/-- an empty list that is to be filled; an empty dict -/
noncomputable def newLstX : EF := fun _ m => some (.ref m.length, m ++ [.lst []])
noncomputable def newDicX : EF := fun _ m => some (.ref m.length, m ++ [.dicI []])
theorem PostM.newOwn (ok : c.Ok) {o : MO} {ob : Obj} {Q : Value → Shared → Prop} (R : MRel c g φ mem s.heap) (nd : o ≠ .dead) (hr : ORel c g (φ ++ [s.heap.objs.size]) (s.heap.push ob) s.heap.objs.size o)
    (P : PostM c g φ mem s (.ref mem.length) (mem ++ [o]) Q) (tk : Nat) : Q (.ref s.heap.objs.size) { s with heap := s.heap.push ob, toks := tk } := by
  have T := Tr.ownNew R (h' := s.heap.push ob) (size_mem _) (get_size _) (R.big ok) nd hr
  refine P g _ _ tk _ T (.ref ?_)
  rw [List.getElem?_append_right (Nat.le_of_eq R.len), R.len, Nat.sub_self]; rfl
theorem EvOK.newLst (ok : c.Ok) {pos : Pos} : EvOK c n pe (.List [] pos) newLstX := fun ρ mem v mem' x A g φ s Q hA R P => by
  refine List_ (wpAny_pure ?_)
  exact wpAny_newObj_type (PostM.newOwn ok (o := .lst []) (ob := listOf #[] 0) R.m (fun q => by cases q) ⟨[], 0, Heap.get?_push_size _ rfl, .nil⟩ ((P.of x).toM R) _) (by size_fits)
theorem EvOK.newDic (ok : c.Ok) {pos : Pos} : EvOK c n pe (.Dict [] [] pos) newDicX := fun ρ mem v mem' x A g φ s Q hA R P => by
  refine wpAny_Dict_empty ?_
  exact PostM.newOwn ok (o := .dicI []) (ob := { cls := .type "dict", data := .dict #[] }) R.m (fun q => by cases q) ⟨[], ⟨_, #[], 0, Heap.get?_push_size _ rfl, ⟨rfl, rfl, rfl⟩, rfl, (fun e he => by simp at he), .nil, by simp⟩, rfl, .nil⟩ ((P.of x).toM R) _
end
end Mine
-- Ops
namespace Mine
section
variable {c : Cx} {n : Nat} {pe : PE} {g g' : G} {φ φ' : List Addr} {ρ ρ' : Rho} {mem mem' : List MO} {s : Shared} {v : V} {h h' : Heap}

/-! ## Arithmetic -/
noncomputable def smallI (a : Int) : Bool := decide (-1000000000 ≤ a) && decide (a ≤ 1000000000)
noncomputable def addF : V → V → List MO → Option V := fun x y _ => match x with
  | .int a => y.onInt fun b => some (.int (a + b))
  | .lst a => y.onLst fun b => if a.length + b.length ≤ sizeB then some (.lst (a ++ b)) else none
  | .tup a => y.onTup fun b => if a.length + b.length ≤ sizeB then some (.tup (a ++ b)) else none
  | _ => none
theorem addLst {A : Around} {Q : Value → Shared → Prop} {l b : Addr} {vs ws : List Value} (hl : s.heap.IsList l vs.toArray) (hb : s.heap.IsList b ws.toArray) (hsz : vs.length + ws.length ≤ sizeLine)
    (h : Q (.ref s.heap.objs.size) { s with heap := s.heap.push { cls := .type "list", data := .seq (vs ++ ws).toArray } }) : wpAny (model c.prog c.w) A (binaryOp .Add (.ref l) (.ref b)) Q Fls s := by
  obtain ⟨⟨cls, dd, data, sl⟩, ho, hc, n, hd⟩ := id hl
  obtain ⟨⟨cls2, dd2, data2, sl2⟩, ho2, hc2, n2, hd2⟩ := id hb
  simp only at hc hd hc2 hd2
  subst hc hd hc2 hd2
  have e : vs.toArray ++ ws.toArray = (vs ++ ws).toArray := by simp
  refine concat_meets ⟨_, ho, rfl⟩ ⟨_, ho2, rfl⟩ noFill_list_add seq_list_add PySem.F.slot_list_add PySem.F.entry_list_add (PySem.F.args_list_add_2 _ _) (list_addW l b vs.toArray ws.toArray n n2 dd dd2 sl sl2 (by simpa using hsz)) ⟨ho, ho2, ?_⟩
  rw [e]; exact h
theorem addTup {A : Around} {Q : Value → Shared → Prop} {t b : Addr} {vs ws : List Value} (ht : IsTup s.heap t vs.toArray) (hb : IsTup s.heap b ws.toArray) (hsz : vs.length + ws.length ≤ sizeLine)
    (h0 : vs = [] → Q (.ref b) s) (h1 : vs ≠ [] → ws = [] → Q (.ref t) s)
    (h2 : Q (.ref s.heap.objs.size) { s with heap := s.heap.push { cls := .type "tuple", data := .seq (vs ++ ws).toArray } }) : wpAny (model c.prog c.w) A (binaryOp .Add (.ref t) (.ref b)) Q Fls s := by
  obtain ⟨⟨cls, dd, data, sl⟩, ho, hc, n, hd⟩ := id ht
  obtain ⟨⟨cls2, dd2, data2, sl2⟩, ho2, hc2, n2, hd2⟩ := id hb
  simp only at hc hd hc2 hd2
  subst hc hd hc2 hd2
  have e : vs.toArray ++ ws.toArray = (vs ++ ws).toArray := by simp
  by_cases hv : vs = []
  · exact concat_meets ⟨_, ho, rfl⟩ ⟨_, ho2, rfl⟩ noFill_tuple_add seq_tuple_add PySem.F.slot_tuple_add PySem.F.entry_tuple_add (PySem.F.args_tuple_add_2 _ _)
      (tuple_addW0 t b vs.toArray ws.toArray n n2 dd dd2 sl sl2 (by simp [hv])) ⟨ho, ho2, h0 hv⟩
  · by_cases hw : ws = []
    · exact concat_meets ⟨_, ho, rfl⟩ ⟨_, ho2, rfl⟩ noFill_tuple_add seq_tuple_add PySem.F.slot_tuple_add PySem.F.entry_tuple_add (PySem.F.args_tuple_add_2 _ _)
        (tuple_addW1 t b vs.toArray ws.toArray n n2 dd dd2 sl sl2 (by simpa using hv) (by simp [hw])) ⟨ho, ho2, h1 hv hw⟩
    · refine concat_meets ⟨_, ho, rfl⟩ ⟨_, ho2, rfl⟩ noFill_tuple_add seq_tuple_add PySem.F.slot_tuple_add PySem.F.entry_tuple_add (PySem.F.args_tuple_add_2 _ _)
        (tuple_addW2 t b vs.toArray ws.toArray n n2 dd dd2 sl sl2 (by simpa using hv) (by simpa using hw) (by rw [List.size_toArray, List.size_toArray]; exact hsz)) ⟨ho, ho2, ?_⟩
      rw [e]; exact h2
theorem VRels.nil_iff {ws : List Value} {vs : List V} (r : VRels g φ ws vs) : ws = [] ↔ vs = [] := by cases r <;> simp
theorem addOK : Op2OK c n (binaryOp .Add) addF := fun x y mem v e A g φ s Q wx wy hA R rx ry P => by
  cases rx with
  | int a ta => exact VRel.onIntE ry e fun b tb e => PyProof.Rows.add_int ((P.ofV e).same R _ (.int _ _))
  | lst g1 o1 r1 =>
    refine VRel.onLstE ry e fun a2 ob2 vs2 l2 g2 o2 r2 e => ifE e fun hz e => ?_
    exact addLst (o1.list (R.keep _ _ g1)) (o2.list (R.keep _ _ g2)) (by rw [r1.length, r2.length]; exact sizeB_le hz) (PostM.newSeq R (r1.append r2) (fun g' a o => .lst) (P.ofV e) _)
  | tup g1 o1 r1 =>
    refine VRel.onTupE ry e fun a2 ob2 vs2 l2 g2 o2 r2 e => ifE e fun hz e => ?_
    refine addTup (o1.tup (R.keep _ _ g1)) (o2.tup (R.keep _ _ g2)) (by rw [r1.length, r2.length]; exact sizeB_le hz) (fun q => ?_) (fun _ q => ?_) (PostM.newSeq R (r1.append r2) (fun g' a o => .tup) (P.ofV e) _)
    · exact (P.ofV e).same' R (VRels.nil_iff r1 |>.mp q ▸ .tup g2 o2 r2)
    · exact (P.ofV e).same' R (VRels.nil_iff r2 |>.mp q ▸ (List.append_nil _).symm ▸ .tup g1 o1 r1)
  | _ => cases e
noncomputable def intF (f : Int → Int → Option Int) : V → V → List MO → Option V := fun x y _ => x.onInt fun a => y.onInt fun b => (f a b).bind fun r => some (.int r)
theorem intOK {t : Value → Value → Sem Value} {f : Int → Int → Option Int} (h : ∀ (A : Around) (s : Shared) (Q : Value → Shared → Prop) (a b r : Int) (ta tb : Tok), f a b = some r → (∀ k tk, Q (.int r k) { s with toks := tk }) → wpAny (model c.prog c.w) A (t (.int a ta) (.int b tb)) Q Fls s) : Op2OK c n t (intF f) :=
  fun x y mem v e A g φ s Q wx wy hA R rx ry P => rx.onIntE e fun a ta e => ry.onIntE e fun b tb e => bindE e fun r e1 e2 => h A s Q a b r ta tb e1 fun k tk => (P.ofV e2).same R tk (.int _ k)
noncomputable def subF := intF fun a b => some (a - b)
noncomputable def mulF := intF fun a b => if smallI a && smallI b then some (a * b) else none
noncomputable def fdivF := intF fun a b => if b ≠ 0 ∧ smallI b = true then some (a.fdiv b) else none
noncomputable def fmodF := intF fun a b => if b ≠ 0 then some (a.fmod b) else none
theorem smallI_iff {a : Int} : smallI a = true ↔ -1000000000 ≤ a ∧ a ≤ 1000000000 := by simp [smallI]
theorem subOK : Op2OK c n (binaryOp .Sub) subF := intOK fun A s Q a b r ta tb e k => by cases e; exact PyProof.Rows.sub_int (k _ _)
theorem mulOK : Op2OK c n (binaryOp .Mult) mulF := intOK fun A s Q a b r ta tb e k => ifE e fun hz e => by
  cases e
  rw [Bool.and_eq_true, smallI_iff, smallI_iff] at hz
  exact PyProof.Rows.mul_int (k _ _) (PySem.IntMulOk.of_left (PySem.intBits_le_64 (by omega) (by omega)))
theorem fdivOK : Op2OK c n (binaryOp .FloorDiv) fdivF := intOK fun A s Q a b r ta tb e k => ifE e fun hz e => by
  cases e
  have h2 := smallI_iff.mp hz.2
  exact PyProof.Rows.floordiv_int hz.1 (k _ _) (Or.inl (PyProof.noPylong_small (by omega)))
theorem fmodOK : Op2OK c n (binaryOp .Mod) fmodF := intOK fun A s Q a b r ta tb e k => ifE e fun hz e => by
  cases e
  exact PyProof.Rows.mod_int' hz (k _ _)

/-! ## Order of ints -/
noncomputable def ordF (f : Int → Int → Bool) : V → V → List MO → Option V := fun x y _ => x.onInt fun a => y.onInt fun b => some (.bool (f a b))
theorem ordOK {t : Value → Value → Sem Value} {f : Int → Int → Bool} (h : ∀ (A : Around) (s : Shared) (Q : Value → Shared → Prop) (a b : Int) (ta tb : Tok), Q (.bool (f a b)) s → wpAny (model c.prog c.w) A (t (.int a ta) (.int b tb)) Q Fls s) : Op2OK c n t (ordF f) :=
  fun x y mem v e A g φ s Q wx wy hA R rx ry P => rx.onIntE e fun a ta e => ry.onIntE e fun b tb e => h A s Q a b ta tb ((P.ofV e).same' R (.bool _))
noncomputable def ltF := ordF fun a b => decide (a < b)
noncomputable def leF := ordF fun a b => decide (a ≤ b)
noncomputable def gtF := ordF fun a b => decide (b < a)
noncomputable def geF := ordF fun a b => decide (b ≤ a)
theorem ltOK : Op2OK c n (compareOp .Lt) ltF := ordOK fun A s Q a b ta tb k => PyProof.Rows.lt_int k
theorem leOK : Op2OK c n (compareOp .LtE) leF := ordOK fun A s Q a b ta tb k => PyProof.Rows.le_int k
theorem gtOK : Op2OK c n (compareOp .Gt) gtF := ordOK fun A s Q a b ta tb k => PyProof.Rows.gt_int k
theorem geOK : Op2OK c n (compareOp .GtE) geF := ordOK fun A s Q a b ta tb k => PyProof.Rows.ge_int k

/-! ## Identity -/
noncomputable def V.noneQ : V → Option Bool
  | .none => some true
  | .int _ => some false
  | .bool _ => some false
  | _ => Option.none
noncomputable def isF : V → V → List MO → Option V := fun x y _ => match y with
  | .bool b => x.onBool fun a => some (.bool (a == b))
  | .none => x.noneQ.bind fun t => some (.bool t)
  | _ => none
noncomputable def isNotF : V → V → List MO → Option V := fun x y _ => x.onBool fun a => y.onBool fun b => some (.bool (a != b))
theorem noneE {w : Value} {t : Bool} (r : VRel g φ w v) (e : v.noneQ = some t) : (t = true ∧ w = .none) ∨ (t = false ∧ w ≠ .none) := by
  cases r with
  | none => exact .inl ⟨(Option.some.inj e).symm, rfl⟩
  | int _ _ => exact .inr ⟨(Option.some.inj e).symm, fun q => Value.noConfusion q⟩
  | bool _ => exact .inr ⟨(Option.some.inj e).symm, fun q => Value.noConfusion q⟩
  | _ => cases e
theorem isNone {A : Around} {Q : Value → Shared → Prop} {w : Value} {t : Bool} (r : VRel g φ w v) (e : v.noneQ = some t) (h : Q (.bool t) s) : wpAny (model c.prog c.w) A (compareOp .Is w .none) Q Fls s := by
  rcases noneE r e with ⟨rfl, rfl⟩ | ⟨rfl, q⟩
  · exact is_none_none h
  · exact is_none_ne q h
theorem isOK : Op2OK c n (compareOp .Is) isF := fun x y mem v e A g φ s Q wx wy hA R rx ry P => by
  cases ry with
  | bool b => exact VRel.onBoolE rx e fun a e => is_bool ((P.ofV e).same' R (.bool _))
  | none => exact bindE e fun t e1 e2 => isNone rx e1 ((P.ofV e2).same' R (.bool _))
  | _ => cases e
theorem isNotOK : Op2OK c n (compareOp .IsNot) isNotF := fun x y mem v e A g φ s Q wx wy hA R rx ry P =>
  rx.onBoolE e fun a e => ry.onBoolE e fun b e => isnot_bool ((P.ofV e).same' R (.bool _))

/-! ## A list, frozen or owned -/
noncomputable def lstOf (mem : List MO) : V → Option (List V)
  | .lst l => some l
  | .ref k => match mem[k]? with | some (.lst l) => some l | _ => none
  | _ => none
theorem lstOf_ref {k : Nat} {l : List V} (hm : mem[k]? = some (.lst l)) : lstOf mem (.ref k) = some l := by simp only [lstOf, hm]
@[elab_as_elim] theorem lstOfE {P : Value → Prop} {wv : Value} {v : V} {l : List V} (r : VRel g φ wv v) (R : MRel c g φ mem h) (e : lstOf mem v = some l) (k : ∀ a o vs, h.get? a = some o → SeqObj "list" o vs → VRels g φ vs l → P (.ref a)) : P wv := by
  cases r with
  | lst g1 o1 r1 => cases e; exact k _ _ _ (R.keep _ _ g1) o1 r1
  | @ref j a ha =>
    have e : (match mem[j]? with | some (.lst l) => some l | _ => none) = some l := e
    cases hm : mem[j]? with
    | none => rw [hm] at e; cases e
    | some o =>
      rw [hm] at e
      cases o with
      | lst l' =>
        cases e
        obtain ⟨⟨vs, n', e', r'⟩, _⟩ := R.obj _ _ _ hm ha (fun q => by cases q)
        exact k _ _ _ e' ⟨rfl, n', rfl⟩ r'
      | _ => cases e
  | _ => cases e

/-! ## Equality of data -/
mutual
/-- plain data: ints, bools, texts, None, lists and tuples of such -/
noncomputable def toD : V → Option PyData
  | .none => some .none
  | .bool b => some (.bool b)
  | .int i => some (.int i)
  | .str x => some (.str x)
  | .lst l => (toDs l).bind fun ds => some (.list ds)
  | .tup l => (toDs l).bind fun ds => some (.tuple ds)
  | _ => none
noncomputable def toDs : List V → Option (List PyData)
  | [] => some []
  | v :: vs => (toD v).bind fun x => (toDs vs).bind fun xs => some (x :: xs)
end
theorem SeqObj.of {ty : String} {o : Obj} {vs : List Value} (x : SeqObj ty o vs) {P : Prop} (k : o.cls = .type ty → ∀ n, o.data = .seq vs.toArray n → P) : P := x.2.elim fun n hn => k x.1 n hn
theorem toDs_reads (R : MRel c g φ mem h) {ws : List Value} {vs : List V} (r : VRels g φ ws vs) : ∀ {ds : List PyData}, toDs vs = some ds → ∃ as, ReadsAll h ws ds as := by
  refine VRels.rec (motive_1 := fun w v _ => ∀ d, toD v = some d → ∃ as, Reads h w d as) (motive_2 := fun ws vs _ => ∀ {ds : List PyData}, toDs vs = some ds → ∃ as, ReadsAll h ws ds as) (motive_3 := fun _ _ _ => True)
    ?_ ?_ ?_ ?_ ?_ ?_ ?_ ?_ ?_ ?_ ?_ ?_ ?_ ?_ ?_ r
  · exact fun d e => by rw [toD] at e; cases e; exact ⟨_, .none⟩
  · exact fun b d e => by rw [toD] at e; cases e; exact ⟨_, .bool b⟩
  · exact fun i t d e => by rw [toD] at e; cases e; exact ⟨_, .int i t⟩
  · exact fun x t d e => by rw [toD] at e; cases e; exact ⟨_, .str x t⟩
  · intro a o vs l ha b r ih d e
    rw [toD] at e
    refine bindE e fun ds e1 e2 => (ih e1).elim fun as z => b.of fun h1 n' h2 => ?_
    cases e2
    exact ⟨_, .tuple (R.keep _ _ ha) h1 h2 (by simpa using z)⟩
  · intro a o vs l ha b r ih d e
    rw [toD] at e
    refine bindE e fun ds e1 e2 => (ih e1).elim fun as z => b.of fun h1 n' h2 => ?_
    cases e2
    exact ⟨_, .list (R.keep _ _ ha) h1 h2 (by simpa using z)⟩
  iterate 5 (intros; rename toD _ = some _ => e; unfold toD at e; cases e)
  · intro ds e; rw [toDs] at e; cases e; exact ⟨_, .nil⟩
  · intro w ws v vs _ _ ih1 ih2 ds e
    rw [toDs] at e
    refine bindE e fun x e1 e2 => bindE e2 fun xs e3 e4 => (ih1 x e1).elim fun as z => (ih2 e3).elim fun bs y => ?_
    cases e4
    exact ⟨_, .cons z y⟩
  · exact trivial
  · exact fun _ _ _ _ _ => trivial
theorem toD_reads (R : MRel c g φ mem h) {w : Value} {v : V} (r : VRel g φ w v) {d : PyData} (e : toD v = some d) : ∃ as, Reads h w d as := by
  obtain ⟨as, z⟩ := toDs_reads R (.cons r .nil) (ds := [d]) (by rw [toDs, e, toDs]; rfl)
  cases z with | cons z _ => exact ⟨_, z⟩
noncomputable def dOf (mem : List MO) (v : V) : Option PyData := match lstOf mem v with | some l => (toDs l).bind fun ds => some (.list ds) | none => toD v
theorem dOf_reads (R : MRel c g φ mem h) {w : Value} {v : V} {d : PyData} (r : VRel g φ w v) (e : dOf mem v = some d) : ∃ as, Reads h w d as := by
  unfold dOf at e
  cases hl : lstOf mem v with
  | none => rw [hl] at e; exact toD_reads R r e
  | some l =>
    rw [hl] at e
    refine bindE e fun ds e1 e2 => lstOfE r R hl fun a o vs h1 h2 h3 => (toDs_reads R h3 e1).elim fun as z => h2.of fun q1 n' q2 => ?_
    cases e2
    exact ⟨_, .list h1 q1 q2 (by simpa using z)⟩
noncomputable def eqvF (neg : Bool) : V → V → List MO → Option V := fun x y mem => (dOf mem x).bind fun a => (dOf mem y).bind fun b => if SeqAt.shaped a && SeqAt.shaped b then some (.bool (neg != PyData.eqv a b)) else none
noncomputable def eqF := eqvF false
noncomputable def neF := eqvF true
theorem AOk.room {A : Around} (hA : AOk n A) : A.units + 65 < cLine := by have := hA.2.2; omega
theorem eqOK : Op2OK c n (compareOp .Eq) eqF := fun x y mem v e A g φ s Q wx wy hA R rx ry P => by
  refine bindE e fun a e1 e2 => ?_
  refine bindE e2 fun b e3 e4 => ifE e4 fun hz e4 => (dOf_reads R rx e1).elim fun as ra => (dOf_reads R ry e3).elim fun bs rb => ?_
  rw [Bool.and_eq_true] at hz
  exact eq_dataH ra rb hz.1 hz.2 (by have := hA.room; omega) ((P.ofV e4).same' R (by simpa using VRel.bool _))
theorem neOK : Op2OK c n (compareOp .NotEq) neF := fun x y mem v e A g φ s Q wx wy hA R rx ry P => by
  refine bindE e fun a e1 e2 => ?_
  refine bindE e2 fun b e3 e4 => ifE e4 fun hz e4 => (dOf_reads R rx e1).elim fun as ra => (dOf_reads R ry e3).elim fun bs rb => ?_
  rw [Bool.and_eq_true] at hz
  exact ne_dataH ra rb hz.1 hz.2 (by have := hA.room; omega) ((P.ofV e4).same' R (by simpa using VRel.bool _))

/-! ## Membership -/
noncomputable def valAt {K : Type} [DecidableEq K] (l : List (K × V)) (k : K) : Option V := (l.find? fun kv => kv.1 = k).map (·.2)
theorem valAt_rel {K : Type} [DecidableEq K] : ∀ {kvs : List (K × Value)} {l : List (K × V)}, PairsRel g φ kvs l → ∀ k : K, (valueAt kvs k = none ∧ valAt l k = none) ∨ ∃ w v, valueAt kvs k = some w ∧ valAt l k = some v ∧ VRel g φ w v := by
  intro kvs
  induction kvs with
  | nil =>
    intro l r k
    cases l with
    | nil => exact .inl ⟨rfl, rfl⟩
    | cons _ _ => exact (List.cons_ne_nil _ _ r.1.symm).elim
  | cons p ps ih =>
    intro l r k
    cases l with
    | nil => exact (List.cons_ne_nil _ _ r.1).elim
    | cons q qs =>
      have e := List.cons.inj r.1
      have c := r.2.consE
      have h := ih ⟨e.2, c.2⟩ k
      unfold valueAt valAt at h ⊢
      rw [List.find?_cons, List.find?_cons, show p.1 = q.1 from e.1]
      by_cases z : q.1 = k
      · rw [decide_eq_true z]; exact .inr ⟨_, _, rfl, rfl, c.1⟩
      · rw [decide_eq_false z]; exact h
/-- what is asked of a key -/
inductive Dic where
  | i (l : List (Int × V))
  | s (l : List (Str × V))
noncomputable def inSeq (neg : Bool) (x : V) (l : List V) (mem : List MO) : Option V := (dOf mem x).bind fun a => (toDs l).bind fun b => if SeqAt.shaped a && PyData.canLayAll0 b then some (.bool (neg != b.any fun z => PyData.eqv z a)) else none
noncomputable def inRef (neg : Bool) (i : Int) : Option MO → Option V
  | some (.dicI l) => some (.bool (neg != (valAt l i).isSome))
  | some (.lst l) => (toDs l).bind fun b => if PyData.canLayAll0 b then some (.bool (neg != b.any fun z => PyData.eqv z (.int i))) else none
  | _ => none
noncomputable def inF (neg : Bool) : V → V → List MO → Option V := fun x y mem => match y with
  | .ref k => x.onInt fun i => inRef neg i mem[k]?
  | .lst l => inSeq neg x l mem
  | .tup l => inSeq neg x l mem
  | _ => none
theorem notSys (R : MRel c g φ mem h) {k : Nat} {a : Addr} (ha : φ[k]? = some a) : (a == sysModules) = false := by
  have := R.lo a (List.mem_of_getElem? ha)
  cases q : a == sysModules with
  | false => rfl
  | true =>
    have q' : a = 1 := beq_iff_eq.mp q
    rw [q'] at this
    exact absurd this (by decide)
theorem shapedL {d : PyData} (h : SeqAt.shaped d = true) : d.canLay0 = true ∧ d.depth ≤ 64 := ⟨SeqAt.canLay_of_shaped h, SeqAt.depth_of_shaped h⟩
theorem inRoom {A : Around} (hA : AOk n A) {xs : List PyData} {d : PyData} (h : SeqAt.shaped d = true) : A.units + 1 + min (PyData.depthAll xs) d.depth < cLine := by
  have := Nat.min_le_right (PyData.depthAll xs) d.depth
  have := (shapedL h).2
  have := hA.2.2
  omega
theorem inDic {A : Around} {Q : Value → Shared → Prop} {i : Int} {ti : Tok} {k : Nat} {a : Addr} {l : List (Int × V)} (R : MRel c g φ mem s.heap) (ha : φ[k]? = some a) (hm : mem[k]? = some (.dicI l)) (P : PostM c g φ mem s (.bool (false != (valAt l i).isSome)) mem Q) : wpAny (model c.prog c.w) A (compareOp .In (.int i ti) (.ref a)) Q Fls s := by
  obtain ⟨⟨kvs, hd, pr⟩, _⟩ := R.obj _ _ _ hm ha (fun q => by cases q)
  refine wpAny_in_of (knd := intKind c.prog c.w) (k := i) (by simp [intKind, Value.isInt]) (notSys R ha) hd.mapOf (P.same R _ ?_)
  rcases valAt_rel pr i with ⟨e1, e2⟩ | ⟨w1, v1, e1, e2, _⟩
  · rw [e1, e2]; exact .bool _
  · rw [e1, e2]; exact .bool _
theorem inOK : Op2OK c n (compareOp .In) (inF false) := fun x y mem v e A g φ s Q wx wy hA R rx ry P => by
  cases ry with
  | @ref k a ha =>
    refine VRel.onIntE rx e fun i ti e => ?_
    cases hm : mem[k]? with
    | none => rw [hm] at e; cases e
    | some o =>
      rw [hm] at e
      cases o with
      | dicI l => exact inDic R ha hm (P.ofV e)
      | lst l =>
        refine bindE e fun b e1 e2 => ifE e2 fun hz e2 => ?_
        refine (dOf_reads (d := .list b) R (.ref ha) (by unfold dOf; rw [lstOf_ref hm]; show ((toDs l).bind fun ds => some (PyData.list ds)) = _; rw [e1]; rfl)).elim fun as ra => (toD_reads (d := .int i) R (.int i ti) (by rw [toD])).elim fun bs rb => ?_
        exact SeqAt.in_list_reads ra rb hz rfl (inRoom hA (d := .int i) rfl) ((P.ofV e2).same' R (by simpa using VRel.bool _))
      | _ => cases e
  | @lst a o vs l g1 o1 r1 =>
    refine bindE e fun a e1 e2 => bindE e2 fun b e3 e4 => ifE e4 fun hz e4 => ?_
    rw [Bool.and_eq_true] at hz
    refine (toD_reads (d := .list b) R (.lst g1 o1 r1) (by rw [toD, e3]; rfl)).elim fun as ra => (dOf_reads R rx e1).elim fun bs rb => ?_
    exact SeqAt.in_list_reads ra rb hz.2 (shapedL hz.1).1 (inRoom hA hz.1) ((P.ofV e4).same' R (by simpa using VRel.bool _))
  | @tup a o vs l g1 o1 r1 =>
    refine bindE e fun a e1 e2 => bindE e2 fun b e3 e4 => ifE e4 fun hz e4 => ?_
    rw [Bool.and_eq_true] at hz
    refine (toD_reads (d := .tuple b) R (.tup g1 o1 r1) (by rw [toD, e3]; rfl)).elim fun as ra => (dOf_reads R rx e1).elim fun bs rb => ?_
    exact SeqAt.in_tuple_reads ra rb hz.2 (shapedL hz.1).1 (inRoom hA hz.1) ((P.ofV e4).same' R (by simpa using VRel.bool _))
  | _ => cases e
theorem notInDic {A : Around} {Q : Value → Shared → Prop} {i : Int} {ti : Tok} {k : Nat} {a : Addr} {l : List (Int × V)} (R : MRel c g φ mem s.heap) (ha : φ[k]? = some a) (hm : mem[k]? = some (.dicI l)) (P : PostM c g φ mem s (.bool (true != (valAt l i).isSome)) mem Q) : wpAny (model c.prog c.w) A (compareOp .NotIn (.int i ti) (.ref a)) Q Fls s := by
  obtain ⟨⟨kvs, hd, pr⟩, _⟩ := R.obj _ _ _ hm ha (fun q => by cases q)
  refine wpAny_notIn_of (knd := intKind c.prog c.w) (k := i) (by simp [intKind, Value.isInt]) (notSys R ha) hd.mapOf (P.same R _ ?_)
  rcases valAt_rel pr i with ⟨e1, e2⟩ | ⟨w1, v1, e1, e2, _⟩
  · rw [e1, e2]; exact .bool _
  · rw [e1, e2]; exact .bool _
theorem notInOK : Op2OK c n (compareOp .NotIn) (inF true) := fun x y mem v e A g φ s Q wx wy hA R rx ry P => by
  cases ry with
  | @ref k a ha =>
    refine VRel.onIntE rx e fun i ti e => ?_
    cases hm : mem[k]? with
    | none => rw [hm] at e; cases e
    | some o =>
      rw [hm] at e
      cases o with
      | dicI l => exact notInDic R ha hm (P.ofV e)
      | lst l =>
        refine bindE e fun b e1 e2 => ifE e2 fun hz e2 => ?_
        refine (dOf_reads (d := .list b) R (.ref ha) (by unfold dOf; rw [lstOf_ref hm]; show ((toDs l).bind fun ds => some (PyData.list ds)) = _; rw [e1]; rfl)).elim fun as ra => (toD_reads (d := .int i) R (.int i ti) (by rw [toD])).elim fun bs rb => ?_
        exact SeqAt.notIn_list_reads ra rb hz rfl (inRoom hA (d := .int i) rfl) ((P.ofV e2).same' R (by simpa using VRel.bool _))
      | _ => cases e
  | @lst a o vs l g1 o1 r1 =>
    refine bindE e fun a e1 e2 => bindE e2 fun b e3 e4 => ifE e4 fun hz e4 => ?_
    rw [Bool.and_eq_true] at hz
    refine (toD_reads (d := .list b) R (.lst g1 o1 r1) (by rw [toD, e3]; rfl)).elim fun as ra => (dOf_reads R rx e1).elim fun bs rb => ?_
    exact SeqAt.notIn_list_reads ra rb hz.2 (shapedL hz.1).1 (inRoom hA hz.1) ((P.ofV e4).same' R (by simpa using VRel.bool _))
  | @tup a o vs l g1 o1 r1 =>
    refine bindE e fun a e1 e2 => bindE e2 fun b e3 e4 => ifE e4 fun hz e4 => ?_
    rw [Bool.and_eq_true] at hz
    refine (toD_reads (d := .tuple b) R (.tup g1 o1 r1) (by rw [toD, e3]; rfl)).elim fun as ra => (dOf_reads R rx e1).elim fun bs rb => ?_
    exact SeqAt.notIn_tuple_reads ra rb hz.2 (shapedL hz.1).1 (inRoom hA hz.1) ((P.ofV e4).same' R (by simpa using VRel.bool _))
  | _ => cases e

/-! ## Items -/
/-- x[i]: an item of a list or tuple, of a dict -/
noncomputable def seqItem (l : List V) (i : Int) : Option V := if smallI i = true then (seqIndex? i l.length).bind fun j => l[j]? else none
noncomputable def moItem (i : Int) : Option MO → Option V
  | some (.dicI l) => valAt l i
  | some (.lst l) => seqItem l i
  | _ => none
noncomputable def moItemS (i : Str) : Option MO → Option V
  | some (.dicS l) => valAt l i
  | _ => none
noncomputable def itemI (x : V) (i : Int) (mem : List MO) : Option V := match x with
  | .tup l => seqItem l i
  | .lst l => seqItem l i
  | .ref k => moItem i mem[k]?
  | _ => none
noncomputable def itemS (x : V) (i : Str) (mem : List MO) : Option V := match x with
  | .ref k => moItemS i mem[k]?
  | _ => none
noncomputable def itemF : V → V → List MO → Option V := fun x y mem => match y with
  | .int i => itemI x i mem
  | .str i => itemS x i mem
  | _ => none
theorem listItem {A : Around} {Q : Value → Shared → Prop} {value slice : Expr} {a : Addr} {vs : List Value} {i : Int} {u : Tok} {j : Nat} {x : Value} (hl : s.heap.IsList a vs.toArray) (hz : smallI i = true) (hj : seqIndex? i vs.length = some j) (hx : vs[j]? = some x) (h : Q x s)
    (hs : subscripted slice false (.ref a) (.int i u) = operate [.ref a, .int i u] (getItem (.ref a) (.int i u))) : wpAny (model c.prog c.w) A (subscriptTail value slice (.ref a) (.int i u)) Q Fls s := by
  have hz := smallI_iff.mp hz
  refine tail_any hl.typeIs slot_list_getitem.lookup ?_ hs
  have key : 0 ≤ (if i < 0 then i + vs.length else i) ∧ (if i < 0 then i + vs.length else i) < vs.length ∧ (if i < 0 then i + (vs.length : Int) else i).toNat = j := by
    unfold seqIndex? at hj
    by_cases q : (decide (0 ≤ (if i < 0 then i + (vs.length : Int) else i)) && decide ((if i < 0 then i + (vs.length : Int) else i) < vs.length)) = true
    · rw [if_pos q] at hj
      rw [Bool.and_eq_true, decide_eq_true_eq, decide_eq_true_eq] at q
      exact ⟨q.1, q.2, Option.some.inj hj⟩
    · rw [if_neg q] at hj; cases hj
  obtain ⟨k1, k2, rfl⟩ := key
  by_cases z : i < 0
  · simp only [if_pos z] at k1 k2 hx
    exact wpAny_getItem_list_neg hl z (by rw [List.size_toArray]; omega) (by omega) (by simpa using hx) h
  · simp only [if_neg z] at k1 k2 hx
    exact wpAny_getItem_list hl (by omega) (by omega) (by simpa using hx) h
theorem VRels.item {ws : List Value} {vs : List V} (r : VRels g φ ws vs) {i : Int} {v : V} (e : ((seqIndex? i vs.length).bind fun j => vs[j]?) = some v) : ∃ j w, seqIndex? i ws.length = some j ∧ ws[j]? = some w ∧ VRel g φ w v := by
  refine bindE e fun j e1 e2 => ?_
  obtain ⟨w, e3, r'⟩ := r.getV e2
  exact ⟨j, w, by rw [r.length]; exact e1, e3, r'⟩
noncomputable def subX (a b : EF) : EF := binX a b itemF
theorem seqItemE {l : List V} {ws : List Value} {i : Int} {v : V} {P : Prop} (r : VRels g φ ws l) (e : seqItem l i = some v) (k : smallI i = true → ∀ j w, seqIndex? i ws.length = some j → ws[j]? = some w → VRel g φ w v → P) : P := ifE e fun hz e => by
  obtain ⟨j, w, h1, h2, h3⟩ := r.item e
  exact k hz j w h1 h2 h3
section
variable {A : Around} {Q : Value → Shared → Prop} {l r : Expr} {x : V} {wx : Value}
theorem dicItem {K : Type} [DecidableEq K] {knd : KeyKind c.prog c.w K} {kvs : List (K × Value)} {d : List (K × V)} {a : Addr} {i : K} {wi : Value} (R : MRel c g φ mem s.heap) (hd : s.heap.DictOf knd a kvs) (pr : PairsRel g φ kvs d) (hk : knd.is i wi = true) (e : valAt d i = some v) (P : PostM c g φ mem s v mem Q)
    (hs : subscripted r false (.ref a) wi = operate [.ref a, wi] (getItem (.ref a) wi)) : wpAny (model c.prog c.w) A (subscriptTail l r (.ref a) wi) Q Fls s := by
  rcases valAt_rel pr i with ⟨z1, z2⟩ | ⟨w1, v1, z1, z2, z3⟩
  · rw [z2] at e; cases e
  · have hd' := hd.mapOf
    exact tail_any hd'.typeIs slot_dict_getitem.lookup (wpAny_getItem_of (knd := knd) (k := i) hk hd' z1 ((P.ofV (z2.symm.trans e)).same R _ z3)) hs
theorem itemIRun {i : Int} {ti : Tok} (R : MRel c g φ mem s.heap) (r1 : VRel g φ wx x) (e : itemI x i mem = some v) (P : PostM c g φ mem s v mem Q) (hs : ∀ o i, subscripted r false o i = operate [o, i] (getItem o i)) : wpAny (model c.prog c.w) A (subscriptTail l r wx (.int i ti)) Q Fls s := by
  cases r1 with
  | tup g1 o1 rs =>
    refine seqItemE rs e fun hz j w h1 h2 h3 => ?_
    have hz := smallI_iff.mp hz
    exact item_tupleT (o1.tup (R.keep _ _ g1)) (by omega) (by omega) h1 h2 (P.same' R h3) (hs _ _)
  | lst g1 o1 rs => exact seqItemE rs e fun hz j w q1 q2 q3 => listItem (o1.list (R.keep _ _ g1)) hz q1 q2 (P.same' R q3) (hs _ _)
  | @ref k a ha =>
    have e : moItem i mem[k]? = some v := e
    cases hm : mem[k]? with
    | none => rw [hm] at e; cases e
    | some o =>
      rw [hm] at e
      cases o with
      | dicI d =>
        obtain ⟨⟨kvs, hd, pr⟩, _⟩ := R.obj _ _ _ hm ha (fun q => by cases q)
        exact dicItem (knd := intKind c.prog c.w) R hd pr (by simp [intKind, Value.isInt]) e P (hs _ _)
      | lst d => exact lstOfE (VRel.ref ha) R (lstOf_ref hm) fun a o vs h1 h2 h3 => seqItemE h3 e fun hz j w q1 q2 q3 => listItem (h2.list h1) hz q1 q2 (P.same' R q3) (hs _ _)
      | _ => cases e
  | _ => cases e
theorem itemSRun {i : Str} {ti : Tok} (R : MRel c g φ mem s.heap) (r1 : VRel g φ wx x) (e : itemS x i mem = some v) (P : PostM c g φ mem s v mem Q) (hs : ∀ o i, subscripted r false o i = operate [o, i] (getItem o i)) : wpAny (model c.prog c.w) A (subscriptTail l r wx (.str i ti)) Q Fls s := by
  cases r1 with
  | @ref k a ha =>
    have e : moItemS i mem[k]? = some v := e
    cases hm : mem[k]? with
    | none => rw [hm] at e; cases e
    | some o =>
      rw [hm] at e
      cases o with
      | dicS d =>
        obtain ⟨⟨kvs, hd, pr⟩, _⟩ := R.obj _ _ _ hm ha (fun q => by cases q)
        exact dicItem (knd := PySem.strKind c.prog c.w) R hd pr (by simp [PySem.strKind, Value.isStrOf]) e P (hs _ _)
      | _ => cases e
  | _ => cases e
theorem itemRun {y : V} {wy : Value} (R : MRel c g φ mem s.heap) (r1 : VRel g φ wx x) (r2 : VRel g φ wy y) (e : itemF x y mem = some v) (P : PostM c g φ mem s v mem Q) (hs : ∀ o i, subscripted r false o i = operate [o, i] (getItem o i)) : wpAny (model c.prog c.w) A (subscriptTail l r wx wy) Q Fls s := by
  cases r2 with
  | int i t => exact itemIRun R r1 e P hs
  | str i t => exact itemSRun R r1 e P hs
  | _ => cases e
end
theorem EvOK.sub {l r : Expr} {pos : Pos} {a b : EF} (ha : EvOK c n pe l a) (hb : EvOK c n pe r b) (hs : ∀ o i, subscripted r false o i = operate [o, i] (getItem o i)) : EvOK c n pe (.Subscript l r pos) (subX a b) := fun ρ mem v mem' x A g φ s Q hA R P =>
  bindE2 x fun v₁ mem₁ e1 e2 => bindE2 e2 fun v₂ mem₂ e3 e4 => bindE e4 fun v₃ e5 e6 =>
  Subscript_ (ha ρ mem v₁ mem₁ e1 A g φ s _ hA R fun g1 φ1 h1 tk1 w1 T1 R1 r1 => hb ρ mem₁ v₂ _ e3 A g1 φ1 _ _ hA R1 fun g2 φ2 h2 tk2 w2 T2 R2 r2 =>
    itemRun R2.m (T2.vrel r1) r2 e5 (((P.of e6).behind (tk₁ := tk1) T1 R1).behind (tk₁ := tk2) T2 R2 |>.toM R2) hs)
end
end Mine
-- Ops2
namespace Mine
section
variable {c : Cx} {n : Nat} {pe : PE} {g g' : G} {φ φ' : List Addr} {ρ ρ' : Rho} {mem mem' : List MO} {s : Shared} {v : V} {h h' : Heap}

/-! ## Slices -/
noncomputable def pickV (l : List V) (lo hi st : Option Int) : List V := (sliceRange (sliceBounds lo hi st l.length).1 (sliceBounds lo hi st l.length).2.1 (sliceBounds lo hi st l.length).2.2).filterMap (l[·]?)
theorem VRels.places {ws : List Value} {vs : List V} (r : VRels g φ ws vs) (js : List Nat) : VRels g φ (js.filterMap (ws[·]?)) (js.filterMap (vs[·]?)) := by
  induction js with
  | nil => exact .nil
  | cons j js ih =>
    rw [List.filterMap_cons, List.filterMap_cons]
    cases e : ws[j]? with
    | none =>
      have : vs[j]? = none := by
        rw [List.getElem?_eq_none_iff] at e ⊢
        rw [← r.length]; exact e
      rw [this]; exact ih
    | some w =>
      obtain ⟨v, e', r'⟩ := r.get e
      rw [e']; exact .cons r' ih
theorem VRels.pick {ws : List Value} {vs : List V} (r : VRels g φ ws vs) (lo hi st : Option Int) : VRels g φ (slicePick ws.toArray lo hi st).toList (pickV vs lo hi st) := by
  unfold slicePick pickV
  rw [List.size_toArray, r.length]
  have e : (fun j : Nat => ws.toArray[j]?) = fun j : Nat => ws[j]? := by funext j; simp
  rw [e]
  exact r.places _
/-- a part of a slice -/
noncomputable def PartOK (c : Cx) (n : Nat) (pe : PE) : Option Expr → Option EF → Prop
  | none, none => True
  | some e, some f => EvOK c n pe e f
  | _, _ => False
noncomputable def partX : Option EF → Rho → List MO → Option (Option Int × List MO)
  | none => fun _ m => some (none, m)
  | some f => fun ρ m => (f ρ m).bind fun r => r.1.onInt fun i => some (some i, r.2)
abbrev PostP (c : Cx) (pe : PE) (g : G) (φ : List Addr) (ρ : Rho) (mem : List MO) (s : Shared) (i : Option Int) (mem' : List MO) (Q : Value → Shared → Prop) : Prop :=
  ∀ g' φ' h' tk wv, TrE pe g φ mem s.heap g' φ' mem' h' → Rel c pe g' φ' ρ mem' h' → IsPart wv i → Q wv { s with heap := h', toks := tk }
theorem PostP.of {i i₁ : Option Int} {m₁ : List MO} {Q : Value → Shared → Prop} (P : PostP c pe g φ ρ mem s i mem' Q) (e : some (i₁, m₁) = some (i, mem')) : PostP c pe g φ ρ mem s i₁ m₁ Q := by cases e; exact P
theorem partRun {e : Option Expr} {f : Option EF} (hp : PartOK c n pe e f) {i : Option Int} (x : partX f ρ mem = some (i, mem')) {A : Around} {Q : Value → Shared → Prop} (hA : AOk n A) (R : Rel c pe g φ ρ mem s.heap)
    (P : PostP c pe g φ ρ mem s i mem' Q) : wpAny (model c.prog c.w) A (evalPart e pe.env) Q Fls s := by
  cases e with
  | none => cases f with
    | none => exact wpAny_pure (P.of x g φ s.heap s.toks _ .refl R .none)
    | some _ => exact hp.elim
  | some e => cases f with
    | none => exact hp.elim
    | some f =>
      refine bindE2 x fun v mem₁ e1 e2 => ?_
      refine hp ρ mem v mem₁ e1 A g φ s _ hA R fun g' φ' h' tk wv T R' r => ?_
      exact VRel.onIntE r e2 fun j t e2 => P.of e2 g' φ' h' tk _ T R' (.int _ _)
noncomputable def sliceX (a : EF) (lo hi st : Option EF) : EF := fun ρ m => (a ρ m).bind fun r => (partX lo ρ r.2).bind fun x => (partX hi ρ x.2).bind fun y => (partX st ρ y.2).bind fun z =>
  r.1.onLst fun l => if l.length ≤ sizeB ∧ z.1 ≠ some 0 then some (.lst (pickV l x.1 y.1 z.1), z.2) else none
theorem sliceEnd {A : Around} {Q : Value → Shared → Prop} {value slice : Expr} {a : Addr} {o : Obj} {vs : List Value} {l : List V} {w2 w3 w4 : Value} {i1 i2 i3 : Option Int} (R : MRel c g φ mem s.heap) (q1 : g a = some o) (q2 : SeqObj "list" o vs) (q3 : VRels g φ vs l) (r2 : IsPart w2 i1) (r3 : IsPart w3 i2) (r4 : IsPart w4 i3)
    (hz : l.length ≤ sizeB ∧ i3 ≠ some 0) (P : PostM c g φ mem s (.lst (pickV l i1 i2 i3)) mem Q) (hs : ∀ o i, ∃ ops, subscripted slice false o i = operate ops (getItem o i)) :
    wpAny (model c.prog c.w) A (subscriptTail value slice (.ref a) (.ref s.heap.objs.size)) Q Fls { s with heap := s.heap.push { cls := .type "slice", data := .fields #[w2, w3, w4] } } := by
  have hl := q2.list (R.keep _ _ q1)
  refine (hs (.ref a) (.ref s.heap.objs.size)).elim fun ops hs => ?_
  have hsz := Nat.le_trans (Nat.le_of_eq q3.length) (sizeB_le hz.1)
  refine tail_any (Heap.IsList.typeIs (hl.push _)) list_getitem_lookup (wpAny_getItem_list_slice (hl.push _) (Heap.IsSliceOf.new ..) r2 r3 r4 hz.2 ?_ (by rw [List.size_toArray]; exact hsz)) hs
  have TT := Tr.ext (h' := s.heap.push { cls := .type "slice", data := .fields #[w2, w3, w4] }) R (size_mem _)
  have := PostM.newSeq (ty := "list") TT.rel (q3.pick i1 i2 i3) (fun g' a o => .lst) (P.behind (tk₁ := s.toks) TT) s.toks
  simpa using this
theorem EvOK.slice {e : Expr} {lo hi st : Option Expr} {p pos : Pos} {a : EF} {flo fhi fst : Option EF} (ha : EvOK c n pe e a) (h1 : PartOK c n pe lo flo) (h2 : PartOK c n pe hi fhi) (h3 : PartOK c n pe st fst)
    (hs : ∀ o i, ∃ ops, subscripted (.Slice lo hi st p) false o i = operate ops (getItem o i)) : EvOK c n pe (.Subscript e (.Slice lo hi st p) pos) (sliceX a flo fhi fst) := fun ρ mem v mem' x A g φ s Q hA R P =>
  bindE2 x fun v₁ mem₁ e1 x => bindE2 x fun i1 mem₂ e2 x => bindE2 x fun i2 mem₃ e3 x => bindE2 x fun i3 mem₄ e4 x =>
  Subscript_ (ha ρ mem v₁ mem₁ e1 A g φ s _ hA R fun g1 φ1 h1' tk1 w1 T1 R1 r1 =>
  wpAny_Slice (partRun h1 e2 hA R1 fun g2 φ2 h2' tk2 w2 T2 R2 r2 => partRun h2 e3 hA R2 fun g3 φ3 h3' tk3 w3 T3 R3 r3 => partRun h3 e4 hA R3 fun g4 φ4 h4' tk4 w4 T4 R4 r4 => by
    refine VRel.onLstE (T4.vrel (T3.vrel (T2.vrel r1))) x fun a o vs l q1 q2 q3 x => ifE x fun hz x => ?_
    exact sliceEnd (s := { s with heap := h4', toks := tk4 }) R4.m q1 q2 q3 r2 r3 r4 hz (((((P.of x).behind (tk₁ := tk1) T1 R1).behind (tk₁ := tk2) T2 R2).behind (tk₁ := tk3) T3 R3).behind (tk₁ := tk4) T4 R4 |>.toM R4) hs))

/-! ## Calls -/
noncomputable def callX (f : CF) (args : LF) : EF := fun ρ m => (args ρ m).bind fun r => f r.1 r.2
/-- the arguments of a call, evaluated; no star among them -/
theorem argsRun {A : Around} {es : List Expr} {pos : Pos} {f : Value} {Q : Args → Shared → Prop} (hst : (backTo pos (starEach es pe.env)).any (·.1) = false) (h : wpAny (model c.prog c.w) A (spliced (backTo pos (starEach es pe.env))) (fun vs s₁ => Q ⟨vs, []⟩ s₁) Fls s) :
    wpAny (model c.prog c.w) A (evalArgs f true (backTo pos (starEach es pe.env)) []) Q Fls s := by
  cases hb : backTo pos (starEach es pe.env) with
  | nil =>
    rw [hb] at h
    unfold evalArgs
    show wpAny _ A (spliced [] >>= _) Q Fls s
    refine wpAny_bind (wpAny_mono h (fun vs s' h' => wpAny_bind (wpAny_pure ?_)) fun _ _ x => x)
    refine wpAny_holding ?_
    exact wpAny_bind (wpAny_pure (wpAny_bind (wpAny_pure (wpAny_pure h'))))
  | cons x r =>
    obtain ⟨st, t⟩ := x
    rw [hb] at h hst
    have : st = false := by
      rw [List.any_cons, Bool.or_eq_false_iff] at hst; exact hst.1
    subst this
    exact evalArgs_plain h
/-- a value of a global name that is a function: the road of a call -/
noncomputable def KeepOK (c : Cx) (fv : Value) : Prop := ∀ h, (∀ a o, c.H₀.get? a = some o → h.get? a = some o) → ∃ k, (k = Keeper.frame ∨ k = Keeper.machine ∨ k = Keeper.boundFrame) ∧ Looks (model c.prog c.w) h (keeperOf fv) k
theorem KeepOK.fn (ok : c.Ok) {f : Value} (hk : keepIn c.K f = true) : KeepOK c f := fun h k => keeps_K hk h fun a o e => k a o (ok.K a o e)
theorem KeepOK.plain {f : Value} (h : ∀ a, f ≠ .ref a) : KeepOK c f := fun _ _ => ⟨.machine, .inr (.inl rfl), Looks.of_pure (by cases f <;> first | rfl | exact absurd rfl (h _))⟩
theorem callRun {A : Around} {pos : Pos} {fv : Value} {first : List Value} {es : List Expr} {b : LF} {f : CF} {vs : List V} {mem₁ : List MO} {Q : Value → Shared → Prop} (hb : EvsOK c n pe pos es b) (hst : (backTo pos (starEach es pe.env)).any (·.1) = false)
    (hk : KeepOK c fv) (hf : CallOK c n fv f) {vf : List V} (rf : VRels g φ first vf) (hA : AOk n A) (R : Rel c pe g φ ρ mem s.heap) (e1 : b ρ mem = some (vs, mem₁)) (e2 : f (vf ++ vs) mem₁ = some (v, mem'))
    (P : PostE c pe g φ ρ mem s v mem' Q) : wpAny (model c.prog c.w) A (callWith pos fv first (backTo pos (starEach es pe.env)) []) Q Fls s := by
  refine callWith_of (P := fun h => ∀ a o, c.H₀.get? a = some o → h.get? a = some o) (by rw [hst]; rfl) hk ?_
  refine argsRun hst (hb ρ mem vs mem₁ e1 A g φ s _ hA R fun g1 φ1 h1 tk1 ws T1 R1 r1 => ⟨fun a o e => R1.m.keep a o (R1.m.top a o e), ?_⟩)
  exact hf (vf ++ vs) mem₁ v mem' e2 A g1 φ1 _ _ Q hA R1.m ((T1.vrels rf).append r1) ((P.behind T1 R1).toM R1)
/-- f(..) of a global name -/
theorem EvOK.call {fe : Expr} {es : List Expr} {pos : Pos} {fv : Value} {b : LF} {f : CF} (hfe : EvOK c n pe fe (constX (.raw fv))) (hb : EvsOK c n pe pos es b) (hst : (backTo pos (starEach es pe.env)).any (·.1) = false) (hk : KeepOK c fv) (hf : CallOK c n fv f)
    (hna : eval (.Call fe es [] pos) pe.env = (do callWith pos (← eval fe pe.env) [] (backTo pos (starEach es pe.env)) [])) : EvOK c n pe (.Call fe es [] pos) (callX f b) := fun ρ mem v mem' x A g φ s Q hA R P => by
  refine bindE2 x fun vs mem₁ e1 e2 => ?_
  rw [hna]
  refine wpAny_bind (hfe ρ mem _ mem rfl A g φ s _ hA R fun g1 φ1 h1 tk1 w1 T1 R1 r1 => ?_)
  exact r1.rawE (callRun hb hst hk hf .nil hA R1 e1 e2 (P.behind T1 R1))

/-! ## Methods -/
theorem VRels.one {ws : List Value} {a : V} (r : VRels g φ ws [a]) : ∃ w, ws = [w] ∧ VRel g φ w a := by
  cases r with | cons r1 r => cases r with | nil => exact ⟨_, rfl, r1⟩
theorem VRels.two {ws : List Value} {a b : V} (r : VRels g φ ws [a, b]) : ∃ w u, ws = [w, u] ∧ VRel g φ w a ∧ VRel g φ u b := by
  cases r with | cons r1 r => obtain ⟨u, rfl, r2⟩ := r.one; exact ⟨_, _, rfl, r1, r2⟩
theorem VRels.three {ws : List Value} {a b d : V} (r : VRels g φ ws [a, b, d]) : ∃ w u x, ws = [w, u, x] ∧ VRel g φ w a ∧ VRel g φ u b ∧ VRel g φ x d := by
  cases r with | cons r1 r => obtain ⟨u, x, rfl, r2, r3⟩ := r.two; exact ⟨_, _, _, rfl, r1, r2, r3⟩
noncomputable def MethOK (c : Cx) (n : Nat) (name : Str) (fv : Value) (sel : V → List MO → Bool) : Prop :=
  ∀ u mem, sel u mem = true → ∀ (A : Around) (g : G) (φ : List Addr) (s : Shared) (wu : Value) (Q : Value × List Value → Shared → Prop) (pl : Sem Bool), AOk n A → MRel c g φ mem s.heap → VRel g φ wu u → Q (fv, [wu]) s →
    wpAny (model c.prog c.w) A (getMethod wu name pl) Q Fls s
noncomputable def methX (sel : V → List MO → Bool) (f : CF) (a : EF) (b : LF) : EF := fun ρ m => (a ρ m).bind fun r => if sel r.1 r.2 = true then (b ρ r.2).bind fun q => f (r.1 :: q.1) q.2 else none
theorem EvOK.meth {o : Expr} {name : Str} {apos pos : Pos} {es : List Expr} {fv : Value} {sel : V → List MO → Bool} {f : CF} {a : EF} {b : LF} (ho : EvOK c n pe o a) (hb : EvsOK c n pe pos es b) (hst : (backTo pos (starEach es pe.env)).any (·.1) = false)
    (hm : MethOK c n name fv sel) (hk : KeepOK c fv) (hf : CallOK c n fv f) (hbase : attributeBase o name pe.env (eval o pe.env) = eval o pe.env)
    (hform : methodCallForm (es.length + ([] : List Keyword).length) (backTo pos (starEach es pe.env)) (backToKw pos (keywordEach [] pe.env)) = true) (hline : (apos.endLine == pos.line) = true) :
    EvOK c n pe (.Call (.Attribute o name apos) es [] pos) (methX sel f a b) := fun ρ mem v mem' x A g φ s Q hA R P => by
  refine bindE2 x fun u mem₁ e1 x => ?_
  refine ifE x fun hsel x => bindE2 x fun vs mem₂ e2 e3 => ?_
  · rw [arm_eval_Call, hbase]
    refine wpAny_bind (ho ρ mem u mem₁ e1 A g φ s _ hA R fun g1 φ1 h1 tk1 w1 T1 R1 r1 => wpAny_bind (wpAny_standAt ?_))
    have hpos : methodCallPos true o pe.env apos pos = pure pos := by unfold methodCallPos; simp [hline]
    unfold methodCall
    rw [hform]
    refine wpAny_bind (wpAny_holding (hm u mem₁ hsel A g1 φ1 _ w1 _ _ hA R1.m r1 ?_))
    refine wpAny_bind (wpAny_of_eq hpos ?_)
    exact callRun (vf := [u]) hb hst hk hf (.cons r1 .nil) hA R1 e2 e3 (P.behind T1 R1)
noncomputable def isLst (u : V) (mem : List MO) : Bool := (u.onRef fun k => moL mem[k]? fun _ => some true).getD false
noncomputable def isDicI (u : V) (mem : List MO) : Bool := (u.onRef fun k => moI mem[k]? fun _ => some true).getD false
theorem getDE {o : Option Bool} (e : o.getD false = true) : o = some true := by
  cases o with
  | none => cases e
  | some b => exact congrArg some e
theorem MethOK.list {name : Str} {id : String} (slot : Slot "list" name id) (hty : typeOf (.builtin id) = pure (.type "method_descriptor")) : MethOK c n name (.builtin id) isLst := fun u mem e A g φ s wu Q pl hA R r q => by
  revert q
  refine VRel.onRefE r (getDE e) fun k a ha e => moLE e fun l hm e q => ?_
  obtain ⟨⟨vs, n', e', r'⟩, _⟩ := R.obj _ _ _ hm ha (fun q => by cases q)
  exact getMethod_list_of slot hty (SeqObj.list e' ⟨rfl, n', rfl⟩) ⟨_, e', rfl⟩ q
noncomputable def appendF : CF := fun vs mem => on2 vs fun u v => u.onRef fun k => moL mem[k]? fun l => if l.length ≤ sizeB then some (.none, mem.set k (.lst (l ++ [v]))) else none
theorem appendOK : CallOK c n (.builtin "list.append") appendF := fun vs mem v mem' e A g φ s ws Q hA R r P => by
  refine VRels.on2E r e fun w1 v1 w2 v2 r1 r2 e => VRel.onRefE r1 e fun k a ha e => moLE e fun l hm e => ifE e fun hz e => ?_
  obtain ⟨⟨vs, n', e', r'⟩, _⟩ := R.obj _ _ _ hm ha (fun q => by cases q)
  refine wpAny_list_append_plain ⟨n', e'⟩ (fun h' hl hs => hl.elim fun n2 e2 => ?_) (by rw [List.size_toArray, r'.length]; exact sizeB_le hz)
  have T := Tr.change (o' := .lst (l ++ [v2])) R hm ha (fun q => by cases q) (fun q => by cases q) (fun b x nb e => (hs.2 b nb).trans e) ⟨vs ++ [_], n2, (by rw [e2, ← List.push_toArray]), r'.append (.cons r2 .nil)⟩
  exact P.of e g φ h' s.toks _ T .none
theorem typeIsDict {K : Type} [DecidableEq K] {knd : KeyKind c.prog c.w K} {a : Addr} {kvs : List (K × Value)} (x : s.heap.DictOf knd a kvs) : s.TypeIs (.ref a) "dict" := x.typeIs
theorem MethOK.dict {name : Str} {id : String} (slot : Slot "dict" name id) (hty : typeOf (.builtin id) = pure (.type "method_descriptor")) : MethOK c n name (.builtin id) isDicI := fun u mem e A g φ s wu Q pl hA R r q => by
  revert q
  refine VRel.onRefE r (getDE e) fun k a ha e => moIE e fun l hm e q => ?_
  obtain ⟨⟨kvs, hd, _⟩, _⟩ := R.obj _ _ _ hm ha (fun q => by cases q)
  exact getMethod_builtin hd.typeIs PySem.F.plainAttrs_dict slot hty (fun b hb => by cases hb; obtain ⟨o, es, ep, ho, hx, _⟩ := hd; exact ⟨o, ho, hx.2.1⟩) q
noncomputable def getF : CF := fun vs mem => onCons vs fun u vs => u.onRef fun k => moI mem[k]? fun l => onCons vs fun x vs => x.onInt fun i => match vs with
  | [] => some ((valAt l i).getD .none, mem)
  | [d] => some ((valAt l i).getD d, mem)
  | _ => none
theorem getD_rel {K : Type} [DecidableEq K] {kvs : List (K × Value)} {l : List (K × V)} {w : Value} {d : V} (pr : PairsRel g φ kvs l) (i : K) (r : VRel g φ w d) : VRel g φ ((valueAt kvs i).getD w) ((valAt l i).getD d) := by
  rcases valAt_rel pr i with ⟨e1, e2⟩ | ⟨w1, v1, e1, e2, z⟩
  · rw [e1, e2]; exact r
  · rw [e1, e2]; exact z
theorem getOK : CallOK c n (.builtin "dict.get") getF := fun vs mem v mem' e A g φ s ws Q hA R r P => by
  refine VRels.onConsE r e fun w1 v1 ws vs r1 r e => VRel.onRefE r1 e fun k a ha e => moIE e fun l hm e => VRels.onConsE r e fun w2 v2 ws vs r2 r e => VRel.onIntE r2 e fun i t e => ?_
  obtain ⟨⟨kvs, hd, pr⟩, _⟩ := R.obj _ _ _ hm ha (fun q => by cases q)
  cases r with
  | nil => exact call_meetsIn PySem.F.slot_dict_get hd.typeIs PySem.F.entry_dict_get (PySem.F.args_dict_get_2 _ _) (meets_dict_get (intKind c.prog c.w) _ (intKind_is _ _ i t) (notSys R ha)) ⟨_, hd.mapOf, (P.of e).same R _ (getD_rel pr i .none)⟩
  | cons r3 r => cases r with
    | nil => exact call_meetsIn PySem.F.slot_dict_get hd.typeIs PySem.F.entry_dict_get (PySem.F.args_dict_get_3 _ _ _) (meets_dict_get_default (intKind c.prog c.w) _ (intKind_is _ _ i t) (notSys R ha) _) ⟨_, hd.mapOf, (P.of e).same R _ (getD_rel pr i r3)⟩
    | cons _ _ => cases e
end
end Mine
-- Ops3
namespace Mine
section
variable {c : Cx} {n : Nat} {pe : PE} {g g' : G} {φ φ' : List Addr} {ρ ρ' : Rho} {mem mem' : List MO} {s : Shared} {v : V} {h h' : Heap}

theorem PostM.frozen {Q : Value → Shared → Prop} (R : MRel c g φ mem s.heap) (k : ∀ a o, s.heap.get? a = some o → h'.get? a = some o) {a : Addr} {o : Obj} (hn : s.heap.get? a = none) (ho : h'.get? a = some o)
    (hv : ∀ g' : G, (∀ b x, g b = some x → g' b = some x) → g' a = some o → VRel g' φ (.ref a) v) (P : PostM c g φ mem s v mem Q) (tk : Nat) : Q (.ref a) { s with heap := h', toks := tk } := by
  have T := Tr.freezeNew R k hn ho
  exact P _ φ _ tk _ T (hv _ T.base (gAdd_self _ _ _))
theorem PostM.ext {Q : Value → Shared → Prop} (R : MRel c g φ mem s.heap) (k : ∀ a o, s.heap.get? a = some o → h'.get? a = some o) {wv : Value} (r : VRel g φ wv v) (P : PostM c g φ mem s v mem Q) (tk : Nat) : Q wv { s with heap := h', toks := tk } :=
  P g φ h' tk wv (Tr.ext R k) r
theorem VRels.mono' {ws : List Value} {vs : List V} (r : VRels g φ ws vs) {g' : G} (hg : ∀ b x, g b = some x → g' b = some x) : VRels g' φ ws vs := r.mono hg fun _ _ e => e

/-! ## len -/
noncomputable def lenR (k : Nat) (mem : List MO) : Option (V × List MO) := if k ≤ sizeB then some (.int k, mem) else none
noncomputable def lenF : CF := fun vs mem => on1 vs fun x => match x with
  | .lst l => lenR l.length mem
  | .tup l => lenR l.length mem
  | .set _ l => lenR l.length mem
  | .ref k => moL mem[k]? fun l => lenR l.length mem
  | _ => none
theorem sizeB_63 {k : Nat} (h : k ≤ sizeB) : (k : Int) < 2 ^ 63 := by
  have : sizeB < 2 ^ 63 := by decide +kernel
  omega
theorem lenSeq {A : Around} {Q : Value → Shared → Prop} {a : Addr} {o : Obj} {vs : List Value} {l : List V} (R : MRel c g φ mem s.heap) (h1 : s.heap.get? a = some o) (h2 : SeqObj "list" o vs) (h3 : VRels g φ vs l) (e : lenR l.length mem = some (v, mem')) (P : PostM c g φ mem s v mem' Q) :
    wpAny (model c.prog c.w) A (call (.builtin "len") [.ref a]) Q Fls s := ifE e fun hz e => by
  refine call_len_list (h2.list h1) (by rw [List.size_toArray, h3.length]; exact sizeB_63 hz) ?_
  rw [List.size_toArray, h3.length]
  exact (P.of e).same R _ (.int _ _)
theorem lenOK : CallOK c n (.builtin "len") lenF := fun vs mem v mem' e A g φ s ws Q hA R r P => by
  refine VRels.on1E r e fun w u r1 e => ?_
  cases u with
  | lst l => exact VRel.lstE r1 fun a o vs h1 h2 h3 => lenSeq R (R.keep _ _ h1) h2 h3 e P
  | ref k => exact VRel.refE r1 fun a ha => moLE e fun l hm e => lstOfE (VRel.ref ha) R (lstOf_ref hm) fun a o vs h1 h2 h3 => lenSeq R h1 h2 h3 e P
  | tup l =>
    refine VRel.tupE r1 fun a o vs h1 h2 h3 => ifE e fun hz e => ?_
    refine len_tuple (h2.tup (R.keep _ _ h1)) (by rw [List.size_toArray, h3.length]; exact sizeB_63 hz) ?_
    rw [List.size_toArray, h3.length]
    exact (P.of e).same R _ (.int _ _)
  | set b l =>
    obtain ⟨a, o, rfl, g1, nd, o1, st⟩ := r1.toF
    obtain ⟨hex, es, ep, t, hd, _, _, hn, hf⟩ := o1 c.prog c.w
    refine ifE e fun hz e => call_len_set (R.keep _ _ g1) hex hd hf (by rw [hn]; exact sizeB_63 hz) ?_
    rw [hn]
    exact (P.of e).same R _ (.int _ _)
  | _ => exact noSome e

/-! ## range, int, max, min -/
noncomputable def rangeF : CF := fun vs mem => onCons vs fun x r => x.onInt fun a => match r with
  | [] => some (.rng 0 a, mem)
  | y :: r => y.onInt fun b => onNil r (some (.rng a b, mem))
theorem rangeOK : CallOK c n (.type "range") rangeF := fun vs mem v mem' e A g φ s ws Q hA R r P => by
  refine VRels.onConsE r e fun w1 v1 ws1 vs1 r1 r e => VRel.onIntE r1 e fun a t e => ?_
  cases vs1 with
  | nil => exact VRels.onNilE (o := some ()) r rfl fun _ => call_range_1 ((P.of e).frozen R (size_mem _) (get_size _) (Heap.get?_push_size _ rfl) (fun g' hg e => .rng e) _)
  | cons y vs1 =>
    exact VRels.onConsE (f := fun y r => y.onInt fun b => onNil r (some (.rng a b, mem))) r (show onCons (y :: vs1) (fun y r => y.onInt fun b => onNil r (some (.rng a b, mem))) = some (v, mem') from e) fun w2 v2 ws2 vs2 r2 r e => VRel.onIntE r2 e fun b t2 e => VRels.onNilE r e fun e => call_range_2 ((P.of e).frozen R (size_mem _) (get_size _) (Heap.get?_push_size _ rfl) (fun g' hg e => .rng e) _)
noncomputable def intCallF : CF := fun vs mem => on1 vs fun x => x.onInt fun b => some (.int b, mem)
theorem intCallOK : CallOK c n (.type "int") intCallF := fun vs mem v mem' e A g φ s ws Q hA R r P =>
  VRels.on1E r e fun w u r1 e => VRel.onIntE r1 e fun b t e => call_int_int ((P.of e).same' R (.int _ _))
noncomputable def two (f : Int → Int → Int) : CF := fun vs mem => on2 vs fun x y => x.onInt fun a => y.onInt fun b => some (.int (f a b), mem)
noncomputable def maxF := two fun a b => if b > a then b else a
noncomputable def minF := two fun a b => if b < a then b else a
theorem iteInt {p : Prop} [Decidable p] {a b : Int} {ta tb : Tok} : VRel g φ (if p then .int a ta else .int b tb) (.int (if p then a else b)) := by split <;> exact .int _ _
theorem maxOK : CallOK c n (.builtin "max") maxF := fun vs mem v mem' e A g φ s ws Q hA R r P =>
  VRels.on2E r e fun w1 v1 w2 v2 r1 r2 e => VRel.onIntE r1 e fun a t e => VRel.onIntE r2 e fun b t2 e => max_two_ints hA.1 fun h' tk k => (P.of e).ext R k iteInt _
theorem minOK : CallOK c n (.builtin "min") minF := fun vs mem v mem' e A g φ s ws Q hA R r P =>
  VRels.on2E r e fun w1 v1 w2 v2 r1 r2 e => VRel.onIntE r1 e fun a t e => VRel.onIntE r2 e fun b t2 e => min_two_ints hA.1 fun h' tk k => (P.of e).ext R k iteInt _

/-! ## list(x) -/
noncomputable def lstR (l : List V) (mem : List MO) : Option (V × List MO) := if l.length ≤ sizeB then some (.lst l, mem) else none
noncomputable def listCallF : CF := fun vs mem => on1 vs fun x => match x with
  | .lst l => lstR l mem
  | .tup l => lstR l mem
  | .ref k => moL mem[k]? fun l => lstR l mem
  | _ => none
theorem listSeq {A : Around} {Q : Value → Shared → Prop} {ty : String} (hty : ty = "list" ∨ ty = "tuple") {a : Addr} {o : Obj} {vs : List Value} {l : List V} (R : MRel c g φ mem s.heap) (h1 : s.heap.get? a = some o) (h2 : SeqObj ty o vs) (h3 : VRels g φ vs l) (e : lstR l mem = some (v, mem')) (P : PostM c g φ mem s v mem' Q) :
    wpAny (model c.prog c.w) A (call (.type "list") [.ref a]) Q Fls s := ifE e fun hz e => h2.of fun h2 m h4 => by
  refine call_list_seq a hty h1 h2 h4 (fun h' c' k e' => ?_) (by rw [List.size_toArray, h3.length]; exact sizeB_le hz)
  exact (P.of e).frozen R k (get_size _) e' (fun g' hg e => .lst e ⟨rfl, _, rfl⟩ (h3.mono' hg)) _
theorem listCallOK : CallOK c n (.type "list") listCallF := fun vs mem v mem' e A g φ s ws Q hA R r P => by
  refine VRels.on1E r e fun w u r1 e => ?_
  cases u with
  | lst l => exact VRel.lstE r1 fun a o vs h1 h2 h3 => listSeq (.inl rfl) R (R.keep _ _ h1) h2 h3 e P
  | tup l => exact VRel.tupE r1 fun a o vs h1 h2 h3 => listSeq (.inr rfl) R (R.keep _ _ h1) h2 h3 e P
  | ref k => exact VRel.refE r1 fun a ha => moLE e fun l hm e => lstOfE (VRel.ref ha) R (lstOf_ref hm) fun a o vs h1 h2 h3 => listSeq (.inl rfl) R h1 h2 h3 e P
  | _ => exact noSome e
end
end Mine
-- Loops
namespace Mine
section
variable {c : Cx} {n : Nat} {pe pe' : PE} {g g' : G} {φ φ' : List Addr} {ρ ρ' : Rho} {mem mem' : List MO} {s : Shared} {v : V} {h h' h₁ : Heap}

/-! ## Objects that the relation does not see: iterators, lists in the making -/
structure Off (pe : PE) (g : G) (φ : List Addr) (X : Addr) : Prop where
  g : g X = none
  φ : X ∉ φ
  oc : X ∉ pe.oc
  loc : X ≠ pe.env.locals
  cell : ∀ x, pe.env.cells.lookup x ≠ some X
theorem Off.own {X : Addr} (o : Off pe g φ X) : ¬ OwnE pe φ mem X := by
  rintro (y | y | ⟨k, _, y, _⟩)
  · exact o.loc y
  · exact o.oc y
  · exact o.φ (List.mem_of_getElem? y)
theorem Off.step {X : Addr} {ob : Obj} (o : Off pe g φ X) (e : h.get? X = some ob) (T : TrE pe g φ mem h g' φ' mem' h') : Off pe g' φ' X ∧ h'.get? X = some ob := by
  refine ⟨⟨?_, fun m => ?_, o.oc, o.loc, o.cell⟩, T.keep X ob e o.own⟩
  · cases q : g' X with
    | none => rfl
    | some x =>
      rcases T.new X (.inl (by rw [q]; simp)) with y | y | y
      · exact absurd o.g y
      · exact absurd y o.own
      · rw [e] at y; cases y
  · rcases T.newφ X m with y | y
    · exact o.φ y
    · rw [e] at y; cases y
theorem Rel.touch {X : Addr} (R : Rel c pe g φ ρ mem h) (o : Off pe g φ X) (k : ∀ b x, b ≠ X → h.get? b = some x → h'.get? b = some x) : Rel c pe g φ ρ mem h' := by
  obtain ⟨m, hns, hl⟩ := R.e.loc
  have cu : ∀ b u, h.IsCell b u → b ≠ X → h'.IsCell b u := fun b u hb q => isCell_at hb fun o e => k b o q e
  refine ⟨R.ok, ⟨R.m.top, fun a x e => k a x (fun q => by rw [q, o.g] at e; cases e) (R.m.keep a x e), R.m.len, R.m.nod, fun a m => ?_, R.m.lo, fun i ob a e1 e2 nd => ?_⟩,
    ⟨⟨m, hns.at' fun x e => k _ x (Ne.symm o.loc) e, hl⟩, fun x v hx hv => ?_, R.e.gL, R.e.oL, fun x a hx => ?_, R.e.gC, fun a ha => ?_, R.e.cinj, R.e.pL⟩⟩
  · obtain ⟨x, e⟩ := R.m.alloc a m; exact ⟨x, k a x (fun q => o.φ (q ▸ m)) e⟩
  · obtain ⟨r, z⟩ := R.m.obj i ob a e1 e2 nd
    exact ⟨r.mono (fun _ _ e => e) (fun _ _ e => e) fun x e => k a x (fun q => o.φ (q ▸ List.mem_of_getElem? e2)) e, z⟩
  · obtain ⟨a, w, e, r, q⟩ := R.e.cel x v hx hv
    exact ⟨a, w, e, cu a _ r (fun qq => o.cell x (qq ▸ e)), q⟩
  · obtain ⟨⟨u, r⟩, nn, q⟩ := R.e.cells x a hx
    exact ⟨⟨u, cu a u r fun qq => o.cell x (qq ▸ hx)⟩, nn, q⟩
  · obtain ⟨⟨u, r⟩, nn, q⟩ := R.e.oc a ha
    exact ⟨⟨u, cu a u r fun qq => o.oc (qq ▸ ha)⟩, nn, q⟩
theorem TrE.touch {X : Addr} (T : TrE pe g φ mem h g' φ' mem' h₁) (hX : h.get? X = none) (k : ∀ b x, b ≠ X → h₁.get? b = some x → h'.get? b = some x) : TrE pe g φ mem h g' φ' mem' h' :=
  ⟨T.pre, fun a o e n => k a o (fun q => by rw [q, hX] at e; cases e) (T.keep a o e n), T.base, T.new, T.newφ⟩
/-- an address above all that is there is seen by nobody -/
theorem Rel.off (R : Rel c pe g φ ρ mem h) {X : Addr} (hX : h.get? X = none) : Off pe g φ X := by
  refine ⟨?_, fun m => ?_, fun m => ?_, fun q => ?_, fun x e => ?_⟩
  · cases q : g X with
    | none => rfl
    | some x => rw [R.m.keep X x q] at hX; cases hX
  · obtain ⟨x, e⟩ := R.m.alloc X m; rw [hX] at e; cases e
  · obtain ⟨⟨u, ⟨o, e, _⟩⟩, _⟩ := R.e.oc X m; rw [hX] at e; cases e
  · obtain ⟨_, ⟨o, _, _, e, _⟩, _⟩ := R.e.loc; rw [← q, hX] at e; cases e
  · obtain ⟨⟨u, ⟨o, e', _⟩⟩, _⟩ := R.e.cells x X e; rw [hX] at e'; cases e'
/-- the object in the making becomes a frozen one -/
theorem Tr.adopt {D : Addr} {o : Obj} (T : Tr c g φ mem h g' φ' mem' h') (hD : h.get? D = none) (ho : h'.get? D = some o) (gn : g' D = none) (nφ : D ∉ φ') : Tr c g φ mem h (gAdd g' D o) φ' mem' h' := by
  have gb := gAdd_base g' D o gn
  have R := T.rel
  refine ⟨⟨fun b x e => gb b x (R.top b x e), fun b x e => ?_, R.len, R.nod, R.alloc, R.lo, fun i ob b e1 e2 nd => ?_⟩, T.pre, T.keep, fun a x e => gb a x (T.base a x e), fun b x => ?_, T.newφ⟩
  · unfold gAdd at e
    by_cases q : b = D
    · rw [if_pos q] at e; subst q; cases e; exact ho
    · rw [if_neg q] at e; exact R.keep b x e
  · obtain ⟨r, z⟩ := R.obj i ob b e1 e2 nd
    refine ⟨r.mono gb (fun _ _ e => e) (fun _ e => e), ?_⟩
    unfold gAdd
    by_cases q : b = D
    · subst q; exact absurd (List.mem_of_getElem? e2) nφ
    · rw [if_neg q]; exact z
  · rcases x with x | x
    · unfold gAdd at x
      by_cases q : b = D
      · subst q; exact .inr (.inr hD)
      · rw [if_neg q] at x; exact T.new b (.inl x)
    · exact T.new b (.inr x)
/-- from an inner block of names back to the memory -/
theorem TrE.down (k : ∀ a o, h.get? a = some o → h₁.get? a = some o) (hL : h.get? pe.env.locals = none) (hC : ∀ a ∈ pe.oc, h.get? a = none)
    (T : TrE pe g φ mem h₁ g' φ' mem' h') (R : MRel c g' φ' mem' h') : Tr c g φ mem h g' φ' mem' h' := by
  have back : ∀ a, h₁.get? a = none → h.get? a = none := fun a e => by
    cases q : h.get? a with
    | none => rfl
    | some o => rw [k a o q] at e; cases e
  refine ⟨R, T.pre, fun a o e n => T.keep a o (k a o e) ?_, T.base, fun a x => ?_, fun a m => (T.newφ a m).imp id (back a)⟩
  · rintro (y | y | y)
    · rw [y, hL] at e; cases e
    · rw [hC a y] at e; cases e
    · exact n y
  · rcases T.new a (x.imp id fun y => .inr (.inr y)) with y | (y | y | y) | y
    · exact .inl y
    · exact .inr (.inr (y ▸ hL))
    · exact .inr (.inr (hC a y))
    · exact .inr (.inl y)
    · exact .inr (.inr (back a y))

/-! ## Iterators -/
structure IterAt (c : Cx) (A : Around) (g : G) (φ : List Addr) (I : Addr) (l : List V) (St : Nat → Heap → Prop) (fp : List Addr) : Prop where
  W : Walks c.prog c.w A I fp [I] l.length (fun i x => ∃ u, l[i]? = some u ∧ VRel g φ x u) St
  live : ∀ i h, St i h → ∃ o ty, h.get? I = some o ∧ o.cls = .type ty ∧ ["enumerate", "zip", "dict_itemiterator", "dict_reverseitemiterator", "odict_iterator", "itertools.zip_longest", "itertools.pairwise"].contains ty = false
  fps : ∀ b ∈ fp, b = I ∨ g b ≠ none
noncomputable def itemsOf : V → Option (List V)
  | .lst l => some l
  | .tup l => some l
  | .rng a b => if smallI a && smallI b then some ((List.range (b - a).toNat).map fun i => .int (a + (i : Nat))) else none
  | _ => none
abbrev PostI (c : Cx) (A : Around) (g : G) (φ : List Addr) (s : Shared) (l : List V) (Q : Value → Shared → Prop) : Prop :=
  ∀ St fp oI, IterAt c A g φ s.heap.objs.size l St fp → St 0 (s.heap.push oI) → (s.heap.push oI).get? s.heap.objs.size = some oI → Q (.ref s.heap.objs.size) { s with heap := s.heap.push oI }
theorem PostI.of {A : Around} {l l₁ : List V} {Q : Value → Shared → Prop} (P : PostI c A g φ s l Q) (e : some l₁ = some l) : PostI c A g φ s l₁ Q := by cases e; exact P
theorem IterAt.ofSeq {A : Around} {I a : Addr} {o : Obj} {l : List V} {vs : List Value} {St : Nat → Heap → Prop} (W : Walks c.prog c.w A I [I, a] [I] vs.toArray.size (fun i x => vs.toArray[i]? = some x) St) (r : VRels g φ vs l) (g1 : g a = some o)
    (live : ∀ i h, St i h → ∃ o ty, h.get? I = some o ∧ o.cls = .type ty ∧ ["enumerate", "zip", "dict_itemiterator", "dict_reverseitemiterator", "odict_iterator", "itertools.zip_longest", "itertools.pairwise"].contains ty = false) : IterAt c A g φ I l St [I, a] := by
  rw [show vs.toArray.size = l.length by rw [List.size_toArray, r.length]] at W
  refine ⟨⟨W.sub, W.frame, fun i s Q E hi st hQ => W.item i s Q E hi st fun v h' tk hv => hQ v h' tk (r.get (by simpa using hv)), W.done, W.self⟩, live, fun b hb => ?_⟩
  rcases List.mem_cons.mp hb with q | hb
  · exact .inl q
  · rw [List.mem_singleton.mp hb]; exact .inr (by rw [g1]; simp)
theorem iterRun {A A' : Around} {wv : Value} {l : List V} {E : Value → Shared → Prop} {Q : Value → Shared → Prop} (hh : A'.handled = none) (R : MRel c g φ mem s.heap) (r : VRel g φ wv v) (e : itemsOf v = some l) (P : PostI c A' g φ s l Q) : wpAny (model c.prog c.w) A (pyIter wv) Q E s := by
  cases v with
  | lst l₁ =>
    refine VRel.lstE r fun a o vs g1 o1 r1 => ?_
    have hl := o1.list (R.keep _ _ g1)
    have hne : a ≠ s.heap.objs.size := Nat.ne_of_lt (Heap.lt_size (R.keep _ _ g1))
    exact wpAny_pyIter_list hl (P.of e _ _ _ (IterAt.ofSeq (Walks.list (prog := c.prog) (w := c.w) (A := A') hh s.heap.objs.size a hne vs.toArray) r1 g1 fun i h st => st.1.elim fun o ho => ⟨o, _, ho.1, ho.2.1, by decide +kernel⟩) ⟨⟨_, Heap.get?_push_size _ rfl, rfl, rfl⟩, hl.push _⟩ (Heap.get?_push_size _ rfl))
  | tup l₁ =>
    refine VRel.tupE r fun a o vs g1 o1 r1 => ?_
    have hl := o1.tup (R.keep _ _ g1)
    have hne : a ≠ s.heap.objs.size := Nat.ne_of_lt (Heap.lt_size (R.keep _ _ g1))
    exact wpAny_pyIter_tuple hl (P.of e _ _ _ (IterAt.ofSeq (Walks.tuple (prog := c.prog) (w := c.w) (A := A') hh s.heap.objs.size a hne vs.toArray) r1 g1 fun i h st => st.1.elim fun o ho => ⟨o, _, ho.1, ho.2.1, by decide +kernel⟩) ⟨⟨_, Heap.get?_push_size _ rfl, rfl, rfl⟩, hl.push _⟩ (Heap.get?_push_size _ rfl))
  | rng a b =>
    refine ifE e fun hz e => ?_
    rw [Bool.and_eq_true, smallI_iff, smallI_iff] at hz
    obtain ⟨a', t, u, w, rfl, g1⟩ := r.toF
    have hr : IsRange s.heap a' a b 1 t u w := R.keep _ _ g1
    have hsz : Builtin.Range.rangeSize a b 1 = ((b - a).toNat : Int) := by rw [rangeSize_one]; split <;> omega
    have W := Walks.range (prog := c.prog) (w := c.w) (A := A') hh s.heap.objs.size a 1 (b - a).toNat
    refine wpAny_pyIter_range hr (small_one (by omega) (by omega) (by omega) (by omega)) (P.of e (fun i h => IsRangeIter h s.heap.objs.size (a + (i : Nat) * 1) (((b - a).toNat : Int) - (i : Nat)) 1) [s.heap.objs.size] _ ⟨?_, fun i h st => ⟨_, _, st, rfl, by decide +kernel⟩, fun b hb => .inl (List.mem_singleton.mp hb)⟩ ?_ (Heap.get?_push_size _ rfl))
    · rw [List.length_map, List.length_range]
      exact ⟨W.sub, W.frame, fun i s Q E hi st hQ => W.item i s Q E hi st fun v h' tk hv => hv.elim fun t hv => hQ v h' tk ⟨.int (a + (i : Nat)), by rw [List.getElem?_map, List.getElem?_range hi]; rfl, hv ▸ (Int.mul_one (i : Int)).symm ▸ .int _ _⟩, W.done, W.self⟩
    · show IsRangeIter _ _ _ _ _
      rw [hsz]; simpa using Heap.get?_push_size _ rfl
  | _ => exact noSome e

theorem letGo {A : Around} {I : Addr} {o : Obj} {ty : String} (e : s.heap.get? I = some o) (hc : o.cls = .type ty) (hn : ["enumerate", "zip", "dict_itemiterator", "dict_reverseitemiterator", "odict_iterator", "itertools.zip_longest", "itertools.pairwise"].contains ty = false) {x : Value} {E : Value → Shared → Prop} {Q : Unit → Shared → Prop} (q : Q () s) : wpAny (model c.prog c.w) A (do
      let (.ref r, .ref a) := (Value.ref I, x) | (pure () : Sem Unit)
      let o ← load r
      match o.cls, o.data with
      | .type n, .fields vs =>
        if ["enumerate", "zip", "dict_itemiterator", "dict_reverseitemiterator", "odict_iterator", "itertools.zip_longest", "itertools.pairwise"].contains n && vs[0]? == some (rawInt a) then
          rule "for.unpacks-the-owned-tuple"
          updateField r 0 .none
      | _, _ => pure ()) Q E s := by
  obtain ⟨cls, dd, data, sl⟩ := o
  obtain rfl : cls = .type ty := hc
  cases x with
  | ref a =>
    show wpAny _ _ (load I >>= _) _ _ _
    refine wpAny_bind (wpAny_load e ?_)
    cases data with
    | fields vs =>
      dsimp only
      rw [hn, Bool.false_and]
      exact wpAny_pure q
    | _ => exact wpAny_pure q
  | _ => exact wpAny_pure q
theorem IterAt.go {A : Around} {I : Addr} {l : List V} {St : Nat → Heap → Prop} {fp : List Addr} (it : IterAt c A g φ I l St fp) {i : Nat} (st : St i s.heap) {target : Expr} {x : Value} {E : Value → Shared → Prop} {Q : Unit → Shared → Prop} (q : Q () s) :
    wpAny (model c.prog c.w) A (letOwnedTupleGo target (.ref I) x) Q E s :=
  (it.live i _ st).elim fun o ho => ho.elim fun ty ho => by cases target <;> first | exact letGo ho.1 ho.2.1 ho.2.2 q | exact wpAny_pure q
/-- the next item -/
theorem IterAt.mono {A : Around} {I : Addr} {l : List V} {St : Nat → Heap → Prop} {fp : List Addr} (it : IterAt c A g φ I l St fp) (hg : ∀ a o, g a = some o → g' a = some o) (hφ : ∀ (k : Nat) (a : Addr), φ[k]? = some a → φ'[k]? = some a) : IterAt c A g' φ' I l St fp :=
  ⟨⟨it.W.sub, it.W.frame, fun i s Q E hi st hQ => it.W.item i s Q E hi st fun v h' tk hv => hQ v h' tk (let ⟨u, e, r⟩ := hv; ⟨u, e, r.mono hg hφ⟩), it.W.done, it.W.self⟩, it.live,
    fun b hb => (it.fps b hb).imp id fun q => by cases z : g b with | none => exact absurd z q | some o => rw [hg b o z]; simp⟩
theorem IterAt.step {A : Around} {I : Addr} {l : List V} {St : Nat → Heap → Prop} {fp : List Addr} (it : IterAt c A g φ I l St fp) {i : Nat} (st : St i h) (R : Rel c pe g φ ρ mem h) (o : Off pe g φ I) (T : TrE pe g φ mem h g' φ' mem' h') : IterAt c A g' φ' I l St fp ∧ St i h' := by
  refine ⟨it.mono T.base (pre_get T.pre), it.W.frame i h h' st fun b hb x e => T.keep b x e ?_⟩
  rcases it.fps b hb with q | q
  · subst q; exact o.own
  · exact R.disj q

/-! ## for -/
noncomputable def forX (a : AF) (b : SF) : List V → SF
  | [] => fun ρ m => some (.next, ρ, m)
  | v :: vs => fun ρ m => (a v ρ m).bind fun r => (b r.1 r.2).bind fun q => match q.1 with | .next => forX a b vs q.2.1 q.2.2 | .brk => some (.next, q.2) | .ret v => some (.ret v, q.2)
noncomputable def forS (it : EF) (a : AF) (b : SF) : SF := fun ρ m => (it ρ m).bind fun r => (itemsOf r.1).bind fun l => forX a b l ρ r.2
/-- what feeds a for-loop its items: a state that stays through the body -/
structure Feed (c : Cx) (A : Around) (pe : PE) (I : Addr) (target : Expr) (l : List V) (g₀ : G) (φ₀ : List Addr) (mem₀ : List MO) (h₀ : Heap) (S : Nat → G → List Addr → Heap → Prop) : Prop where
  item : ∀ {i : Nat} {g : G} {φ : List Addr} {ρ : Rho} {mem : List MO} {s : Shared} {Q : Fin → Shared → Prop} {E : Value → Shared → Prop} {N : Sem Fin} {K : Value → Sem Fin} {f : Value → Sem Unit}, i ≤ l.length → S i g φ s.heap → TrE pe g₀ φ₀ mem₀ h₀ g φ mem s.heap → Rel c pe g φ ρ mem s.heap →
    (∀ g' h' tk wv u, l[i]? = some u → TrE pe g₀ φ₀ mem₀ h₀ g' φ mem h' → Rel c pe g' φ ρ mem h' → VRel g' φ wv u → S (i + 1) g' φ h' → wpAny (model c.prog c.w) A (K wv) Q E { s with heap := h', toks := tk }) →
    (∀ h' tk, l.length = i → TrE pe g₀ φ₀ mem₀ h₀ g φ mem h' → Rel c pe g φ ρ mem h' → wpAny (model c.prog c.w) A N Q E { s with heap := h', toks := tk }) →
    wpAny (model c.prog c.w) A ((pyNext (.ref I)).onRaise f >>= fun r => match r with | Option.none => N | some v => letOwnedTupleGo target (.ref I) v >>= fun _ => K v) Q E s
  adv : ∀ {i : Nat} {g g' : G} {φ φ' : List Addr} {ρ ρ' : Rho} {mem mem' : List MO} {h h' : Heap}, S i g φ h → Rel c pe g φ ρ mem h → TrE pe g φ mem h g' φ' mem' h' → Rel c pe g' φ' ρ' mem' h' → S i g' φ' h'
inductive ForI (c : Cx) (pe : PE) (g₀ : G) (φ₀ : List Addr) (mem₀ : List MO) (h₀ : Heap) (S : Nat → G → List Addr → Heap → Prop) (f : List V → SF) (l : List V) (r : Fl × Rho × List MO) (s : Shared) : Nat → Shared → Prop
  | mk {k i : Nat} {g : G} {φ : List Addr} {ρ : Rho} {mem : List MO} {h : Heap} {tk : Nat} : k + i = l.length → TrE pe g₀ φ₀ mem₀ h₀ g φ mem h → Rel c pe g φ ρ mem h → S i g φ h → f (l.drop i) ρ mem = some r → ForI c pe g₀ φ₀ mem₀ h₀ S f l r s k { s with heap := h, toks := tk }
theorem drop_at {l : List V} {i : Nat} {u : V} (h : l[i]? = some u) : l.drop i = u :: l.drop (i + 1) := by
  have hi := (List.getElem?_eq_some_iff.mp h).1
  rw [List.drop_eq_getElem_cons hi]
  congr 1
  rw [List.getElem?_eq_getElem hi] at h
  exact Option.some.inj h
noncomputable def ForQ (c : Cx) (A : Around) (cd : Code) (R : Result → Shared → Prop) (J : Nat → Shared → Prop) (k : Nat) : Fin → Shared → Prop := fun fin s' => match fin with
  | .done f => R (.ok f) s'
  | .again c' => (c' = cd ∧ ∃ m, m < k ∧ J m s') ∨ (c'.quiet = true ∧ codeAny (model c.prog c.w) A c' R s')
section
variable {A : Around} {target : Expr} {body : List Stmt} {I : Addr} {l : List V} {g₀ : G} {φ₀ : List Addr} {mem₀ : List MO} {S : Nat → G → List Addr → Heap → Prop} {a : AF} {b : SF} {fl : Fl} {Q : Flow → Shared → Prop} {E : Value → Shared → Prop}
/-- the body of a turn -/
theorem forBody (F : Feed c A pe I target l g₀ φ₀ mem₀ s.heap S) (ha : AsgOK c n pe target a) (hb : ExOK c n pe body b) (hA : AOk n A) (P : PostS c pe g₀ φ₀ mem₀ s fl ρ' mem' Q) {R : Result → Shared → Prop} (hR : ∀ f s', Q f s' → R (.ok f) s') {J : Nat → Shared → Prop} {k i : Nat} {s₁ : Shared} {wv : Value} {u : V}
    (hs : s₁ = { s with heap := s₁.heap, toks := s₁.toks }) (T : TrE pe g₀ φ₀ mem₀ s.heap g φ mem s₁.heap) (R1 : Rel c pe g φ ρ mem s₁.heap) (r : VRel g φ wv u) (st : S i g φ s₁.heap) {rest : List V} (x : forX a b (u :: rest) ρ mem = some (fl, ρ', mem'))
    (hJ : ∀ {g' φ' ρ₁ mem₁ h' tk}, TrE pe g₀ φ₀ mem₀ s.heap g' φ' mem₁ h' → Rel c pe g' φ' ρ₁ mem₁ h' → S i g' φ' h' → forX a b rest ρ₁ mem₁ = some (fl, ρ', mem') → ∃ m, m < k ∧ J m { s with heap := h', toks := tk }) :
    wpAny (model c.prog c.w) A (assign target pe.env wv >>= fun _ => execs body pe.env >>= fun f => match f with
      | .next | .cont => again (.forLoop target (.ref I) body [] pe.env)
      | .brk => pure (.done .next)
      | .ret v => pure (.done (.ret v))) (ForQ c A (.forLoop target (.ref I) body [] pe.env) R J k) E s₁ := by
  refine bindE2 x fun ρ₄ mem₄ e4 x => wpAny_bind (fls_noted (ha u ρ mem ρ₄ mem₄ e4 A g φ _ _ wv hA R1 r fun g4 φ4 h4 tk4 T4 R4 => ?_))
  refine bindE3 x fun fl₅ ρ₅ mem₅ e5 x => wpAny_bind (fls_noted (hb ρ₄ mem₄ fl₅ ρ₅ mem₅ e5 A g4 φ4 _ _ hA R4 fun g5 φ5 h5 tk5 wf T5 R5 r5 => ?_))
  have T5' := (T.trans R1 T4).trans R4 T5
  rw [hs]
  cases r5 with
  | next => exact wpAny_pure (.inl ⟨rfl, hJ T5' R5 (F.adv (F.adv st R1 T4 R4) R4 T5 R5) x⟩)
  | brk => exact wpAny_pure (hR _ _ (P.of x g5 φ5 h5 tk5 _ T5' R5 .next))
  | ret r => exact wpAny_pure (hR _ _ (P.of x g5 φ5 h5 tk5 _ T5' R5 (.ret r)))
theorem forTurnRun (F : Feed c A pe I target l g₀ φ₀ mem₀ s.heap S) (ha : AsgOK c n pe target a) (hb : ExOK c n pe body b) (hA : AOk n A) (P : PostS c pe g₀ φ₀ mem₀ s fl ρ' mem' Q) {R : Result → Shared → Prop} (hR : ∀ f s', Q f s' → R (.ok f) s') {k : Nat} {s₁ : Shared}
    (J : ForI c pe g₀ φ₀ mem₀ s.heap S (forX a b) l (fl, ρ', mem') s k s₁) : wpAny (model c.prog c.w) A (forTurn target (.ref I) body [] pe.env) (ForQ c A (.forLoop target (.ref I) body [] pe.env) R (ForI c pe g₀ φ₀ mem₀ s.heap S (forX a b) l (fl, ρ', mem') s) k) E s₁ := by
  cases J with | mk hk T R1 st x =>
  unfold forTurn
  refine wpAny_bind (wpAny_standAt (F.item (by omega) st T R1 (fun g' h' tk wv u hu T R2 r st => ?_) fun h' tk hl T R2 => ?_))
  · rw [drop_at hu] at x
    have hi := (List.getElem?_eq_some_iff.mp hu).1
    exact forBody F ha hb hA P hR rfl T R2 r st x fun T R st x => ⟨k - 1, by omega, .mk (by omega) T R st x⟩
  · rw [← hl, List.drop_length] at x
    exact wpAny_pure (.inr ⟨rfl, codeAny_block (wpAny_execs_nil (hR _ _ (P.of x _ _ h' tk _ T R2 .next)))⟩)
theorem forDrive (F : Feed c A pe I target l g₀ φ₀ mem₀ s.heap S) (ha : AsgOK c n pe target a) (hb : ExOK c n pe body b) (hA : AOk n A) (P : PostS c pe g₀ φ₀ mem₀ s fl ρ' mem' Q) {R : Result → Shared → Prop} (hR : ∀ f s', Q f s' → R (.ok f) s')
    (T : TrE pe g₀ φ₀ mem₀ s.heap g φ mem h) (R1 : Rel c pe g φ ρ mem h) (st : S 0 g φ h) (x : forX a b l ρ mem = some (fl, ρ', mem')) (tk : Nat) : codeAny (model c.prog c.w) A (.forLoop target (.ref I) body [] pe.env) R { s with heap := h, toks := tk } :=
  codeAny_loop' rfl (ForI c pe g₀ φ₀ mem₀ s.heap S (forX a b) l (fl, ρ', mem') s) (fun k s₁ J => wpAny_noted (forTurnRun F ha hb hA P hR J)) l.length (.mk rfl T R1 st x)
end
theorem feedList {A : Around} {target : Expr} {l : List V} {I : Addr} {g₀ : G} {φ₀ : List Addr} {mem₀ : List MO} {h₀ : Heap} {St : Nat → Heap → Prop} {fp : List Addr} (hI : h₀.get? I = none) : Feed c A pe I target l g₀ φ₀ mem₀ h₀ (fun i g φ h => IterAt c A g φ I l St fp ∧ St i h ∧ Off pe g φ I) where
  item := fun {i g φ ρ mem s Q E N K f} hi st T R1 k1 k2 => by
    refine wpAny_bind (wpAny_onRaise ?_)
    by_cases hl : i < l.length
    · refine st.1.W.item i _ _ _ hl st.2.1 fun wv h3 tk3 hv st3 k3 => hv.elim fun u hu => ?_
      have k3' : ∀ b x, b ≠ I → s.heap.get? b = some x → h3.get? b = some x := fun b x q => k3 b x (fun m => q (List.mem_singleton.mp m))
      exact wpAny_bind (st.1.go st3 (k1 g h3 tk3 wv u hu.1 (T.touch hI k3') (R1.touch st.2.2 k3') hu.2 ⟨st.1, st3, st.2.2⟩))
    · have hl : l.length = i := by omega
      refine st.1.W.done _ _ _ (hl ▸ st.2.1) fun h3 tk3 k3 => ?_
      have k3' : ∀ b x, b ≠ I → s.heap.get? b = some x → h3.get? b = some x := fun b x q => k3 b x (fun m => q (List.mem_singleton.mp m))
      exact k2 h3 tk3 hl (T.touch hI k3') (R1.touch st.2.2 k3')
  adv := fun {i g g' φ φ' ρ ρ' mem mem' h h'} st R1 T R2 => by
    refine (st.1.live i h st.2.1).elim fun o ho => ho.elim fun ty ho => ?_
    have z := st.1.step st.2.1 R1 st.2.2 T
    exact ⟨z.1, z.2, (st.2.2.step ho.1 T).1⟩
theorem StOK.for {target iter : Expr} {body : List Stmt} {pos : Pos} {it : EF} {a : AF} {b : SF} (hit : EvOK c n pe iter it) (ha : AsgOK c n pe target a) (hb : ExOK c n pe body b) (hs : ∀ x, foldedSetIterable iter pe.env x = pure x) :
    StOK c n pe (.For target iter body [] pos) (forS it a b) := fun ρ mem fl ρ' mem' x A g φ s Q hA R P => by
  refine bindE2 x fun v mem₁ e1 x => bindE x fun l e2 x => ?_
  refine wpAny_For (hit ρ mem v mem₁ e1 A g φ s _ hA R fun g1 φ1 h1 tk1 w1 T1 R1 r1 => ?_) hs
  refine iterRun (A := A) (A' := A) hA.1 R1.m r1 e2 fun St fp oI IT st eI => ?_
  have k0 : ∀ b x, b ≠ h1.objs.size → h1.get? b = some x → (h1.push oI).get? b = some x := fun b x _ e => Heap.get?_push_of_some _ e
  have off := R1.off (get_size h1)
  exact forDrive (s := { s with heap := h1, toks := tk1 }) (feedList (get_size h1)) ha hb hA (P.behind T1 R1) (fun f s' q => q) (TrE.refl.touch (get_size h1) k0) (R1.touch off k0) ⟨IT, st, off⟩ x tk1
end
end Mine
-- CompA
namespace Mine
noncomputable def ifsRun (ifs : List Expr) (env : Env) : Sem Bool := forIn ifs true fun c r => if r = true then do let ok ← isTrue c env (eval c env); pure (ForInStep.yield ok) else pure (ForInStep.yield r)
noncomputable def emitRun (elt : Expr) (env : Env) (acc : Value) (k : Sem Fin) : Sem Fin := (do let _ ← call (.builtin "list.append") [acc, ← eval elt env]) >>= fun (_ : Unit) => k
noncomputable def nestRun (e : Expr) (g : Comprehension) (d : Nat) (env : Env) (acc : Value) (k : Sem Fin) : Sem Fin :=
  eval g.iter env >>= fun x => standAt g.iter.pos >>= fun _ => foldedSetIterable g.iter env x >>= fun x => holding [x] (pyIter x) >>= fun it => runOwn (.compStart e d it acc env) env >>= fun _ => k
noncomputable def turnRun (target iter : Expr) (ifs : List Expr) (env : Env) (it : Value) (inner : Sem Fin → Sem Fin) (again : Sem Fin) : Sem Fin :=
  standAt iter.pos >>= fun _ => pyNext it >>= fun r => match r with
    | none => pure (.done .next)
    | some v => letOwnedTupleGo target it v >>= fun _ => assign target env v >>= fun _ => ifsRun ifs env >>= fun ok => if ok = true then inner again else again
theorem turn1 (elt : Expr) (target iter : Expr) (ifs : List Expr) (scope : Scope) (pos : Pos) (it acc : Value) (env : Env) :
    compTurn (.ListComp elt [⟨target, iter, ifs, 0⟩] scope pos) 0 it acc env = turnRun target iter ifs env it (emitRun elt env acc) (again (.compLoop (.ListComp elt [⟨target, iter, ifs, 0⟩] scope pos) 0 it acc env)) := by rfl
theorem turn2a (elt : Expr) (target iter : Expr) (ifs : List Expr) (target' iter' : Expr) (ifs' : List Expr) (scope : Scope) (pos : Pos) (it acc : Value) (env : Env) :
    compTurn (.ListComp elt [⟨target, iter, ifs, 0⟩, ⟨target', iter', ifs', 0⟩] scope pos) 0 it acc env = turnRun target iter ifs env it (nestRun (.ListComp elt [⟨target, iter, ifs, 0⟩, ⟨target', iter', ifs', 0⟩] scope pos) ⟨target', iter', ifs', 0⟩ 1 env acc) (again (.compLoop (.ListComp elt [⟨target, iter, ifs, 0⟩, ⟨target', iter', ifs', 0⟩] scope pos) 0 it acc env)) := by rfl
theorem turn2b (elt : Expr) (target iter : Expr) (ifs : List Expr) (target' iter' : Expr) (ifs' : List Expr) (scope : Scope) (pos : Pos) (it acc : Value) (env : Env) :
    compTurn (.ListComp elt [⟨target, iter, ifs, 0⟩, ⟨target', iter', ifs', 0⟩] scope pos) 1 it acc env = turnRun target' iter' ifs' env it (emitRun elt env acc) (again (.compLoop (.ListComp elt [⟨target, iter, ifs, 0⟩, ⟨target', iter', ifs', 0⟩] scope pos) 1 it acc env)) := by rfl
end Mine
-- CompB
namespace Mine
abbrev CB := Rho → List MO → List V → Option (Rho × List MO × List V)
section
variable {c : Cx} {n : Nat} {pe pe' : PE} {g g' g₀ g₁ g₂ : G} {φ φ' φ₀ φ₁ φ₂ : List Addr} {ρ ρ' : Rho} {mem mem' mem₀ : List MO} {s : Shared} {v : V} {h h' h₀ h₁ h₂ : Heap} {acc acc' : List V} {D : Addr}

theorem TrE.back (T : TrE pe g₀ φ₀ mem₀ h₀ g φ mem h) (R : Rel c pe g φ ρ mem h) {a : Addr} (e : h.get? a = none) : h₀.get? a = none := by
  cases q : h₀.get? a with
  | none => rfl
  | some o =>
    by_cases z : OwnE pe φ₀ mem₀ a
    · rcases z with z | z | ⟨k, _, z, _⟩
      · obtain ⟨_, ⟨o', _, _, e', _⟩, _⟩ := R.e.loc; rw [← z, e] at e'; cases e'
      · obtain ⟨⟨_, ⟨o', e', _⟩⟩, _⟩ := R.e.oc a z; rw [e] at e'; cases e'
      · obtain ⟨o', e'⟩ := R.m.alloc a (List.mem_of_getElem? (pre_get T.pre k a z)); rw [e] at e'; cases e'
    · rw [T.keep a o q z] at e; cases e

structure CSt (c : Cx) (pe : PE) (g₀ : G) (φ₀ : List Addr) (mem₀ : List MO) (h₀ : Heap) (D : Addr) (g : G) (φ : List Addr) (ρ : Rho) (mem : List MO) (acc : List V) (h : Heap) : Prop where
  T : TrE pe g₀ φ₀ mem₀ h₀ g φ mem h
  R : Rel c pe g φ ρ mem h
  D0 : h₀.get? D = none
  off : Off pe g φ D
  lst : ∃ vs k, h.get? D = some (listOf vs.toArray k) ∧ VRels g φ vs acc
structure Nx (pe : PE) (ex : List Addr) (g : G) (φ : List Addr) (h : Heap) (g' : G) (φ' : List Addr) (h' : Heap) : Prop where
  base : ∀ a o, g a = some o → g' a = some o
  pre : φ <+: φ'
  off : ∀ X o, X ∉ ex → Off pe g φ X → h.get? X = some o → Off pe g' φ' X ∧ h'.get? X = some o
theorem Nx.trans {ex : List Addr} (a : Nx pe ex g φ h g₁ φ₁ h₁) (b : Nx pe ex g₁ φ₁ h₁ g' φ' h') : Nx pe ex g φ h g' φ' h' :=
  ⟨fun x o e => b.base x o (a.base x o e), a.pre.trans b.pre, fun X o nx of e => let ⟨of', e'⟩ := a.off X o nx of e; b.off X o nx of' e'⟩
theorem Nx.more {ex ex' : List Addr} (a : Nx pe ex g φ h g' φ' h') (s : ∀ x ∈ ex, x ∈ ex') : Nx pe ex' g φ h g' φ' h' := ⟨a.base, a.pre, fun X o nx => a.off X o fun m => nx (s X m)⟩
theorem TrE.nx (T : TrE pe g φ mem h g' φ' mem' h') (ex : List Addr) : Nx pe ex g φ h g' φ' h' := ⟨T.base, T.pre, fun _ _ _ of e => of.step e T⟩
theorem Nx.touch {ex : List Addr} (k : ∀ b x, b ∉ ex → h.get? b = some x → h'.get? b = some x) : Nx pe ex g φ h g φ h' := ⟨fun _ _ e => e, List.prefix_refl _, fun X o nx of e => ⟨of, k X o nx e⟩⟩
theorem CSt.step (C : CSt c pe g₀ φ₀ mem₀ h₀ D g φ ρ mem acc h) (T : TrE pe g φ mem h g' φ' mem' h') (R : Rel c pe g' φ' ρ' mem' h') : CSt c pe g₀ φ₀ mem₀ h₀ D g' φ' ρ' mem' acc h' :=
  C.lst.elim fun vs x => x.elim fun k e => ⟨C.T.trans C.R T, R, C.D0, (C.off.step e.1 T).1, vs, k, (C.off.step e.1 T).2, T.vrels e.2⟩
theorem CSt.touch {X : Addr} (C : CSt c pe g₀ φ₀ mem₀ h₀ D g φ ρ mem acc h) (of : Off pe g φ X) (hX : h₀.get? X = none) (ne : X ≠ D) (k : ∀ b x, b ≠ X → h.get? b = some x → h'.get? b = some x) : CSt c pe g₀ φ₀ mem₀ h₀ D g φ ρ mem acc h' :=
  C.lst.elim fun vs x => x.elim fun m e => ⟨C.T.touch hX k, C.R.touch of k, C.D0, C.off, vs, m, k D _ (Ne.symm ne) e.1, e.2⟩
abbrev PostB (c : Cx) (pe : PE) (g₀ : G) (φ₀ : List Addr) (mem₀ : List MO) (h₀ : Heap) (D : Addr) (ex : List Addr) (g : G) (φ : List Addr) (s : Shared) (ρ' : Rho) (mem' : List MO) (acc' : List V) (K : Shared → Prop) : Prop :=
  ∀ g' φ' h' tk, CSt c pe g₀ φ₀ mem₀ h₀ D g' φ' ρ' mem' acc' h' → Nx pe ex g φ s.heap g' φ' h' → K { s with heap := h', toks := tk }
theorem PostB.of {ex : List Addr} {ρ₁ : Rho} {mem₁ : List MO} {acc₁ : List V} {K : Shared → Prop} (P : PostB c pe g₀ φ₀ mem₀ h₀ D ex g φ s ρ' mem' acc' K) (e : some (ρ₁, mem₁, acc₁) = some (ρ', mem', acc')) : PostB c pe g₀ φ₀ mem₀ h₀ D ex g φ s ρ₁ mem₁ acc₁ K := by cases e; exact P

/-! ## Tests -/
noncomputable def TsOK (c : Cx) (n : Nat) (pe : PE) (ifs : List Expr) (t : TF) : Prop :=
  ∀ ρ mem b mem', t ρ mem = some (b, mem') → ∀ (A : Around) (g : G) (φ : List Addr) (s : Shared) (Q : Bool → Shared → Prop), AOk n A → Rel c pe g φ ρ mem s.heap →
    PostT c pe g φ ρ mem s b mem' Q → wpAny (model c.prog c.w) A (ifsRun ifs pe.env) Q Fls s
noncomputable def trueT : TF := fun _ m => some (true, m)
theorem TsOK.nil : TsOK c n pe [] trueT := fun ρ mem b mem' x A g φ s Q hA R P => by
  exact wpAny_pure (P.of x g φ s.heap s.toks .refl R)
theorem TsOK.one {e : Expr} {t : TF} (ht : TeOK c n pe e t) : TsOK c n pe [e] t := fun ρ mem b mem' x A g φ s Q hA R P => by
  unfold ifsRun
  rw [List.forIn_cons]
  simp only [if_true]
  refine wpAny_bind (wpAny_bind (ht ρ mem b mem' x A g φ s _ hA R fun g' φ' h' tk T R' => wpAny_pure ?_))
  dsimp only
  rw [List.forIn_nil]
  exact wpAny_pure (P g' φ' h' tk T R')

/-! ## What a turn does behind its tests -/
noncomputable def InOK (c : Cx) (n : Nat) (pe : PE) (t : Value → Sem Fin → Sem Fin) (body : CB) : Prop :=
  ∀ ρ mem acc ρ' mem' acc', body ρ mem acc = some (ρ', mem', acc') → ∀ (A : Around) (g₀ : G) (φ₀ : List Addr) (mem₀ : List MO) (h₀ : Heap) (D : Addr) (g : G) (φ : List Addr) (s : Shared) (k : Sem Fin) (Q : Fin → Shared → Prop) (E : Value → Shared → Prop),
    AOk n A → CSt c pe g₀ φ₀ mem₀ h₀ D g φ ρ mem acc s.heap →
    PostB c pe g₀ φ₀ mem₀ h₀ D [D] g φ s ρ' mem' acc' (fun s' => wpAny (model c.prog c.w) A k Q E s') → wpAny (model c.prog c.w) A (t (.ref D) k) Q E s
noncomputable def emitB (f : EF) : CB := fun ρ m acc => (f ρ m).bind fun r => if acc.length ≤ sizeB then some (ρ, r.2, acc ++ [r.1]) else none
theorem CSt.push (C : CSt c pe g₀ φ₀ mem₀ h₀ D g φ ρ mem acc h) {w : Value} {n2 : Nat} {vs : List Value} (rs : VRels g φ vs acc) (r : VRel g φ w v) (e2 : h'.get? D = some (listOf (vs.toArray.push w) n2)) (k' : ∀ b x, b ≠ D → h.get? b = some x → h'.get? b = some x) :
    CSt c pe g₀ φ₀ mem₀ h₀ D g φ ρ mem (acc ++ [v]) h' := ⟨C.T.touch C.D0 k', C.R.touch C.off k', C.D0, C.off, vs ++ [w], n2, by rw [e2, ← List.push_toArray], rs.append (.cons r .nil)⟩
theorem InOK.emit {elt : Expr} {f : EF} (hf : EvOK c n pe elt f) : InOK c n pe (emitRun elt pe.env) (emitB f) := fun ρ mem acc ρ' mem' acc' x A g₀ φ₀ mem₀ h₀ D g φ s k Q E hA C P => by
  refine bindE2 x fun v mem₁ e1 x => ifE x fun hz x => ?_
  unfold emitRun
  refine wpAny_bind (wpAny_bind (fls_noted (hf ρ mem v _ e1 A g φ s _ hA C.R fun g1 φ1 h1 tk1 w1 T1 R1 r1 => ?_)))
  have C1 := C.step T1 R1
  refine C1.lst.elim fun vs y => y.elim fun kk y => ?_
  refine wpAny_bind (wpAny_list_append_plain ⟨kk, y.1⟩ (fun h' hl hs => hl.elim fun n2 e2 => wpAny_pure ?_) (by rw [List.size_toArray, y.2.length]; exact sizeB_le hz))
  have k' : ∀ b x, b ≠ D → h1.get? b = some x → h'.get? b = some x := fun b x nb e => (hs.2 b nb).trans e
  exact P.of x g1 φ1 h' tk1 (C1.push y.2 r1 e2 k') ((T1.nx _).trans (Nx.touch fun b x nb e => k' b x (fun q => nb (q ▸ List.mem_singleton.mpr rfl)) e))

/-! ## Loops of a comprehension -/
noncomputable def loopB (a : AF) (t : TF) (b : CB) : List V → CB
  | [] => fun ρ m acc => some (ρ, m, acc)
  | v :: vs => fun ρ m acc => (a v ρ m).bind fun r => (t r.1 r.2).bind fun q => if q.1 = true then (b r.1 q.2 acc).bind fun z => loopB a t b vs z.1 z.2.1 z.2.2 else loopB a t b vs r.1 q.2 acc
noncomputable def LpOK (c : Cx) (n : Nat) (pe : PE) (e : Expr) (d : Nat) (f : List V → CB) : Prop :=
  ∀ l ρ mem acc ρ' mem' acc', f l ρ mem acc = some (ρ', mem', acc') → ∀ (A : Around) (g₀ : G) (φ₀ : List Addr) (mem₀ : List MO) (h₀ : Heap) (D I : Addr) (g : G) (φ : List Addr) (s : Shared) (R : Result → Shared → Prop) (St : Nat → Heap → Prop) (fp : List Addr),
    AOk n A → CSt c pe g₀ φ₀ mem₀ h₀ D g φ ρ mem acc s.heap → IterAt c A g φ I l St fp → St 0 s.heap → Off pe g φ I → I ≠ D → h₀.get? I = none →
    PostB c pe g₀ φ₀ mem₀ h₀ D [D, I] g φ s ρ' mem' acc' (fun s' => R (.ok .next) s') → codeAny (model c.prog c.w) A (.compLoop e d (.ref I) (.ref D) pe.env) R s
theorem IterAt.nx {A : Around} {I : Addr} {l : List V} {St : Nat → Heap → Prop} {fp : List Addr} (it : IterAt c A g φ I l St fp) {i : Nat} (st : St i h) (M : MRel c g φ mem h) (M' : MRel c g' φ' mem' h') (N : Nx pe [D] g φ h g' φ' h') (of : Off pe g φ I) (ne : I ≠ D) : IterAt c A g' φ' I l St fp ∧ St i h' ∧ Off pe g' φ' I := by
  refine (it.live i h st).elim fun o x => x.elim fun _ x => ?_
  have y := N.off I o (fun m => ne (List.mem_singleton.mp m)) of x.1
  refine ⟨it.mono N.base (pre_get N.pre), it.W.frame i h h' st fun b hb x' ex => ?_, y.1⟩
  rcases it.fps b hb with q | q
  · exact q ▸ (Option.some.inj (x.1.symm.trans (q ▸ ex))) ▸ y.2
  · cases z : g b with
    | none => exact absurd z q
    | some y => exact (Option.some.inj ((M.keep b y z).symm.trans ex)) ▸ M'.keep b y (N.base b y z)
inductive LpI (c : Cx) (A : Around) (pe : PE) (g₀ : G) (φ₀ : List Addr) (mem₀ : List MO) (h₀ : Heap) (D I : Addr) (g : G) (φ : List Addr) (St : Nat → Heap → Prop) (fp : List Addr) (f : List V → CB) (l : List V) (r : Rho × List MO × List V) (s : Shared) : Nat → Shared → Prop
  | mk {k i : Nat} {g₁ : G} {φ₁ : List Addr} {ρ : Rho} {mem : List MO} {acc : List V} {h : Heap} {tk : Nat} : k + i = l.length → CSt c pe g₀ φ₀ mem₀ h₀ D g₁ φ₁ ρ mem acc h → Nx pe [D, I] g φ s.heap g₁ φ₁ h → IterAt c A g₁ φ₁ I l St fp → St i h → Off pe g₁ φ₁ I → f (l.drop i) ρ mem acc = some r →
    LpI c A pe g₀ φ₀ mem₀ h₀ D I g φ St fp f l r s k { s with heap := h, toks := tk }
section
variable {A : Around} {I : Addr} {l : List V} {St : Nat → Heap → Prop} {fp : List Addr} {target iter : Expr} {ifs : List Expr} {a : AF} {t : TF} {b : CB} {inner : Value → Sem Fin → Sem Fin} {R : Result → Shared → Prop} {E : Value → Shared → Prop} {cd : Code}
theorem Nx.touchI {h₁ : Heap} (N : Nx pe [D, I] g φ h g₁ φ₁ h₁) (k : ∀ b x, b ≠ I → h₁.get? b = some x → h'.get? b = some x) : Nx pe [D, I] g φ h g₁ φ₁ h' :=
  N.trans (Nx.touch fun b x q => k b x fun e => q (e ▸ List.mem_cons_of_mem _ (List.mem_singleton.mpr rfl)))
/-- a turn behind its item -/
theorem lpBody (ha : AsgOK c n pe target a) (ht : TsOK c n pe ifs t) (hb : InOK c n pe inner b) (hA : AOk n A) (ne : I ≠ D) {k i : Nat} {tk : Nat} {wv : Value} {u : V} (hk : k + i = l.length) (hi : i < l.length) (C : CSt c pe g₀ φ₀ mem₀ h₀ D g₁ φ₁ ρ mem acc h) (N : Nx pe [D, I] g φ s.heap g₁ φ₁ h) (IT : IterAt c A g₁ φ₁ I l St fp) (st : St (i + 1) h) (of : Off pe g₁ φ₁ I) (r : VRel g₁ φ₁ wv u) {res : Rho × List MO × List V}
    (x : loopB a t b (u :: l.drop (i + 1)) ρ mem acc = some res) :
    wpAny (model c.prog c.w) A (assign target pe.env wv >>= fun _ => ifsRun ifs pe.env >>= fun ok => if ok = true then inner (.ref D) (again cd) else again cd) (ForQ c A cd R (LpI c A pe g₀ φ₀ mem₀ h₀ D I g φ St fp (loopB a t b) l res s) k) E { s with heap := h, toks := tk } := by
  refine bindE2 x fun ρ₄ mem₄ e4 x => wpAny_bind (fls_noted (ha u ρ mem ρ₄ mem₄ e4 A g₁ φ₁ _ _ wv hA C.R r fun g4 φ4 h4 tk4 T4 R4 => ?_))
  have C4 := C.step T4 R4
  have I4 := IT.nx st C.R.m R4.m (T4.nx [D]) of ne
  refine bindE2 x fun q mem₅ e5 x => wpAny_bind (fls_noted (ht ρ₄ mem₄ q mem₅ e5 A g4 φ4 _ _ hA R4 fun g5 φ5 h5 tk5 T5 R5 => ?_))
  have C5 := C4.step T5 R5
  have I5 := I4.1.nx I4.2.1 R4.m R5.m (T5.nx [D]) I4.2.2 ne
  have N5 := (N.trans (T4.nx _)).trans (T5.nx _)
  cases q with
  | true =>
    refine bindE3 x fun ρ₆ mem₆ acc₆ e6 x => hb ρ₄ mem₅ acc ρ₆ mem₆ acc₆ e6 A g₀ φ₀ mem₀ h₀ D g5 φ5 _ _ _ _ hA C5 fun g6 φ6 h6 tk6 C6 N6 => ?_
    have I6 := I5.1.nx I5.2.1 R5.m C6.R.m N6 I5.2.2 ne
    exact wpAny_pure (.inl ⟨rfl, k - 1, by omega, .mk (by omega) C6 (N5.trans (N6.more fun x m => List.mem_cons.mpr (.inl (List.mem_singleton.mp m)))) I6.1 I6.2.1 I6.2.2 x⟩)
  | false => exact wpAny_pure (.inl ⟨rfl, k - 1, by omega, .mk (by omega) C5 N5 I5.1 I5.2.1 I5.2.2 x⟩)
theorem lpTurn (ha : AsgOK c n pe target a) (ht : TsOK c n pe ifs t) (hb : InOK c n pe inner b) (hA : AOk n A) (ne : I ≠ D) (hI : h₀.get? I = none) {k : Nat} {s₁ : Shared} (P : PostB c pe g₀ φ₀ mem₀ h₀ D [D, I] g φ s ρ' mem' acc' (fun s' => R (.ok .next) s'))
    (J : LpI c A pe g₀ φ₀ mem₀ h₀ D I g φ St fp (loopB a t b) l (ρ', mem', acc') s k s₁) :
    wpAny (model c.prog c.w) A (turnRun target iter ifs pe.env (.ref I) (inner (.ref D)) (again cd)) (ForQ c A cd R (LpI c A pe g₀ φ₀ mem₀ h₀ D I g φ St fp (loopB a t b) l (ρ', mem', acc') s) k) E s₁ := by
  cases J with | @mk i g₁ φ₁ ρ mem acc h tk hk C N IT st of x =>
  unfold turnRun
  refine wpAny_bind (wpAny_standAt (wpAny_bind ?_))
  by_cases hi : i < l.length
  · refine IT.W.item i _ _ _ hi st fun wv h3 tk3 hv st3 k3 => hv.elim fun u hu => ?_
    have k3' : ∀ b x, b ≠ I → h.get? b = some x → h3.get? b = some x := fun b x q => k3 b x (fun m => q (List.mem_singleton.mp m))
    rw [drop_at hu.1] at x
    exact wpAny_bind (IT.go st3 (lpBody ha ht hb hA ne hk hi (C.touch of hI ne k3') (N.touchI k3') IT st3 of hu.2 x))
  · have hl : l.length = i := by omega
    refine IT.W.done _ _ _ (hl ▸ st) fun h3 tk3 k3 => ?_
    have k3' : ∀ b x, b ≠ I → h.get? b = some x → h3.get? b = some x := fun b x q => k3 b x (fun m => q (List.mem_singleton.mp m))
    rw [← hl, List.drop_length] at x
    exact wpAny_pure (P.of x g₁ φ₁ h3 tk3 (C.touch of hI ne k3') (N.touchI k3'))
end
theorem LpOK.mk {elt : Expr} {gens : List Comprehension} {scope : Scope} {pos : Pos} {d : Nat} {target iter : Expr} {ifs : List Expr} {a : AF} {t : TF} {b : CB} {inner : Value → Sem Fin → Sem Fin}
    (hturn : ∀ it acc, compTurn (.ListComp elt gens scope pos) d it acc pe.env = turnRun target iter ifs pe.env it (inner acc) (again (.compLoop (.ListComp elt gens scope pos) d it acc pe.env)))
    (ha : AsgOK c n pe target a) (ht : TsOK c n pe ifs t) (hb : InOK c n pe inner b) : LpOK c n pe (.ListComp elt gens scope pos) d (loopB a t b) := fun l ρ mem acc ρ' mem' acc' x A g₀ φ₀ mem₀ h₀ D I g φ s R St fp hA C IT st of ne hI P => by
  refine codeAny_loop' rfl (LpI c A pe g₀ φ₀ mem₀ h₀ D I g φ St fp (loopB a t b) l (ρ', mem', acc') s) (fun k s₁ J => ?_) l.length (.mk (tk := s.toks) rfl C (Nx.touch fun _ _ _ e => e) IT st of x)
  show wpAny _ _ ((compTurn (.ListComp elt gens scope pos) d (.ref I) (.ref D) pe.env).onRaise (fun x => do noteFrame x pe.env; theTreesLotGoes x)) _ _ _
  refine wpAny_noted ?_
  rw [hturn]
  exact lpTurn ha ht hb hA ne hI P J

/-- the start of a loop at a depth -/
theorem compStartRun {A : Around} {elt : Expr} {gens : List Comprehension} {scope : Scope} {pos : Pos} {d : Nat} {it acc : Value} {env : Env} {R : Result → Shared → Prop} {g : Comprehension} (hg : gens[d]? = some g) (ha : g.is_async = 0)
    (h0 : codeAny (model c.prog c.w) A (.compLoop (.ListComp elt gens scope pos) d it acc env) R s)
    (h : ∀ E, wpAny (model c.prog c.w) A (pyIter it) (fun it' s' => codeAny (model c.prog c.w) A (.compLoop (.ListComp elt gens scope pos) d it' acc env) R s') E s) :
    codeAny (model c.prog c.w) A (.compStart (.ListComp elt gens scope pos) d it acc env) R s := by
  refine codeAny_of_tree ?_
  show wpAny _ _ ((compStart (.ListComp elt gens scope pos) d it acc env).onRaise (fun x => do noteFrame x env; standAt theWindowsPlace)) _ _ s
  refine wpAny_notedAt ?_
  unfold compStart
  rw [show clausesOf (.ListComp elt gens scope pos) = gens from rfl]
  simp only [hg, ha, Option.elim, bne_self_eq_false, Bool.false_eq_true, if_false]
  refine wpAny_bind (wpAny_askSetting (wpAny_ite ?_))
  split
  · first
      | exact wpAny_bind (wpAny_pure (wpAny_pure (And.intro rfl h0)))
      | exact wpAny_pure (And.intro rfl h0)
  · refine wpAny_bind (wpAny_rule ?_)
    refine wpAny_bind (wpAny_standAt (wpAny_bind (wpAny_mono (h _) (fun it' s' h' => wpAny_pure (And.intro rfl h')) fun _ _ x => x)))

noncomputable def nestB (it : EF) (f : List V → CB) : CB := fun ρ m acc => (it ρ m).bind fun r => (itemsOf r.1).bind fun l => f l ρ r.2 acc
theorem InOK.nest {elt : Expr} {gens : List Comprehension} {scope : Scope} {pos : Pos} {d : Nat} {g' : Comprehension} {it : EF} {f : List V → CB} (hg : gens[d]? = some g') (ha : g'.is_async = 0) (hit : EvOK c n pe g'.iter it) (hs : ∀ x, foldedSetIterable g'.iter pe.env x = pure x)
    (hl : LpOK c n pe (.ListComp elt gens scope pos) d f) : InOK c n pe (nestRun (.ListComp elt gens scope pos) g' d pe.env) (nestB it f) := fun ρ mem acc ρ' mem' acc' x A g₀ φ₀ mem₀ h₀ D g φ s k Q E hA C P => by
  refine bindE2 x fun v mem₁ e1 x => bindE x fun l e2 x => ?_
  unfold nestRun
  refine wpAny_bind (fls_noted (hit ρ mem v mem₁ e1 A g φ s _ hA C.R fun g1 φ1 h1 tk1 w1 T1 R1 r1 => wpAny_bind (wpAny_standAt ?_)))
  refine wpAny_bind (wpAny_of_eq (hs _) (wpAny_bind (wpAny_holding ?_)))
  have C1 := C.step T1 R1
  refine iterRun (A := A) (A' := A) hA.1 R1.m r1 e2 fun St fp oI IT st eI => ?_
  have hI : h1.get? h1.objs.size = none := get_size _
  have of := R1.off hI
  have hI0 := C1.T.back R1 hI
  have neD : h1.objs.size ≠ D := fun q => C1.lst.elim fun _ y => y.elim fun _ y => nomatch (q ▸ hI).symm.trans y.1
  have k0 : ∀ b x, b ≠ h1.objs.size → h1.get? b = some x → (h1.push oI).get? b = some x := fun b x _ e => Heap.get?_push_of_some _ e
  have C2 := C1.touch of hI0 neD k0
  have fin : ∀ E', codeAny (model c.prog c.w) (A.mark none) (.compLoop (.ListComp elt gens scope pos) d (.ref h1.objs.size) (.ref D) pe.env) (fun r s' => match r with | .ok _ => wpAny (model c.prog c.w) A k Q E s' | .error e => cameBackBy (model c.prog c.w) A pe.env E' e s') { s with heap := h1.push oI, toks := tk1 } := fun E' => by
    refine hl l ρ mem₁ acc ρ' mem' acc' x (A.mark none) g₀ φ₀ mem₀ h₀ D h1.objs.size g1 φ1 _ _ St fp hA.mark C2 ⟨IT.W, IT.live, IT.fps⟩ st of neD hI0 fun g3 φ3 h3 tk3 C3 N3 => ?_
    refine P g3 φ3 h3 tk3 C3 ⟨fun a o e => N3.base a o (T1.base a o e), T1.pre.trans N3.pre, fun X o nx ofX e => ?_⟩
    have o1 := ofX.step e T1
    refine N3.off X o (fun m => ?_) o1.1 (Heap.get?_push_of_some _ o1.2)
    rcases List.mem_cons.mp m with q | q
    · exact nx (q ▸ List.mem_singleton.mpr rfl)
    · exact noSome (hI.symm.trans ((congrArg h1.get? (List.mem_singleton.mp q)).symm.trans o1.2))
  refine wpAny_bind (wpAny_runOwn (compStartRun hg ha ?_ fun E' => IT.W.self 0 _ _ _ st ?_))
  · exact codeAny_mono (fin E) fun r s' x => by cases r with | ok f => exact x | error e => exact x
  · exact codeAny_mono (fin E) fun r s' x => by cases r with | ok f => exact x | error e => exact x
end
end Mine
-- CompC
namespace Mine
noncomputable def ownCells : Option Str → Addr → List (Str × Addr)
  | none, _ => []
  | some x, C => [(x, C)]
noncomputable def pushOwn : Option Str → Heap → Heap
  | none, h => h
  | some _, h => h.push { cls := .type "cell", data := .cell none }
noncomputable def compPE (pe : PE) (scope : Scope) (cl : List (Str × Addr)) (own : Option Str) (C : Addr) : PE :=
  ⟨{ newEnv scope C pe.env.globals (ownCells own (C + 1) ++ cl) pe.env.qual none .none (some pe.env) builtinsNs with scope := relabel scope pe.env }, (ownCells own (C + 1)).map (·.2)⟩
structure CompSt (pe : PE) (scope : Scope) (cl : List (Str × Addr)) (own : Option Str) (caps : List Str) : Prop where
  clos : closureFor scope pe.env = pure cl
  hcl : ∀ p ∈ cl, pe.env.cells.lookup p.1 = some p.2
  kcl : ∀ x ∈ caps, pe.env.kindOf x = some .cell ∨ pe.env.kindOf x = some .free
  loc : ∀ x ∈ caps, scope.names.lookup x = some .free
  cap : ∀ x ∈ caps, ∃ a, cl.lookup x = some a
  ow : ∀ x, own = some x → x ∉ caps
  cf : ∀ C, cellsFrom C scope.names cl = ownCells own C ++ cl
  pc : ∀ h, pushCells h scope.names = pushOwn own h
  kind : scope.kind = .function
  names : ∀ x ∈ scope.names, x.2 = .local → scope.names.lookup x.1 = some .local
noncomputable def capX (caps : List Str) (ρ : Rho) : Rho := fun x => if x ∈ caps then ρ x else none
theorem lookup_relabel_free {env : Env} : ∀ {names : List (Str × NameKind)} {x : Str}, names.lookup x = some .free →
    (names.map fun (n, k) => if (k == NameKind.free && env.scope.kind == .function && env.kindOf n == some .cell) then (n, NameKind.cell) else (n, k)).lookup x ≠ some .local
  | [], _, h => by simp at h
  | (n, k) :: r, x, h => by
    have ih := @lookup_relabel_free env r x
    show List.lookup x ((if (k == NameKind.free && env.scope.kind == .function && env.kindOf n == some .cell) = true then (n, NameKind.cell) else (n, k)) :: _) ≠ _
    cases hx : x == n with
    | true =>
      simp only [List.lookup_cons, hx] at h
      cases h
      split <;> simp [List.lookup_cons, hx]
    | false =>
      simp only [List.lookup_cons, hx] at h
      by_cases hc : (k == NameKind.free && env.scope.kind == .function && env.kindOf n == some .cell) = true
      · rw [if_pos hc]; simp only [List.lookup_cons, hx]; exact ih h
      · rw [if_neg hc]; simp only [List.lookup_cons, hx]; exact ih h
theorem lookup_mem : ∀ {l : List (Str × Addr)} {x : Str} {a : Addr}, l.lookup x = some a → (x, a) ∈ l
  | [], _, _, h => by simp at h
  | (y, b) :: r, x, a, h => by
    rw [List.lookup_cons] at h
    split at h
    · rename_i q; cases h; rw [beq_iff_eq.mp q]; exact .head _
    · exact .tail _ (lookup_mem h)
section
variable {c : Cx} {n : Nat} {pe : PE} {g g' : G} {φ φ' : List Addr} {ρ ρ' : Rho} {mem mem' : List MO} {s : Shared} {v : V} {h h' h₁ : Heap}
variable {scope : Scope} {cl : List (Str × Addr)} {own : Option Str} {caps : List Str}

theorem newCompEnv {M : Model} {A : Around} {E : Value → Shared → Prop} {Q : Env → Shared → Prop} {env : Env} {globals : Addr} {qual : Str} (h1 : ∀ C, cellsFrom C scope.names cl = ownCells own C ++ cl) (h2 : ∀ h, pushCells h scope.names = pushOwn own h)
    (hQ : Q (newEnv scope s.heap.objs.size globals (ownCells own (s.heap.objs.size + 1) ++ cl) qual none .none (some env) builtinsNs) { s with heap := pushOwn own (s.heap.push { cls := .type "dict", data := .dict #[] }) }) :
    wpAny M A (newFunctionEnv scope globals cl [] qual none .none (some env)) Q E s := by
  simp only [newFunctionEnv, Option.isSome_some, if_true]
  refine wpAny_bind (wpAny_alloc ?_)
  refine wpAny_bind (wpAny_layCells _ (fun name kind cells => by cases hkc : kind == NameKind.cell <;> simp) _ _ _ _ ?_)
  rw [show ({ s with heap := s.heap.push { cls := .type "dict", data := .dict #[] } } : Shared).heap.objs.size = s.heap.objs.size + 1 from Heap.size_push ..]
  rw [h1, h2]
  rw [List.forIn_nil]
  exact wpAny_bind (wpAny_pure (wpAny_pure hQ))

theorem pushOwn_keeps (own : Option Str) {h : Heap} : ∀ a o, h.get? a = some o → (pushOwn own h).get? a = some o := by
  cases own with
  | none => exact fun _ _ e => e
  | some x => exact size_mem _
theorem compLk (S : CompSt pe scope cl own caps) {C : Addr} {x : Str} {a : Addr} (e : (ownCells own (C + 1) ++ cl).lookup x = some a) : (own = some x ∧ a = C + 1) ∨ pe.env.cells.lookup x = some a := by
  cases own with
  | none => exact .inr (S.hcl _ (lookup_mem e))
  | some y =>
    rcases List.mem_cons.mp (lookup_mem e) with m | m
    · exact .inl ⟨congrArg some (Prod.mk.inj m).1.symm, (Prod.mk.inj m).2⟩
    · exact .inr (S.hcl _ m)
/-- the block of a comprehension -/
theorem compRel (S : CompSt pe scope cl own caps) (R : Rel c pe g φ ρ mem h) (k : ∀ a o, h.get? a = some o → h₁.get? a = some o) {C : Addr} (hC : h₁.objs.size = C) (hC0 : h.get? C = none) (hC1 : h.get? (C + 1) = none) :
    Rel c (compPE pe scope cl own C) g φ (capX caps ρ) mem (pushOwn own (h₁.push { cls := .type "dict", data := .dict #[] })) ∧ (pushOwn own (h₁.push { cls := .type "dict", data := .dict #[] })).Ns C fun _ => none := by
  have kk : ∀ a o, h₁.get? a = some o → (pushOwn own (h₁.push { cls := .type "dict", data := .dict #[] })).get? a = some o := fun a o e => pushOwn_keeps own a o (size_mem _ a o e)
  have k' : ∀ a o, h.get? a = some o → (pushOwn own (h₁.push { cls := .type "dict", data := .dict #[] })).get? a = some o := fun a o e => kk a o (k a o e)
  have hns : (pushOwn own (h₁.push { cls := .type "dict", data := .dict #[] })).Ns C fun _ => none := by
    have := Heap.Ns.new h₁ (.type "dict")
    rw [hC] at this
    exact this.at' fun o e => pushOwn_keeps own _ _ e
  have ofC := R.off hC0
  have ofC1 := R.off hC1
  have owned : ∀ a ∈ (ownCells own (C + 1)).map (·.2), a = C + 1 ∧ (pushOwn own (h₁.push { cls := .type "dict", data := .dict #[] })).IsCell (C + 1) none := by
    intro a ha
    cases own with
    | none => cases ha
    | some x =>
      have : a = C + 1 := by simpa [ownCells] using ha
      have z := Heap.get?_push_size (h₁.push { cls := .type "dict", data := .dict #[] }) (o := { cls := .type "cell", data := .cell none }) rfl
      rw [Heap.size_push, hC] at z
      exact ⟨this, _, z, rfl⟩
  have nC : ∀ x a, pe.env.cells.lookup x = some a → a ≠ C ∧ a ≠ C + 1 := fun x a e => ⟨fun q => ofC.cell x (q ▸ e), fun q => ofC1.cell x (q ▸ e)⟩
  refine ⟨⟨⟨S.kind, R.ok.gl, R.ok.bl⟩, R.m.ext k', ⟨⟨_, hns, fun x v hx hv => ?_⟩, fun x v hx hv => ?_, ofC.g, fun q => ofC.own (.inr (.inr q)), fun x a hx => ?_, fun a ha => ?_, fun a ha => ?_, fun x y a hx hy => ?_, ofC.φ⟩⟩, hns⟩
  · unfold capX at hv
    split at hv
    · rename_i m
      exact absurd hx (lookup_relabel_free (S.loc x m))
    · cases hv
  · unfold capX at hv
    split at hv
    · rename_i m
      refine (S.cap x m).elim fun a ea => (R.e.cel x v (S.kcl x m) hv).elim fun a' y => y.elim fun w y => ?_
      have e1 : a = a' := Option.some.inj ((S.hcl _ (lookup_mem ea)).symm.trans y.1)
      refine ⟨a, w, ?_, isCell_at (e1.symm ▸ y.2.1) fun o e => k' a o e, y.2.2⟩
      show (ownCells own (C + 1) ++ cl).lookup x = some a
      cases own with
      | none => exact ea
      | some y =>
        have ne : x ≠ y := fun q => S.ow y rfl (q ▸ m)
        show ([(y, C + 1)] ++ cl).lookup x = some a
        rw [List.singleton_append, List.lookup_cons]
        rw [show (x == y) = false by simpa using ne]
        exact ea
    · cases hv
  · rcases compLk S hx with ⟨q, rfl⟩ | e
    · subst q
      refine ⟨⟨none, (owned (C + 1) (.head _)).2⟩, fun q => ofC1.own (.inr (.inr q)), ?_⟩
      exact Nat.succ_ne_self C
    · obtain ⟨⟨u, r⟩, no, _⟩ := R.e.cells x a e
      exact ⟨⟨u, isCell_at r fun o e => k' a o e⟩, no, (nC x a e).1⟩
  · rw [(owned a ha).1]; exact ofC1.g
  · obtain ⟨rfl, r⟩ := owned a ha
    exact ⟨⟨_, r⟩, fun q => ofC1.own (.inr (.inr q)), Nat.succ_ne_self C⟩
  · rcases compLk S hx with ⟨q, rfl⟩ | e
    · rcases compLk S hy with ⟨q', _⟩ | e'
      · rw [q] at q'; exact Option.some.inj q'
      · exact absurd rfl (nC y _ e').2
    · rcases compLk S hy with ⟨_, rfl⟩ | e'
      · exact absurd rfl (nC x _ e).2
      · exact R.e.cinj x y a e e'

theorem compOff (S : CompSt pe scope cl own caps) {C X : Addr} (of : Off pe g φ X) (h1 : X ≠ C) (h2 : X ≠ C + 1) : Off (compPE pe scope cl own C) g φ X := by
  refine ⟨of.g, of.φ, fun m => ?_, h1, fun x e => ?_⟩
  · cases own with
    | none => cases m
    | some y => exact h2 (by simpa [compPE, ownCells] using m)
  · rcases compLk S e with ⟨_, q⟩ | q
    · exact h2 q
    · exact of.cell x q
noncomputable def compX (caps : List Str) (it : EF) (f : List V → CB) : EF := fun ρ m => (it ρ m).bind fun r => (itemsOf r.1).bind fun l => (f l (capX caps ρ) r.2 []).bind fun z => some (.lst z.2.2, z.2.1)
theorem get_ge {h : Heap} {a : Addr} (l : h.objs.size ≤ a) : h.get? a = none := by
  cases q : h.get? a with
  | none => rfl
  | some o => exact absurd (Heap.lt_size q) (Nat.not_lt.mpr l)
abbrev PostZ (c : Cx) (pe : PE) (g : G) (φ : List Addr) (ρ : Rho) (mem : List MO) (s : Shared) (z : V) (mem' : List MO) (K : Value → Addr → Shared → Prop) : Prop :=
  ∀ g' φ' h' tk C wz, TrE pe g φ mem s.heap g' φ' mem' h' → Rel c pe g' φ' ρ mem' h' → VRel g' φ' wz z → Off pe g' φ' C → s.heap.get? C = none → (∃ m, h'.Ns C m) → K wz C { s with heap := h', toks := tk }
theorem PostZ.of {z z₁ : V} {m₁ : List MO} {K : Value → Addr → Shared → Prop} (P : PostZ c pe g φ ρ mem s z mem' K) (e : some (z₁, m₁) = some (z, mem')) : PostZ c pe g φ ρ mem s z₁ m₁ K := by cases e; exact P
theorem compRun {elt : Expr} {g0 : Comprehension} {gs : List Comprehension} {pos p : Pos} {it : EF} {f : List V → CB} {use : Option (Value → Sem Unit)} {A : Around} {Q : Value → Shared → Prop} (ha : g0.is_async = 0) (hit : EvOK c n pe g0.iter it) (hs : ∀ x, foldedSetIterable g0.iter pe.env x = pure x)
    (S : CompSt pe scope cl own caps) (hl : ∀ C, LpOK c n (compPE pe scope cl own C) (.ListComp elt (g0 :: gs) scope pos) 0 f) {z : V} (x : compX caps it f ρ mem = some (z, mem')) (hA : AOk n A) (R : Rel c pe g φ ρ mem s.heap)
    (P : PostZ c pe g φ ρ mem s z mem' fun wz C s' => compPost (model c.prog c.w) A Fls use Q wz C (.ok .next) s') :
    wpAny (model c.prog c.w) A (comprehension (.ListComp elt (g0 :: gs) scope pos) scope pe.env p (newList []) false (eval g0.iter pe.env) use) Q Fls s := by
  refine bindE2 x fun v mem₁ e1 x => ?_
  refine bindE x fun l e2 x => ?_
  refine bindE3 x fun ρz memz acc e3 x => ?_
  refine wpAny_comprehension_free rfl hs S.clos S.kind S.names ?_
  refine hit ρ mem v mem₁ e1 A g φ s _ hA R fun g1 φ1 h1 tk1 w1 T1 R1 r1 => ?_
  refine iterRun (A := A) (A' := A) hA.1 R1.m r1 e2 fun St fp oI IT st eI => ?_
  refine wpAny_newObj_type ?_
  refine newCompEnv (own := own) S.cf S.pc ?_
  dsimp only at IT st eI e3 ⊢
  generalize hH3 : (h1.push oI).push { cls := .type "list", data := .seq ([] : List Value).toArray } = H3
  have z2 : (h1.push oI).objs.size = h1.objs.size + 1 := Heap.size_push ..
  have z3 : H3.objs.size = h1.objs.size + 2 := by rw [← hH3, Heap.size_push, z2]
  have k3 : ∀ a o, (h1.push oI).get? a = some o → H3.get? a = some o := fun a o e => hH3 ▸ size_mem _ a o e
  have eD : H3.get? (h1.objs.size + 1) = some (listOf #[] 0) := by
    have := Heap.get?_push_size (h1.push oI) (o := { cls := .type "list", data := .seq ([] : List Value).toArray }) rfl
    rw [z2, hH3] at this; exact this
  rw [z2, z3]
  have hI : h1.get? h1.objs.size = none := get_size _
  have hD : h1.get? (h1.objs.size + 1) = none := get_ge (Nat.le_succ _)
  have hC : h1.get? (h1.objs.size + 2) = none := get_ge (Nat.le_add_right ..)
  have hC1 : h1.get? (h1.objs.size + 2 + 1) = none := get_ge (by omega)
  have R4 := (compRel S R1 (h₁ := H3) (fun a o e => k3 a o (size_mem _ a o e)) z3 hC hC1).1
  generalize hH4 : pushOwn own (H3.push { cls := .type "dict", data := .dict #[] }) = H4 at R4 ⊢
  have k4 : ∀ a o, H3.get? a = some o → H4.get? a = some o := fun a o e => hH4 ▸ pushOwn_keeps own a o (size_mem _ a o e)
  have kk : ∀ a o, h1.get? a = some o → H4.get? a = some o := fun a o e => k4 a o (k3 a o (size_mem _ a o e))
  have ofI := compOff (C := h1.objs.size + 2) S (R1.off hI) (Nat.ne_of_lt (by omega)) (Nat.ne_of_lt (by omega))
  have ofD := compOff (C := h1.objs.size + 2) S (R1.off hD) (Nat.ne_of_lt (by omega)) (Nat.ne_of_lt (by omega))
  have st4 : St 0 H4 := IT.W.frame _ _ _ st fun b _ o e => k4 b o (k3 b o e)
  have fin : codeAny (model c.prog c.w) A (.compLoop (.ListComp elt (g0 :: gs) scope pos) 0 (.ref h1.objs.size) (.ref (h1.objs.size + 1)) (compPE pe scope cl own (h1.objs.size + 2)).env)
      (compPost (model c.prog c.w) A Fls use Q (.ref (h1.objs.size + 1)) (h1.objs.size + 2)) { s with heap := H4, toks := tk1 } := by
    refine hl _ l (capX caps ρ) mem₁ [] ρz memz acc e3 A g1 φ1 mem₁ h1 (h1.objs.size + 1) h1.objs.size g1 φ1 _ _ St fp hA
      ⟨⟨List.prefix_refl _, fun a o e _ => kk a o e, fun _ _ e => e, fun _ x => x.elim .inl fun y => .inr (.inl y), fun _ m => .inl m⟩, R4, hD, ofD, [], 0, k4 _ _ eD, .nil⟩ ⟨IT.W, IT.live, IT.fps⟩ st4 ofI (Nat.ne_of_lt (Nat.lt_succ_self _)) hI
      fun g5 φ5 h5 tk5 C5 N5 => C5.lst.elim fun vs y => y.elim fun kz y => C5.R.e.loc.elim fun m hm => ?_
    have TD := TrE.down (h := h1) (fun _ _ e => e) hC (fun a ha => by
      cases own with
      | none => cases ha
      | some y =>
        have : a = h1.objs.size + 2 + 1 := by simpa [compPE, ownCells] using ha
        rw [this]; exact hC1) C5.T C5.R.m
    have TA := TD.adopt hD y.1 C5.off.g C5.off.φ
    have E := TA.lift R1
    have gb := gAdd_base g5 (h1.objs.size + 1) (listOf vs.toArray kz) C5.off.g
    have o0 := R1.off hC
    refine P.of x _ φ5 h5 tk5 (h1.objs.size + 2) _ (T1.trans R1 E.1) E.2 (.lst (gAdd_self _ _ _) ⟨rfl, _, rfl⟩ (y.2.mono gb fun _ _ e => e)) ⟨?_, C5.R.e.pL, o0.oc, o0.loc, o0.cell⟩ (T1.back R1 hC) ⟨m, hm.1⟩
    unfold gAdd
    rw [if_neg (Nat.ne_of_gt (Nat.lt_succ_self _))]
    exact C5.R.e.gL
  exact compStartRun (by rfl) ha fin fun E' => IT.W.self 0 _ _ _ st4 fin
theorem EvOK.comp {elt : Expr} {g0 : Comprehension} {gs : List Comprehension} {pos : Pos} {it : EF} {f : List V → CB} (ha : g0.is_async = 0) (hit : EvOK c n pe g0.iter it) (hs : ∀ x, foldedSetIterable g0.iter pe.env x = pure x)
    (S : CompSt pe scope cl own caps) (hl : ∀ C, LpOK c n (compPE pe scope cl own C) (.ListComp elt (g0 :: gs) scope pos) 0 f) : EvOK c n pe (.ListComp elt (g0 :: gs) scope pos) (compX caps it f) := fun ρ mem v mem' x A g φ s Q hA R P => by
  obtain ⟨t0, i0, f0, a0⟩ := g0
  obtain rfl : a0 = 0 := ha
  rw [eval_ListComp]
  show wpAny _ A (comprehension _ scope pe.env _ (newList []) false (eval i0 pe.env)) Q Fls s
  refine compRun (use := Option.none) rfl hit hs S hl x hA R fun g' φ' h' tk C wz T' R' rz of hC hns => hns.elim fun m hns => ?_
  refine ⟨m, hns, fun h'' hsb => ?_⟩
  have k : ∀ b x, b ≠ C → h'.get? b = some x → h''.get? b = some x := fun b x nb e => (hsb.2 b nb).trans e
  exact P g' φ' h'' tk wz (T'.touch hC k) (R'.touch of k) rz
theorem StOK.assignComp {elt : Expr} {g0 : Comprehension} {gs : List Comprehension} {pos py spos : Pos} {it : EF} {f : List V → CB} {y : Str} {a : AF} (ha : g0.is_async = 0) (hit : EvOK c n pe g0.iter it) (hs : ∀ x, foldedSetIterable g0.iter pe.env x = pure x)
    (S : CompSt pe scope cl own caps) (hl : ∀ C, LpOK c n (compPE pe scope cl own C) (.ListComp elt (g0 :: gs) scope pos) 0 f) (hsw : swapsWith (.ListComp elt (g0 :: gs) scope pos) (some (.Name y py)) spos.line pe.env = pure true)
    (ht : AsgOK c n pe (.Name y py) a) : StOK c n pe (.Assign [.Name y py] (.ListComp elt (g0 :: gs) scope pos) spos) (assignX (compX caps it f) a) := fun ρ mem fl ρ' mem' x A g φ s Q hA R P => by
  refine bindE2 x fun v mem₁ e1 e2 => ?_
  refine bindE2 e2 fun ρ₂ mem₂ e3 e4 => ?_
  obtain ⟨t0, i0, f0, a0⟩ := g0
  obtain rfl : a0 = 0 := ha
  rw [exec_Assign_Name_used _ _ _ _ hsw]
  refine wpAny_bind (wpAny_standAt (wpAny_bind ?_))
  show wpAny _ A (do let _ ← comprehension (.ListComp elt (⟨t0, i0, f0, 0⟩ :: gs) scope pos) scope pe.env _ (newList []) false (eval i0 pe.env) (some (PySem.assign (.Name y py) pe.env))) _ _ s
  refine wpAny_bind (compRun (use := some (PySem.assign (.Name y py) pe.env)) (Q := fun _ s' => wpAny (model c.prog c.w) A (pure ()) (fun _ s'' => wpAny (model c.prog c.w) A (pure Flow.next) Q Fls s'') Fls s') rfl hit hs S hl e1 hA R fun g' φ' h' tk C wz T' R' rz of hC hns => hns.elim fun m hns => hns.elim fun oC q => q.elim fun es q => q.elim fun ep q => ?_)
  have eC := q.1
  show wpAny _ A (PySem.assign (.Name y py) pe.env wz) _ _ _
  refine ht v ρ mem₁ _ _ e3 A g' φ' _ _ wz hA R' rz fun g2 φ2 h2 tk2 T2 R2 => ?_
  have z2 := of.step eC T2
  refine ⟨m, hns.at' fun o e => Option.some.inj (eC.symm.trans e) ▸ z2.2, fun h'' hsb => wpAny_pure (wpAny_pure ?_)⟩
  have k : ∀ b x, b ≠ C → h2.get? b = some x → h''.get? b = some x := fun b x nb e => (hsb.2 b nb).trans e
  exact P.of e4 g2 φ2 h'' tk2 _ ((T'.trans R' T2).touch hC k) (R2.touch z2.1 k) .next
end
end Mine
-- CallD
namespace Mine
noncomputable def fnPE (fd : FuncData) (L a : Addr) : PE := ⟨callEnvC fd L a, fd.scope.names.filterMap fun p => (cellsFrom (L + 1) fd.scope.names []).lookup p.1⟩
noncomputable def defX (names : List Str) (body : SF) : CF := fun vs mem => (bindX names vs fun _ => none).bind fun ρ => (body ρ mem).bind fun r => match r.1 with | .next => some (.none, r.2.2) | .ret v => some (v, r.2.2) | .brk => none
section
variable {c : Cx} {n : Nat} {pe : PE} {g g' : G} {φ φ' : List Addr} {ρ ρ' : Rho} {mem mem' : List MO} {s : Shared} {v : V} {h h' h₁ : Heap}

theorem AOk.deeper {A : Around} (hA : AOk (n + 1) A) (env : Env) : AOk n (A.deeper env) := by
  obtain ⟨a, b, d⟩ := hA
  refine ⟨a, ?_, ?_⟩
  · show A.depth + 1 + 4 * n < recursionLimit; omega
  · show A.units + 3 + 40 * n + 200 < cLine; omega
theorem bindLC {kindOf : Str → Option NameKind} : ∀ (names : List Str) (vs : List V) (ws : List Value) (ρ ρ' : Rho) (m cm : Str → Option Value), bindX names vs ρ = some ρ' → VRels g φ ws vs →
    (∀ x v, ρ x = some v → kindOf x = some .local → ∃ w, m x = some w ∧ VRel g φ w v) → (∀ x v, ρ x = some v → kindOf x ≠ some .local → ∃ w, cm x = some w ∧ VRel g φ w v) →
    (∀ x v, ρ' x = some v → kindOf x = some .local → ∃ w, bindL kindOf (names.zip ws) m x = some w ∧ VRel g φ w v) ∧ (∀ x v, ρ' x = some v → kindOf x ≠ some .local → ∃ w, bindC kindOf (names.zip ws) cm x = some w ∧ VRel g φ w v) ∧
    (∀ x v, ρ' x = some v → ρ x = some v ∨ x ∈ names)
  | [], [], ws, ρ, ρ', m, cm, e, r, h1, h2 => by
    cases e; cases r
    exact ⟨h1, h2, fun _ _ h => .inl h⟩
  | y :: names, u :: vs, _, ρ, ρ', m, cm, e, .cons (w := w) (ws := ws) r rs, h1, h2 => by
    have ih := bindLC (kindOf := kindOf) names vs ws (upd ρ y u) ρ' (if kindOf y = some .local then fun z => if z = y then some w else m z else m) (if kindOf y = some .local then cm else fun z => if z = y then some w else cm z) e rs (fun x v hx hk => ?_) (fun x v hx hk => ?_)
    · refine ⟨ih.1, ih.2.1, fun x v hx => (ih.2.2 x v hx).elim (fun q => ?_) fun q => .inr (.tail _ q)⟩
      unfold upd at q
      split at q
      · rename_i z; rw [z]; exact .inr (.head _)
      · exact .inl q
    · unfold upd at hx
      by_cases z : x = y
      · rw [if_pos z] at hx; cases hx
        rw [← z, if_pos hk]
        exact ⟨w, if_pos rfl, r⟩
      · rw [if_neg z] at hx
        obtain ⟨w', e', r'⟩ := h1 x v hx hk
        refine ⟨w', ?_, r'⟩
        split
        · show (if x = y then _ else _) = _
          rw [if_neg z]; exact e'
        · exact e'
    · unfold upd at hx
      by_cases z : x = y
      · rw [if_pos z] at hx; cases hx
        rw [← z, if_neg hk]
        exact ⟨w, if_pos rfl, r⟩
      · rw [if_neg z] at hx
        obtain ⟨w', e', r'⟩ := h2 x v hx hk
        refine ⟨w', ?_, r'⟩
        split
        · exact e'
        · show (if x = y then _ else _) = _
          rw [if_neg z]; exact e'
  | [], _ :: _, _, _, _, _, _, e, _, _, _ => by cases e
  | _ :: _, [], _, _, _, _, _, e, _, _, _ => by cases e

theorem bindX_length : ∀ (names : List Str) (vs : List V) (ρ ρ' : Rho), bindX names vs ρ = some ρ' → vs.length = names.length
  | [], [], _, _, _ => rfl
  | _ :: names, _ :: vs, _, ρ', e => by rw [List.length_cons, List.length_cons, bindX_length names vs _ ρ' e]
  | [], _ :: _, _, _, e => by cases e
  | _ :: _, [], _, _, e => by cases e

/-- what the text's own objects say of a def -/
structure DefAt (c : Cx) (a : Addr) (fd : FuncData) (body : List Stmt) (names : List Str) : Prop where
  ho : ∃ o, c.K.lookup a = some o ∧ o.data = .func fd
  hcd : codeIn c.K fd.code fd.qualname = true
  hbody : fd.body = .stmts body
  hclo : fd.closure = []
  hgl : fd.globals = mainGlobals
  hbl : fd.builtins = builtinsNs
  hbind : ∀ ws : List Value, ws.length = names.length → bindArgs fd ⟨ws, []⟩ = pure (names.zip ws)
  hco : fd.scope.isCoroutine = false
  hgen : fd.scope.isGenerator = false
  hk : fd.scope.kind = .function
  hkinds : (names.all fun x => fd.scope.names.lookup x == some .local || fd.scope.names.lookup x == some .cell) = true
theorem DefAt.hkind {c : Cx} {a : Addr} {fd : FuncData} {body : List Stmt} {names : List Str} (D : DefAt c a fd body names) : ∀ x ∈ names, fd.scope.names.lookup x = some .local ∨ (fd.scope.names.lookup x = some .cell ∧ ∀ L, ((cellsFrom (L + 1) fd.scope.names []).lookup x).isSome = true) := fun x hx => by
  have := List.all_eq_true.mp D.hkinds x hx
  rcases Bool.or_eq_true_iff.mp this with q | q
  · exact .inl (beq_iff_eq.mp q)
  · exact .inr ⟨beq_iff_eq.mp q, fun L => cellsFrom_some _ _ _ (.inl (beq_iff_eq.mp q))⟩
theorem defRun {a : Addr} {fd : FuncData} {body : List Stmt} {names : List Str} (ok : c.Ok) (D : DefAt c a fd body names) {A : Around} (hA : A.depth < recursionLimit) {Rr : Result → Shared → Prop} {ws : List Value} {vs : List V} (R : MRel c g φ mem s.heap) (r : VRels g φ ws vs)
    (e1 : bindX names vs (fun _ => none) = some ρ)
    (h : ∀ (E : Value → Shared → Prop) h₁ tk, Rel c (fnPE fd s.heap.objs.size a) g φ ρ mem h₁ → (∀ b o, s.heap.get? b = some o → h₁.get? b = some o) → s.heap.get? (fnPE fd s.heap.objs.size a).env.locals = none → ((∀ b ∈ (fnPE fd s.heap.objs.size a).oc, s.heap.get? b = none) ∧ ∀ y b, (fnPE fd s.heap.objs.size a).env.cells.lookup y = some b → s.heap.get? b = none) →
      wpAny (model c.prog c.w) (A.deeper (fnPE fd s.heap.objs.size a).env) (execs body (fnPE fd s.heap.objs.size a).env) (fun f s' => Rr (.ok (.ret (match f with | .ret v => v | _ => .none))) s') E { s with heap := h₁, toks := tk }) :
    codeAny (model c.prog c.w) A (.call (.ref a) ⟨ws, []⟩) Rr s := by
  refine D.ho.elim fun o ho => ?_
  have hl : ws.length = names.length := r.length.trans (bindX_length _ _ _ _ e1)
  have hzip : ∀ y ∈ names.zip ws, y.1 ∈ names := fun y hy => (List.of_mem_zip (a := y.1) (b := y.2) hy).1
  have kd : ∀ b o, c.H₀.get? b = some o → s.heap.get? b = some o := fun b o e => R.keep b o (R.top b o e)
  refine codeAny_call_cells hA ((R.K ok) a o ho.1) ho.2 (ok.T.nolimit.keeps kd) (codeRec_of (R.K ok) D.hcd) D.hbody (D.hbind ws hl) D.hclo (fun y hy => ?_) (fun s₁ hc => ?_) D.hco D.hgen D.hk
  · rcases D.hkind y.1 (hzip y hy) with q | ⟨q, z⟩
    · exact .inl q
    · exact .inr ⟨q, z _⟩
  · obtain ⟨h₁, tk, rfl, kk⟩ := hc.done
    have kk' : ∀ b o, s.heap.get? b = some o → h₁.get? b = some o := fun b o e => kk b o e
    have fresh : ∀ b, s.heap.objs.size ≤ b → s.heap.get? b = none := fun b => get_ge
    have off : ∀ b, s.heap.objs.size ≤ b → g b = none ∧ b ∉ φ := fun b hb => by
      constructor
      · cases q : g b with
        | none => rfl
        | some o => have := R.keep b o q; rw [fresh b hb] at this; cases this
      · intro m; obtain ⟨o, e⟩ := R.alloc b m; rw [fresh b hb] at e; cases e
    have noOwn : ∀ b, s.heap.objs.size ≤ b → ¬ Own φ mem b := fun b hb ⟨k, _, e, _⟩ => (off b hb).2 (List.mem_of_getElem? e)
    have above : ∀ x b, (x, b) ∈ (fnPE fd s.heap.objs.size a).env.cells → s.heap.objs.size < b := fun x b m => hc.above x b m
    have B := bindLC (g := g) (φ := φ) (kindOf := (callEnvC fd s.heap.objs.size a).kindOf) names vs ws (fun _ => none) ρ (fun _ => none) (fun _ => none) e1 r (fun _ _ h => by cases h) (fun _ _ h => by cases h)
    have lkc : ∀ x b, (cellsFrom (s.heap.objs.size + 1) fd.scope.names []).lookup x = some b → s.heap.objs.size < b ∧ h₁.IsCell b (bindC (callEnvC fd s.heap.objs.size a).kindOf (names.zip ws) (fun _ => none) x) := fun x b q => ⟨above x b (lookup_mem q), hc.cell x b q⟩
    have ocm : ∀ b ∈ (fnPE fd s.heap.objs.size a).oc, s.heap.objs.size < b ∧ ∃ v, h₁.IsCell b v := fun b hb => by
      obtain ⟨⟨x, b'⟩, m, q⟩ := List.mem_filterMap.mp hb
      exact ⟨(lkc x b q).1, _, (lkc x b q).2⟩
    have R1 : Rel c (fnPE fd s.heap.objs.size a) g φ ρ mem h₁ := by
      refine ⟨⟨D.hk, D.hgl, D.hbl⟩, R.ext kk', ⟨⟨_, hc.toInCall.ns, fun x v hx hv => B.1 x v hv hx⟩, fun x v hx hv => ?_, (off _ (Nat.le_refl _)).1, noOwn _ (Nat.le_refl _), fun x b hx => ?_, fun b hb => (off b (Nat.le_of_lt (ocm b hb).1)).1, fun b hb => ?_, fun x y b hx hy => ?_, (off _ (Nat.le_refl _)).2⟩⟩
      · have nl : (callEnvC fd s.heap.objs.size a).kindOf x ≠ some .local := fun q => by
          have hx' : (callEnvC fd s.heap.objs.size a).kindOf x = some .cell ∨ (callEnvC fd s.heap.objs.size a).kindOf x = some .free := hx
          rw [q] at hx'; rcases hx' with hx' | hx' <;> cases hx'
        obtain ⟨w, e, r'⟩ := B.2.1 x v hv nl
        rcases B.2.2 x v hv with q | q
        · cases q
        · rcases D.hkind x q with z | ⟨_, z⟩
          · exact absurd z nl
          · obtain ⟨b, hb⟩ := Option.isSome_iff_exists.mp (z s.heap.objs.size)
            exact ⟨b, w, hb, e ▸ (lkc x b hb).2, r'⟩
      · exact ⟨⟨_, (lkc x b hx).2⟩, noOwn b (Nat.le_of_lt (lkc x b hx).1), Nat.ne_of_gt (lkc x b hx).1⟩
      · exact ⟨(ocm b hb).2, noOwn b (Nat.le_of_lt (ocm b hb).1), Nat.ne_of_gt (ocm b hb).1⟩
      · exact name_of_addr hc.apart (lookup_mem hx) (lookup_mem hy)
    exact h _ h₁ tk R1 kk' (fresh _ (Nat.le_refl _)) ⟨fun b hb => fresh b (Nat.le_of_lt (ocm b hb).1), fun y b hy => fresh b (Nat.le_of_lt (lkc y b hy).1)⟩
theorem CallOK.def {a : Addr} {fd : FuncData} {body : List Stmt} {names : List Str} {f : SF} (ok : c.Ok) (D : DefAt c a fd body names) (hf : ∀ L, ExOK c n (fnPE fd L a) body f) : CallOK c (n + 1) (.ref a) (defX names f) := fun vs mem v mem' x A g φ s ws Q hA R r P => by
  refine bindE x fun ρ e1 x => ?_
  refine bindE3 x fun fl ρ' mem₁ e2 x => ?_
  refine wpAny_call (defRun ok D (by have := hA.2.1; omega) R r e1 fun E h₁ tk R1 kk' hL hC => ?_)
  refine fls_noted (hf s.heap.objs.size ρ mem fl ρ' mem₁ e2 _ g φ _ _ (hA.deeper _) R1 fun g2 φ2 h2 tk2 wf T2 R2 r2 => ?_)
  have T := TrE.down (h := s.heap) kk' hL hC.1 T2 R2.m
  cases r2 with
  | next => exact P.of x g2 φ2 h2 tk2 _ T .none
  | brk => exact noSome x
  | ret r => exact P.of x g2 φ2 h2 tk2 _ T r
end
end Mine
-- Inst
namespace Mine
section
variable {c : Cx} {n : Nat} {pe : PE} {g g' : G} {φ φ' : List Addr} {ρ ρ' : Rho} {mem mem' : List MO} {s : Shared} {v : V} {h h' h₁ : Heap}

/-! ## Attributes of an object -/
noncomputable def fieldAt (fs : List (Str × V)) (name : Str) : Option V := (fs.find? fun p => p.1 == name).map (·.2)
theorem FRels.get {es : List DictEntry} {fs : List (Str × V)} (r : FRels g φ es fs) (name : Str) : (fieldAt fs name = none ∧ getL name es = some none) ∨ ∃ v w, fieldAt fs name = some v ∧ getL name es = some (some w) ∧ VRel g φ w v := by
  have key := FRels.ind (P := fun es fs => es.any (·.refKey) = false ∧ ((fieldAt fs name = none ∧ es.find? (·.key.isStr name) = none) ∨ ∃ v e, fieldAt fs name = some v ∧ es.find? (·.key.isStr name) = some e ∧ VRel g φ e.val v)) ⟨rfl, .inl ⟨rfl, rfl⟩⟩
    (fun e x t v es fs hk hv r z => by
      have q : e.key.isStr name = (x == name) := by rw [hk]; rfl
      refine ⟨by rw [List.any_cons, z.1]; unfold DictEntry.refKey; rw [hk]; rfl, ?_⟩
      unfold fieldAt
      rw [List.find?_cons, List.find?_cons, q]
      cases x == name with
      | true => exact .inr ⟨v, e, rfl, rfl, hv⟩
      | false => exact z.2) r
  rcases key.2 with h | h
  · exact .inl ⟨h.1, by unfold getL; rw [h.2]; dsimp only; rw [key.1]; rfl⟩
  · exact h.elim fun v h => h.elim fun e h => .inr ⟨v, e.val, h.1, by unfold getL; rw [h.2.1], h.2.2⟩
noncomputable def noRaw : V → Bool
  | .raw _ => false
  | _ => true
theorem handed_rel {w : Value} (r : VRel g φ w v) (h : noRaw v = true) : handedIn w = true := by
  have z := r.toF
  cases v with
  | raw u => cases h
  | none => exact (show w = .none from z) ▸ rfl
  | bool b => exact (show w = .bool b from z) ▸ rfl
  | int b => exact z.elim fun t e => e ▸ rfl
  | str b => exact z.elim fun t e => e ▸ rfl
  | ref k => exact z.elim fun t e => e.1 ▸ rfl
  | tup l => exact z.elim fun a e => e.elim fun _ e => e.elim fun _ e => e.1 ▸ rfl
  | lst l => exact z.elim fun a e => e.elim fun _ e => e.elim fun _ e => e.1 ▸ rfl
  | rng x y => exact z.elim fun a e => e.elim fun _ e => e.elim fun _ e => e.elim fun _ e => e.1 ▸ rfl
  | set b l => exact z.elim fun a e => e.elim fun _ e => e.1 ▸ rfl
  | inst C fs => exact z.elim fun a e => e.elim fun _ e => e.elim fun _ e => e.elim fun _ e => e.1 ▸ rfl
noncomputable def attrV (C : Addr) (name : Str) : V → Option V
  | .inst C' fs => if C' = C then (fieldAt fs name).bind fun v => if noRaw v = true then some v else none else none
  | _ => none
@[elab_as_elim] theorem attrE {C : Addr} {name : Str} {u v : V} {w : Value} {P : Value → Prop} (r : VRel g φ w u) (R : MRel c g φ mem h) (e : attrV C name u = some v) (k : ∀ a ox es n w2, InstAt h a ox C (some (dictOf es n)) → getL name es = some (some w2) → VRel g φ w2 v → noRaw v = true → P (.ref a)) : P w := by
  cases u with
  | inst C' fs =>
    obtain ⟨a, d, es, n, rfl, h1, h2, h3⟩ := r.toF
    refine ifE e fun q e => bindE e fun v' e1 e2 => ifE e2 fun hr e2 => ?_
    subst q
    rcases h3.get name with ⟨q, _⟩ | ⟨v2, w2, q1, q2, q3⟩
    · exact noSome (q.symm.trans e1)
    · have ev : v2 = v := Option.some.inj (q1.symm.trans (e1.trans e2))
      have ev' : v' = v := Option.some.inj e2
      exact k a _ es n w2 ⟨R.keep _ _ h1, rfl, rfl, R.keep _ _ h2⟩ q2 (ev ▸ q3) (ev' ▸ hr)
  | _ => exact noSome e
noncomputable def attrX (C : Addr) (name : Str) (a : EF) : EF := fun ρ m => (a ρ m).bind fun r => (attrV C name r.1).bind fun v => some (v, r.2)
theorem EvOK.attr {e : Expr} {name : Str} {pos : Pos} {C : Addr} {a : EF} {attr : Option Value} (ok : c.Ok) (he : EvOK c n pe e a) (hg : plainGet c.K C name = true) (hh : hasDictIn c.K C = true) (ha : findIn c.K (.ref C) name = some attr) (hn : noGet c.K attr = true)
    (hf : eval (.Attribute e name pos) pe.env = (do
      let o ← eval e pe.env
      standAt pos.atName
      let r ← holding [o] (getAttr o name true)
      letTemporaryGo e o r
      pure r)) (ht : ∀ o r, letTemporaryGo e o r = pure ()) : EvOK c n pe (.Attribute e name pos) (attrX C name a) := fun ρ mem v mem' x A g φ s Q hA R P => by
  refine bindE2 x fun u mem₁ e1 x => ?_
  rw [hf]
  refine wpAny_bind (he ρ mem u mem₁ e1 A g φ s _ hA R fun g1 φ1 h1 tk1 w1 T1 R1 r1 => wpAny_bind (wpAny_standAt (wpAny_bind (wpAny_holding ?_))))
  refine bindE x fun v' e2 x => attrE r1 R1.m e2 fun a' ox es n' w2 I q2 q3 hr => ?_
  refine get_value (R1.m.K ok) I (plainGet_of hg).1 (findObj_own hh ha hn q2) (handed_rel q3 hr) ?_
  refine wpAny_bind ?_
  rw [ht]
  exact wpAny_pure (wpAny_pure (P.of x g1 φ1 h1 _ w2 T1 R1 q3))

/-! ## Methods of an object -/
noncomputable def isInst (C : Addr) (name : Str) (u : V) (_ : List MO) : Bool := match u with | .inst C' fs => decide (C' = C) && (fieldAt fs name).isNone | _ => false
theorem MethOK.inst {C f : Addr} {name : Str} (ok : c.Ok) (hg : plainGet c.K C name = true) (hf : findIn c.K (.ref C) name = some (some (.ref f))) (ht : isFn c.K (.ref f) = true) : MethOK c n name (.ref f) (isInst C name) := fun u mem e A g φ s wu Q pl hA R r q => by
  cases u with
  | inst C' fs =>
    have e : (decide (C' = C) && (fieldAt fs name).isNone) = true := e
    rw [Bool.and_eq_true, decide_eq_true_eq] at e
    obtain ⟨a, d, es, n', rfl, h1, h2, F⟩ := r.toF
    have I : InstAt s.heap a _ C' (some (dictOf es n')) := ⟨R.keep _ _ h1, rfl, rfl, R.keep _ _ h2⟩
    rcases F.get name with ⟨_, q2⟩ | ⟨v2, w2, q1, _⟩
    · exact method_fn (R.K ok) (e.1 ▸ I) (plainGet_of hg).1 (plainGet_of hg).2 hf (beq_iff_eq.mp ht) (by show (lookIn name (dictOf es n')).map _ = _; rw [lookIn_dict, q2]; rfl) q
    · rw [q1] at e; exact nomatch e.2
  | _ => exact nomatch e

/-! ## A new object -/
theorem setOwn {A : Around} {E : Value → Shared → Prop} {x C dx : Addr} {ox : Obj} {es : List DictEntry} {m : Nat} {name : Str} {v : Value} {Q : Unit → Shared → Prop} {K : Frag} (X : K.In s.heap) (I : InstAt s.heap x ox C (some (dictOf es m))) (hd : ox.dict = some dx)
    (hs : findIn K (.ref C) "__setattr__" = some (some (.builtin "object.__setattr__"))) (hp : plainOver K C = true) (ht : takerIn K C name = some none) (hh : hasDictIn K C = true) (hl : (getL name es).isSome = true) (hz : es.length ≤ 100)
    (h : ∀ h' tk, h'.get? dx = some (dictOf (putL name (PyData.keyHash c.w.params name) (.str name (s.toks + 1)) v es) (putN name es m)) → (∀ b o, b ≠ dx → s.heap.get? b = some o → h'.get? b = some o) → Q () { s with heap := h', toks := tk }) :
    wpAny (model c.prog c.w) A (setAttr (.ref x) name v) Q E s := by
  refine set_plain X I hs (osa_open (s := { s with toks := s.toks + 1 }) X I hp ht fun b => ?_)
  obtain ⟨cd, hc, hd'⟩ := any_some hh
  obtain ⟨hx, hcl, hn, hdd⟩ := I
  obtain ⟨oc, odi, oda, osl⟩ := ox
  dsimp only at hcl hd
  subst hcl hd
  have D : s.heap.get? dx = some (dictOf es m) := hdd
  refine wpAny_bind (wpAny_pure (wpAny_bind (wpAny_bind (wpAny_loadPart hx (wpAny_bind (looks_clsIn (h := s.heap) X hc _ _ _ _ (fun _ _ e => e) ?_))))))
  rw [hd']
  refine wpAny_pure (a := some dx) (wpAny_bind (wpAny_pure (wpAny_bind ?_)))
  unfold nsSet
  refine wpAny_bind (wpAny_bind (wpAny_askSetting (wpAny_pure (wpAny_bind (wpAny_mkText (wpAny_bind (wpAny_loadPart D ?_)))))))
  dsimp only
  have cc : (!es.toArray.any (·.key.isStr name) && es.toArray.any (·.refKey)) = false := by
    rw [← Array.any_toList, ← Array.any_toList]
    show (!es.any (·.key.isStr name) && es.any (·.refKey)) = false
    unfold getL at hl
    split at hl
    · rename_i en he
      rw [List.any_eq_true.mpr ⟨en, List.mem_of_find?_eq_some he, List.find?_some he⟩]; rfl
    · split at hl
      · cases hl
      · rename_i z; rw [Bool.not_eq_true] at z; rw [z, Bool.and_false]
  rw [aRefKeyMayBeTheName_at, cc]
  refine wpAny_updatePart D ?_
  have D' := Heap.get?_update_self (Obj.putName name (PyData.keyHash c.w.params name) (.str name (s.toks + 1)) v) D (by rw [putName_dict]; rfl)
  rw [putName_dict] at D'
  have hz' : (putL name (PyData.keyHash c.w.params name) (.str name (s.toks + 1)) v es).length ≤ es.length + 1 := by
    clear h D' cc hl hdd D hz
    induction es with
    | nil => exact Nat.le_refl _
    | cons e r ih => unfold putL; split <;> simp only [List.length_cons] <;> omega
  refine wpAny_bind (wpAny_lookBehind D' (pastItsLine_dict (by rw [List.size_toArray, sizeLine_eq]; omega)) ?_)
  exact wpAny_pure (h _ _ D' fun b o hb e => (Heap.get?_update_other _ _ (Ne.symm hb)).trans e)
end
end Mine
-- ClsD
namespace Mine
section
variable {c : Cx} {n : Nat} {pe : PE} {g g' g₀ : G} {φ φ' φ₀ : List Addr} {ρ ρ' : Rho} {mem mem' mem₀ : List MO} {s : Shared} {v : V} {h h' h₀ h₁ : Heap} {x dx C : Addr} {fs : List (Str × V)}

structure ISt (c : Cx) (pe : PE) (g₀ : G) (φ₀ : List Addr) (mem₀ : List MO) (h₀ : Heap) (x dx C : Addr) (g : G) (φ : List Addr) (ρ : Rho) (mem : List MO) (fs : List (Str × V)) (h : Heap) : Prop where
  T : TrE pe g₀ φ₀ mem₀ h₀ g φ mem h
  R : Rel c pe g φ ρ mem h
  x0 : h₀.get? x = none
  d0 : h₀.get? dx = none
  ox : Off pe g φ x
  od : Off pe g φ dx
  ne : x ≠ dx
  at_ : h.get? x = some (instObj C dx)
  dic : ∃ es n, h.get? dx = some (dictOf es n) ∧ FRels g φ es fs
theorem ISt.step (I : ISt c pe g₀ φ₀ mem₀ h₀ x dx C g φ ρ mem fs h) (T : TrE pe g φ mem h g' φ' mem' h') (R : Rel c pe g' φ' ρ' mem' h') : ISt c pe g₀ φ₀ mem₀ h₀ x dx C g' φ' ρ' mem' fs h' := by
  refine I.dic.elim fun es y => y.elim fun k y => ?_
  have z1 := I.ox.step I.at_ T
  have z2 := I.od.step y.1 T
  exact ⟨I.T.trans I.R T, R, I.x0, I.d0, z1.1, z2.1, I.ne, z1.2, es, k, z2.2, y.2.mono T.base (pre_get T.pre)⟩
theorem FRels.length {es : List DictEntry} {fs : List (Str × V)} (r : FRels g φ es fs) : es.length = fs.length := FRels.ind (P := fun es fs => es.length = fs.length) rfl (fun _ _ _ _ _ _ _ _ _ ih => congrArg Nat.succ ih) r
theorem FRels.put {name : Str} {hs : Int} {t : Tok} {w : Value} (rv : VRel g φ w v) {es : List DictEntry} {fs : List (Str × V)} (r : FRels g φ es fs) : fieldAt fs name = none → FRels g φ (putL name hs (.str name t) w es) (fs ++ [(name, v)]) :=
  FRels.ind (P := fun es fs => fieldAt fs name = none → FRels g φ (putL name hs (.str name t) w es) (fs ++ [(name, v)])) (fun _ => .cons (t := t) rfl rv .nil) (fun e x t' v' es fs hk hv r ih hn => by
    unfold fieldAt at hn
    rw [List.find?_cons] at hn
    have q : e.key.isStr name = (x == name) := by rw [hk]; rfl
    cases z : x == name with
    | true => rw [z] at hn; exact noSome hn.symm
    | false =>
      rw [z] at hn
      unfold putL
      rw [q, z, if_neg (by decide)]
      exact .cons hk hv (ih hn)) r

/-- the class is plain, and its fields are names of its own -/
structure ClsAt (c : Cx) (C : Addr) : Prop where
  hs : findIn c.K (.ref C) "__setattr__" = some (some (.builtin "object.__setattr__"))
  hp : plainOver c.K C = true
  hh : hasDictIn c.K C = true
/-- the statements self.name = value of an __init__ -/
inductive InitsOK (c : Cx) (n : Nat) (pe : PE) (C : Addr) (self : Str) : List Stmt → List (Str × EF) → Prop
  | nil : InitsOK c n pe C self [] []
  | cons {sp ap pos : Pos} {value : Expr} {name : Str} {f : EF} {ss : List Stmt} {fs : List (Str × EF)} : EvOK c n pe value f → swapsWith value (some (.Attribute (.Name self sp) name ap)) pos.line pe.env = pure false → takerIn c.K C name = some none →
      InitsOK c n pe C self ss fs → InitsOK c n pe C self (.Assign [.Attribute (.Name self sp) name ap] value pos :: ss) ((name, f) :: fs)
noncomputable def initF : List (Str × EF) → Rho → List MO → List (Str × V) → Option (List (Str × V) × List MO)
  | [], _, m, fs => some (fs, m)
  | (name, f) :: r, ρ, m, fs => (f ρ m).bind fun q => if (fieldAt fs name).isNone && decide (fs.length ≤ 50) then initF r ρ q.2 (fs ++ [(name, q.1)]) else none
theorem initRun (ok : c.Ok) (D : ClsAt c C) {self : Str} (hk : pe.env.kindOf self = some .local) (hd : (self == ("__debug__" : Str)) = false) {A : Around} (hA : AOk n A) (hself : ρ self = some (.raw (.ref x))) : ∀ {ss : List Stmt} {fl : List (Str × EF)}, InitsOK c n pe C self ss fl →
    ∀ {mem fs fs'} {g : G} {φ : List Addr} {s : Shared} {Q : Flow → Shared → Prop} {E : Value → Shared → Prop}, initF fl ρ mem fs = some (fs', mem') → ISt c pe g₀ φ₀ mem₀ h₀ x dx C g φ ρ mem fs s.heap →
    (∀ g' φ' h' tk, ISt c pe g₀ φ₀ mem₀ h₀ x dx C g' φ' ρ mem' fs' h' → Q .next { s with heap := h', toks := tk }) → wpAny (model c.prog c.w) A (execs ss pe.env) Q E s := by
  intro ss fl H
  induction H with
  | nil =>
    intro mem fs fs' g φ s Q E e I P
    have e := someE2 e
    exact wpAny_execs_nil (P g φ s.heap s.toks (e.1 ▸ e.2 ▸ I))
  | @cons _ _ _ _ nm _ _ _ he hsw htk hr ih =>
    intro mem fs fs' g φ s Q E e I P
    refine bindE2 e fun v mem₁ e1 e2 => ?_
    refine ifE e2 fun hz e2 => ?_
    · rw [Bool.and_eq_true, decide_eq_true_eq] at hz
      refine wpAny_execs_cons ?_
      refine plainObj_wpAny_Assign_Attribute ?_ hsw
      refine fls_noted (he ρ mem v mem₁ e1 A g φ s _ hA I.R fun g1 φ1 h1 tk1 w1 T1 R1 r1 => ?_)
      have I1 := I.step T1 R1
      refine fls_noted (loadLocal (n := n) hk hd ρ mem₁ (.raw (.ref x)) mem₁ (by unfold nameX; rw [hself]; rfl) A g1 φ1 _ _ hA R1 fun g2 φ2 h2 tk2 w2 T2 R2 r2 => ?_)
      have I2 := I1.step T2 R2
      have r1 := T2.vrel r1
      refine r2.rawE (I2.dic.elim fun es y => y.elim fun k y => ?_)
      have ed := y.1
      have rf := y.2
      have hl : (getL nm es) = some none := by
        rcases rf.get nm with ⟨_, q⟩ | ⟨_, _, q, _⟩
        · exact q
        · rw [q] at hz; cases hz.1
      refine setOwn (c := c) (K := c.K) (R2.m.K ok) ⟨I2.at_, rfl, rfl, ed⟩ rfl D.hs D.hp htk D.hh (by rw [hl]; rfl) (by rw [rf.length]; omega) fun h3 tk3 e3 k3 => ?_
      have kx : ∀ b o, b ≠ dx → h2.get? b = some o → h3.get? b = some o := k3
      have I3 : ISt c pe g₀ φ₀ mem₀ h₀ x dx C g2 φ2 ρ mem₁ (fs ++ [(_, v)]) h3 := ⟨I2.T.touch I2.d0 kx, R2.touch I2.od kx, I2.x0, I2.d0, I2.ox, I2.od, I2.ne, kx _ _ I2.ne I2.at_, _, _, e3, rf.put r1 (by simpa using hz.1)⟩
      exact ih e2 I3 P

noncomputable def clsX (C : Addr) (self : Str) (names : List Str) (fl : List (Str × EF)) : CF := fun vs mem => (bindX names vs fun _ => none).bind fun ρ => if (ρ self).isNone then
  (initF fl ρ mem []).bind fun r => some (.inst C r.1, r.2) else none
theorem CallOK.cls {self : Str} {names : List Str} {fI : Addr} {fd : FuncData} {body : List Stmt} {fl : List (Str × EF)} (ok : c.Ok) (D : ClsAt c C) (hm : makesIn c.K C = true) (hi : findIn c.K (.ref C) "__init__" = some (some (.ref fI))) (hf : typeIn c.K (.ref fI) = some (.type "function"))
    (F : DefAt c fI fd body (self :: names)) (hks : fd.scope.names.lookup self = some .local) (hd : (self == ("__debug__" : Str)) = false) (hb : ∀ L, InitsOK c n (fnPE fd L fI) C self body fl)
    (hbl : ∀ vs ρ, bindX names vs (fun _ => none) = some ρ → ∀ w, ∃ ρ', bindX names vs (upd (fun _ => none) self w) = some ρ' ∧ ρ' self = some w ∧ ∀ m, initF fl ρ' m [] = initF fl ρ m []) : CallOK c (n + 2) (.ref C) (clsX C self names fl) := fun vs mem v mem' x A g φ s ws Q hA R r P => by
  refine bindE x fun ρ e1 z => ?_
  refine ifE z fun _ z => bindE2 z fun fs mem₁ e2 z => (hbl vs ρ e1 (.raw (.ref (s.heap.objs.size + 1)))).elim fun ρ' y => ?_
  · have e3 := y.1
    have e4 := y.2.1
    have e5 := y.2.2
    obtain ⟨hh, gg, dd, tt, os⟩ := s
    refine wpAny_call (make_core (makes_of (R.K ok) hm) (looks_findIn (R.K ok) hi) (fun self => bind_fn (R.K ok) self hf) (.inl rfl) ?_)
    dsimp only at R P e3 e4 ⊢
    have k0 : ∀ b o, hh.get? b = some o → ((hh.push emptyDict).push (instObj C hh.objs.size)).get? b = some o := fun b o e => size_mem _ b o (size_mem _ b o e)
    have zs : (hh.push emptyDict).objs.size = hh.objs.size + 1 := Heap.size_push ..
    have ax : ((hh.push emptyDict).push (instObj C hh.objs.size)).get? (hh.objs.size + 1) = some (instObj C hh.objs.size) := by
      have := Heap.get?_push_size (hh.push emptyDict) (o := instObj C hh.objs.size) rfl
      rw [zs] at this; exact this
    have ad : ((hh.push emptyDict).push (instObj C hh.objs.size)).get? hh.objs.size = some (dictOf [] 0) := size_mem _ _ _ (Heap.get?_push_size hh (o := emptyDict) rfl)
    have R0 := R.ext k0
    refine defRun (c := c) (a := fI) (ρ := ρ') (vs := .raw (.ref (hh.objs.size + 1)) :: vs) (mem := mem) (g := g) (φ := φ) (s := ⟨(hh.push emptyDict).push (instObj C hh.objs.size), gg, dd, tt, os⟩) ok F (by have := hA.2.1; show A.depth + 1 < recursionLimit; omega) R0 (.cons (.raw _) r) e3 fun E h₁ tk R1 kk hL hC => ?_
    dsimp only at R1 kk hL hC ⊢
    have hx0 : hh.get? (hh.objs.size + 1) = none := get_ge (Nat.le_succ _)
    have hd0 : hh.get? hh.objs.size = none := get_size _
    have kk' : ∀ b o, hh.get? b = some o → h₁.get? b = some o := fun b o e => kk b o (k0 b o e)
    have off : ∀ X, hh.get? X = none → (∃ o, ((hh.push emptyDict).push (instObj C hh.objs.size)).get? X = some o) → Off (fnPE fd ((hh.push emptyDict).push (instObj C hh.objs.size)).objs.size fI) g φ X := by
      rintro X hX ⟨o, eo⟩
      refine ⟨?_, fun m => ?_, fun m => ?_, fun q => ?_, fun y e => ?_⟩
      · cases q : g X with
        | none => rfl
        | some y => have := R.keep X y q; rw [hX] at this; cases this
      · obtain ⟨y, e⟩ := R.alloc X m; rw [hX] at e; cases e
      · have := hC.1 X m; rw [eo] at this; cases this
      · rw [q, hL] at eo; cases eo
      · have := hC.2 y X e; rw [eo] at this; cases this
    have I0 : ISt c (fnPE fd ((hh.push emptyDict).push (instObj C hh.objs.size)).objs.size fI) g φ mem hh (hh.objs.size + 1) hh.objs.size C g φ ρ' mem [] h₁ :=
      ⟨⟨List.prefix_refl _, fun a o e _ => kk' a o e, fun _ _ e => e, fun _ x => x.elim .inl fun y => .inr (.inl y), fun _ m => .inl m⟩, R1, hx0, hd0, off _ hx0 ⟨_, ax⟩, off _ hd0 ⟨_, ad⟩, Nat.succ_ne_self _, kk _ _ ax, [], 0, kk _ _ ad, .nil⟩
    have hA' : AOk n ((A.under (.builtin "type.__call__" ⟨.ref C :: ws, []⟩)).deeper (fnPE fd ((hh.push emptyDict).push (instObj C hh.objs.size)).objs.size fI).env) := by
      refine ⟨hA.1, ?_, ?_⟩
      · have := hA.2.1
        show A.depth + 1 + 1 + 4 * n < recursionLimit; omega
      · have := hA.2.2
        show A.units + 1 + 3 + 40 * n + 200 < cLine; omega
    refine initRun (pe := fnPE fd ((hh.push emptyDict).push (instObj C hh.objs.size)).objs.size fI) ok D hks hd hA' e4 (hb _) (by rw [e5]; exact e2) I0 fun g2 φ2 h2 tk2 I2 => ?_
    refine ⟨rfl, ?_⟩
    refine I2.dic.elim fun es y => y.elim fun k y => ?_
    have ed := y.1
    have rf := y.2
    have nn : ∀ b, ((hh.push emptyDict).push (instObj C hh.objs.size)).get? b = none → hh.get? b = none := fun b e => by
      cases q : hh.get? b with
      | none => rfl
      | some o => rw [k0 b o q] at e; cases e
    have T0 := TrE.down (h := hh) (fun _ _ e => e) (nn _ hL) (fun b hb => nn b (hC.1 b hb)) I2.T I2.R.m
    have T1 := T0.adopt hd0 ed I2.od.g I2.od.φ
    have gx : gAdd g2 hh.objs.size (dictOf es k) (hh.objs.size + 1) = none := by
      unfold gAdd; rw [if_neg (Nat.succ_ne_self _)]; exact I2.ox.g
    have T2 := T1.adopt hx0 I2.at_ gx I2.ox.φ
    have b1 := gAdd_base g2 hh.objs.size (dictOf es k) I2.od.g
    have b2 := gAdd_base (gAdd g2 hh.objs.size (dictOf es k)) (hh.objs.size + 1) (instObj C hh.objs.size) gx
    refine P.of z _ φ2 h2 tk2 _ T2 (.inst (gAdd_self _ _ _) (b2 _ _ (gAdd_self _ _ _)) (rf.mono (fun a o e => b2 a o (b1 a o e)) fun _ _ e => e))
end
end Mine
-- SetA
namespace Mine
noncomputable def insP (ks : List Nat) (k : Nat) : Nat := SetTable.below ks.toArray k
noncomputable def insL (ks : List Nat) (k : Nat) : List Nat := ks.take (insP ks k) ++ k :: ks.drop (insP ks k)
noncomputable def layOK (ks : List Nat) (k : Nat) (led : Bool) : Bool :=
  decide ((setTab led ks).freeSlot (k : Int) = some (k, false)) && decide ((setTab led ks).put k = (setTab led (insL ks k), insP ks k)) && decide (insP ks k ≤ ks.length) && smallLists.contains (insL ks k) && !(setTab led (insL ks k)).tooFull
theorem layAll : (smallLists.all fun ks => (List.range 8).all fun k => ks.contains k || decide (4 ≤ ks.length) || (layOK ks k true && layOK ks k false)) = true := by decide +kernel
theorem smallAll : (smallLists.all fun ks => decide (ks.length ≤ 4) && ks.all fun k => decide (k < 8)) = true := by decide +kernel
theorem smallNodup : (smallLists.all fun ks => decide ks.Nodup) = true := by decide +kernel
theorem hashSmall : ((List.range 8).all fun k => decide (hashInt (k : Int) = (k : Int))) = true := by decide +kernel
theorem small_len {ks : List Nat} (h : ks ∈ smallLists) : ks.length ≤ 4 ∧ ∀ k ∈ ks, k < 8 := by
  have := List.all_eq_true.mp smallAll ks h
  rw [Bool.and_eq_true, decide_eq_true_eq, List.all_eq_true] at this
  exact ⟨this.1, fun k hk => of_decide_eq_true (this.2 k hk)⟩
theorem small_nodup {ks : List Nat} (h : ks ∈ smallLists) : ks.Nodup := of_decide_eq_true (List.all_eq_true.mp smallNodup ks h)
theorem lay_of {ks : List Nat} {k : Nat} {led : Bool} (h : ks ∈ smallLists) (hk : k < 8) (hn : k ∉ ks) (hl : ks.length < 4) :
    (setTab led ks).freeSlot (k : Int) = some (k, false) ∧ (setTab led ks).put k = (setTab led (insL ks k), insP ks k) ∧ insP ks k ≤ ks.length ∧ insL ks k ∈ smallLists ∧ (setTab led (insL ks k)).tooFull = false := by
  have := List.all_eq_true.mp (List.all_eq_true.mp layAll ks h) k (List.mem_range.mpr hk)
  have c1 : ks.contains k = false := by simpa using hn
  have c2 : decide (4 ≤ ks.length) = false := by simpa using hl
  rw [c1, c2, Bool.false_or, Bool.false_or, Bool.and_eq_true] at this
  have z : layOK ks k led = true := by
    cases led
    · exact this.2
    · exact this.1
  unfold layOK at z
  simp only [Bool.and_eq_true, decide_eq_true_eq, Bool.not_eq_true'] at z
  exact ⟨z.1.1.1.1, z.1.1.1.2, z.1.1.2, by simpa using z.1.2, z.2⟩
theorem hash_small {k : Nat} (h : k < 8) : hashInt (k : Int) = (k : Int) := of_decide_eq_true (List.all_eq_true.mp hashSmall k (List.mem_range.mpr h))

noncomputable def SmallSet (h : Heap) (a : Addr) (led : Bool) (ks : List Nat) : Prop := ∃ es ep, h.get? a = some ⟨.type "set", none, .set es ep (setTab led ks), #[]⟩ ∧ ks ∈ smallLists ∧ es.toList.map (·.1) = ks.map Int.ofNat ∧ ∀ e ∈ es.toList, ∃ t, e.2 = .int e.1 t
theorem insertAt_list {α : Type} (xs : Array α) (p : Nat) (x : α) : (SetTable.insertAt xs p x).toList = xs.toList.take p ++ x :: xs.toList.drop p := by
  simp [SetTable.insertAt]
  rw [List.take_of_length_le (by simp)]
theorem insL_mem {ks : List Nat} {k j : Nat} : j ∈ insL ks k ↔ j ∈ ks ∨ j = k := by
  unfold insL
  rw [List.mem_append, List.mem_cons]
  have : j ∈ ks ↔ j ∈ ks.take (insP ks k) ∨ j ∈ ks.drop (insP ks k) := by rw [← List.mem_append, List.take_append_drop]
  rw [this]
  constructor
  · rintro (h | h | h)
    · exact .inl (.inl h)
    · exact .inr h
    · exact .inl (.inr h)
  · rintro ((h | h) | h)
    · exact .inl h
    · exact .inr (.inr h)
    · exact .inr (.inl h)
section
variable {prog : Program} {w : World} {A : Around} {E : Value → Shared → Prop} {s : Shared} {a : Addr} {led : Bool} {ks : List Nat}
theorem small_elems {es : Array (Int × Value)} (h : ks ∈ smallLists) (hm : es.toList.map (·.1) = ks.map Int.ofNat) (hv : ∀ e ∈ es.toList, ∃ t, e.2 = .int e.1 t) : ElemsOf (intKind prog w) es.toList ∧ (∀ k : Nat, (∃ e ∈ es.toList, (intKind prog w).is (k : Int) e.2 = true) ↔ k ∈ ks) ∧ es.size = ks.length := by
  have key : ∀ e ∈ es.toList, ∃ j : Nat, j ∈ ks ∧ e.1 = (j : Int) := fun e he => by
    have : e.1 ∈ ks.map Int.ofNat := hm ▸ List.mem_map.mpr ⟨e, he, rfl⟩
    obtain ⟨j, hj, q⟩ := List.mem_map.mp this
    exact ⟨j, hj, q.symm⟩
  refine ⟨fun e he => ?_, fun k => ⟨?_, fun hk => ?_⟩, ?_⟩
  · obtain ⟨t, ht⟩ := hv e he
    obtain ⟨j, hj, q⟩ := key e he
    refine ⟨⟨e.1, by rw [ht]; exact intKind_is _ _ _ _, ?_⟩, by rw [ht]; rfl⟩
    show e.1 = hashInt e.1
    rw [q, hash_small ((small_len h).2 j hj)]
  · rintro ⟨e, he, hq⟩
    obtain ⟨t, ht⟩ := hv e he
    obtain ⟨j, hj, q⟩ := key e he
    rw [ht, q] at hq
    have : (j : Int) = (k : Int) := (intKind prog w).inj _ _ _ (intKind_is prog w (j : Int) t) hq
    have : j = k := by omega
    exact this ▸ hj
  · have : (k : Int) ∈ es.toList.map (·.1) := hm ▸ List.mem_map.mpr ⟨k, hk, rfl⟩
    obtain ⟨e, he, q⟩ := List.mem_map.mp this
    obtain ⟨t, ht⟩ := hv e he
    exact ⟨e, he, by rw [ht, q]; exact intKind_is _ _ _ _⟩
  · have := congrArg List.length hm
    simpa using this
theorem fits_small (h : ks ∈ smallLists) {n : Nat} (hn : n = ks.length) : (setTab led ks).fits n = true := by
  have := (small_len h).1
  unfold SetTable.fits setTab SetTable.fill
  simp only [List.size_toArray, hn, beq_self_eq_true, Bool.true_and, decide_eq_true_eq]
  show ks.length + 0 ≤ 7
  omega
theorem setAdd_small {k : Nat} {t : Tok} {Q : Bool → Shared → Prop} (hS : SmallSet s.heap a led ks) (hk : k < 8) (hroom : k ∈ ks ∨ ks.length < 4)
    (h : ∀ h', Heap.SameBut a s.heap h' → SmallSet h' a led (if k ∈ ks then ks else insL ks k) → ∀ b, Q b { s with heap := h' }) :
    wpAny (model prog w) A (setAddHashed a (.int k t) (hashInt k)) Q E s := by
  obtain ⟨es, ep, ho, hks, hm, hv⟩ := id hS
  obtain ⟨hel, hmem, hsz⟩ := small_elems (prog := prog) (w := w) hks hm hv
  have hl4 := (small_len hks).1
  have hb : es.size < scanBound := by rw [hsz]; exact Nat.lt_of_le_of_lt hl4 (by decide)
  have hf := fits_small (led := led) hks hsz
  have hkey : (intKind prog w).is (k : Int) (.int k t) = true := intKind_is _ _ _ _
  unfold setAddHashed setAddHashedIn
  refine wpAny_holding (wpAny_bind (wpAny_setState_of ho rfl hf ?_))
  dsimp only
  rw [byScan_of rfl hb hel]
  simp only [↓reduceIte]
  unfold setAddByScan
  refine wpAny_bind ?_
  refine wpAny_bind (wpAny_rule ?_)
  refine wpAny_bind (wpAny_setScan_of (knd := intKind prog w) hkey ho rfl hf hel ?_)
  cases hr : List.findIdx? (fun e => (intKind prog w).is (k : Int) e.2) es.toList with
  | some j =>
    dsimp only
    obtain ⟨hj, hpj, _⟩ := List.findIdx?_eq_some_iff_getElem.mp hr
    have hkm : k ∈ ks := (hmem k).mp ⟨es.toList[j], List.getElem_mem hj, hpj⟩
    refine wpAny_pure (wpAny_pure ?_)
    have := h s.heap (Heap.SameBut.refl a s.heap) (by rw [if_pos hkm]; exact hS)
    exact this _
  | none =>
    dsimp only
    have hkm : k ∉ ks := fun q => by
      obtain ⟨e, he, hp⟩ := (hmem k).mpr q
      have := List.findIdx?_eq_none_iff.mp hr e he
      rw [hp] at this; exact Bool.noConfusion this
    have hl : ks.length < 4 := hroom.resolve_left hkm
    obtain ⟨l1, l2, l3, l4, l5⟩ := lay_of (led := led) hks hk hkm hl
    have hes' : (SetTable.insertAt es (insP ks k) ((k : Int), Value.int k t)).toList = es.toList.take (insP ks k) ++ ((k : Int), Value.int k t) :: es.toList.drop (insP ks k) := insertAt_list _ _ _
    have hm' : (SetTable.insertAt es (insP ks k) ((k : Int), Value.int k t)).toList.map (·.1) = (insL ks k).map Int.ofNat := by
      rw [hes', List.map_append, List.map_cons, List.map_take, List.map_drop, hm]
      unfold insL
      rw [List.map_append, List.map_cons, List.map_take, List.map_drop]; rfl
    have hv' : ∀ e ∈ (SetTable.insertAt es (insP ks k) ((k : Int), Value.int k t)).toList, ∃ t, e.2 = .int e.1 t := fun e he => by
      rw [hes'] at he
      rcases List.mem_append.mp he with he | he
      · exact hv e (List.mem_of_mem_take he)
      · rcases List.mem_cons.mp he with he | he
        · rw [he]; exact ⟨t, rfl⟩
        · exact hv e (List.mem_of_mem_drop he)
    obtain ⟨_, _, hsz'⟩ := small_elems (prog := prog) (w := w) l4 hm' hv'
    have hf' := fits_small (led := led) l4 hsz'
    have hL : layNew (setTab led ks) es (hashInt k) (.int k t) = (SetTable.insertAt es (insP ks k) ((k : Int), Value.int k t), setTab led (insL ks k), false, false) := by
      unfold layNew
      rw [hash_small hk, l1]
      dsimp only
      rw [l2]
      dsimp only
      unfold SetTable.orStandIn
      rw [hf', if_pos rfl]; rfl
    show wpAny _ _ (match layNew (setTab led ks) es (hashInt k) (.int k t) with | _ => _) _ _ _
    rw [hL]
    dsimp only
    refine wpAny_bind (wpAny_pure ?_)
    have hp : (setTab led (insL ks k)).plain = true := rfl
    rw [if_pos hp, hashByValue_scannable 8 (x := .int k t) rfl]
    refine wpAny_bind (wpAny_pure ?_)
    rw [if_pos (show plainKind (.int k t) = true from rfl)]
    refine wpAny_bind (wpAny_storeSet_of ho rfl ?_ (by rw [hsz']; exact Nat.le_trans (small_len l4).1 (by rw [sizeLine_eq]; omega)))
    rw [l5]
    have hend := h (s.heap.update a (Obj.putSet (SetTable.insertAt es (insP ks k) ((k : Int), Value.int k t)) (setTab led (insL ks k)))) (Heap.SameBut.update ..) (by
      rw [if_neg hkm]
      have := Heap.get?_update_self (Obj.putSet (SetTable.insertAt es (insP ks k) ((k : Int), Value.int k t)) (setTab led (insL ks k))) ho (by rw [putSet_of _ _ (rfl : (⟨.type "set", none, .set es ep (setTab led ks), #[]⟩ : Obj).data = _)]; rfl)
      rw [putSet_of _ _ (rfl : (⟨.type "set", none, .set es ep (setTab led ks), #[]⟩ : Obj).data = _)] at this
      exact ⟨_, _, this, l4, hm', hv'⟩)
    exact wpAny_pure (wpAny_pure (hend _))
end
end Mine
-- SetB
namespace Mine
section
variable {prog : Program} {w : World} {A : Around} {E : Value → Shared → Prop} {s : Shared}
/-- whether a new set's places are known -/
abbrev ledOf (w : World) : Bool := !(w.params.followText "set-order")
theorem setNew (a : Value) {Q₁ : Value → Shared → Prop}
    (h : Q₁ (.ref s.heap.objs.size) { s with heap := s.heap.push { cls := .type "set", dict := none, data := .set #[] 0 (.fresh 0 0 (ledOf w)) } }) :
    codeAny (model prog w) A (.call (.builtin "set.__new__") ⟨[.type "set", a], []⟩) (wants Q₁ E) s := by
  refine codeAny_of_tree ?_
  show wpAny _ A.in1 (do checkBuiltinCall "set.__new__" ⟨[.type "set", a], []⟩; again (.builtin "set.__new__" ⟨[.type "set", a], []⟩)) _ _ s
  refine wpAny_bind (wpAny_of_eq (PySem.F.newCall_set_1 a) (wpAny_pure ⟨plainId_quiet PySem.F.plain_set_new _, codeAny_builtin PySem.F.entry_set_new ?_⟩))
  rw [Around.under_plainId PySem.F.plain_set_new _]
  unfold Builtin.«set.__new__» Builtin.Frozenset.newClass
  have hsub := sub_set_self
  obtain ⟨hp, g, d, tk, os⟩ := s
  dsimp only
  wp_walk
  refine wpAny_askSetting (wpAny_pure ?_)
  dsimp only
  simp only [newObj]
  refine wpAny_bind (wpAny_alloc (wpAny_pure ?_))
  exact wpAny_pure h
theorem sub_tuple_set : isSubtype (.type "tuple") (.type "set") = pure false := by rw [isSubtype_type]; kernel_rfl
theorem sub_tuple_frozenset : isSubtype (.type "tuple") (.type "frozenset") = pure false := by rw [isSubtype_type]; kernel_rfl

theorem setCore {l : Addr} {T : String} {ol : Obj} {Q : Value → Shared → Prop} (ho : s.heap.get? l = some ol) (hc : ol.cls = .type T) (hT : T = "list" ∨ T = "tuple")
    (hq : ∀ (E' : Value → Shared → Prop), wpAny (model prog w) A.in1.in1 (pyIter (.ref l)) (fun it s₂ => codeAny (model prog w) A.in1.in1 (.builtin "set.update.loop" ⟨[.ref s.heap.objs.size, it], []⟩) (fun r s' => r = .ok (.ret .none) ∧ ∃ h' tk, s' = { s with heap := h', toks := tk } ∧ Q (.ref s.heap.objs.size) s') s₂) E' { s with heap := s.heap.push { cls := .type "set", dict := none, data := .set #[] 0 (.fresh 0 0 (ledOf w)) } }) :
    wpAny (model prog w) A (call (.type "set") [.ref l]) Q E s := by
  obtain ⟨c, tl, hmro⟩ := PySem.F.called_set.mro
  have hmade := PySem.F.called_set.made
  have hsub := PySem.F.called_set.sub
  refine wpAny_call (codeAny_of_tree ?_)
  show wpAny _ _ (callAny (.type "set") _) _ _ _
  refine wpAny_pure ⟨Code.quiet_builtin _ (by decide +kernel), codeAny_builtin PySem.F.entry_type_call ?_⟩
  rw [Around.under_plain (weight_type_call_type "set" [.ref l] []) rfl]
  have h1 := PySem.F.called_set.notType
  have h2 := PySem.F.called_set.canCreate
  have hct := PySem.F.typeCall_set_1 (.ref l)
  repeat (any_goals (first | assumption | wp_step))
  refine codeAny_mono (setNew (.ref l) (E := E) (Q₁ := fun obj s₁ => obj = .ref s.heap.objs.size ∧ s₁ = { s with heap := s.heap.push { cls := .type "set", dict := none, data := .set #[] 0 (.fresh 0 0 (ledOf w)) } }) ⟨rfl, rfl⟩) fun r s₁ hr => ?_
  cases r with
  | error e => exact hr
  | ok fl =>
    cases fl with
    | ret obj =>
      obtain ⟨rfl, rfl⟩ := hr
      have hS : (s.heap.push { cls := .type "set", dict := none, data := .set #[] 0 (.fresh 0 0 (ledOf w)) }).get? s.heap.objs.size = some { cls := .type "set", dict := none, data := .set #[] 0 (.fresh 0 0 (ledOf w)) } := Heap.get?_push_size _ rfl
      have hTy : Shared.TypeIs { s with heap := s.heap.push { cls := .type "set", dict := none, data := .set #[] 0 (.fresh 0 0 (ledOf w)) } } (.ref s.heap.objs.size) "set" := ⟨_, hS, rfl⟩
      have hli := PySem.F.called_set.init.lookup
      have hbi := PySem.F.called_set.init.bind (.ref s.heap.objs.size)
      repeat (any_goals (first | assumption | wp_step))
      refine codeAny_mono (codeAny_call_builtin (R := wants (fun r s₂ => r = .none ∧ ∃ h' tk, s₂ = { s with heap := h', toks := tk } ∧ Q (.ref s.heap.objs.size) { s with heap := h', toks := tk }) E) PySem.F.called_set.init.plain PySem.F.entry_set_init (check_set_init_1 hTy ?_)) fun r₂ s₂ hr₂ => ?_
      · obtain ⟨ocls, odict, odata, oslots⟩ := ol
        simp only at hc
        subst hc
        have hol' : (s.heap.push { cls := .type "set", dict := none, data := .set #[] 0 (.fresh 0 0 (ledOf w)) }).get? l = some { cls := .type T, dict := odict, data := odata, slots := oslots } := Heap.get?_push_of_some _ ho
        rcases hT with rfl | rfl
        · have hsls := PySem.F.sub_list_set
          have hslf := PySem.F.sub_list_frozenset
          have hne : (Value.type "list" == Value.type "dict") = false := by decide
          unfold Builtin.«set.__init__» noKeywords Builtin.Frozenset.updateFrom
          generalize hPI : pyIter = PI
          wp_walk
          subst hPI
          refine wpAny_mono (hq _) (fun it s₂ hx => wpAny_bind (wpAny_runValue (codeAny_mono hx fun r s' z => ?_))) fun _ _ z => z
          obtain ⟨rfl, h', tk, rfl, q⟩ := z
          exact wpAny_pure (wpAny_pure ⟨rfl, h', tk, rfl, q⟩)
        · have hsls := sub_tuple_set
          have hslf := sub_tuple_frozenset
          have hne : (Value.type "tuple" == Value.type "dict") = false := by decide
          unfold Builtin.«set.__init__» noKeywords Builtin.Frozenset.updateFrom
          generalize hPI : pyIter = PI
          wp_walk
          subst hPI
          refine wpAny_mono (hq _) (fun it s₂ hx => wpAny_bind (wpAny_runValue (codeAny_mono hx fun r s' z => ?_))) fun _ _ z => z
          obtain ⟨rfl, h', tk, rfl, q⟩ := z
          exact wpAny_pure (wpAny_pure ⟨rfl, h', tk, rfl, q⟩)
      · cases r₂ with
        | error e => exact hr₂
        | ok fl₂ =>
          cases fl₂ with
          | ret r =>
            obtain ⟨rfl, h', tk, rfl, hS'⟩ := hr₂
            repeat (any_goals (first | assumption | wp_step))
          | _ => exact hr₂.elim
    | _ => exact hr.elim
end
end Mine
-- SetC
namespace Mine
/-! ## The numbers of a list, each once -/
noncomputable def dedI (ns : List Int) : List Int := ns.foldl step_dedup []
theorem ded_fold : ∀ (ns σ : List Int), (∀ k, k ∈ ns.foldl step_dedup σ ↔ k ∈ σ ∨ k ∈ ns) ∧ (σ.Nodup → (ns.foldl step_dedup σ).Nodup) ∧ σ.length ≤ (ns.foldl step_dedup σ).length
  | [], σ => ⟨fun k => by simp, id, Nat.le_refl _⟩
  | n :: ns, σ => by
    obtain ⟨h1, h2, h3⟩ := ded_fold ns (step_dedup σ n)
    have hm : ∀ k, k ∈ step_dedup σ n ↔ k ∈ σ ∨ k = n := fun k => by
      unfold step_dedup
      split
      · rename_i h
        obtain ⟨x, hx, e⟩ := List.any_eq_true.mp h
        have e := beq_iff_eq.mp e
        exact ⟨.inl, fun h => h.elim id fun q => by rw [q, ← e]; exact hx⟩
      · simp
    refine ⟨fun k => ?_, fun hn => h2 ?_, Nat.le_trans ?_ h3⟩
    · rw [List.foldl_cons, h1, hm, List.mem_cons, or_assoc]
    · unfold step_dedup
      split
      · exact hn
      · rename_i h
        rw [List.nodup_append]
        refine ⟨hn, by simp, fun a ha b hb q => h ?_⟩
        rw [List.mem_singleton.mp hb] at q
        exact List.any_eq_true.mpr ⟨a, ha, by simpa using q⟩
    · unfold step_dedup
      split
      · exact Nat.le_refl _
      · rw [List.length_append]; exact Nat.le_add_right _ _
theorem mem_dedI {ns : List Int} {k : Int} : k ∈ dedI ns ↔ k ∈ ns := by
  have := (ded_fold ns []).1 k
  simpa [dedI] using this
theorem dedI_nodup (ns : List Int) : (dedI ns).Nodup := (ded_fold ns []).2.1 List.nodup_nil
theorem dedI_take (ns : List Int) (i : Nat) : (dedI (ns.take i)).length ≤ (dedI ns).length := by
  have := (ded_fold (ns.drop i) (dedI (ns.take i))).2.2
  unfold dedI at this ⊢
  rwa [← List.foldl_append, List.take_append_drop] at this
noncomputable def ksOf (ns : List Int) : List Nat := ns.foldl (fun ks n => if n.toNat ∈ ks then ks else insL ks n.toNat) []
theorem insL_length {ks : List Nat} {k : Nat} : (insL ks k).length = ks.length + 1 := by
  unfold insL
  rw [List.length_append, List.length_cons, ← Nat.add_assoc, ← List.length_append, List.take_append_drop]
theorem ksOf_snoc (ns : List Int) (n : Int) : ksOf (ns ++ [n]) = if n.toNat ∈ ksOf ns then ksOf ns else insL (ksOf ns) n.toNat := by
  unfold ksOf; rw [List.foldl_append]; rfl
theorem dedI_snoc (ns : List Int) (n : Int) : dedI (ns ++ [n]) = if n ∈ ns then dedI ns else dedI ns ++ [n] := by
  have e : dedI (ns ++ [n]) = step_dedup (dedI ns) n := by unfold dedI; rw [List.foldl_append]; rfl
  rw [e]
  unfold step_dedup
  by_cases h : n ∈ ns
  · rw [if_pos h, if_pos]
    exact List.any_eq_true.mpr ⟨n, mem_dedI.mpr h, by simp⟩
  · rw [if_neg h, if_neg]
    intro q
    obtain ⟨x, hx, e⟩ := List.any_eq_true.mp q
    have e := beq_iff_eq.mp e
    exact h (mem_dedI.mp (e ▸ hx))
theorem ks_ded : ∀ (i : Nat) (ns : List Int), (∀ k ∈ ns, 0 ≤ k) → (∀ j : Nat, j ∈ ksOf (ns.take i) ↔ (j : Int) ∈ ns.take i) ∧ (ksOf (ns.take i)).length = (dedI (ns.take i)).length
  | 0, ns, _ => by simp [ksOf, dedI]
  | i + 1, ns, h => by
    obtain ⟨h1, h2⟩ := ks_ded i ns h
    by_cases hi : i < ns.length
    · have ht : ns.take (i + 1) = ns.take i ++ [ns[i]] := by rw [List.take_add_one, List.getElem?_eq_getElem hi]; rfl
      have h0 : 0 ≤ ns[i] := h _ (List.getElem_mem hi)
      have e : (ns[i].toNat : Int) = ns[i] := Int.toNat_of_nonneg h0
      have hm := h1 ns[i].toNat
      rw [e] at hm
      rw [ht, ksOf_snoc, dedI_snoc]
      by_cases q : ns[i] ∈ ns.take i
      · rw [if_pos q, if_pos (hm.mpr q)]
        refine ⟨fun j => ?_, h2⟩
        rw [h1 j, List.mem_append, List.mem_singleton]
        exact ⟨.inl, fun z => z.elim id fun z => z ▸ q⟩
      · rw [if_neg q, if_neg (fun z => q (hm.mp z))]
        refine ⟨fun j => ?_, by rw [insL_length, List.length_append, h2]; rfl⟩
        rw [insL_mem, h1 j, List.mem_append, List.mem_singleton]
        have : j = ns[i].toNat ↔ (j : Int) = ns[i] := by omega
        rw [this]
    · have ht : ns.take (i + 1) = ns.take i := by rw [List.take_of_length_le (by omega), List.take_of_length_le (by omega)]
      rw [ht]; exact ⟨h1, h2⟩
theorem firstMet_ded (ns : List Int) : firstMet (fun i => ns.getD i 0) ns.length = dedI ns := by
  unfold firstMet dedI
  congr 1
  apply List.ext_getElem
  · simp
  · intro i h1 h2
    simp at h1
    simp [List.getElem?_eq_getElem h1]

section
variable {prog : Program} {w : World} {A : Around} {R : Result → Shared → Prop} {I : Addr} {fp wr : List Addr} {G : Array GenState → Array GenState → Prop} {n : Nat} {P : Nat → Value → Prop} {St : Nat → Shared → Prop} {led : Bool}
theorem SmallSet.at {h h' : Heap} {a : Addr} {ks : List Nat} (x : SmallSet h a led ks) (k : ∀ o, h.get? a = some o → h'.get? a = some o) : SmallSet h' a led ks := let ⟨es, ep, e, r⟩ := x; ⟨es, ep, k _ e, r⟩
theorem updateSmall (W : WalksS prog w A.in1 I fp wr G n P St) (S : Addr) (hSf : S ∉ fp) (ns : List Int) (hn : n = ns.length) (hval : ∀ i v, P i v → ∃ t, v = .int (ns.getD i 0) t) (hsm : ∀ k ∈ ns, 0 ≤ k ∧ k < 8) (hl4 : (dedI ns).length ≤ 4) :
    ∀ (k i : Nat) (s : Shared), n - i = k → i ≤ n → St i s → SmallSet s.heap S led (ksOf (ns.take i)) →
      (∀ s', Moved (S :: wr) G s s' → SmallSet s'.heap S led (ksOf ns) → R (.ok (.ret .none)) s') →
      codeAny (model prog w) A (.builtin "set.update.loop" ⟨[.ref S, .ref I], []⟩) R s := by
  have hSw : S ∉ wr := fun h => hSf (W.sub _ h)
  have hsub : ∀ b ∈ wr, b ∈ S :: wr := fun b hb => List.mem_cons_of_mem _ hb
  intro k
  induction k with
  | zero =>
    intro i s hk hi hst hS hR
    have hin : i = n := by omega
    subst hin
    refine codeAny_builtin PyProof.Rows.F.entry_set_update_loop ?_
    rw [Around.under_plainId PyProof.Rows.F.plain_set_update_loop _]
    show wpAny _ A.in1 (pyNext (.ref I) >>= _) _ _ s
    refine wpAny_bind (W.done s _ _ hst fun s' hm => ?_)
    rw [hn, List.take_length] at hS
    exact wpAny_pure (hR s' (hm.mono hsub) (hS.at fun o e => hm.heap S _ hSw e))
  | succ k ih =>
    intro i s hk hi hst hS hR
    have hlt : i < n := by omega
    have hlt' : i < ns.length := hn ▸ hlt
    refine codeAny_builtin PyProof.Rows.F.entry_set_update_loop ?_
    rw [Around.under_plainId PyProof.Rows.F.plain_set_update_loop _]
    show wpAny _ A.in1 (pyNext (.ref I) >>= _) _ _ s
    refine wpAny_bind (W.item i s _ _ hlt hst fun v s' hP hst' hm => ?_)
    obtain ⟨t, rfl⟩ := hval i v hP
    have hS' : SmallSet s'.heap S led (ksOf (ns.take i)) := hS.at fun o e => hm.heap S _ hSw e
    have hg : ns.getD i 0 = ns[i] := by rw [List.getD_eq_getElem?_getD, List.getElem?_eq_getElem hlt']; rfl
    obtain ⟨h0, h8⟩ := hsm _ (List.getElem_mem hlt')
    obtain ⟨j, hj⟩ : ∃ j : Nat, ns[i] = (j : Int) := ⟨ns[i].toNat, (Int.toNat_of_nonneg h0).symm⟩
    have hj8 : j < 8 := by omega
    have ht : ns.take (i + 1) = ns.take i ++ [ns[i]] := by rw [List.take_add_one, List.getElem?_eq_getElem hlt']; rfl
    have hz : ns[i].toNat = j := by rw [hj]; exact Int.toNat_natCast j
    have kd := ks_ded i ns fun k hk => (hsm k hk).1
    have kd1 := ks_ded (i + 1) ns fun k hk => (hsm k hk).1
    show wpAny _ A.in1 (holding [Value.int (ns.getD i 0) t] (setAdd S (.int (ns.getD i 0) t)) >>= _) _ _ s'
    rw [hg, hj]
    refine wpAny_bind (wpAny_holding ?_)
    unfold setAdd
    refine wpAny_holding ?_
    refine wpAny_bind ((intKind prog w).pyHash (k := (j : Int)) (intKind_is _ _ _ _) ?_)
    refine setAdd_small (s := { s' with toks := s'.toks + 1 }) hS' hj8 ?_ fun h' hsb hS2 b => ?_
    · by_cases q : j ∈ ksOf (ns.take i)
      · exact .inl q
      · refine .inr ?_
        have e : ksOf (ns.take (i + 1)) = insL (ksOf (ns.take i)) j := by rw [ht, ksOf_snoc, hz, if_neg q]
        have e2 := kd1.2
        rw [e, insL_length] at e2
        have := dedI_take ns (i + 1)
        omega
    · have hSi : SmallSet h' S led (ksOf (ns.take (i + 1))) := by
        rw [ht, ksOf_snoc, hz]; exact hS2
      refine wpAny_pure ⟨plainId_quiet PyProof.Rows.F.plain_set_update_loop _, ih (i + 1) _ (by omega) hlt (W.frame _ s' _ _ hst' (Nat.le_succ _) fun b hb o e => ?_) hSi fun s'' hm'' hS'' => ?_⟩
      · rw [hsb.2 b (fun h : b = S => hSf (by rw [← h]; exact hb))]; exact e
      · refine hR s'' (Moved.trans W.gtrans ((hm.mono hsub).then_heap (Nat.le_succ _) fun b o hb e => ?_) hm'') hS''
        rw [hsb.2 b (fun h : b = S => hb (by rw [h]; exact List.mem_cons_self))]; exact e
end

section
variable {c : Cx} {n : Nat} {g : G} {φ : List Addr} {mem mem' : List MO} {s : Shared} {v : V} {h h' : Heap}
noncomputable def toInts : List V → Option (List Int)
  | [] => some []
  | v :: l => v.onInt fun i => (toInts l).bind fun r => some (i :: r)
theorem V.onIntV {α : Type} {v : V} {f : Int → Option α} {r : α} {P : Prop} (e : v.onInt f = some r) (k : ∀ i, v = .int i → f i = some r → P) : P := by
  cases v with
  | int i => exact k i rfl e
  | _ => exact noSome e
theorem toInts_eq : ∀ {l : List V} {ns : List Int}, toInts l = some ns → l = ns.map .int := by
  intro l
  induction l with
  | nil => intro ns e; exact (Option.some.inj e) ▸ rfl
  | cons v l ih =>
    intro ns e
    refine V.onIntV e fun i q e => bindE e fun r e1 e2 => ?_
    rw [← Option.some.inj e2, q, List.map_cons, ih e1]
theorem toInts_map (ns : List Int) : toInts (ns.map .int) = some ns := by
  induction ns with
  | nil => rfl
  | cons n ns ih => rw [List.map_cons, toInts, ih]; rfl
theorem smallSet_obj {led : Bool} {ns : List Int} {a : Addr} (hsm : ∀ k ∈ ns, 0 ≤ k ∧ k < 8) (x : SmallSet h a led (ksOf ns)) : ∃ o, h.get? a = some o ∧ o.IntSetOf (fun k => (dedI ns).contains k) (dedI ns).length ∧ SmallTab o led (dedI ns) := by
  obtain ⟨es, ep, e, hks, hm, hv⟩ := x
  have kd := ks_ded ns.length ns fun k hk => (hsm k hk).1
  rw [List.take_length] at kd
  refine ⟨_, e, fun prog w => ?_, fun _ _ => ⟨es, ep, ksOf ns, rfl, hks, hm⟩⟩
  obtain ⟨hel, hmem, hsz⟩ := small_elems (prog := prog) (w := w) hks hm hv
  refine ⟨⟨rfl, rfl, rfl⟩, es, ep, _, rfl, hel, fun k => ?_, by rw [hsz, kd.2], fits_small hks hsz⟩
  rw [List.contains_iff_mem, mem_dedI]
  constructor
  · intro hk
    obtain ⟨h0, _⟩ := hsm k hk
    have e : (k.toNat : Int) = k := Int.toNat_of_nonneg h0
    have := (hmem k.toNat).mpr ((kd.1 k.toNat).mpr (by rw [e]; exact hk))
    rwa [e] at this
  · rintro ⟨en, he, hq⟩
    obtain ⟨t, ht⟩ := hv en he
    have hin : en.1 ∈ (ksOf ns).map Int.ofNat := hm ▸ List.mem_map.mpr ⟨en, he, rfl⟩
    obtain ⟨j, hj, q⟩ := List.mem_map.mp hin
    rw [ht] at hq
    have : en.1 = k := (intKind prog w).inj _ _ _ (intKind_is prog w en.1 t) hq
    rw [← this, ← q]
    exact (kd.1 j).mp hj
noncomputable def seqOf (mem : List MO) (v : V) : Option (List V) := match v with
  | .lst l => some l
  | .tup l => some l
  | .ref k => moL mem[k]? some
  | _ => none
@[elab_as_elim] theorem seqOfE {P : Value → Prop} {wv : Value} (r : VRel g φ wv v) (R : MRel c g φ mem h) {l : List V} (e : seqOf mem v = some l) (k : ∀ a o T vs, h.get? a = some o → (T = "list" ∨ T = "tuple") → SeqObj T o vs → VRels g φ vs l → P (.ref a)) : P wv := by
  cases v with
  | lst l₁ => exact VRel.lstE r fun a o vs h1 h2 h3 => k a o _ vs (R.keep _ _ h1) (.inl rfl) h2 (Option.some.inj e ▸ h3)
  | tup l₁ => exact VRel.tupE r fun a o vs h1 h2 h3 => k a o _ vs (R.keep _ _ h1) (.inr rfl) h2 (Option.some.inj e ▸ h3)
  | ref j => exact VRel.refE r fun a ha => moLE e fun l₁ hm e => lstOfE (P := P) (.ref ha) R (lstOf_ref hm) fun a o vs h1 h2 h3 => k a o _ vs h1 (.inl rfl) h2 (Option.some.inj e ▸ h3)
  | _ => exact noSome e
noncomputable def setF (c : Cx) : CF := fun vs mem => on1 vs fun x => (seqOf mem x).bind fun l => (toInts l).bind fun ns => if ns.length ≤ 4000 then some (.set (ledOf c.w) (dedI ns), mem) else none
theorem VRels.ints {ns : List Int} : ∀ {ws : List Value}, VRels g φ ws (ns.map .int) → IntsAre ws ns := by
  induction ns with
  | nil =>
    intro ws r
    cases ws with
    | nil => exact .nil
    | cons w ws => exact r.toF.elim
  | cons n ns ih =>
    intro ws r
    cases ws with
    | nil => exact r.toF.elim
    | cons w ws => exact VRel.intE (P := fun w => IntsAre (w :: ws) (n :: ns)) r.toF.1 fun t => .cons n t (ih r.toF.2)
theorem setOK : CallOK c n (.type "set") (setF c) := fun vs mem v mem' e A g φ s ws Q hA R r P => by
  refine VRels.on1E r e fun w1 v1 r1 e => bindE e fun l e1 e => bindE e fun ns e2 e => ifE e fun hz e => seqOfE r1 R e1 fun a o T us h1 h2 h3 h4 => ?_
  · have h4 := toInts_eq e2 ▸ h4
    · have hlen : us.length = ns.length := by rw [h4.length, List.length_map]
      have hI := h4.ints
      have hneS : a ≠ s.heap.objs.size := Nat.ne_of_lt (Heap.lt_size h1)
      have hval : ∀ (i : Nat) (v : Value), us.toArray[i]? = some v → ∃ t, v = .int (ns.getD i 0) t := fun i v hv => hI.int_at i v (by simpa using hv)
      generalize hSo : ({ cls := .type "set", dict := none, data := .set #[] 0 (.fresh 0 0 (ledOf c.w)) } : Obj) = So
      have hz1 : (s.heap.push So).objs.size = s.heap.objs.size + 1 := Heap.size_push ..
      have hS0 : (s.heap.push So).get? s.heap.objs.size = some So := Heap.get?_push_size _ (by rw [← hSo]; rfl)
      -- the loop, whichever way the list is walked
      have main : ∀ (I : Addr) (oI : Obj) (St : Nat → Heap → Prop) (fp : List Addr), I = s.heap.objs.size + 1 → fp = [I, a] → Walks c.prog c.w A.in1.in1.in1 I fp [I] us.length (fun i v => us.toArray[i]? = some v) St → St 0 ((s.heap.push So).push oI) →
          codeAny (model c.prog c.w) A.in1.in1 (.builtin "set.update.loop" ⟨[.ref s.heap.objs.size, .ref I], []⟩) (fun r s' => r = .ok (.ret .none) ∧ ∃ h' tk, s' = { s with heap := h', toks := tk } ∧ Q (.ref s.heap.objs.size) s') { s with heap := (s.heap.push So).push oI } := by
        intro I oI St fp eI efp W st
        have hSf : s.heap.objs.size ∉ fp := by
          rw [efp, eI]; simp only [List.mem_cons, List.not_mem_nil, or_false, not_or]
          exact ⟨Nat.ne_of_lt (Nat.lt_succ_self _), Ne.symm hneS⟩
        have hS1 : ((s.heap.push So).push oI).get? s.heap.objs.size = some So := Heap.get?_push_of_some _ hS0
        have fin : ∀ (s' : Shared) (o' : Obj), Moved (s.heap.objs.size :: [I]) (fun a b => b = a) { s with heap := (s.heap.push So).push oI } s' → s'.heap.get? s.heap.objs.size = some o' → o'.IntSetOf (fun k => (dedI ns).contains k) (dedI ns).length → SmallTab o' (ledOf c.w) (dedI ns) →
            (Except.ok (Flow.ret Value.none) : Result) = .ok (.ret .none) ∧ ∃ h' tk, s' = { s with heap := h', toks := tk } ∧ Q (.ref s.heap.objs.size) s' := by
          intro s' o' hm ho' hi hst
          obtain ⟨h', g', d', tk', os'⟩ := s'
          have e1 : g' = s.gens := hm.gens
          have e2 : d' = s.drawn := hm.drawn
          have e3 : os' = s.os := hm.os
          subst e1 e2 e3
          refine ⟨rfl, h', tk', rfl, ?_⟩
          refine (P.of e).frozen R (fun b x e => hm.heap b x (fun m => ?_) (Heap.get?_push_of_some _ (Heap.get?_push_of_some _ e))) (get_size _) ho' (fun g' hg e => .set e (dedI_nodup ns) hi hst) _
          have hb := Heap.lt_size e
          simp only [List.mem_cons, List.not_mem_nil, or_false] at m
          rcases m with m | m
          · rw [m] at hb; exact Nat.lt_irrefl _ hb
          · rw [m, eI] at hb; exact Nat.lt_irrefl _ (Nat.lt_of_succ_lt hb)
        by_cases sm : (∀ k ∈ ns, 0 ≤ k ∧ k < 8) ∧ (dedI ns).length ≤ 4
        · refine updateSmall (led := ledOf c.w) W.toS s.heap.objs.size hSf ns hlen hval sm.1 sm.2 (us.length - 0) 0 _ rfl (Nat.zero_le _) st ?_ fun s' hm hS' => ?_
          · refine ⟨#[], 0, by rw [hS1, ← hSo]; rfl, by (show ([] : List Nat) ∈ smallLists); decide +kernel, rfl, fun e he => by simp at he⟩
          · obtain ⟨o', ho', hi, hst⟩ := smallSet_obj sm.1 hS'
            exact fin s' o' hm ho' hi hst
        · refine codeAny_set_update_loopS W.toS s.heap.objs.size hSf (fun i => ns.getD i 0) hval (by rw [hlen]; unfold scanBound; omega) (us.length - 0) 0 _ rfl (Nat.zero_le _) st ?_ fun s' hm hS' => ?_
          · have hget : ((s.heap.push So).push oI).get? s.heap.objs.size = some { cls := .type "set", dict := none, data := .set #[] 0 (.fresh 0 0 (ledOf c.w)) } := by rw [hS1, hSo]
            exact SetOf_congr ((setObjOf_fresh (knd := intKind c.prog c.w) (ledOf c.w)).setOf hget (by unfold scanBound; omega)) (fun _ => rfl) rfl
          · rw [hlen, firstMet_ded] at hS'
            obtain ⟨o', ho', hso⟩ := hS'.objOf
            have hc : (fun k => (dedI ns).any (· == k)) = fun k => (dedI ns).contains k := by
              funext k; rw [List.contains_eq_any_beq]; congr 1; funext x; exact Bool.beq_comm
            rw [hc] at hso
            exact fin s' o' hm ho' hso.intSetOf fun q1 q2 => absurd ⟨fun k hk => q1 k (mem_dedI.mpr hk), q2⟩ sm
      refine setCore h1 h3.1 h2 fun E' => ?_
      rw [hSo]
      have hne : a ≠ (s.heap.push So).objs.size := by rw [hz1]; exact Nat.ne_of_lt (Nat.lt_succ_of_lt (Heap.lt_size h1))
      have h1' : (s.heap.push So).get? a = some o := Heap.get?_push_of_some _ h1
      rcases h2 with rfl | rfl
      · have hl' := h3.list h1'
        refine wpAny_pyIter_list (s := { s with heap := s.heap.push So }) hl' ?_
        have W := Walks.list (prog := c.prog) (w := c.w) (A := A.in1.in1.in1) hA.1 (s.heap.push So).objs.size a hne us.toArray
        rw [show us.toArray.size = us.length by simp] at W
        exact main _ _ _ _ hz1 rfl W ⟨⟨_, Heap.get?_push_size _ rfl, rfl, rfl⟩, hl'.push _⟩
      · have hl' := h3.tup h1'
        refine wpAny_pyIter_tuple (s := { s with heap := s.heap.push So }) hl' ?_
        have W := Walks.tuple (prog := c.prog) (w := c.w) (A := A.in1.in1.in1) hA.1 (s.heap.push So).objs.size a hne us.toArray
        rw [show us.toArray.size = us.length by simp] at W
        exact main _ _ _ _ hz1 rfl W ⟨⟨_, Heap.get?_push_size _ rfl, rfl, rfl⟩, hl'.push _⟩
end
end Mine
-- SetD
namespace Mine
theorem setit_slot : Slot "set_iterator" "__next__" "set_iterator.__next__" :=
  .of (owner := "set_iterator") (n := "__next__") (by rw [typeLookup_type, builtinLookup_eq_fast]; kernel_rfl) (by decide +kernel) (by decide +kernel) (by decide +kernel)
    (by first | exact .inl (by decide +kernel) | exact .inr (by decide +kernel)) (by rw [isSubtype_type]; kernel_rfl)
theorem setit_entry : entryFor table "set_iterator.__next__" = some Builtin.«set_iterator.__next__» := entryFor_of_tree (by kernel_rfl)
theorem setit_args (a : Value) : argsOk "set_iterator.__next__" ⟨[a], []⟩ := by unfold argsOk; kernel_rfl
theorem setiter_entry : entryFor table "set.__iter__" = some Builtin.«frozenset.__iter__» := entryFor_alias (id' := "frozenset.__iter__") (by kernel_rfl) rfl (by decide +kernel) (by kernel_rfl)
theorem setit_iter_slot : Slot "set_iterator" "__iter__" "set_iterator.__iter__" :=
  .of (owner := "set_iterator") (n := "__iter__") (by rw [typeLookup_type, builtinLookup_eq_fast]; kernel_rfl) (by decide +kernel) (by decide +kernel) (by decide +kernel)
    (by first | exact .inl (by decide +kernel) | exact .inr (by decide +kernel)) (by rw [isSubtype_type]; kernel_rfl)
theorem setit_iter_entry : entryFor table "set_iterator.__iter__" = some Builtin.«dict_keyiterator.__iter__» := entryFor_alias (id' := "dict_keyiterator.__iter__") (by kernel_rfl) rfl (by decide +kernel) (by kernel_rfl)
theorem setit_iter_args (a : Value) : argsOk "set_iterator.__iter__" ⟨[a], []⟩ := by unfold argsOk; kernel_rfl

theorem erase_perm {α : Type} : ∀ (l : List α) (i : Nat) (h : i < l.length), (l[i] :: l.eraseIdx i).Perm l
  | x :: l, 0, _ => List.Perm.refl _
  | x :: l, i + 1, h => by
    have h' : i < l.length := by simpa using h
    rw [List.eraseIdx_cons_succ, List.getElem_cons_succ]
    exact (List.Perm.swap _ _ _).trans ((erase_perm l i h').cons x)
theorem pickGo_perm {α : Type} (next : Nat → Nat) : ∀ (fuel k : Nat) (left : List α) (out : Array α), fuel = left.length → (pickOrder.go next fuel k left out).toList.Perm (out.toList ++ left)
  | 0, k, left, out, h => by
    have : left = [] := List.eq_nil_of_length_eq_zero h.symm
    subst this; simp [pickOrder.go]
  | fuel + 1, k, left, out, h => by
    have hl : 0 < left.length := by omega
    have hi : next k % left.length < left.length := Nat.mod_lt _ hl
    unfold pickOrder.go
    rw [List.getElem?_eq_getElem hi]
    dsimp only
    have ih := pickGo_perm next fuel (k + 1) (left.eraseIdx (next k % left.length)) (out.push left[next k % left.length]) (by rw [List.length_eraseIdx_of_lt hi]; omega)
    refine ih.trans ?_
    rw [Array.toList_push, List.append_assoc]
    exact List.Perm.append_left _ (erase_perm left _ hi)
theorem pick_perm {α : Type} (next : Nat → Nat) (xs : Array α) : (pickOrder next xs).toList.Perm xs.toList := by
  have := pickGo_perm next xs.size 0 xs.toList #[] (by simp)
  simpa [pickOrder] using this

noncomputable def slotAt (ks : List Nat) : Nat → Nat
  | 0 => 0
  | i + 1 => ks.getD i 0 + 1
theorem belowAll : (smallLists.all fun ks => (List.range (ks.length + 1)).all fun i => decide (SetTable.below ks.toArray (slotAt ks i) = i)) = true := by decide +kernel
theorem below_slot {ks : List Nat} (h : ks ∈ smallLists) {i : Nat} (hi : i ≤ ks.length) : SetTable.below ks.toArray (slotAt ks i) = i :=
  of_decide_eq_true (List.all_eq_true.mp (List.all_eq_true.mp belowAll ks h) i (List.mem_range.mpr (Nat.lt_succ_of_le hi)))
noncomputable def ordOf (w : World) (a : Addr) (ep : Nat) (es : Array (Int × Value)) : Array (Int × Value) := if w.params.followText "set-order" = true then pickOrder (w.params.setOrder a ep) es else es
theorem ordOf_perm (w : World) (a : Addr) (ep : Nat) (es : Array (Int × Value)) : (ordOf w a ep es).toList.Perm es.toList := by
  unfold ordOf
  split
  · exact pick_perm _ _
  · exact List.Perm.refl _
section
variable {prog : Program} {w : World} {A : Around} {E : Value → Shared → Prop} {s : Shared} {a I : Addr} {ks : List Nat} {es : Array (Int × Value)} {ep : Nat} {o : Obj}
noncomputable def slotOf (w : World) (ks : List Nat) (i : Nat) : Nat := if w.params.followText "set-order" = true then 0 else slotAt ks i
noncomputable def setItObj (w : World) (ks : List Nat) (a : Addr) (n ep i : Nat) : Obj := { cls := .type "set_iterator", data := .fields #[rawInt (slotOf w ks i), rawInt i, .ref a, rawInt n, rawInt ep] }
theorem byText {Q : Bool → Shared → Prop} (h : Q (w.params.followText "set-order") s) : wpAny (model prog w) A setsByText Q E s := by
  unfold setsByText
  exact wpAny_bind (wpAny_askSetting (wpAny_pure h))
theorem setNext_of (ho : s.heap.get? a = some o) (hd : o.data = .set es ep (setTab (ledOf w) ks)) (hks : ks ∈ smallLists) (hn : es.size = ks.length) {i : Nat} (hi : i ≤ es.size) {Q : Option (Value × Nat) → Shared → Prop}
    (h : Q (match (ordOf w a ep es)[i]? with | some e => some (e.2, slotOf w ks (i + 1)) | none => none) s) : wpAny (model prog w) A (setNext a (slotOf w ks i) i ep) Q E s := by
  have hf := fits_small (led := ledOf w) hks hn
  unfold setNext
  refine wpAny_bind (wpAny_setState_of ho hd hf ?_)
  dsimp only
  refine wpAny_bind (byText ?_)
  cases q : w.params.followText "set-order" with
  | true =>
    rw [if_pos rfl]
    have hz : ∀ j, slotOf w ks j = 0 := fun j => by unfold slotOf; rw [if_pos q]
    rw [hz] at h ⊢
    rw [if_neg (by simp)]
    unfold setWalk
    refine wpAny_bind (wpAny_bind (wpAny_setState_of ho hd hf ?_))
    dsimp only
    refine wpAny_bind (byText ?_)
    rw [q, if_pos rfl]
    refine wpAny_bind (wpAny_askSetting (wpAny_pure (wpAny_pure ?_)))
    have e : ordOf w a ep es = pickOrder (w.params.setOrder a ep) es := by unfold ordOf; rw [if_pos q]
    rw [e] at h
    show Q (((pickOrder (w.params.setOrder a ep) es)[i]?).map fun e => (e.2, 0)) s
    cases z : (pickOrder (w.params.setOrder a ep) es)[i]? <;> rw [z] at h <;> exact h
  | false =>
    rw [if_neg (by decide)]
    have hl : ledOf w = true := by unfold ledOf; rw [q]; rfl
    have hz : ∀ j, slotOf w ks j = slotAt ks j := fun j => by unfold slotOf; rw [if_neg (by rw [q]; decide)]
    rw [hz, hl] at *
    have e : ordOf w a ep es = es := by unfold ordOf; rw [if_neg (by rw [q]; decide)]
    rw [e] at h
    show wpAny _ _ (if (!(setTab true ks).plain && decide (es.size > 1)) = true then _ else _) _ _ _
    rw [if_neg (by rw [show (setTab true ks).plain = true from rfl]; simp)]
    refine wpAny_bind (wpAny_pure ?_)
    refine wpAny_pure ?_
    show Q (match es[SetTable.below ks.toArray (slotAt ks i)]?, ks.toArray[SetTable.below ks.toArray (slotAt ks i)]? with | some (_, x), some j => some (x, j + 1) | _, _ => none) s
    rw [below_slot hks (hn ▸ hi)]
    by_cases hlt : i < es.size
    · have h1 : es[i]? = some es[i] := Array.getElem?_eq_getElem hlt
      have h2 : ks.toArray[i]? = some (ks.getD i 0) := by
        rw [List.getElem?_toArray, List.getD_eq_getElem?_getD, List.getElem?_eq_getElem (hn ▸ hlt)]; rfl
      rw [h1] at h ⊢
      rw [h2]
      exact h
    · have h1 : es[i]? = none := Array.getElem?_eq_none (Nat.le_of_not_lt hlt)
      rw [h1] at h ⊢
      exact h

theorem setIter_of {Q : Value → Shared → Prop} (ho : s.heap.get? a = some o) (hc : o.cls = .type "set") (hd : o.data = .set es ep (setTab (ledOf w) ks)) (hks : ks ∈ smallLists) (hn : es.size = ks.length)
    (hQ : Q (.ref s.heap.objs.size) { s with heap := s.heap.push (setItObj w ks a es.size ep 0) }) : wpAny (model prog w) A (pyIter (.ref a)) Q E s := by
  have hf := fits_small (led := ledOf w) hks hn
  have hT : s.TypeIs (.ref a) "set" := ⟨o, ho, hc⟩
  refine wpAny_pyIter_slot hT PySem.F.slot_set_iter (wpAny_call_entry PySem.F.slot_set_iter hT setiter_entry ?_ (PySem.F.args_set_iter_1 _))
  unfold Builtin.«frozenset.__iter__»
  refine wpAny_bind (wpAny_of_eq (a := a) rfl ?_)
  refine wpAny_bind (wpAny_bind (wpAny_setEntries_of ho hd hf (wpAny_pure ?_)))
  refine wpAny_bind ?_
  unfold setDrawn
  refine wpAny_bind (wpAny_setState_of ho hd hf ?_)
  dsimp only
  refine wpAny_bind (byText (wpAny_pure ?_))
  have hdr : (!w.params.followText "set-order" && (!(setTab (ledOf w) ks).plain && decide (es.size > 1))) = false := by
    rw [show (setTab (ledOf w) ks).plain = true from rfl]; simp
  show wpAny _ _ (if (!w.params.followText "set-order" && (!(setTab (ledOf w) ks).plain && decide (es.size > 1))) = true then _ else _) _ _ _
  rw [hdr, if_neg (by decide)]
  refine wpAny_bind (wpAny_pure ?_)
  refine wpAny_bind (wpAny_setEpoch_of ho hd hf ?_)
  refine wpAny_bind (wpAny_newObj_type (wpAny_pure ⟨_, rfl, "set_iterator", _, ⟨_, Heap.get?_push_size _ rfl, rfl⟩, setit_slot.lookup, ?_⟩))
  have e0 : slotOf w ks 0 = 0 := by unfold slotOf slotAt; split <;> rfl
  unfold setItObj at hQ
  rw [e0] at hQ
  exact hQ
theorem setWalks (hh : A.handled = none) (hne : a ≠ I) (hd : o.data = .set es ep (setTab (ledOf w) ks)) (hks : ks ∈ smallLists) (hn : es.size = ks.length) :
    Walks prog w A I [I, a] [I] es.size (fun i v => ∃ e, (ordOf w a ep es)[i]? = some e ∧ v = e.2) (fun i h => h.get? I = some (setItObj w ks a es.size ep i) ∧ h.get? a = some o) where
  sub := fun b hb => by simp at hb; simp [hb]
  frame := fun _ _ _ st hk => ⟨hk I (by simp) _ st.1, hk a (by simp) _ st.2⟩
  item := fun i s Q E hi st hQ => by
    have hf := fits_small (led := ledOf w) hks hn
    have hsz : (ordOf w a ep es).size = es.size := by
      have := (ordOf_perm w a ep es).length_eq
      simpa using this
    have he : (ordOf w a ep es)[i]? = some (ordOf w a ep es)[i] := Array.getElem?_eq_getElem (by omega)
    have hT : s.TypeIs (.ref I) "set_iterator" := ⟨_, st.1, rfl⟩
    unfold pyNext
    refine wpAny_bind (wpAny_attempt (wpAny_callSpecial?_slot (name := Str.ofString "__next__") hT setit_slot (wpAny_call_entry setit_slot hT setit_entry ?_ (setit_args _))))
    unfold Builtin.«set_iterator.__next__»
    refine wpAny_bind (wpAny_of_eq (a := (Value.ref I, [])) rfl ?_)
    refine wpAny_bind (wpAny_fieldsOf st.1 rfl ?_)
    dsimp only [rawInt]
    refine wpAny_bind (wpAny_setEntries_of st.2 hd hf ?_)
    rw [if_neg (by simp)]
    simp only [Int.toNat_natCast]
    refine wpAny_bind (setNext_of st.2 hd hks hn (Nat.le_of_lt hi) ?_)
    rw [he]
    dsimp only
    refine wpAny_bind (wpAny_setField_rec st.1 (by simp) fun h1 e1 s1 => ?_)
    refine wpAny_bind (wpAny_setField_rec e1 (by simp) fun h2 e2 s2 => ?_)
    refine wpAny_pure ⟨_, rfl, wpAny_pure (hQ _ h2 s.toks ⟨_, he, rfl⟩ ⟨?_, ?_⟩ fun b x hb e => ?_)⟩
    · rw [e2]; simp [setItObj, rawInt]
    · exact (s2.2 a hne).trans ((s1.2 a hne).trans st.2)
    · have : b ≠ I := by simpa using hb
      exact (s2.2 b this).trans ((s1.2 b this).trans e)
  done := fun s Q E st hQ => by
    have hf := fits_small (led := ledOf w) hks hn
    have hsz : (ordOf w a ep es).size = es.size := by
      have := (ordOf_perm w a ep es).length_eq
      simpa using this
    have he : (ordOf w a ep es)[es.size]? = none := Array.getElem?_eq_none (by omega)
    have hT : s.TypeIs (.ref I) "set_iterator" := ⟨_, st.1, rfl⟩
    unfold pyNext
    refine wpAny_bind (wpAny_attempt (wpAny_callSpecial?_slot (name := Str.ofString "__next__") hT setit_slot (wpAny_call_entry setit_slot hT setit_entry ?_ (setit_args _))))
    unfold Builtin.«set_iterator.__next__»
    refine wpAny_bind (wpAny_of_eq (a := (Value.ref I, [])) rfl ?_)
    refine wpAny_bind (wpAny_fieldsOf st.1 rfl ?_)
    dsimp only [rawInt]
    refine wpAny_bind (wpAny_setEntries_of st.2 hd hf ?_)
    rw [if_neg (by simp)]
    simp only [Int.toNat_natCast]
    refine wpAny_bind (setNext_of st.2 hd hks hn (Nat.le_refl _) ?_)
    rw [he]
    dsimp only
    refine wpAny_bind (wpAny_setField_rec st.1 (by simp) fun h1 e1 s1 => ?_)
    show wpAny _ _ (newExc (.type "StopIteration") [] >>= _) _ _ _
    refine wpAny_bind ?_
    simp only [newExc, newTuple]
    refine wpAny_bind (wpAny_newObj_type ?_ (by size_fits))
    refine wpAny_bind (m := firstArgMember _ _) (wpAny_of_eq (a := Value.none) (by first | rfl | (simp only [firstArgMember]; rfl)) ?_)
    refine wpAny_newObj_type ?_ (by size_fits)
    simp only [raiseNew]
    refine wpAny_bind (wpAny_handled ?_)
    rw [show A.in1.handled = none from hh]
    refine wpAny_bind (wpAny_pure (wpAny_throw ?_))
    refine wpAny_bind (wpAny_isInstance (T := "StopIteration") (b := true) ⟨_, Heap.get?_push_size _ rfl, rfl⟩ isSubtype_stop ?_)
    refine wpAny_pure (hQ _ _ fun b x hb e => ?_)
    have : b ≠ I := by simpa using hb
    exact Heap.get?_push_of_some _ (Heap.get?_push_of_some _ ((s1.2 b this).trans e))
  self := fun i s Q E st h => by
    have hT : s.TypeIs (.ref I) "set_iterator" := ⟨_, st.1, rfl⟩
    refine wpAny_pyIter_slot hT setit_iter_slot (wpAny_call_entry setit_iter_slot hT setit_iter_entry ?_ (setit_iter_args _))
    refine wpAny_pure ⟨_, rfl, "set_iterator", _, hT, setit_slot.lookup, h⟩
theorem setHint {r : Addr} {Q : Bool → Shared → Prop} (hT : s.TypeIs (.ref r) "set") (h : Q false s) : wpAny (model prog w) A (Builtin.List.listLengthHint (.ref r)) Q E s := by
  unfold Builtin.List.listLengthHint
  refine wpAny_bind (wpAny_specialOf hT PySem.F.slot_set_len.lookup ?_)
  generalize hid : ("set.__len__" : String) = id0
  wp_delta
  rw [show splitId id0 = some ("set", "__len__") from by subst hid; decide +kernel]
  subst hid
  refine wpAny_bind (wpAny_isInstance (T := "set") (b := true) hT (by rw [isSubtype_type]; kernel_rfl) ?_)
  refine wpAny_ite_split (fun hab => absurd hab (by decide)) (fun _ => ?_)
  refine wpAny_ite_split (fun _ => ?_) (fun hab => absurd (by decide +kernel) hab)
  refine wpAny_bind (wpAny_typeOf hT ?_)
  exact wpAny_pure h
theorem setSrc (hc : o.cls = .type "set") (hd : o.data = .set es ep (setTab (ledOf w) ks)) (hks : ks ∈ smallLists) (hn : es.size = ks.length) :
    KdlSrc prog w "set" a a es.size (fun i v => ∃ e, (ordOf w a ep es)[i]? = some e ∧ v = e.2) (fun h => h.get? a = some o) where
  type := fun _ hm => ⟨o, hm, hc⟩
  there := fun _ hm => ⟨Heap.lt_size hm, Heap.lt_size hm⟩
  keep := fun _ _ hm hk => hk a (.inl rfl) o hm
  notList := by decide
  notTuple := by decide
  hint := fun _ _ _ _ hm hq => setHint ⟨o, hm, hc⟩ hq
  iter := fun _ s hh hm => ⟨_, _, (fun _ _ hq => setIter_of hm hc hd hks hn hq), setWalks hh (Nat.ne_of_lt (Heap.lt_size hm)) hd hks hn, ⟨Heap.get?_push_size _ rfl, size_mem _ _ _ hm⟩⟩
end
end Mine
-- Ops4
namespace Mine
noncomputable def sortI (ns : List Int) : List Int := ns.mergeSort fun a b => decide (a ≤ b)
theorem sort_unique {ns ns' : List Int} (h1 : ns'.Perm ns) (h2 : ns'.Pairwise (· ≤ ·)) : ns' = sortI ns := by
  have p : (sortI ns).Pairwise (· ≤ ·) := by
    have := List.pairwise_mergeSort (le := fun a b : Int => decide (a ≤ b)) (fun a b c h1 h2 => by simp at *; omega) (fun a b => by simp; omega) ns
    exact this.imp fun h => of_decide_eq_true h
  exact List.Perm.eq_of_pairwise (fun a b _ _ h1 h2 => Int.le_antisymm h1 h2) h2 p (h1.trans (List.mergeSort_perm ns _).symm)
theorem ints_vrels {g : G} {φ : List Addr} : ∀ {ws : List Value} {ns : List Int}, IntsAre ws ns → VRels g φ ws (ns.map .int)
  | _, _, .nil => .nil
  | _, _, .cons n t r => .cons (.int n t) (ints_vrels r)
theorem intsFrom {val : Nat → Int} : ∀ (ws : List Value), (∀ i v, ws[i]? = some v → ∃ t, v = Value.int (val i) t) → IntsAre ws ((List.range ws.length).map val)
  | ws, h => by
    have key : ∀ (ws : List Value) (k : Nat), (∀ i v, ws[i]? = some v → ∃ t, v = Value.int (val (k + i)) t) → IntsAre ws ((List.range' k ws.length).map val) := by
      intro ws
      induction ws with
      | nil => intro k _; exact .nil
      | cons w ws ih =>
        intro k h
        rw [List.length_cons, List.range'_succ, List.map_cons]
        obtain ⟨t, rfl⟩ := h 0 w rfl
        exact .cons _ t (ih (k + 1) fun i v e => by have := h (i + 1) v (by simpa using e); rwa [show k + (i + 1) = k + 1 + i by omega] at this)
    rw [List.range_eq_range']
    exact key ws 0 fun i v e => by rw [Nat.zero_add]; exact h i v e
section
variable {prog : Program} {w : World} {A : Around} {E : Value → Shared → Prop} {s : Shared} {T : String} {r d : Addr} {n : Nat} {P : Nat → Value → Prop} {OK : Heap → Prop}
theorem sortedSrc {Q : Value → Shared → Prop} (K : KdlSrc prog w T r d n P OK) (hh : A.handled = none) (hok : OK s.heap) (hn : n < 64) (val : Nat → Int) (hval : ∀ i v, P i v → ∃ t, v = Value.int (val i) t)
    (h : ∀ (D : Addr) (h' : Heap) (tk : Nat) (out : List Value) (e : Nat), s.heap.get? D = none → (∀ b o, s.heap.get? b = some o → h'.get? b = some o) → h'.get? D = some (listOf out.toArray e) → IntsAre out (sortI ((List.range n).map val)) → Q (.ref D) { s with heap := h', toks := tk }) :
    wpAny (model prog w) A (call (.builtin "sorted") [.ref r]) Q E s := by
  refine Calls.call_function_entry kind_sorted plain_sorted entry_sorted (args_sorted1 _) ?_
  unfold Builtin.«sorted»
  refine wpAny_bind (m := checkCount "sorted" 1 1 _) (wpAny_pure ?_)
  refine wpAny_bind (kdu_collect (A := A.in1) K hh hok (by rw [sizeLine_eq]; omega) fun h' tk acc hk hacc => ?_)
  have hl : acc.toList.length = n := by rw [Array.length_toList]; exact hacc.1
  refine wpAny_bind (wpAny_newList ?_ (by rw [hl, sizeLine_eq]; omega))
  have hI : IntsAre acc.toList ((List.range n).map val) := by
    have := intsFrom (val := val) acc.toList fun i v e => hval i v (hacc.2 i v (by rw [← Array.getElem?_toList]; exact e))
    rwa [hl] at this
  have hoL : (h'.push (seqObj "list" acc.toList.toArray 0)).get? h'.objs.size = some (seqObj "list" acc.toList.toArray 0) := Heap.get?_push_size _ rfl
  have hD : s.heap.get? h'.objs.size = none := by
    cases q : s.heap.get? h'.objs.size with
    | none => rfl
    | some o => exact absurd (Heap.lt_size (hk _ o q)) (Nat.lt_irrefl _)
  show wpAny _ _ _ _ _ { s with heap := h'.push (seqObj "list" acc.toList.toArray 0), toks := tk }
  refine wpAny_bind (wpAny_holding (wpAny_call_entry slot_list_sort ⟨_, hoL, rfl⟩ entry_list_sort (list_sort_tree hoL hI (by rw [hl]; exact hn) fun out ns' a1 a2 a3 => ⟨_, rfl, ?_⟩) (args_list_sort _)))
  obtain ⟨e, he⟩ := sortedHeap_at (out := out) hoL
  refine wpAny_pure ⟨_, rfl, h _ _ tk out.toList e hD (fun b o eb => ?_) (by rw [he]) (sort_unique a2 a3 ▸ a1)⟩
  have hb := hk b o eb
  rw [sortedHeap_old (Nat.ne_of_lt (Heap.lt_size hb)) (by rw [size_push']; exact Nat.lt_succ_of_lt (Heap.lt_size hb))]
  exact Heap.get?_push_of_some _ hb
end
section
variable {c : Cx} {n : Nat} {g : G} {φ : List Addr} {mem mem' : List MO} {s : Shared} {v : V} {h h' : Heap}
noncomputable def smallL (l : List Int) : Bool := l.all (fun k => decide (0 ≤ k) && decide (k < 8)) && decide (l.length ≤ 4)
noncomputable def sortR (ns : List Int) (mem : List MO) : Option (V × List MO) := if ns.length < 64 then some (.lst ((sortI ns).map .int), mem) else none
noncomputable def sortM (mem : List MO) : Option MO → Option (V × List MO)
  | some (.lst l) => (toInts l).bind fun ns => sortR ns mem
  | some (.dicI l) => sortR (l.map (·.1)) mem
  | _ => none
noncomputable def sortedF (c : Cx) : CF := fun vs mem => on1 vs fun x => match x with
  | .lst l => (toInts l).bind fun ns => sortR ns mem
  | .ref k => sortM mem mem[k]?
  | .set led l => if led = ledOf c.w ∧ smallL l = true then some (.lst ((sortI l).map .int), mem) else none
  | _ => none
theorem map_range_get (ns : List Int) : (List.range ns.length).map (fun i => ns.getD i 0) = ns := by
  apply List.ext_getElem
  · simp
  · intro i h1 h2
    simp at h1
    simp [List.getElem?_eq_getElem h1]
theorem sortedLst {A : Around} {Q : Value → Shared → Prop} {a : Addr} {o : Obj} {vs : List Value} {l : List V} (R : MRel c g φ mem s.heap) (h1 : s.heap.get? a = some o) (h2 : SeqObj "list" o vs) (h3 : VRels g φ vs l) (e : ((toInts l).bind fun ns => sortR ns mem) = some (v, mem')) (P : PostM c g φ mem s v mem' Q) :
    wpAny (model c.prog c.w) A (call (.builtin "sorted") [.ref a]) Q Fls s := bindE e fun ns e1 e => ifE e fun hz e => by
  have h4 : VRels g φ vs (ns.map .int) := toInts_eq e1 ▸ h3
  refine sorted_ints (h2.list h1) h4.ints (by rw [h4.length, List.length_map]; exact hz) fun out ns' a1 a2 a3 => (sortedAll_at s.heap vs out).elim fun e' he => ?_
  rw [sort_unique a2 a3] at a1
  exact (P.of e).frozen R (fun b o e => sortedAll_old e) (get_ge (Nat.le_succ _)) he (fun g' hg e => .lst e ⟨rfl, _, (by simp [seqObj]; rfl)⟩ (ints_vrels a1)) _
theorem sortedDic {A : Around} {Q : Value → Shared → Prop} (hA : A.handled = none) {k : Nat} {a : Addr} {l : List (Int × V)} (R : MRel c g φ mem s.heap) (ha : φ[k]? = some a) (hm : mem[k]? = some (.dicI l)) (e : sortR (l.map (·.1)) mem = some (v, mem')) (P : PostM c g φ mem s v mem' Q) :
    wpAny (model c.prog c.w) A (call (.builtin "sorted") [.ref a]) Q Fls s := ifE e fun hz e => by
  obtain ⟨⟨kvs, hd, pr⟩, _⟩ := R.obj _ _ _ hm ha (fun q => by cases q)
  refine hd.dictAt.elim fun ep hat => ?_
  have hlen : kvs.length = l.length := by have := congrArg List.length pr.1; simpa using this
  refine sortedSrc (kdl_dict (knd := intKind c.prog c.w) (kvs := kvs) (ep := ep) (notSys R ha)) hA hat (by rw [hlen]; simpa using hz) (fun i => (kvs.map (·.1)).getD i 0) (fun i v hv => ?_) fun D h' tk out e' hD hk ho hI => ?_
  · obtain ⟨k, x, hx, hk⟩ := hv
    obtain ⟨t, rfl⟩ := Value.isInt_shape hk
    refine ⟨t, ?_⟩
    congr 1
    rw [List.getD_eq_getElem?_getD, List.getElem?_map, hx]; rfl
  · have e1 : (List.range kvs.length).map (fun i => (kvs.map (·.1)).getD i 0) = l.map (·.1) := by
      rw [← pr.1]
      have := map_range_get (kvs.map (·.1))
      rwa [List.length_map] at this
    rw [e1] at hI
    exact (P.of e).frozen R hk hD ho (fun g' hg e => .lst e ⟨rfl, _, rfl⟩ (ints_vrels hI)) _
theorem sortedSet {A : Around} {Q : Value → Shared → Prop} (hA : A.handled = none) {a : Addr} {o : Obj} {led : Bool} {l : List Int} (R : MRel c g φ mem s.heap) (g1 : g a = some o) (nd : l.Nodup) (hi : o.IntSetOf (fun k => l.contains k) l.length) (st : SmallTab o led l) (hled : led = ledOf c.w) (hsm : smallL l = true) (P : PostM c g φ mem s (.lst ((sortI l).map .int)) mem Q) :
    wpAny (model c.prog c.w) A (call (.builtin "sorted") [.ref a]) Q Fls s := by
  unfold smallL at hsm
  rw [Bool.and_eq_true, List.all_eq_true, decide_eq_true_eq] at hsm
  have hsm1 : ∀ k ∈ l, 0 ≤ k ∧ k < 8 := fun k hk => by have := hsm.1 k hk; rw [Bool.and_eq_true, decide_eq_true_eq, decide_eq_true_eq] at this; exact this
  obtain ⟨es, ep, ks, hd, hks, hm⟩ := st hsm1 hsm.2
  obtain ⟨hex, es', ep', t', hd', hel, hmem, hn, hf⟩ := hi c.prog c.w
  rw [hd] at hd'
  cases hd'
  have hn2 : es.size = ks.length := by have := congrArg List.length hm; simpa using this
  have hkey : ∀ e ∈ es.toList, ∃ t, e.2 = .int e.1 t := fun e he => by
    obtain ⟨⟨k, hk, hh⟩, _⟩ := hel e he
    obtain ⟨t, ht⟩ := Value.isInt_shape hk
    have hin : e.1 ∈ ks.map Int.ofNat := hm ▸ List.mem_map.mpr ⟨e, he, rfl⟩
    have hkl : k ∈ l := by
      have := (hmem k).mpr ⟨e, he, hk⟩
      exact List.contains_iff_mem.mp this
    obtain ⟨k0, k8⟩ := hsm1 k hkl
    have e1 : (k.toNat : Int) = k := Int.toNat_of_nonneg k0
    have e2 : hashInt k = k := by have := hash_small (k := k.toNat) (by omega); rwa [e1] at this
    refine ⟨t, ?_⟩
    rw [ht, hh]
    show Value.int k t = .int (hashInt k) t
    rw [e2]
  rw [hled] at hd
  refine sortedSrc (setSrc (w := c.w) hex.1 hd hks hn2) hA (R.keep _ _ g1) (by rw [hn]; omega) (fun i => ((ordOf c.w a ep es).toList.map (·.1)).getD i 0) (fun i v hv => ?_) fun D h' tk out e hD hk ho hI => ?_
  · obtain ⟨en, he, rfl⟩ := hv
    have hmem' : en ∈ es.toList := (ordOf_perm c.w a ep es).mem_iff.mp (Array.mem_toList_iff.mpr (Array.mem_of_getElem? he))
    obtain ⟨t, ht⟩ := hkey en hmem'
    refine ⟨t, ?_⟩
    rw [ht]
    congr 1
    rw [List.getD_eq_getElem?_getD, List.getElem?_map, Array.getElem?_toList, he]; rfl
  · have hsz : (ordOf c.w a ep es).toList.length = es.size := by rw [(ordOf_perm c.w a ep es).length_eq]; simp
    have e1 : (List.range es.size).map (fun i => ((ordOf c.w a ep es).toList.map (·.1)).getD i 0) = (ordOf c.w a ep es).toList.map (·.1) := by
      have := map_range_get ((ordOf c.w a ep es).toList.map (·.1))
      rwa [List.length_map, hsz] at this
    rw [e1] at hI
    have pe : ((ordOf c.w a ep es).toList.map (·.1)).Perm l := by
      refine ((ordOf_perm c.w a ep es).map _).trans ?_
      have hks' : (ks.map Int.ofNat).Nodup := List.Pairwise.map _ (fun a b (h : a ≠ b) (q : (a : Int) = b) => h (by omega)) (small_nodup hks)
      rw [hm]
      refine (List.perm_ext_iff_of_nodup hks' nd).mpr fun k => ?_
      constructor
      · intro hk
        obtain ⟨e, he, rfl⟩ := List.mem_map.mp (hm ▸ hk : k ∈ es.toList.map (·.1))
        obtain ⟨t, ht⟩ := hkey e he
        have := (hmem e.1).mpr ⟨e, he, by rw [ht]; exact intKind_is _ _ _ _⟩
        exact List.contains_iff_mem.mp this
      · intro hk
        obtain ⟨e, he, q⟩ := (hmem k).mp (List.contains_iff_mem.mpr hk)
        obtain ⟨t, ht⟩ := hkey e he
        rw [ht] at q
        have : e.1 = k := (intKind c.prog c.w).inj _ _ _ (intKind_is c.prog c.w e.1 t) q
        rw [← this, ← hm]
        exact List.mem_map.mpr ⟨e, he, rfl⟩
    have e2 : sortI ((ordOf c.w a ep es).toList.map (·.1)) = sortI l := by
      refine (sort_unique ?_ ?_)
      · exact (List.mergeSort_perm _ _).trans pe
      · have := List.pairwise_mergeSort (le := fun a b : Int => decide (a ≤ b)) (fun a b c h1 h2 => by simp at *; omega) (fun a b => by simp; omega) ((ordOf c.w a ep es).toList.map (·.1))
        exact this.imp fun h => of_decide_eq_true h
    rw [e2] at hI
    exact P.frozen R hk hD ho (fun g' hg e => .lst e ⟨rfl, _, rfl⟩ (ints_vrels hI)) _
theorem sortedOK : CallOK c n (.builtin "sorted") (sortedF c) := fun vs mem v mem' e A g φ s ws Q hA R r P => by
  refine VRels.on1E r e fun w1 v1 r1 e => ?_
  cases v1 with
  | lst l => exact VRel.lstE r1 fun a o vs h1 h2 h3 => sortedLst R (R.keep _ _ h1) h2 h3 e P
  | ref k =>
    refine VRel.refE r1 fun a ha => ?_
    have e : sortM mem mem[k]? = some (v, mem') := e
    cases hm : mem[k]? with
    | none => rw [hm] at e; exact noSome e
    | some o =>
      rw [hm] at e
      cases o with
      | lst l => exact lstOfE (VRel.ref ha) R (lstOf_ref hm) fun a o vs h1 h2 h3 => sortedLst R h1 h2 h3 e P
      | dicI l => exact sortedDic hA.1 R ha hm e P
      | dicS l => exact noSome e
      | dead => exact noSome e
  | set led l =>
    obtain ⟨a, o, rfl, g1, nd, hi, st⟩ := r1.toF
    exact ifE e fun hz e => sortedSet hA.1 R g1 nd hi st hz.1 hz.2 (P.of e)
  | _ => exact noSome e
end
end Mine
-- Ops5
namespace Mine
section
variable {prog : Program} {w : World} {A : Around} {E : Value → Shared → Prop} {s : Shared}

/-! ## A list takes the numbers of a range in -/
theorem walksFrom {I : Addr} {fp wr : List Addr} {n : Nat} {P : Nat → Value → Prop} {St : Nat → Heap → Prop} (W : Walks prog w A I fp wr n P St) (acc : Array Value) :
    Walks prog w A I fp wr (acc.size + n) (fun i v => if i < acc.size then acc[i]? = some v else P (i - acc.size) v) (fun i h => acc.size ≤ i ∧ St (i - acc.size) h) where
  sub := W.sub
  frame := fun i h h' st hk => ⟨st.1, W.frame _ h h' st.2 hk⟩
  item := fun i s Q E hi st hQ => W.item (i - acc.size) s Q E (by have := st.1; omega) st.2 fun v h' tk hP st' hk => hQ v h' tk (by rw [if_neg (Nat.not_lt.mpr st.1)]; exact hP) ⟨Nat.le_succ_of_le st.1, by rw [Nat.succ_sub st.1]; exact st'⟩ hk
  done := fun s Q E st hQ => W.done s Q E (by have := st.2; rwa [Nat.add_sub_cancel_left] at this) hQ
  self := fun i s Q E st h => W.self _ s Q E st.2 h
theorem extendRange {R : Result → Shared → Prop} {r : Addr} {a b c : Int} {t u v : Tok} {n : Nat} (hh : A.handled = none) (hr : IsRange s.heap r a b c t u v) (hsmall : Builtin.Range.small a b c = true)
    (hn : Builtin.Range.rangeSize a b c = n) (S : Addr) (res : Value) (acc : Array Value) (c₀ : Nat) (hlen : acc.size + n ≤ 2 ^ 20) (hS : s.heap.get? S = some { cls := .type "list", data := .seq acc c₀ })
    (hR : ∀ h' tk acc' c', (∀ b o, b ≠ S → s.heap.get? b = some o → h'.get? b = some o) → h'.get? S = some { cls := .type "list", dict := none, data := .seq acc' c', slots := #[] } →
      ItemsOf (fun i v => if i < acc.size then acc[i]? = some v else ∃ t, v = .int (a + ((i - acc.size : Nat) : Int) * c) t) acc' (acc.size + n) → R (.ok (.ret res)) { s with heap := h', toks := tk }) :
    wpAny (model prog w) A.in1 (Builtin.List.listExtendWith (.ref S) (.ref r) res)
      (fun fin s' => match fin with | .done f => R (.ok f) s' | .again c' => c'.quiet = true ∧ codeAny (model prog w) A c' R s') (fun e s' => R (.error e) s') s := by
  have hSr : S ≠ r := fun e => by rw [e, hr] at hS; simp at hS
  have hSlt : S < s.heap.objs.size := Heap.lt_size hS
  have hSI : S ≠ s.heap.objs.size := Nat.ne_of_lt hSlt
  have hSf : S ∉ [s.heap.objs.size] := fun hm => hSI (List.mem_singleton.mp hm)
  have W := (walksFrom (Walks.range (prog := prog) (w := w) (A := A.in1) hh s.heap.objs.size a c n) acc).toS
  have key : ∀ (h : Heap) (c₁ tk : Nat), IsRangeIter h s.heap.objs.size (a + ((0 : Nat) : Int) * c) ((n : Int) - ((0 : Nat) : Int)) c → (∀ b o, b ≠ S → s.heap.get? b = some o → h.get? b = some o) →
      h.get? S = some { cls := .type "list", data := .seq acc c₁ } → codeAny (model prog w) A (.builtin "list.extend.loop" ⟨[.ref S, .ref s.heap.objs.size, res], []⟩) R { s with heap := h, toks := tk } := by
    intro h c₁ tk hit hk hS₁
    refine codeAny_extend_loopS W (by rw [sizeLine_eq]; omega) S hSf res (acc.size + n - acc.size) acc.size _ acc c₁ rfl (Nat.le_add_right _ _) ⟨Nat.le_refl _, by rw [Nat.sub_self]; exact hit⟩ hS₁ ⟨rfl, fun j v e => ?_⟩ fun s' acc' c' hm hS' hacc => ?_
    · have : j < acc.size := by
        rcases Nat.lt_or_ge j acc.size with q | q
        · exact q
        · rw [Array.getElem?_eq_none q] at e; cases e
      dsimp only; rw [if_pos this]; exact e
    rw [Moved.eq_with hm]
    refine hR s'.heap s'.toks acc' c' (fun b o hb e => hm.heap b o (fun hmem => ?_) (hk b o hb e)) hS' hacc
    rcases List.mem_cons.mp hmem with e' | hmem
    · exact hb e'
    · exact absurd (Heap.lt_size e) (by rw [List.mem_singleton.mp hmem]; exact Nat.lt_irrefl _)
  unfold Builtin.List.listExtendWith
  refine wpAny_bind (wpAny_typeOf (T := "range") ⟨_, hr, rfl⟩ ?_)
  have h1 : Builtin.List.listSameRef (.ref S) (.ref r) = false := by simp [Builtin.List.listSameRef, hSr]
  have h2 : (Value.type "range" == Value.type "list") = false := by decide
  have h3 : (Value.type "range" == Value.type "tuple") = false := by decide
  simp only [h1, h2, h3, Bool.or_false, Bool.false_eq_true, if_false]
  refine wpAny_bind (wpAny_pyIter_range hr hsmall ?_)
  refine wpAny_bind (wpAny_holding (wpAny_hint_range (n := n) (Heap.get?_push_of_some _ hr) hn (by omega) ?_))
  have hit₁ : IsRangeIter (s.heap.push { cls := .type "range_iterator", data := .fields #[rawInt a, rawInt (Builtin.Range.rangeSize a b c), rawInt c] }) s.heap.objs.size (a + ((0 : Nat) : Int) * c) ((n : Int) - ((0 : Nat) : Int)) c := by
    show IsRangeIter _ _ _ _ _; rw [hn]; simpa using Heap.get?_push_size _ rfl
  have hS₁ := Heap.get?_push_of_some { cls := .type "range_iterator", data := .fields #[rawInt a, rawInt (Builtin.Range.rangeSize a b c), rawInt c] } hS
  refine wpAny_ite_split (fun _ => ?_) (fun _ => wpAny_pure ⟨plainId_quiet PySem.F.plain_extend_loop _, key _ c₀ _ hit₁ (fun b o _ e => Heap.get?_push_of_some _ e) hS₁⟩)
  refine wpAny_bind (wpAny_rule ?_)
  refine wpAny_bind ?_
  show wpAny _ _ (updateSeq S (·.push .none) >>= fun _ => updateSeq S (·.pop)) _ _ _
  refine wpAny_bind (wpAny_updateSeq hS₁ rfl ?_ (by rw [sizeLine_eq]; omega) (by show (acc.push Value.none).size ≤ sizeLine + 1; rw [Array.size_push, sizeLine_eq]; omega))
  have hS₂ := Heap.get?_update_self (Obj.mapSeq (·.push Value.none)) hS₁ rfl
  refine wpAny_updateSeq hS₂ rfl ?_ (by show (acc.push Value.none).size ≤ sizeLine; rw [Array.size_push, sizeLine_eq]; omega) (by show ((acc.push Value.none).pop).size ≤ sizeLine + 1; rw [Array.pop_push, sizeLine_eq]; omega)
  have hS₃ := Heap.get?_update_self (Obj.mapSeq (·.pop)) hS₂ rfl
  refine wpAny_pure ⟨plainId_quiet PySem.F.plain_extend_loop _, key _ _ _ ?_ (fun b o hb e => ?_) (by rw [hS₃]; simp [Obj.mapSeq]; rfl)⟩
  · exact (Heap.get?_update_other _ _ hSI).trans ((Heap.get?_update_other _ _ hSI).trans hit₁)
  · exact (Heap.get?_update_other _ _ (Ne.symm hb)).trans ((Heap.get?_update_other _ _ (Ne.symm hb)).trans (Heap.get?_push_of_some _ e))
theorem collectRange {r : Addr} {a b c : Int} {t u v : Tok} {n : Nat} {Q : List Value → Shared → Prop} (hh : A.handled = none) (hr : IsRange s.heap r a b c t u v) (hsmall : Builtin.Range.small a b c = true) (hn : Builtin.Range.rangeSize a b c = n) (hlen : n ≤ 2 ^ 20)
    (h : ∀ (h' : Heap) (tk : Nat) (acc : Array Value), (∀ b o, s.heap.get? b = some o → h'.get? b = some o) → ItemsOf (fun i v => ∃ t, v = .int (a + (i : Int) * c) t) acc n → Q acc.toList { s with heap := h', toks := tk }) :
    wpAny (model prog w) A (collect (.ref r)) Q E s := by
  unfold collect
  refine wpAny_bind (wpAny_runValue (codeAny_builtin entry_proto_collect' ?_))
  rw [Around.under_plainId PySem.F.plain_proto_collect _]
  show wpAny _ A.in1 (newList [] >>= fun l => again (.builtin "list.__iadd__" ⟨[l, .ref r], []⟩)) _ _ s
  refine wpAny_bind (wpAny_newObj_type ?_)
  refine wpAny_pure ⟨plainId_quiet PySem.F.plain_list_iadd _, codeAny_builtin entry_list_iadd' ?_⟩
  rw [Around.under_plainId PySem.F.plain_list_iadd _]
  have hS₁ : (s.heap.push { cls := .type "list", data := .seq ([] : List Value).toArray }).get? s.heap.objs.size = some { cls := .type "list", data := .seq #[] } := Heap.get?_push_size _ rfl
  show wpAny _ A.in1 (Builtin.List.listExtendWith (.ref s.heap.objs.size) (.ref r) (.ref s.heap.objs.size)) _ _ _
  have key := extendRange (prog := prog) (w := w) (A := A) (s := { s with heap := s.heap.push { cls := .type "list", data := .seq ([] : List Value).toArray } })
    (R := fun (q : Result) (s' : Shared) => ∃ (h' : Heap) (tk : Nat) (acc' : Array Value) (c' : Nat), q = .ok (.ret (.ref s.heap.objs.size)) ∧ s' = { s with heap := h', toks := tk } ∧
      (∀ b o, s.heap.get? b = some o → h'.get? b = some o) ∧ h'.get? s.heap.objs.size = some { cls := .type "list", dict := none, data := .seq acc' c', slots := #[] } ∧ ItemsOf (fun i v => ∃ t, v = .int (a + (i : Int) * c) t) acc' n)
    hh (Heap.get?_push_of_some _ hr) hsmall hn s.heap.objs.size (.ref s.heap.objs.size) #[] 0 (by show 0 + n ≤ _; omega) hS₁
    (fun h' tk acc' c' hk hS' hacc => ⟨h', tk, acc', c', rfl, rfl, fun b o e => hk b o (Nat.ne_of_lt (Heap.lt_size e)) (Heap.get?_push_of_some _ e), hS', by
      have : (#[] : Array Value).size + n = n := Nat.zero_add n
      rw [this] at hacc
      exact ⟨hacc.1, fun j v e => by have := hacc.2 j v e; simpa using this⟩⟩)
  refine wpAny_mono key (fun fin s' x => ?_) fun e s' x => ?_
  · cases fin with
    | done f =>
      obtain ⟨h', tk, acc', c', e, rfl, hk, hS', hacc⟩ := x
      cases e
      show wpAny _ A (load s.heap.objs.size >>= _) _ _ _
      refine wpAny_bind (wpAny_load hS' ?_)
      exact wpAny_pure (h h' tk acc' hk hacc)
    | again c₁ =>
      refine ⟨x.1, codeAny_mono x.2 fun q s₂ y => ?_⟩
      obtain ⟨h', tk, acc', c', rfl, rfl, hk, hS', hacc⟩ := y
      show wpAny _ A (load s.heap.objs.size >>= _) _ _ _
      refine wpAny_bind (wpAny_load hS' ?_)
      exact wpAny_pure (h h' tk acc' hk hacc)
  · obtain ⟨_, _, _, _, e', _⟩ := x
    cases e'
theorem callTupleRange {r : Addr} {a b c : Int} {t u v : Tok} {n : Nat} {Q : Value → Shared → Prop} (hh : A.handled = none) (hr : IsRange s.heap r a b c t u v) (hsmall : Builtin.Range.small a b c = true) (hn : Builtin.Range.rangeSize a b c = n) (hlen : n ≤ 2 ^ 20)
    (h : ∀ (h' : Heap) (tk : Nat) (acc : Array Value), (∀ b o, s.heap.get? b = some o → h'.get? b = some o) → ItemsOf (fun i v => ∃ t, v = .int (a + (i : Int) * c) t) acc n → Q (.ref h'.objs.size) { s with heap := h'.push { cls := .type "tuple", data := .seq acc }, toks := tk }) :
    wpAny (model prog w) A (call (.type "tuple") [.ref r]) Q E s := by
  refine callType_codes (Q₁ := fun obj s₁ => s₁.TypeIs obj "tuple" ∧ Q obj s₁) PySem.F.called_tuple (PySem.F.typeCall_tuple_1 _) PySem.F.entry_object_init (codeAny_of_tree ?_) fun obj s₁ h₁ => ?_
  · show wpAny _ A.in1.in1 (do checkBuiltinCall "tuple.__new__" ⟨[.type "tuple", .ref r], []⟩; again (.builtin "tuple.__new__" ⟨[.type "tuple", .ref r], []⟩)) _ _ s
    refine wpAny_bind (wpAny_of_eq (PySem.F.newCall_tuple_1 _) (wpAny_pure ⟨plainId_quiet PySem.F.plain_tuple_new _, codeAny_builtin PySem.F.entry_tuple_new ?_⟩))
    rw [Around.under_plainId PySem.F.plain_tuple_new _]
    have hsub := sub_tuple_self
    have hinit := init_tuple_lookup
    have hmh := madeHere_tuple
    have hTI : s.TypeIs (.ref r) "range" := ⟨_, hr, rfl⟩
    have hh2 : A.in1.in1.handled = none := hh
    wp_walk using wpAny_typeOf hTI, collectRange hh2 hr hsmall hn hlen
    intro h' tk acc hk hacc
    show wpAny _ _ (Builtin.Tuple.tupleExact acc.toList.toArray >>= fun v => ret v) _ _ _
    unfold Builtin.Tuple.tupleExact
    refine wpAny_bind (wpAny_newObj_type ?_ (by show acc.toList.toArray.size ≤ sizeLine; simp only [Array.toArray_toList]; rw [hacc.1, sizeLine_eq]; omega))
    refine wpAny_pure ?_
    have e : acc.toList.toArray = acc := by simp
    rw [e]
    exact ⟨⟨_, Heap.get?_push_size _ rfl, rfl⟩, h h' tk acc hk hacc⟩
  · exact ⟨h₁.1, PySem.F.args_object_init_2 obj _, object_init_meets PySem.F.called_tuple.init.lookup PySem.F.called_tuple.made (by decide) prog w A.in1 _ s₁ ⟨h₁.1, rfl, h₁.2⟩⟩
end
section
variable {c : Cx} {n : Nat} {pe : PE} {g : G} {φ : List Addr} {mem mem' : List MO} {s : Shared} {v : V} {h h' : Heap}
/-! ## sum, tuple, extend -/
noncomputable def sumF : CF := fun vs mem => on1 vs fun x => (lstOf mem x).bind fun l => (toInts l).bind fun ns => some (.int ns.sum, mem)
theorem preSum_eq : ∀ (ns : List Int), preSum (fun i => ns.getD i 0) ns.length = ns.sum
  | [] => rfl
  | n :: ns => by
    show preSum (fun i => (n :: ns).getD i 0) (ns.length + 1) = _
    rw [kdu_shift, List.sum_cons, ← preSum_eq ns]
    rfl
theorem sumOK : CallOK c n (.builtin "sum") sumF := fun vs mem v mem' e A g φ s ws Q hA R r P => by
  refine VRels.on1E r e fun w1 v1 r1 e => bindE e fun l e1 e => bindE e fun ns e2 e => lstOfE r1 R e1 fun a o vs h1 h2 h3 => ?_
  · have h3 := toInts_eq e2 ▸ h3
    have hI := h3.ints
    have hlen : vs.length = ns.length := by rw [h3.length, List.length_map]
    have hL := h2.list h1
    have hne : a ≠ s.heap.objs.size := Nat.ne_of_lt (Heap.lt_size h1)
    refine call_sum_walkAnyS (wpAny_pyIter_list hL ?_)
    have W := Walks.list (prog := c.prog) (w := c.w) (A := A.in1) hA.1 s.heap.objs.size a hne vs.toArray
    rw [show vs.toArray.size = ns.length by simp [hlen]] at W
    refine ⟨s.heap.objs.size, _, _, _, ns.length, _, _, (fun i => ns.getD i 0), rfl, W.toS, ⟨⟨_, Heap.get?_push_size _ rfl, rfl, rfl⟩, hL.push _⟩, fun b hb => ?_, fun i v hv => hI.int_at i v (by simpa using hv), fun s' t' hm => ?_⟩
    · show b < (s.heap.push _).objs.size
      rw [Heap.size_push]
      rcases List.mem_cons.mp hb with e | hb
      · rw [e]; exact Nat.lt_succ_self _
      · rw [List.mem_singleton.mp hb]; exact Nat.lt_succ_of_lt (Heap.lt_size h1)
    · rw [preSum_eq]
      have hk : ∀ b o, s.heap.get? b = some o → s'.heap.get? b = some o := fun b o e =>
        hm.heap b o (fun hI => absurd (Heap.lt_size e) (by rw [List.mem_singleton.mp hI]; exact Nat.lt_irrefl _)) (Heap.get?_push_of_some _ e)
      have es : s' = { s with heap := s'.heap, toks := s'.toks } := by
        obtain ⟨h', g', d', tk', os'⟩ := s'
        have e1 : g' = s.gens := hm.gens
        have e2 : d' = s.drawn := hm.drawn
        have e3 : os' = s.os := hm.os
        subst e1 e2 e3; rfl
      rw [es]
      exact (P.of e).ext R hk (.int _ _) _
noncomputable def rngInts (a : Int) (n : Nat) : List V := (List.range n).map fun i => .int (a + (i : Nat))
noncomputable def tupR (l : List V) (mem : List MO) : Option (V × List MO) := if l.length ≤ sizeB then some (.tup l, mem) else none
noncomputable def tupF : CF := fun vs mem => on1 vs fun x => match x with
  | .lst l => tupR l mem
  | .ref k => moL mem[k]? fun l => tupR l mem
  | .tup l => some (.tup l, mem)
  | .rng a b => if (smallI a && smallI b && decide ((b - a).toNat ≤ 1000)) = true then some (.tup (rngInts a (b - a).toNat), mem) else none
  | _ => none
theorem items_rng {a : Int} {acc : Array Value} {k : Nat} (hacc : ItemsOf (fun i v => ∃ t, v = .int (a + (i : Int) * 1) t) acc k) : VRels g φ acc.toList (rngInts a k) := by
  have := intsFrom (val := fun i => a + (i : Nat)) acc.toList fun i v e => by
    obtain ⟨t, h⟩ := hacc.2 i v (by rw [← Array.getElem?_toList]; exact e)
    rw [Int.mul_one] at h
    exact ⟨t, h⟩
  rw [Array.length_toList, hacc.1] at this
  have r := ints_vrels (g := g) (φ := φ) this
  rw [List.map_map] at r
  exact r
theorem get_push {h h' : Heap} (hk : ∀ b o, h.get? b = some o → h'.get? b = some o) : h.get? h'.objs.size = none := by
  cases q : h.get? h'.objs.size with
  | none => rfl
  | some o => exact absurd (Heap.lt_size (hk _ o q)) (Nat.lt_irrefl _)
theorem tupSeq {A : Around} {Q : Value → Shared → Prop} {a : Addr} {o : Obj} {vs : List Value} {l : List V} (R : MRel c g φ mem s.heap) (h1 : s.heap.get? a = some o) (h2 : SeqObj "list" o vs) (h3 : VRels g φ vs l) (e : tupR l mem = some (v, mem')) (P : PostM c g φ mem s v mem' Q) :
    wpAny (model c.prog c.w) A (call (.type "tuple") [.ref a]) Q Fls s := ifE e fun hz e => by
  refine call_tuple_list (h2.list h1) (fun h' hk => ?_) (by rw [List.size_toArray, h3.length]; exact sizeB_le hz)
  exact (P.of e).frozen R (fun b o e => size_mem _ b o (hk b o e)) (get_push hk) (Heap.get?_push_size _ rfl) (fun g' hg e => .tup e ⟨rfl, _, rfl⟩ (h3.mono' hg)) _
theorem tupOK : CallOK c n (.type "tuple") tupF := fun vs mem v mem' e A g φ s ws Q hA R r P => by
  refine VRels.on1E r e fun w1 v1 r1 e => ?_
  cases v1 with
  | lst l => exact VRel.lstE r1 fun a o vs h1 h2 h3 => tupSeq R (R.keep _ _ h1) h2 h3 e P
  | ref k => exact VRel.refE r1 fun a ha => moLE e fun l hm e => lstOfE (VRel.ref ha) R (lstOf_ref hm) fun a o vs h1 h2 h3 => tupSeq R h1 h2 h3 e P
  | tup l => exact VRel.tupE r1 fun a o vs g1 o1 r1 => call_tuple_tup (o1.tup (R.keep _ _ g1)) ((P.of e).same' R (.tup g1 o1 r1))
  | rng a b =>
    refine VRel.rngE r1 fun a' t u w g1 => ifE e fun hz e => ?_
    rw [Bool.and_eq_true, Bool.and_eq_true, smallI_iff, smallI_iff, decide_eq_true_eq] at hz
    have hsz : Builtin.Range.rangeSize a b 1 = ((b - a).toNat : Int) := by rw [rangeSize_one]; split <;> omega
    refine callTupleRange hA.1 (R.keep _ _ g1) (small_one (by omega) (by omega) (by omega) (by omega)) hsz (by omega) fun h' tk acc hk hacc => ?_
    exact (P.of e).frozen R (fun b o e => size_mem _ b o (hk b o e)) (get_push hk) (Heap.get?_push_size _ rfl) (fun g' hg e => .tup e ⟨rfl, 0, (by simp)⟩ (items_rng hacc)) _
  | _ => exact noSome e
noncomputable def extendF : CF := fun vs mem => on2 vs fun u x => u.onRef fun k => moL mem[k]? fun l => x.onRng fun a b => if (smallI a && smallI b && decide ((b - a).toNat ≤ 1000) && decide (l.length ≤ sizeB)) = true then some (.none, mem.set k (.lst (l ++ rngInts a (b - a).toNat))) else none
theorem extendOK : CallOK c n (.builtin "list.extend") extendF := fun vs mem v mem' e A g φ s ws Q hA R r P => by
  refine VRels.on2E r e fun w1 v1 w2 v2 r1 r2 e => VRel.onRefE r1 e fun k D ha e => moLE e fun l hm e => VRel.onRngE r2 e fun a b a' t u w g1 e => ifE e fun hz e => ?_
  · · · rw [Bool.and_eq_true, Bool.and_eq_true, Bool.and_eq_true, smallI_iff, smallI_iff, decide_eq_true_eq, decide_eq_true_eq] at hz
        obtain ⟨⟨vs, m, ho, r'⟩, _⟩ := R.obj _ _ _ hm ha (fun q => by cases q)
        have hr : IsRange s.heap a' a b 1 t u w := R.keep _ _ g1
        have hsz : Builtin.Range.rangeSize a b 1 = ((b - a).toNat : Int) := by rw [rangeSize_one]; split <;> omega
        have hvl : vs.toArray.size = l.length := by rw [List.size_toArray, r'.length]
        refine wpAny_call (codeAny_call_builtin PySem.F.slot_list_extend.plain PySem.F.entry_list_extend (PySem.F.slot_list_extend.check _ _ _ _ _ _ _ _ ⟨_, ho, rfl⟩ (PySem.F.args_list_extend_2 _ _) ?_))
        show wpAny _ _ (Builtin.List.listExtendWith (.ref D) (.ref a') .none) _ _ _
        refine extendRange (A := A) (R := fun r s' => match r with | .ok (.ret v) => Q v s' | .ok _ => False | .error e => Fls e s') hA.1 hr (small_one (by omega) (by omega) (by omega) (by omega)) hsz D .none vs.toArray m (by rw [hvl]; unfold sizeB at hz; omega) ho fun h' tk acc' c' hk hS' hacc => ?_
        have T := Tr.change (h' := h') (o' := .lst (l ++ rngInts a (b - a).toNat)) R hm ha (fun q => by cases q) (fun q => by cases q) (fun b x nb e => hk b x nb e) ⟨acc'.toList, c', (by rw [hS']), ?_⟩
        · exact P.of e g φ h' tk _ T .none
        · rw [hvl] at hacc
          have hl : (acc'.toList.take l.length) = vs := by
            apply List.ext_getElem?
            intro i
            rw [List.getElem?_take]
            split
            · rename_i hi
              have hi' : i < acc'.toList.length := by rw [Array.length_toList, hacc.1]; omega
              have := hacc.2 i _ (by rw [← Array.getElem?_toList]; exact List.getElem?_eq_getElem hi')
              dsimp only at this
              rw [if_pos hi] at this
              rw [List.getElem?_eq_getElem hi', ← this]; simp
            · rename_i hi
              rw [List.getElem?_eq_none (by rw [r'.length]; omega)]
          rw [← List.take_append_drop l.length acc'.toList, hl]
          refine r'.append ?_
          have hdl : (acc'.toList.drop l.length).length = (b - a).toNat := by rw [List.length_drop, Array.length_toList, hacc.1]; omega
          have := intsFrom (val := fun i => a + (i : Nat)) (acc'.toList.drop l.length) fun i v e => by
            rw [List.getElem?_drop, Array.getElem?_toList] at e
            have z := hacc.2 _ v e
            dsimp only at z
            rw [if_neg (by omega)] at z
            obtain ⟨t, z⟩ := z
            rw [Nat.add_sub_cancel_left, Int.mul_one] at z
            exact ⟨t, z⟩
          rw [hdl] at this
          have r := ints_vrels (g := g) (φ := φ) this
          rw [List.map_map] at r
          exact r
end
end Mine
-- Ops6
namespace Mine
section
variable {c : Cx} {n : Nat} {pe : PE} {g g' : G} {φ φ' : List Addr} {ρ ρ' : Rho} {mem mem' : List MO} {s : Shared} {v : V} {h h' : Heap}
theorem setItemNeg {prog : Program} {w : World} {A : Around} {E : Value → Shared → Prop} {l : Addr} {items : Array Value} {k : Int} {t : Tok} {v : Value} {Q : Unit → Shared → Prop} (hl : s.heap.IsList l items)
    (h0 : k < 0) (h1 : -(items.size : Int) ≤ k) (hfit : -(2 ^ 63) ≤ k) (hQ : Q () { s with heap := s.heap.update l (Obj.mapSeq (·.setIfInBounds (k + items.size).toNat v)) }) :
    wpAny (model prog w) A (setItem (.ref l) (.int k t) v) Q E s := by
  obtain ⟨o, ho, hc, ne, hd⟩ := id hl
  have hj : (k + items.size).toNat < items.size := by omega
  have hx : items[(k + items.size).toNat]? = some items[(k + items.size).toNat] := Array.getElem?_eq_getElem hj
  unfold setItem
  try with_reducible refine wpAny_holding ?_
  first | refine wpAny_bind (wpAny_pure ?_) | skip
  refine wpAny_bind (wpAny_sequenceKey hl.typeIs (by decide) ?_)
  refine wpAny_bind (wpAny_callSpecial?_slot (name := Str.ofString "__setitem__") hl.typeIs slot_list_setitem
    (wpAny_call_entry slot_list_setitem hl.typeIs entry_list_setitem ?_ (args_list_setitem _ _ _)))
  show wpAny _ _ (Builtin.List.listSubscript? (.int k t) >>= _) _ _ s
  refine wpAny_bind (wpAny_listSubscript_int (PySem.fitsIndex_neg h0 hfit) ?_)
  clear hfit
  have hidx := _root_.PySem.seqIndex_neg h0 h1
  generalize hJ : (k + items.size).toNat = J at *
  obtain ⟨j, rfl⟩ : ∃ j : Nat, k = Int.negSucc j := by
    cases k with
    | ofNat n => exact absurd h0 (Int.not_lt.mpr (Int.natCast_nonneg n))
    | negSucc n => exact ⟨n, rfl⟩
  show wpAny _ _ ((Builtin.List.listItems (.ref l) >>= fun xs => pure ((seqIndex? (Int.negSucc j) xs.size).bind fun i => xs[i]?.map (i, ·))) >>= _) _ _ s
  refine wpAny_bind (wpAny_bind ?_)
  show wpAny _ _ (seqItems? (.ref l) >>= _) _ _ s
  refine wpAny_bind (wpAny_seqItems ho hd (wpAny_pure (wpAny_pure ?_)))
  rw [hidx]
  simp only [Option.bind_some, hx, Option.map_some]
  show wpAny _ _ (setSeqItemAt l J v >>= _) _ _ s
  refine wpAny_bind (wpAny_setSeqItemAt ho hd ?_)
  first
    | exact wpAny_bind (wpAny_pure (wpAny_pure ⟨.none, rfl, wpAny_pure hQ⟩))
    | exact wpAny_pure ⟨.none, rfl, wpAny_pure hQ⟩

/-! ## Items are stored -/
noncomputable def putV {K : Type} [DecidableEq K] (l : List (K × V)) (k : K) (v : V) : List (K × V) := if l.any (fun kv => decide (kv.1 = k)) then l.map (fun kv => if kv.1 = k then (kv.1, v) else kv) else l ++ [(k, v)]
theorem putMap_rel {K : Type} [DecidableEq K] (k : K) {w : Value} (rv : VRel g φ w v) : ∀ {kvs : List (K × Value)} {l : List (K × V)}, PairsRel g φ kvs l → PairsRel g φ (kvs.map fun kv => if kv.1 = k then (kv.1, w) else kv) (l.map fun kv => if kv.1 = k then (kv.1, v) else kv) := by
  intro kvs
  induction kvs with
  | nil =>
    intro l r
    cases l with
    | nil => exact ⟨rfl, .nil⟩
    | cons _ _ => exact (List.cons_ne_nil _ _ r.1.symm).elim
  | cons p ps ih =>
    intro l r
    cases l with
    | nil => exact (List.cons_ne_nil _ _ r.1).elim
    | cons q qs =>
      have e := List.cons.inj r.1
      have c := r.2.consE
      have h := ih ⟨e.2, c.2⟩
      rw [List.map_cons, List.map_cons, show p.1 = q.1 from e.1]
      by_cases z : q.1 = k
      · rw [if_pos z, if_pos z]
        exact ⟨List.cons_eq_cons.mpr ⟨rfl, h.1⟩, .cons rv h.2⟩
      · rw [if_neg z, if_neg z]
        exact ⟨List.cons_eq_cons.mpr ⟨e.1, h.1⟩, .cons c.1 h.2⟩
theorem putV_rel {K : Type} [DecidableEq K] {kvs : List (K × Value)} {l : List (K × V)} (r : PairsRel g φ kvs l) (k : K) {w : Value} (rv : VRel g φ w v) : PairsRel g φ (stored kvs k w) (putV l k v) := by
  have ha : kvs.any (fun kv => decide (kv.1 = k)) = l.any (fun kv => decide (kv.1 = k)) := by
    have := congrArg (fun m : List K => m.any fun x => decide (x = k)) r.1
    simpa [List.any_map, Function.comp_def] using this
  unfold stored putV
  rw [ha]
  split
  · exact putMap_rel k rv r
  · exact ⟨by rw [List.map_append, List.map_append, r.1]; rfl, by rw [List.map_append, List.map_append]; exact r.2.append (.cons rv .nil)⟩
noncomputable def storeI (k : Nat) (i : Int) (v : V) (mem : List MO) : Option MO → Option (List MO)
  | some (.dicI l) => if l.length ≤ sizeB then some (mem.set k (.dicI (putV l i v))) else none
  | some (.lst l) => if i = -1 ∧ l ≠ [] then some (mem.set k (.lst (l.set (l.length - 1) v))) else none
  | _ => none
noncomputable def storeV (o i v : V) (mem : List MO) : Option (List MO) := o.onRef fun k => match i with
  | .int i => storeI k i v mem mem[k]?
  | .str x => moS mem[k]? fun l => if l.length ≤ sizeB then some (mem.set k (.dicS (putV l x v))) else none
  | _ => none
theorem VRels.set {ws : List Value} {vs : List V} (r : VRels g φ ws vs) (j : Nat) {w : Value} (rv : VRel g φ w v) : VRels g φ (ws.set j w) (vs.set j v) :=
  VRels.ind (P := fun ws vs => ∀ j, VRels g φ (ws.set j w) (vs.set j v)) (fun _ => .nil) (fun w' v' ws vs a b ih j => match j with | 0 => .cons rv b | j + 1 => .cons a (ih j)) r j
section
variable {A : Around} {wv : Value} {Q : Unit → Shared → Prop} {E : Value → Shared → Prop} {k : Nat} {a : Addr}
abbrev PostW (c : Cx) (g : G) (φ : List Addr) (mem : List MO) (s : Shared) (mem' : List MO) (Q : Unit → Shared → Prop) : Prop := ∀ h' tk, Tr c g φ mem s.heap g φ mem' h' → Q () { s with heap := h', toks := tk }
theorem PostW.of {m₁ : List MO} (P : PostW c g φ mem s mem' Q) (e : some m₁ = some mem') : PostW c g φ mem s m₁ Q := by cases e; exact P
theorem storeDic {i : Int} {t : Tok} {l : List (Int × V)} (R : MRel c g φ mem s.heap) (ha : φ[k]? = some a) (hm : mem[k]? = some (.dicI l)) (rv : VRel g φ wv v) (hz : l.length ≤ sizeB) (P : PostW c g φ mem s (mem.set k (.dicI (putV l i v))) Q) : wpAny (model c.prog c.w) A (setItem (.ref a) (.int i t) wv) Q E s := by
  obtain ⟨⟨kvs, hd, pr⟩, _⟩ := R.obj _ _ _ hm ha (fun q => by cases q)
  have hl : kvs.length = l.length := by have := congrArg List.length pr.1; simpa using this
  refine wpAny_setItem_pairs (knd := intKind c.prog c.w) (intKind_is _ _ _ _) hd (fun h' hd' hs => ?_) (by rw [hl]; exact sizeB_le hz)
  exact P h' _ (Tr.change R hm ha (fun q => by cases q) (fun q => by cases q) (fun b x nb e => (hs.2 b nb).trans e) ⟨_, hd', putV_rel pr _ rv⟩)
theorem storeDicS {i : Str} {t : Tok} {l : List (Str × V)} (R : MRel c g φ mem s.heap) (ha : φ[k]? = some a) (hm : mem[k]? = some (.dicS l)) (rv : VRel g φ wv v) (hz : l.length ≤ sizeB) (P : PostW c g φ mem s (mem.set k (.dicS (putV l i v))) Q) : wpAny (model c.prog c.w) A (setItem (.ref a) (.str i t) wv) Q E s := by
  obtain ⟨⟨kvs, hd, pr⟩, _⟩ := R.obj _ _ _ hm ha (fun q => by cases q)
  have hl : kvs.length = l.length := by have := congrArg List.length pr.1; simpa using this
  refine wpAny_setItem_pairs (knd := PySem.strKind c.prog c.w) (strKind_is _ _ _ _) hd (fun h' hd' hs => ?_) (by rw [hl]; exact sizeB_le hz)
  exact P h' _ (Tr.change R hm ha (fun q => by cases q) (fun q => by cases q) (fun b x nb e => (hs.2 b nb).trans e) ⟨_, hd', putV_rel pr _ rv⟩)
theorem storeLst {i : Int} {t : Tok} {l : List V} (R : MRel c g φ mem s.heap) (ha : φ[k]? = some a) (hm : mem[k]? = some (.lst l)) (rv : VRel g φ wv v) (hz : i = -1 ∧ l ≠ []) (P : PostW c g φ mem s (mem.set k (.lst (l.set (l.length - 1) v))) Q) : wpAny (model c.prog c.w) A (setItem (.ref a) (.int i t) wv) Q E s := by
  obtain ⟨rfl, hne⟩ := hz
  obtain ⟨⟨vs, n', e', r'⟩, _⟩ := R.obj _ _ _ hm ha (fun q => by cases q)
  have hpos : 0 < l.length := List.length_pos_iff.mpr hne
  have hsz : vs.toArray.size = l.length := by rw [List.size_toArray, r'.length]
  refine setItemNeg (SeqObj.list e' ⟨rfl, n', rfl⟩) (by decide) (by rw [hsz]; omega) (by decide) ?_
  have hi : ((-1 : Int) + vs.toArray.size).toNat = l.length - 1 := by rw [hsz]; omega
  rw [hi]
  have hu := Heap.get?_update_self (Obj.mapSeq (·.setIfInBounds (l.length - 1) wv)) e' rfl
  exact P _ _ (Tr.change R hm ha (fun q => by cases q) (fun q => by cases q) (fun b x nb e => (Heap.get?_update_other _ _ (Ne.symm nb)).trans e) ⟨vs.set (l.length - 1) wv, _, (by rw [hu]; simp [Obj.mapSeq]; rfl), r'.set _ rv⟩)
theorem storeRun {wo wi : Value} {o i : V} (R : MRel c g φ mem s.heap) (ro : VRel g φ wo o) (ri : VRel g φ wi i) (rv : VRel g φ wv v) (e : storeV o i v mem = some mem') (P : PostW c g φ mem s mem' Q) : wpAny (model c.prog c.w) A (setItem wo wi wv) Q E s := by
  refine VRel.onRefE ro e fun k a ha e => ?_
  cases i with
  | int i =>
    refine VRel.intE ri fun t => ?_
    have e : storeI k i v mem mem[k]? = some mem' := e
    cases hm : mem[k]? with
    | none => rw [hm] at e; exact noSome e
    | some o =>
      rw [hm] at e
      cases o with
      | dicI l => exact ifE e fun hz e => storeDic R ha hm rv hz (P.of e)
      | lst l => exact ifE e fun hz e => storeLst R ha hm rv hz (P.of e)
      | dicS l => exact noSome e
      | dead => exact noSome e
  | str x => exact VRel.strE ri fun t => moSE e fun l hm e => ifE e fun hz e => storeDicS R ha hm rv hz (P.of e)
  | _ => exact noSome e
end
noncomputable def subStX (f a b : EF) : SF := fun ρ m => (f ρ m).bind fun r => (a ρ r.2).bind fun o => (b ρ o.2).bind fun i => (storeV o.1 i.1 r.1 i.2).bind fun m' => some (.next, ρ, m')
theorem StOK.assignSub {o i value : Expr} {pos' pos : Pos} {f a b : EF} (he : EvOK c n pe value f) (ho : EvOK c n pe o a) (hi : EvOK c n pe i b) (hs : swapsWith value (some (.Subscript o i pos')) pos.line pe.env = pure false) :
    StOK c n pe (.Assign [.Subscript o i pos'] value pos) (subStX f a b) := fun ρ mem fl ρ' mem' x A g φ s Q hA R P => by
  refine bindE2 x fun v mem₁ e1 x => ?_
  refine bindE2 x fun u mem₂ e2 x => ?_
  refine bindE2 x fun j mem₃ e3 x => ?_
  refine bindE x fun mem₄ e4 x => ?_
  refine wpAny_Assign_Subscript (he ρ mem v mem₁ e1 A g φ s _ hA R fun g1 φ1 h1 tk1 w1 T1 R1 r1 => ?_) hs
  refine ho ρ mem₁ u mem₂ e2 A g1 φ1 _ _ hA R1 fun g2 φ2 h2 tk2 w2 T2 R2 r2 => ?_
  refine hi ρ mem₂ j mem₃ e3 A g2 φ2 _ _ hA R2 fun g3 φ3 h3 tk3 w3 T3 R3 r3 => ?_
  refine storeRun (s := { s with heap := h3, toks := tk3 }) R3.m (T3.vrel r2) r3 (T3.vrel (T2.vrel r1)) e4 fun h4 tk4 T4 => ?_
  have E := T4.lift R3
  exact P.of x g3 φ3 h4 tk4 _ (T1.trans R1 (T2.trans R2 (T3.trans R3 E.1))) E.2 .next

/-! ## {'a': x, 'b': y} -/
theorem own_snoc {o : MO} {D a : Addr} (hl : φ.length = mem.length) (x : Own (φ ++ [D]) (mem ++ [o]) a) : Own φ mem a ∨ a = D := by
  obtain ⟨i, ob, e1, e2, nd⟩ := x
  by_cases q : i < mem.length
  · rw [List.getElem?_append_left q] at e2
    rw [List.getElem?_append_left (hl ▸ q)] at e1
    exact .inl ⟨i, ob, e1, e2, nd⟩
  · have q' : i = mem.length := by
      have := (List.getElem?_eq_some_iff.mp e2).1
      simp at this; omega
    subst q'
    rw [List.getElem?_append_right (Nat.le_of_eq hl), hl, Nat.sub_self] at e1
    cases e1
    exact .inr rfl
theorem MRel.adoptOwn {D : Addr} {o : MO} (R : MRel c g φ mem h) (gn : g D = none) (nφ : D ∉ φ) (lo : 3 < D) (nd : o ≠ .dead) (k : ∀ b x, b ≠ D → h.get? b = some x → h'.get? b = some x) (ho : ORel c g (φ ++ [D]) h' D o) : MRel c g (φ ++ [D]) (mem ++ [o]) h' := by
  have hφ : ∀ (k : Nat) (b : Addr), φ[k]? = some b → (φ ++ [D])[k]? = some b := pre_get (List.prefix_append _ _)
  refine ⟨R.top, fun b x e => k b x (fun q => by rw [q, gn] at e; cases e) (R.keep b x e), by simp [R.len], ?_, fun b m => ?_, fun b m => ?_, fun i ob b e1 e2 n => ?_⟩
  · rw [List.nodup_append]
    exact ⟨R.nod, List.nodup_cons.mpr ⟨List.not_mem_nil, List.nodup_nil⟩, fun b hb d hd q => nφ (by rw [← List.mem_singleton.mp hd, ← q]; exact hb)⟩
  · rcases List.mem_append.mp m with m | m
    · obtain ⟨x, e⟩ := R.alloc b m; exact ⟨x, k b x (fun q => nφ (q ▸ m)) e⟩
    · rw [List.mem_singleton.mp m]; exact ho.some nd
  · rcases List.mem_append.mp m with m | m
    · exact R.lo b m
    · rw [List.mem_singleton.mp m]; exact lo
  · by_cases q : i < mem.length
    · rw [List.getElem?_append_left q] at e1
      rw [List.getElem?_append_left (R.len ▸ q)] at e2
      obtain ⟨r, z⟩ := R.obj i ob b e1 e2 n
      exact ⟨r.mono (fun _ _ e => e) hφ fun x e => k b x (fun q => nφ (q ▸ List.mem_of_getElem? e2)) e, z⟩
    · have q' : i = mem.length := by
        have := (List.getElem?_eq_some_iff.mp e1).1
        simp at this; omega
      subst q'
      rw [List.getElem?_append_right (Nat.le_refl _), Nat.sub_self] at e1
      rw [List.getElem?_append_right (Nat.le_of_eq R.len), R.len, Nat.sub_self] at e2
      cases e1; cases e2
      exact ⟨ho, gn⟩
theorem Rel.adoptOwn {D : Addr} {o : MO} {h₀ : Heap} {g₀ : G} {φ₀ : List Addr} {mem₀ : List MO} (T : TrE pe g₀ φ₀ mem₀ h₀ g φ mem h) (R : Rel c pe g φ ρ mem h) (of : Off pe g φ D) (hD : h₀.get? D = none) (lo : 3 < D) (nd : o ≠ .dead) (k : ∀ b x, b ≠ D → h.get? b = some x → h'.get? b = some x)
    (ho : ORel c g (φ ++ [D]) h' D o) : TrE pe g₀ φ₀ mem₀ h₀ g (φ ++ [D]) (mem ++ [o]) h' ∧ Rel c pe g (φ ++ [D]) ρ (mem ++ [o]) h' := by
  have RX := R.touch of k
  have hφ : ∀ (k : Nat) (b : Addr), φ[k]? = some b → (φ ++ [D])[k]? = some b := pre_get (List.prefix_append _ _)
  have om : ∀ {w : Value} {v : V}, VRel g φ w v → VRel g (φ ++ [D]) w v := fun r => r.mono (fun _ _ e => e) hφ
  refine ⟨⟨T.pre.trans (List.prefix_append _ _), fun b x e n => k b x (fun q => by rw [q, hD] at e; cases e) (T.keep b x e n), T.base, fun b x => ?_, fun b m => ?_⟩,
    R.ok, R.m.adoptOwn of.g of.φ lo nd k ho, ?_⟩
  · rcases x with x | x | x | x
    · exact T.new b (.inl x)
    · exact T.new b (.inr (.inl x))
    · exact T.new b (.inr (.inr (.inl x)))
    · rcases own_snoc R.m.len x with q | q
      · exact T.new b (.inr (.inr (.inr q)))
      · exact .inr (.inr (q ▸ hD))
  · rcases List.mem_append.mp m with m | m
    · exact T.newφ b m
    · rw [List.mem_singleton.mp m]; exact .inr hD
  · obtain ⟨m, hns, hl⟩ := RX.e.loc
    refine ⟨⟨m, hns, fun x v hx hv => let ⟨w, e, r⟩ := hl x v hx hv; ⟨w, e, om r⟩⟩, fun x v hx hv => let ⟨a, w, e, r, q⟩ := RX.e.cel x v hx hv; ⟨a, w, e, r, om q⟩, RX.e.gL, fun q => ?_, fun x a hx => ?_, RX.e.gC, fun a ha => ?_, RX.e.cinj, fun m => ?_⟩
    · exact (own_snoc R.m.len q).elim RX.e.oL fun q => of.loc q.symm
    · obtain ⟨z, no, ne⟩ := RX.e.cells x a hx
      exact ⟨z, fun q => (own_snoc R.m.len q).elim no fun q => of.cell x (q ▸ hx), ne⟩
    · obtain ⟨z, no, ne⟩ := RX.e.oc a ha
      exact ⟨z, fun q => (own_snoc R.m.len q).elim no fun q => of.oc (q ▸ ha), ne⟩
    · rcases List.mem_append.mp m with m | m
      · exact RX.e.pL m
      · exact of.loc (List.mem_singleton.mp m).symm
noncomputable def dic2X (k1 k2 : Str) (a b : EF) : EF := fun ρ m => (a ρ m).bind fun r => (b ρ r.2).bind fun q => some (.ref q.2.length, q.2 ++ [.dicS [(k1, r.1), (k2, q.1)]])
theorem evDic2 {k1 k2 : Str} {i1 i2 : Nat} {p1 p2 pos : Pos} {x y : Expr} {a b : EF} (ok : c.Ok) (ha : EvOK c n pe x a) (hb : EvOK c n pe y b) (hne : k1 ≠ k2) :
    EvOK c n pe (.Dict [some (.Constant (.str k1) i1 p1), some (.Constant (.str k2) i2 p2)] [x, y] pos) (dic2X k1 k2 a b) := fun ρ mem v mem' z A g φ s Q hA R P => by
  refine bindE2 z fun v1 mem₁ e1 z => ?_
  refine bindE2 z fun v2 mem₂ e2 z => ?_
  refine wpAny_Dict_walk (knd := PySem.strKind c.prog c.w) (by rfl) (by rfl) (by simp) (by simp) ?_
  generalize hD : s.heap.objs.size = D
  have hD0 : s.heap.get? D = none := hD ▸ get_size _
  have lo : 3 < D := hD ▸ R.m.big ok
  have ofD := R.off hD0
  have k0 : ∀ a o, s.heap.get? a = some o → (s.heap.push { cls := .type "dict", data := .dict #[] }).get? a = some o := size_mem _
  have eD : (s.heap.push { cls := .type "dict", data := .dict #[] }).get? D = some { cls := .type "dict", data := .dict #[] } := hD ▸ Heap.get?_push_size _ rfl
  have E0 := R.extend k0
  have T0 := E0.1
  have R0 := E0.2
  show wpAny _ A (do
    let kv ← eval (.Constant (.str k1) i1 p1) pe.env
    let vv ← holding [kv] (do let x ← eval x pe.env; standAt pos; pure x)
    return (kv, vv) :: (← holding [kv, vv] (evalPairs [(eval (.Constant (.str k2) i2 p2) pe.env, do let x ← eval y pe.env; standAt pos; pure x)]))) _ _ _
  refine wpAny_bind (EvOK.str (n := n) ρ mem _ mem rfl A g φ { s with heap := s.heap.push { cls := .type "dict", data := .dict #[] } } _ hA R0 fun g1 φ1 h1 tk1 w1 T1 R1 r1 => ?_)
  have z1 := ofD.step eD T1
  have of1 := z1.1
  have e1D := z1.2
  refine wpAny_bind (wpAny_holding (wpAny_bind (ha ρ mem v1 mem₁ e1 A g1 φ1 _ _ hA R1 fun g2 φ2 h2 tk2 w2 T2 R2 r2 => wpAny_bind (wpAny_standAt (wpAny_pure ?_)))))
  have z2 := of1.step e1D T2
  have of2 := z2.1
  have e2D := z2.2
  refine wpAny_bind (wpAny_holding ?_)
  show wpAny _ A (do
    let kv ← eval (.Constant (.str k2) i2 p2) pe.env
    let vv ← holding [kv] (do let x ← eval y pe.env; standAt pos; pure x)
    return (kv, vv) :: (← holding [kv, vv] (evalPairs []))) _ _ _
  refine wpAny_bind (EvOK.str (n := n) ρ mem₁ _ mem₁ rfl A g2 φ2 _ _ hA R2 fun g3 φ3 h3 tk3 w3 T3 R3 r3 => ?_)
  have z3 := of2.step e2D T3
  have of3 := z3.1
  have e3D := z3.2
  refine wpAny_bind (wpAny_holding (wpAny_bind (hb ρ mem₁ v2 _ e2 A g3 φ3 _ _ hA R3 fun g4 φ4 h4 tk4 w4 T4 R4 r4 => wpAny_bind (wpAny_standAt (wpAny_pure ?_)))))
  have z4 := of3.step e3D T4
  have of4 := z4.1
  have e4D := z4.2
  refine wpAny_bind (wpAny_holding (wpAny_pure (wpAny_pure (wpAny_pure ?_))))
  refine VRel.strE r1 fun t1 => VRel.strE r3 fun t3 => ?_
  refine ⟨[(k1, w2), (k2, w4)], ⟨strKind_is _ _ _ _, rfl, strKind_is _ _ _ _, rfl, trivial⟩, ?_, fun h' hd hs => ?_⟩
  · exact ⟨_, #[], 0, e4D, ⟨rfl, rfl, rfl⟩, rfl, (fun e he => by simp at he), .nil, by simp⟩
  · have hk : ∀ b x, b ≠ D → h4.get? b = some x → h'.get? b = some x := fun b x nb e => (hs.2 b nb).trans e
    have TT := T0.trans R0 (T1.trans R1 (T2.trans R2 (T3.trans R3 T4)))
    have hm : merged ([] : List (Str × Value)) [(k1, w2), (k2, w4)] = [(k1, w2), (k2, w4)] := by
      show stored (stored [] k1 w2) k2 w4 = _
      simp [stored, hne]
    rw [hm] at hd
    have E5 := Rel.adoptOwn (o := .dicS [(k1, v1), (k2, v2)]) TT R4 of4 hD0 lo (fun q => by cases q) hk ⟨_, hd, rfl, ((T4.vrel (T3.vrel r2)).mono (fun _ _ e => e) (pre_get (List.prefix_append _ _))) |> fun q => .cons q (.cons (r4.mono (fun _ _ e => e) (pre_get (List.prefix_append _ _))) .nil)⟩
    refine P.of z g4 _ h' _ _ E5.1 E5.2 (.ref ?_)
    rw [List.getElem?_append_right (Nat.le_of_eq R4.m.len), R4.m.len, Nat.sub_self]; rfl
end
end Mine
-- Ops7
namespace Mine
section
variable {c : Cx} {n : Nat} {pe : PE} {g g' g₀ : G} {φ φ' φ₀ : List Addr} {ρ ρ' : Rho} {mem mem' mem₀ : List MO} {s : Shared} {v : V} {h h' h₀ : Heap}

/-! ## A list is done with: it is a value from here on -/
theorem Rel.freeze (R : Rel c pe g φ ρ mem h) {x : Str} {k : Nat} {l : List V} (hx : ρ x = some (.ref k)) (hm : mem[k]? = some (.lst l)) :
    ∃ g', TrE pe g φ mem h g' φ (mem.set k .dead) h ∧ Rel c pe g' φ (upd ρ x (.lst l)) (mem.set k .dead) h := by
  have hkl : k < mem.length := (List.getElem?_eq_some_iff.mp hm).1
  obtain ⟨a, ha⟩ : ∃ a, φ[k]? = some a := ⟨_, List.getElem?_eq_getElem (by rw [R.m.len]; exact hkl)⟩
  obtain ⟨o, vs, ho, hso, hr, T⟩ := Tr.freeze R.m hm ha
  have E := T.lift R
  have key : ∀ {w : Value}, VRel (gAdd g a o) φ w (.ref k) → VRel (gAdd g a o) φ w (.lst l) := fun r => VRel.refE r fun b hb => (Option.some.inj (ha.symm.trans hb)) ▸ .lst (gAdd_self _ _ _) hso hr
  refine ⟨_, E.1, E.2.ok, E.2.m, ?_⟩
  refine E.2.e.loc.elim fun m hm => ⟨⟨m, hm.1, fun y u hy hu => ?_⟩, fun y u hy hu => ?_, E.2.e.gL, E.2.e.oL, E.2.e.cells, E.2.e.gC, E.2.e.oc, E.2.e.cinj, E.2.e.pL⟩
  · unfold upd at hu
    by_cases q : y = x
    · rw [if_pos q] at hu
      exact (hm.2 y (.ref k) hy (q ▸ hx)).elim fun w z => ⟨w, z.1, Option.some.inj hu ▸ key z.2⟩
    · rw [if_neg q] at hu
      exact hm.2 y u hy hu
  · unfold upd at hu
    by_cases q : y = x
    · rw [if_pos q] at hu
      exact (E.2.e.cel y (.ref k) hy (q ▸ hx)).elim fun b z => z.elim fun w z => ⟨b, w, z.1, z.2.1, Option.some.inj hu ▸ key z.2.2⟩
    · rw [if_neg q] at hu
      exact E.2.e.cel y u hy hu
noncomputable def frzX (x : Str) (f : SF) : SF := fun ρ m => (ρ x).bind fun v => v.onRef fun k => moL m[k]? fun l => f (upd ρ x (.lst l)) (m.set k .dead)
theorem onRefV {α : Type} {v : V} {f : Nat → Option α} {r : α} {P : Prop} (e : v.onRef f = some r) (k : ∀ j, v = .ref j → f j = some r → P) : P := by
  cases v with
  | ref j => exact k j rfl e
  | _ => exact noSome e
theorem ExOK.freeze {ss : List Stmt} {f : SF} (x : Str) (hf : ExOK c n pe ss f) : ExOK c n pe ss (frzX x f) := fun ρ mem fl ρ' mem' e A g φ s Q hA R P =>
  bindE e fun v e1 e => onRefV e fun k q e => moLE e fun l hm e => (R.freeze (e1.trans (congrArg some q)) hm).elim fun g' y => hf _ _ fl ρ' mem' e A g' φ s Q hA y.2 (P.behind (h₁ := s.heap) (tk₁ := s.toks) y.1 y.2)

/-! ## What nobody holds is forgotten -/
mutual
noncomputable def clean (N : Nat) : V → Bool
  | .ref k => decide (k < N)
  | .tup l => cleanL N l
  | .lst l => cleanL N l
  | .inst _ fs => cleanF N fs
  | .none => true
  | .bool _ => true
  | .int _ => true
  | .str _ => true
  | .rng _ _ => true
  | .set _ _ => true
  | .raw _ => true
noncomputable def cleanL (N : Nat) : List V → Bool
  | [] => true
  | v :: vs => clean N v && cleanL N vs
noncomputable def cleanF (N : Nat) : List (Str × V) → Bool
  | [] => true
  | p :: ps => clean N p.2 && cleanF N ps
end
theorem ref_trim {N k : Nat} {a : Addr} (e : φ[k]? = some a) (h : clean N (.ref k) = true) : (φ.take N)[k]? = some a := by
  rw [clean, decide_eq_true_eq] at h
  rw [List.getElem?_take, if_pos h]; exact e
theorem and_trim {N : Nat} {v : V} {vs : List V} (h : cleanL N (v :: vs) = true) : clean N v = true ∧ cleanL N vs = true := by rwa [cleanL, Bool.and_eq_true] at h
theorem and_trimF {N : Nat} {p : Str × V} {vs : List (Str × V)} (h : cleanF N (p :: vs) = true) : clean N p.2 = true ∧ cleanF N vs = true := by rwa [cleanF, Bool.and_eq_true] at h
theorem VRel.trim {N : Nat} {w : Value} {v : V} (r : VRel g φ w v) : clean N v = true → VRel g (φ.take N) w v :=
  VRel.rec (motive_1 := fun w v _ => clean N v = true → VRel g (φ.take N) w v) (motive_2 := fun w v _ => cleanL N v = true → VRels g (φ.take N) w v) (motive_3 := fun w v _ => cleanF N v = true → FRels g (φ.take N) w v)
    (fun _ => .none) (fun b _ => .bool b) (fun i t _ => .int i t) (fun s t _ => .str s t) (fun a b _ ih h => .tup a b (ih (by rwa [clean] at h))) (fun a b _ ih h => .lst a b (ih (by rwa [clean] at h))) (fun a _ => .rng a) (fun a b d e _ => .set a b d e)
    (fun a b _ ih h => .inst a b (ih (by rwa [clean] at h))) (fun a h => .ref (ref_trim a h)) (fun w _ => .raw w) (fun _ => .nil) (fun _ _ i1 i2 h => .cons (i1 (and_trim h).1) (i2 (and_trim h).2)) (fun _ => .nil) (fun e _ _ i1 i2 h => .cons e (i1 (and_trimF h).1) (i2 (and_trimF h).2)) r
theorem VRels.trim {N : Nat} {w : List Value} {v : List V} (r : VRels g φ w v) : cleanL N v = true → VRels g (φ.take N) w v :=
  VRels.rec (motive_1 := fun w v _ => clean N v = true → VRel g (φ.take N) w v) (motive_2 := fun w v _ => cleanL N v = true → VRels g (φ.take N) w v) (motive_3 := fun w v _ => cleanF N v = true → FRels g (φ.take N) w v)
    (fun _ => .none) (fun b _ => .bool b) (fun i t _ => .int i t) (fun s t _ => .str s t) (fun a b _ ih h => .tup a b (ih (by rwa [clean] at h))) (fun a b _ ih h => .lst a b (ih (by rwa [clean] at h))) (fun a _ => .rng a) (fun a b d e _ => .set a b d e)
    (fun a b _ ih h => .inst a b (ih (by rwa [clean] at h))) (fun a h => .ref (ref_trim a h)) (fun w _ => .raw w) (fun _ => .nil) (fun _ _ i1 i2 h => .cons (i1 (and_trim h).1) (i2 (and_trim h).2)) (fun _ => .nil) (fun e _ _ i1 i2 h => .cons e (i1 (and_trimF h).1) (i2 (and_trimF h).2)) r
noncomputable def cleanO (N : Nat) : MO → Bool
  | .lst l => cleanL N l
  | .dicI l => cleanL N (l.map (·.2))
  | .dicS l => cleanL N (l.map (·.2))
  | .dead => true
theorem MRel.trim (R : MRel c g φ mem h) {N : Nat} (hN : N ≤ mem.length) (hc : (mem.take N).all (cleanO N) = true) : MRel c g (φ.take N) (mem.take N) h := by
  refine ⟨R.top, R.keep, by rw [List.length_take, List.length_take, R.len], R.nod.sublist (List.take_sublist _ _), fun a m => R.alloc a (List.mem_of_mem_take m), fun a m => R.lo a (List.mem_of_mem_take m), fun k o a e1 e2 nd => ?_⟩
  have hk : k < N := by
    have := (List.getElem?_eq_some_iff.mp e1).1
    rw [List.length_take] at this; omega
  have ho := List.all_eq_true.mp hc o (List.mem_of_getElem? e1)
  rw [List.getElem?_take, if_pos hk] at e1 e2
  have z := R.obj k o a e1 e2 nd
  refine ⟨?_, z.2⟩
  cases o with
  | lst l => exact z.1.elim fun vs y => y.elim fun m y => ⟨vs, m, y.1, y.2.trim ho⟩
  | dicI l => exact z.1.elim fun kvs y => ⟨kvs, y.1, y.2.1, y.2.2.trim ho⟩
  | dicS l => exact z.1.elim fun kvs y => ⟨kvs, y.1, y.2.1, y.2.2.trim ho⟩
  | dead => trivial
theorem own_take {N : Nat} {a : Addr} (x : Own (φ.take N) (mem.take N) a) : Own φ mem a := x.elim fun k x => x.elim fun o x => by
  have hk : k < N := by
    have := (List.getElem?_eq_some_iff.mp x.2.1).1
    rw [List.length_take] at this; omega
  have e1 := x.1
  have e2 := x.2.1
  rw [List.getElem?_take, if_pos hk] at e1 e2
  exact ⟨k, o, e1, e2, x.2.2⟩
theorem Tr.trim (M : MRel c g φ mem h) (T : Tr c g φ mem h g' φ' mem' h') (hc : (mem'.take mem.length).all (cleanO mem.length) = true) : Tr c g φ mem h g' φ (mem'.take mem.length) h' ∧ φ'.take mem.length = φ := by
  have e : φ'.take mem.length = φ := T.pre.elim fun t q => by rw [← q, ← M.len, List.take_left]
  have hN : mem.length ≤ mem'.length := by rw [← M.len, ← T.rel.len]; exact T.pre.length_le
  have R := T.rel.trim hN hc
  rw [e] at R
  exact ⟨⟨R, List.prefix_refl _, T.keep, T.base, fun a x => T.new a (x.imp id fun q => own_take (N := mem.length) (e.symm ▸ q)), fun _ m => .inl m⟩, e⟩
noncomputable def trimC (f : CF) : CF := fun vs mem => (f vs mem).bind fun r => if clean mem.length r.1 = true ∧ (r.2.take mem.length).all (cleanO mem.length) = true then some (r.1, r.2.take mem.length) else none
theorem CallOK.trim {fv : Value} {f : CF} (hf : CallOK c n fv f) : CallOK c n fv (trimC f) := fun vs mem v mem' e A g φ s ws Q hA R r P =>
  bindE2 e fun u mem₁ e1 e2 => ifE e2 fun hz e2 => hf vs mem _ mem₁ e1 A g φ s ws Q hA R r fun g' φ' h' tk wv T rv => by
    have z := T.trim R hz.2
    have y := rv.trim hz.1
    rw [z.2] at y
    exact P.of e2 g' φ h' tk wv z.1 y

/-! ## A global name whose value is plain -/
theorem loadGlobalV {x : Str} {pos : Pos} {w : Value} (ok : c.Ok) (hk : pe.env.kindOf x = some .globalImplicit) (hd : (x == ("__debug__" : Str)) = false) (hv : nsIn c.K mainGlobals x = some (some w))
    (hr : ∀ (g : G) (φ : List Addr), (∀ a o, c.K.lookup a = some o → g a = some o) → VRel g φ w v) : EvOK c n pe (.Name x pos) (constX v) := fun ρ mem u mem' e A g φ s Q hA R P => by
  exact Name_function_global R.ok.fn hk (loadGlobal_global (R.glob ok) (mg_of ok.K ok.T.g hv) (P.of e g φ s.heap s.toks w .refl R (hr g φ fun a o e => R.m.top a o (ok.K a o e)))) hd

/-! ## for x, y in enumerate(l) -/
theorem Rel.touchL {ex : List Addr} (R : Rel c pe g φ ρ mem h) (o : ∀ X ∈ ex, Off pe g φ X) (k : ∀ b x, b ∉ ex → h.get? b = some x → h'.get? b = some x) : Rel c pe g φ ρ mem h' := by
  refine R.e.loc.elim fun m hm => ?_
  have cu : ∀ b u, h.IsCell b u → b ∉ ex → h'.IsCell b u := fun b u hb q => isCell_at hb fun o e => k b o q e
  refine ⟨R.ok, ⟨R.m.top, fun a x e => k a x (fun q => by rw [(o a q).g] at e; cases e) (R.m.keep a x e), R.m.len, R.m.nod, fun a m => ?_, R.m.lo, fun i ob a e1 e2 nd => ?_⟩,
    ⟨⟨m, hm.1.at' fun x e => k _ x (fun q => (o _ q).loc rfl) e, hm.2⟩, fun x v hx hv => ?_, R.e.gL, R.e.oL, fun x a hx => ?_, R.e.gC, fun a ha => ?_, R.e.cinj, R.e.pL⟩⟩
  · exact (R.m.alloc a m).elim fun x e => ⟨x, k a x (fun q => (o a q).φ m) e⟩
  · have z := R.m.obj i ob a e1 e2 nd
    exact ⟨z.1.mono (fun _ _ e => e) (fun _ _ e => e) fun x e => k a x (fun q => (o a q).φ (List.mem_of_getElem? e2)) e, z.2⟩
  · exact (R.e.cel x v hx hv).elim fun a z => z.elim fun w z => ⟨a, w, z.1, cu a _ z.2.1 (fun qq => (o a qq).cell x z.1), z.2.2⟩
  · have z := R.e.cells x a hx
    exact ⟨z.1.elim fun u r => ⟨u, cu a u r fun qq => (o a qq).cell x hx⟩, z.2⟩
  · have z := R.e.oc a ha
    exact ⟨z.1.elim fun u r => ⟨u, cu a u r fun qq => (o a qq).oc ha⟩, z.2⟩
theorem TrE.touchL {ex : List Addr} (T : TrE pe g₀ φ₀ mem₀ h₀ g φ mem h) (hX : ∀ X ∈ ex, h₀.get? X = none) (k : ∀ b x, b ∉ ex → h.get? b = some x → h'.get? b = some x) : TrE pe g₀ φ₀ mem₀ h₀ g φ mem h' :=
  ⟨T.pre, fun a o e n => k a o (fun q => by rw [hX a q] at e; cases e) (T.keep a o e n), T.base, T.new, T.newφ⟩
theorem Rel.adopt {D : Addr} {o : Obj} (T : TrE pe g₀ φ₀ mem₀ h₀ g φ mem h) (R : Rel c pe g φ ρ mem h) (of : Off pe g φ D) (hD : h₀.get? D = none) (ho : h.get? D = some o) :
    TrE pe g₀ φ₀ mem₀ h₀ (gAdd g D o) φ mem h ∧ Rel c pe (gAdd g D o) φ ρ mem h := by
  have gb := gAdd_base g D o of.g
  have ne : ∀ b, b ≠ D → g b = none → gAdd g D o b = none := fun b q e => by unfold gAdd; rw [if_neg q]; exact e
  refine ⟨⟨T.pre, T.keep, fun a x e => gb a x (T.base a x e), fun b x => ?_, T.newφ⟩, R.ok, ⟨fun b x e => gb b x (R.m.top b x e), fun b x e => ?_, R.m.len, R.m.nod, R.m.alloc, R.m.lo, fun i ob b e1 e2 nd => ?_⟩, ?_⟩
  · refine x.elim (fun x => ?_) fun x => T.new b (.inr x)
    by_cases q : b = D
    · exact .inr (.inr (q ▸ hD))
    · unfold gAdd at x; rw [if_neg q] at x; exact T.new b (.inl x)
  · unfold gAdd at e
    by_cases q : b = D
    · rw [if_pos q] at e; exact q ▸ (Option.some.inj e) ▸ ho
    · rw [if_neg q] at e; exact R.m.keep b x e
  · have z := R.m.obj i ob b e1 e2 nd
    exact ⟨z.1.mono gb (fun _ _ e => e) (fun _ e => e), ne b (fun q => of.φ (q ▸ List.mem_of_getElem? e2)) z.2⟩
  · refine R.e.loc.elim fun m hm => ?_
    refine ⟨⟨m, hm.1, fun x v hx hv => (hm.2 x v hx hv).elim fun w z => ⟨w, z.1, z.2.mono gb fun _ _ e => e⟩⟩, fun x v hx hv => (R.e.cel x v hx hv).elim fun a z => z.elim fun w z => ⟨a, w, z.1, z.2.1, z.2.2.mono gb fun _ _ e => e⟩, ne _ (Ne.symm of.loc) R.e.gL, R.e.oL, R.e.cells,
      fun a ha => ne a (fun q => of.oc (q ▸ ha)) (R.e.gC a ha), R.e.oc, R.e.cinj, R.e.pL⟩
noncomputable def numFrom : Nat → List V → List V
  | _, [] => []
  | i, v :: vs => .tup [.int (i : Nat), v] :: numFrom (i + 1) vs
theorem numFrom_drop : ∀ (l : List V) (i j : Nat) (u : V), l[i]? = some u → (numFrom j l).drop i = .tup [.int ((j + i : Nat) : Int), u] :: (numFrom j l).drop (i + 1)
  | v :: vs, 0, j, u, h => by cases h; rfl
  | v :: vs, i + 1, j, u, h => by
    have := numFrom_drop vs i (j + 1) u (by simpa using h)
    show (numFrom (j + 1) vs).drop i = _
    rw [this, show j + 1 + i = j + (i + 1) by omega]; rfl
theorem numFrom_length : ∀ (l : List V) (j : Nat), (numFrom j l).length = l.length
  | [], _ => rfl
  | v :: vs, j => by rw [numFrom, List.length_cons, List.length_cons, numFrom_length vs]
theorem getElem?_of_drop {α : Type} {l : List α} {i : Nat} {u : α} {r : List α} (h : l.drop i = u :: r) : l[i]? = some u := by rw [← List.head?_drop, h]; rfl
noncomputable def enumS (it : EF) (a : AF) (b : SF) : SF := fun ρ m => (it ρ m).bind fun r => r.1.onLst fun l => forX a b (numFrom 0 l) ρ r.2
section
variable {A : Around} {e it la : Addr} {l : List V} {vs : List Value} {lo : Obj}
/-- the state of an enumerate over a list -/
structure EnS (pe : PE) (e it la : Addr) (vs : List Value) (lo : Obj) (i : Nat) (g : G) (φ : List Addr) (h : Heap) : Prop where
  of : ∀ X ∈ [e, it], Off pe g φ X
  st : (∃ old, IsEnum h e it i old) ∧ h.IsListIter it la i ∧ h.IsList la vs.toArray
  gl : g la = some lo
abbrev EnW (c : Cx) (A : Around) (e it la : Addr) (vs : List Value) (n : Nat) : Prop := WalksT c.prog c.w A e [e, it, la] [e, it] n (fun i vals => ∃ t x, vs.toArray[i]? = some x ∧ vals = #[.int i t, x])
      (fun i h => (∃ old, IsEnum h e it i old) ∧ h.IsListIter it la i ∧ h.IsList la vs.toArray) (fun i T h => (∃ x, IsEnumOut h e it ((i : Int) + 1) x T) ∧ h.IsListIter it la (i + 1) ∧ h.IsList la vs.toArray ∧ T ≠ e ∧ T ≠ it)
theorem enPair {i : Nat} {u : V} {D : Addr} {oT : Obj} {vals : Array Value} {t : Tok} {xv : Value} (gn : g D = none) (h1 : oT.cls = .type "tuple") {m : Nat} (h2 : oT.data = .seq vals m) (hv : vals = #[.int i t, xv]) (ru : VRel g φ xv u) : VRel (gAdd g D oT) φ (.ref D) (.tup [.int ((0 + i : Nat) : Int), u]) :=
  .tup (gAdd_self _ _ _) (vs := [.int i t, xv]) ⟨h1, m, by rw [h2, hv]⟩ (.cons (by rw [Nat.zero_add]; exact .int _ _) (.cons (ru.mono (gAdd_base g D oT gn) fun _ _ e => e) .nil))
theorem feedEnum {elts : List Expr} {kk : Nat} {tpos : Pos} {g₀ : G} {φ₀ : List Addr} {mem₀ : List MO} {h₀ : Heap} (W : EnW c A e it la vs l.length) (he : h₀.get? e = none) (hi : h₀.get? it = none) (rl : VRels g₀ φ₀ vs l) :
    Feed c A pe e (.Tuple elts kk tpos) (numFrom 0 l) g₀ φ₀ mem₀ h₀ (EnS pe e it la vs lo) where
  item := fun {i g φ ρ mem s Q E N K f} hil st T R1 k1 k2 => by
    have hX : ∀ X ∈ [e, it], h₀.get? X = none := fun X hX => (List.mem_cons.mp hX).elim (fun q => q ▸ he) fun q => List.mem_singleton.mp q ▸ hi
    refine wpAny_bind (wpAny_onRaise ?_)
    rw [numFrom_length] at hil
    by_cases hlt : i < l.length
    · refine W.item i _ _ _ hlt st.st fun D vals h3 tk3 hv hsz hT mid k3 => ?_
      have hDn : s.heap.get? D = none := get_ge hsz
      have ofD := R1.off hDn
      refine wpAny_bind (W.go elts kk tpos i D _ _ _ mid fun h4 st4 k4 => ?_)
      have hDap := W.apart i D h3 mid
      refine hT.elim fun oT hT => hT.2.2.elim fun mT hdT => hv.elim fun t hv => hv.elim fun xv hv => ?_
      have E5 := Rel.adopt ((T.touchL hX k3).touchL hX k4) ((R1.touchL st.of k3).touchL st.of k4) ofD (T.back R1 hDn) (k4 D oT hDap hT.1)
      refine ((rl.mono T.base (pre_get T.pre)).get (i := i) (w := xv) (by simpa using hv.1)).elim fun u hu => ?_
      refine k1 _ h4 _ (.ref D) _ (getElem?_of_drop (numFrom_drop l i 0 u hu.1)) E5.1 E5.2 (enPair ofD.g hT.2.1 hdT hv.2 hu.2) ⟨fun X hx => ?_, st4, gAdd_base g D oT ofD.g la lo st.gl⟩
      have o := st.of X hx
      refine ⟨?_, o.φ, o.oc, o.loc, o.cell⟩
      unfold gAdd
      rw [if_neg (fun (q : X = D) => hDap (q ▸ hx))]
      exact o.g
    · have hl : l.length = i := by omega
      exact W.done _ _ _ (hl ▸ st.st) fun h3 tk3 k3 => k2 h3 tk3 ((numFrom_length l 0).trans hl) (T.touchL hX k3) (R1.touchL st.of k3)
  adv := fun {i g g' φ φ' ρ ρ' mem mem' h h'} st R1 T R2 => by
    have liv : ∀ X ∈ [e, it], ∃ o, h.get? X = some o := fun X hx => (List.mem_cons.mp hx).elim (fun q => q ▸ st.st.1.elim fun old z => ⟨_, z⟩) fun q => List.mem_singleton.mp q ▸ st.st.2.1.elim fun o z => ⟨_, z.1⟩
    have adv : ∀ X ∈ [e, it], Off pe g' φ' X ∧ ∀ o, h.get? X = some o → h'.get? X = some o := fun X hx => (liv X hx).elim fun o eo => ⟨((st.of X hx).step eo T).1, fun o' eo' => ((st.of X hx).step eo' T).2⟩
    refine ⟨fun X hx => (adv X hx).1, W.frame i h h' st.st fun b hb o eo => ?_, T.base la lo st.gl⟩
    by_cases q : b = la
    · have e4 := R1.m.keep la lo st.gl
      rw [q] at eo ⊢
      exact (Option.some.inj (e4.symm.trans eo)) ▸ R2.m.keep la lo (T.base la lo st.gl)
    · refine (adv b ?_).2 o eo
      rcases List.mem_cons.mp hb with z | z
      · exact List.mem_cons.mpr (.inl z)
      · rcases List.mem_cons.mp z with z | z
        · exact List.mem_cons.mpr (.inr (List.mem_singleton.mpr z))
        · exact absurd (List.mem_singleton.mp z) q
end
theorem StOK.forEnum {elts : List Expr} {kk : Nat} {tpos cpos pos : Pos} {fe arg : Expr} {body : List Stmt} {it : EF} {a : AF} {b : SF} (hfe : EvOK c n pe fe (constX (.raw (.type "enumerate")))) (hit : EvOK c n pe arg it) (ha : AsgOK c n pe (.Tuple elts kk tpos) a) (hb : ExOK c n pe body b)
    (hs : ∀ x, foldedSetIterable (.Call fe [arg] [] cpos) pe.env x = pure x) (hst : (backTo cpos (starEach [arg] pe.env)).any (·.1) = false) (hse : starEach [arg] pe.env = (false, eval arg pe.env) :: starEach [] pe.env)
    (hna : eval (.Call fe [arg] [] cpos) pe.env = (do callWith cpos (← eval fe pe.env) [] (backTo cpos (starEach [arg] pe.env)) [])) :
    StOK c n pe (.For (.Tuple elts kk tpos) (.Call fe [arg] [] cpos) body [] pos) (enumS it a b) := fun ρ mem fl ρ' mem' x A g φ s Q hA R P => by
  refine bindE2 x fun v mem₁ e1 x => ?_
  refine wpAny_For ?_ hs
  rw [hna]
  refine wpAny_bind (hfe ρ mem _ mem rfl A g φ s _ hA R fun g0 φ0 h0 tk0 w0 T0 R0 r0 => r0.rawE ?_)
  refine callWith_of (P := fun h => ∀ a o, c.H₀.get? a = some o → h.get? a = some o) (by rw [hst]; rfl) (KeepOK.plain (c := c) fun _ q => by cases q) ?_
  refine argsRun hst (EvsOK.cons hit EvsOK.nil hse ρ mem [v] mem₁ (by unfold consL nilL; rw [e1]; rfl) A g0 φ0 _ _ hA R0 fun g1 φ1 h1 tk1 ws T1 R1 r1 => ⟨fun a o e => R1.m.keep a o (R1.m.top a o e), ?_⟩)
  refine VRels.on1E (f := fun u => u.onLst fun l => forX a b (numFrom 0 l) ρ mem₁) r1 x fun w1 v1 rv1 x => VRel.onLstE rv1 x fun la lo vs l gl ol rl x => ?_
  have hL := ol.list (R1.m.keep _ _ gl)
  have hlt : la < h1.objs.size := Heap.lt_size (R1.m.keep _ _ gl)
  refine call_enumerate_list hL fun h2 he hli hz hk2 => ?_
  have hE : h1.get? (h1.objs.size + 1) = none := get_ge (Nat.le_succ _)
  have hI : h1.get? h1.objs.size = none := get_size _
  refine wpAny_pyIter_enum (s := { s with heap := h2, toks := tk1 }) he ?_
  have k12 : ∀ b x, b ∉ [h1.objs.size + 1, h1.objs.size] → h1.get? b = some x → h2.get? b = some x := fun b x _ e => hk2 b x e
  have hX : ∀ X ∈ [h1.objs.size + 1, h1.objs.size], h1.get? X = none := fun X hX => (List.mem_cons.mp hX).elim (fun q => q ▸ hE) fun q => List.mem_singleton.mp q ▸ hI
  have hO : ∀ X ∈ [h1.objs.size + 1, h1.objs.size], Off pe g1 φ1 X := fun X hx => R1.off (hX X hx)
  have W := WalksT.enumerate (prog := c.prog) (w := c.w) (A := A) hA.1 (h1.objs.size + 1) h1.objs.size la (Nat.succ_ne_self _) (Nat.ne_of_lt (Nat.lt_succ_of_lt hlt)) (Nat.ne_of_lt hlt) vs.toArray
  rw [show vs.toArray.size = l.length by rw [List.size_toArray, rl.length]] at W
  exact forDrive (s := { s with heap := h1, toks := tk1 }) (feedEnum W hE hI rl) ha hb hA (P.behind (T0.trans R0 T1) R1) (fun f s' q => q) (TrE.refl.touchL hX k12) (R1.touchL hO k12) ⟨hO, ⟨⟨_, he⟩, hli, hL.elim fun o z => ⟨o, hk2 la o z.1, z.2⟩⟩, gl⟩ x tk1
end
end Mine
-- KK
namespace Mine
/-! ## The text's own objects -/
/-- the statements of the text, from the i-th on -/
noncomputable def T (i : Nat) : List Stmt := PySem.Challenge.pw_pc0052_01.main.body.drop i
noncomputable def clsBody : List Stmt → List Stmt
  | .ClassDef _ _ _ b _ _ _ _ _ _ _ :: _ => b
  | _ => []
noncomputable def M (i j : Nat) : List Stmt := (clsBody (T i)).drop j
noncomputable def fA : List Stmt → Arguments
  | .FunctionDef _ a _ _ _ _ _ _ _ _ :: _ => a
  | _ => ⟨[], [], none, [], [], none, []⟩
noncomputable def fB : List Stmt → List Stmt
  | .FunctionDef _ _ b _ _ _ _ _ _ _ :: _ => b
  | _ => []
noncomputable def fS : List Stmt → Scope
  | .FunctionDef _ _ _ _ _ _ s _ _ _ :: _ => s
  | _ => PySem.Challenge.pw_pc0052_01.main.scope
noncomputable abbrev kh (P : Params) (x : Str) : Int := PyData.keyHash P x
noncomputable def KK (P : Params) : Frag := [
  (2, ⟨.none, none, (.dict #[⟨(kh P "type.__subclasses__.Exception.0"), (.str "type.__subclasses__.Exception.0" 501), (.int 219 0)⟩, ⟨(kh P "type.__subclasses__.Exception.n"), (.str "type.__subclasses__.Exception.n" 502), (.int 1 0)⟩] 2), #[]⟩),
  (3, ⟨(.type "dict"), none, (.dict #[⟨(kh P "__name__"), (.str "__name__" 165), (.str "law_pc0052_01" 715)⟩, ⟨(kh P "__doc__"), (.str "__doc__" 166), .none⟩, ⟨(kh P "__package__"), (.str "__package__" 167), .none⟩, ⟨(kh P "__loader__"), (.str "__loader__" 168), (.builtin "__main__.__loader__#opaque")⟩, ⟨(kh P "__spec__"), (.str "__spec__" 169), .none⟩, ⟨(kh P "__annotations__"), (.str "__annotations__" 170), (.ref 6)⟩, ⟨(kh P "__builtins__"), (.str "__builtins__" 171), (.ref 4)⟩, ⟨(kh P "__file__"), (.str "__file__" 173), (.str "/claim/cut.py" 172)⟩, ⟨(kh P "__cached__"), (.str "__cached__" 174), .none⟩, ⟨(kh P "_wall"), (.str "_wall" 193), (.ref 21)⟩, ⟨(kh P "LINEAR"), (.str "LINEAR" 199), (.ref 22)⟩, ⟨(kh P "ARITH"), (.str "ARITH" 206), (.ref 23)⟩, ⟨(kh P "CHOICES"), (.str "CHOICES" 212), (.ref 24)⟩, ⟨(kh P "COUNTS"), (.str "COUNTS" 217), (.ref 25)⟩, ⟨(kh P "TIMES"), (.str "TIMES" 220), (.ref 26)⟩, ⟨(kh P "ORDERS"), (.str "ORDERS" 225), (.ref 27)⟩, ⟨(kh P "values_of"), (.str "values_of" 231), (.ref 32)⟩, ⟨(kh P "quotient_of"), (.str "quotient_of" 240), (.ref 39)⟩, ⟨(kh P "linear_holds"), (.str "linear_holds" 255), (.ref 46)⟩, ⟨(kh P "arith_holds"), (.str "arith_holds" 268), (.ref 53)⟩, ⟨(kh P "is_round"), (.str "is_round" 278), (.ref 60)⟩, ⟨(kh P "are_inverse"), (.str "are_inverse" 289), (.ref 67)⟩, ⟨(kh P "choice_holds"), (.str "choice_holds" 300), (.ref 74)⟩, ⟨(kh P "count_holds"), (.str "count_holds" 306), (.ref 79)⟩, ⟨(kh P "need_at"), (.str "need_at" 312), (.ref 84)⟩, ⟨(kh P "time_holds"), (.str "time_holds" 318), (.ref 89)⟩, ⟨(kh P "is_accepted"), (.str "is_accepted" 334), (.ref 96)⟩, ⟨(kh P "order_holds"), (.str "order_holds" 340), (.ref 101)⟩, ⟨(kh P "logic_holds"), (.str "logic_holds" 349), (.ref 108)⟩, ⟨(kh P "holds"), (.str "holds" 358), (.ref 115)⟩, ⟨(kh P "listed_vars"), (.str "listed_vars" 366), (.ref 122)⟩, ⟨(kh P "vars_of"), (.str "vars_of" 375), (.ref 129)⟩, ⟨(kh P "size"), (.str "size" 383), (.ref 134)⟩, ⟨(kh P "next_from"), (.str "next_from" 393), (.ref 141)⟩, ⟨(kh P "has"), (.str "has" 401), (.ref 148)⟩, ⟨(kh P "values"), (.str "values" 411), (.ref 155)⟩, ⟨(kh P "up_to"), (.str "up_to" 417), (.ref 160)⟩, ⟨(kh P "from_on"), (.str "from_on" 423), (.ref 165)⟩, ⟨(kh P "without"), (.str "without" 431), (.ref 172)⟩, ⟨(kh P "meet"), (.str "meet" 444), (.ref 179)⟩, ⟨(kh P "negation"), (.str "negation" 454), (.ref 186)⟩, ⟨(kh P "struck"), (.str "struck" 464), (.ref 193)⟩, ⟨(kh P "FdError"), (.str "FdError" 504), (.ref 219)⟩, ⟨(kh P "ProofFault"), (.str "ProofFault" 539), (.ref 248)⟩, ⟨(kh P "divisor_of"), (.str "divisor_of" 549), (.ref 257)⟩, ⟨(kh P "Box"), (.str "Box" 620), (.ref 309)⟩, ⟨(kh P "StepJudge"), (.str "StepJudge" 714), (.ref 369)⟩, ⟨(kh P "_law_scoop"), (.str "_law_scoop" 725), (.ref 380)⟩, ⟨(kh P "_law_can"), (.str "_law_can" 731), (.ref 385)⟩, ⟨(kh P "_law_ranges"), (.str "_law_ranges" 740), (.ref 392)⟩, ⟨(kh P "_law_is_denied"), (.str "_law_is_denied" 750), (.ref 399)⟩, ⟨(kh P "_law_lots_right"), (.str "_law_lots_right" 756), (.ref 404)⟩, ⟨(kh P "_law_follows_right"), (.str "_law_follows_right" 762), (.ref 409)⟩, ⟨(kh P "law"), (.str "law" 768), (.ref 414)⟩] 54), #[]⟩),
  (15, ⟨(.type "tuple"), none, (.seq #[] 0), #[]⟩),
  (17, ⟨(.type "tuple"), none, (.seq #[(.str "k" 190)] 0), #[]⟩),
  (18, ⟨(.type "tuple"), none, (.seq #[] 0), #[]⟩),
  (20, ⟨(.type "code"), none, (.fields #[(.str "_wall" 187), (.str "_wall" 188), (.str "/claim/cut.py" 189), (.int 1 0), (.int 1 0), (.int 0 0), (.int 0 0), (.int 3 0), (.ref 15), (.bool true), (.int 181 0), (.ref 16), .none, (.ref 17), (.ref 18), (.ref 19), (.int 191 0), (.int 1 0), (.str "/claim/cut.py" 192)]), #[]⟩),
  (21, ⟨(.type "function"), none, (.func ⟨"_wall", "_wall", (fA (T 0)), (.stmts (fB (T 0))), (fS (T 0)), 3, [], .none, .none, .none, (.str "__main__" 164), none, (.ref 20), .none, 0⟩), #[]⟩),
  (22, ⟨(.type "tuple"), none, (.seq #[(.str "linear_le" 196), (.str "linear_eq" 197), (.str "linear_ne" 198)] 0), #[]⟩),
  (23, ⟨(.type "tuple"), none, (.seq #[(.str "times" 200), (.str "div" 201), (.str "mod" 202), (.str "abs" 203), (.str "max" 204), (.str "min" 205)] 0), #[]⟩),
  (24, ⟨(.type "tuple"), none, (.seq #[(.str "element" 207), (.str "element_of" 208), (.str "table" 209), (.str "inverse" 210), (.str "circuit" 211)] 0), #[]⟩),
  (25, ⟨(.type "tuple"), none, (.seq #[(.str "all_different" 213), (.str "count" 214), (.str "nvalue" 215), (.str "cardinality" 216)] 0), #[]⟩),
  (26, ⟨(.type "tuple"), none, (.seq #[(.str "cumulative" 218), (.str "disjunctive" 219)] 0), #[]⟩),
  (27, ⟨(.type "tuple"), none, (.seq #[(.str "lex_le" 221), (.str "lex_lt" 222), (.str "increasing" 223), (.str "precede" 224)] 0), #[]⟩),
  (28, ⟨(.type "tuple"), none, (.seq #[] 0), #[]⟩),
  (31, ⟨(.type "code"), none, (.fields #[(.str "values_of" 226), (.str "values_of" 227), (.str "/claim/cut.py" 228), (.int 11 0), (.int 2 0), (.int 0 0), (.int 0 0), (.int 3 0), (.ref 28), (.bool true), (.int 181 0), (.ref 29), .none, .none, .none, (.ref 30), (.int 229 0), (.int 11 0), (.str "/claim/cut.py" 230)]), #[]⟩),
  (32, ⟨(.type "function"), none, (.func ⟨"values_of", "values_of", (fA (T 8)), (.stmts (fB (T 8))), (fS (T 8)), 3, [], .none, .none, .none, (.str "fdsolve.answers" 194), none, (.ref 31), .none, 0⟩), #[]⟩),
  (33, ⟨(.type "tuple"), none, (.seq #[] 0), #[]⟩),
  (35, ⟨(.type "tuple"), none, (.seq #[(.str "a" 235), (.str "b" 236), (.str "found" 237)] 0), #[]⟩),
  (36, ⟨(.type "tuple"), none, (.seq #[] 0), #[]⟩),
  (38, ⟨(.type "code"), none, (.fields #[(.str "quotient_of" 232), (.str "quotient_of" 233), (.str "/claim/cut.py" 234), (.int 13 0), (.int 2 0), (.int 0 0), (.int 0 0), (.int 3 0), (.ref 33), (.bool true), (.int 181 0), (.ref 34), .none, (.ref 35), (.ref 36), (.ref 37), (.int 238 0), (.int 13 0), (.str "/claim/cut.py" 239)]), #[]⟩),
  (39, ⟨(.type "function"), none, (.func ⟨"quotient_of", "quotient_of", (fA (T 9)), (.stmts (fB (T 9))), (fS (T 9)), 3, [], .none, .none, .none, (.str "fdsolve.answers" 194), none, (.ref 38), .none, 0⟩), #[]⟩),
  (40, ⟨(.type "tuple"), none, (.seq #[] 0), #[]⟩),
  (42, ⟨(.type "tuple"), none, (.seq #[(.str "told" 244), (.str "values" 245), (.str "name" 246), (.str "coefs" 247), (.str "scope" 248), (.str "c" 249), (.str "total" 250), (.str "coef" 251), (.str "x" 252)] 0), #[]⟩),
  (43, ⟨(.type "tuple"), none, (.seq #[] 0), #[]⟩),
  (45, ⟨(.type "code"), none, (.fields #[(.str "linear_holds" 241), (.str "linear_holds" 242), (.str "/claim/cut.py" 243), (.int 16 0), (.int 2 0), (.int 0 0), (.int 0 0), (.int 3 0), (.ref 40), (.bool true), (.int 181 0), (.ref 41), .none, (.ref 42), (.ref 43), (.ref 44), (.int 253 0), (.int 16 0), (.str "/claim/cut.py" 254)]), #[]⟩),
  (46, ⟨(.type "function"), none, (.func ⟨"linear_holds", "linear_holds", (fA (T 10)), (.stmts (fB (T 10))), (fS (T 10)), 3, [], .none, .none, .none, (.str "fdsolve.answers" 194), none, (.ref 45), .none, 0⟩), #[]⟩),
  (47, ⟨(.type "tuple"), none, (.seq #[] 0), #[]⟩),
  (49, ⟨(.type "tuple"), none, (.seq #[(.str "told" 259), (.str "values" 260), (.str "name" 261), (.str "z" 262), (.str "some" 263), (.str "x" 264), (.str "y" 265)] 0), #[]⟩),
  (50, ⟨(.type "tuple"), none, (.seq #[] 0), #[]⟩),
  (52, ⟨(.type "code"), none, (.fields #[(.str "arith_holds" 256), (.str "arith_holds" 257), (.str "/claim/cut.py" 258), (.int 24 0), (.int 2 0), (.int 0 0), (.int 0 0), (.int 3 0), (.ref 47), (.bool true), (.int 181 0), (.ref 48), .none, (.ref 49), (.ref 50), (.ref 51), (.int 266 0), (.int 24 0), (.str "/claim/cut.py" 267)]), #[]⟩),
  (53, ⟨(.type "function"), none, (.func ⟨"arith_holds", "arith_holds", (fA (T 11)), (.stmts (fB (T 11))), (fS (T 11)), 3, [], .none, .none, .none, (.str "fdsolve.answers" 194), none, (.ref 52), .none, 0⟩), #[]⟩),
  (54, ⟨(.type "tuple"), none, (.seq #[] 0), #[]⟩),
  (56, ⟨(.type "tuple"), none, (.seq #[(.str "some" 272), (.str "here" 273), (.str "seen" 274), (.str "lap" 275)] 0), #[]⟩),
  (57, ⟨(.type "tuple"), none, (.seq #[] 0), #[]⟩),
  (59, ⟨(.type "code"), none, (.fields #[(.str "is_round" 269), (.str "is_round" 270), (.str "/claim/cut.py" 271), (.int 38 0), (.int 1 0), (.int 0 0), (.int 0 0), (.int 3 0), (.ref 54), (.bool true), (.int 181 0), (.ref 55), .none, (.ref 56), (.ref 57), (.ref 58), (.int 276 0), (.int 38 0), (.str "/claim/cut.py" 277)]), #[]⟩),
  (60, ⟨(.type "function"), none, (.func ⟨"is_round", "is_round", (fA (T 12)), (.stmts (fB (T 12))), (fS (T 12)), 3, [], .none, .none, .none, (.str "fdsolve.answers" 194), none, (.ref 59), .none, 0⟩), #[]⟩),
  (61, ⟨(.type "tuple"), none, (.seq #[] 0), #[]⟩),
  (63, ⟨(.type "tuple"), none, (.seq #[(.str "one" 282), (.str "other" 283), (.str "some" 284), (.str "late" 285), (.str "k" 286)] 0), #[]⟩),
  (64, ⟨(.type "tuple"), none, (.seq #[] 0), #[]⟩),
  (66, ⟨(.type "code"), none, (.fields #[(.str "are_inverse" 279), (.str "are_inverse" 280), (.str "/claim/cut.py" 281), (.int 46 0), (.int 2 0), (.int 0 0), (.int 0 0), (.int 3 0), (.ref 61), (.bool true), (.int 181 0), (.ref 62), .none, (.ref 63), (.ref 64), (.ref 65), (.int 287 0), (.int 46 0), (.str "/claim/cut.py" 288)]), #[]⟩),
  (67, ⟨(.type "function"), none, (.func ⟨"are_inverse", "are_inverse", (fA (T 13)), (.stmts (fB (T 13))), (fS (T 13)), 3, [], .none, .none, .none, (.str "fdsolve.answers" 194), none, (.ref 66), .none, 0⟩), #[]⟩),
  (68, ⟨(.type "tuple"), none, (.seq #[] 0), #[]⟩),
  (70, ⟨(.type "tuple"), none, (.seq #[(.str "told" 293), (.str "values" 294), (.str "name" 295), (.str "some" 296), (.str "at" 297)] 0), #[]⟩),
  (71, ⟨(.type "tuple"), none, (.seq #[] 0), #[]⟩),
  (73, ⟨(.type "code"), none, (.fields #[(.str "choice_holds" 290), (.str "choice_holds" 291), (.str "/claim/cut.py" 292), (.int 52 0), (.int 2 0), (.int 0 0), (.int 0 0), (.int 3 0), (.ref 68), (.bool true), (.int 181 0), (.ref 69), .none, (.ref 70), (.ref 71), (.ref 72), (.int 298 0), (.int 52 0), (.str "/claim/cut.py" 299)]), #[]⟩),
  (74, ⟨(.type "function"), none, (.func ⟨"choice_holds", "choice_holds", (fA (T 14)), (.stmts (fB (T 14))), (fS (T 14)), 3, [], .none, .none, .none, (.str "fdsolve.answers" 194), none, (.ref 73), .none, 0⟩), #[]⟩),
  (75, ⟨(.type "tuple"), none, (.seq #[] 0), #[]⟩),
  (78, ⟨(.type "code"), none, (.fields #[(.str "count_holds" 301), (.str "count_holds" 302), (.str "/claim/cut.py" 303), (.int 63 0), (.int 2 0), (.int 0 0), (.int 0 0), (.int 3 0), (.ref 75), (.bool true), (.int 181 0), (.ref 76), .none, .none, .none, (.ref 77), (.int 304 0), (.int 63 0), (.str "/claim/cut.py" 305)]), #[]⟩),
  (79, ⟨(.type "function"), none, (.func ⟨"count_holds", "count_holds", (fA (T 15)), (.stmts (fB (T 15))), (fS (T 15)), 3, [], .none, .none, .none, (.str "fdsolve.answers" 194), none, (.ref 78), .none, 0⟩), #[]⟩),
  (80, ⟨(.type "tuple"), none, (.seq #[] 0), #[]⟩),
  (83, ⟨(.type "code"), none, (.fields #[(.str "need_at" 307), (.str "need_at" 308), (.str "/claim/cut.py" 309), (.int 72 0), (.int 4 0), (.int 0 0), (.int 0 0), (.int 3 0), (.ref 80), (.bool true), (.int 181 0), (.ref 81), .none, .none, .none, (.ref 82), (.int 310 0), (.int 72 0), (.str "/claim/cut.py" 311)]), #[]⟩),
  (84, ⟨(.type "function"), none, (.func ⟨"need_at", "need_at", (fA (T 16)), (.stmts (fB (T 16))), (fS (T 16)), 3, [], .none, .none, .none, (.str "fdsolve.answers" 194), none, (.ref 83), .none, 0⟩), #[]⟩),
  (85, ⟨(.type "tuple"), none, (.seq #[] 0), #[]⟩),
  (88, ⟨(.type "code"), none, (.fields #[(.str "time_holds" 313), (.str "time_holds" 314), (.str "/claim/cut.py" 315), (.int 74 0), (.int 2 0), (.int 0 0), (.int 0 0), (.int 3 0), (.ref 85), (.bool true), (.int 181 0), (.ref 86), .none, .none, .none, (.ref 87), (.int 316 0), (.int 74 0), (.str "/claim/cut.py" 317)]), #[]⟩),
  (89, ⟨(.type "function"), none, (.func ⟨"time_holds", "time_holds", (fA (T 17)), (.stmts (fB (T 17))), (fS (T 17)), 3, [], .none, .none, .none, (.str "fdsolve.answers" 194), none, (.ref 88), .none, 0⟩), #[]⟩),
  (90, ⟨(.type "tuple"), none, (.seq #[] 0), #[]⟩),
  (92, ⟨(.type "tuple"), none, (.seq #[(.str "told" 322), (.str "values" 323), (.str "name" 324), (.str "scope" 325), (.str "states" 326), (.str "letters" 327), (.str "rows" 328), (.str "state" 329), (.str "finals" 330), (.str "letter" 331)] 0), #[]⟩),
  (93, ⟨(.type "tuple"), none, (.seq #[] 0), #[]⟩),
  (95, ⟨(.type "code"), none, (.fields #[(.str "is_accepted" 319), (.str "is_accepted" 320), (.str "/claim/cut.py" 321), (.int 80 0), (.int 2 0), (.int 0 0), (.int 0 0), (.int 3 0), (.ref 90), (.bool true), (.int 181 0), (.ref 91), .none, (.ref 92), (.ref 93), (.ref 94), (.int 332 0), (.int 80 0), (.str "/claim/cut.py" 333)]), #[]⟩),
  (96, ⟨(.type "function"), none, (.func ⟨"is_accepted", "is_accepted", (fA (T 18)), (.stmts (fB (T 18))), (fS (T 18)), 3, [], .none, .none, .none, (.str "fdsolve.answers" 194), none, (.ref 95), .none, 0⟩), #[]⟩),
  (97, ⟨(.type "tuple"), none, (.seq #[] 0), #[]⟩),
  (100, ⟨(.type "code"), none, (.fields #[(.str "order_holds" 335), (.str "order_holds" 336), (.str "/claim/cut.py" 337), (.int 89 0), (.int 2 0), (.int 0 0), (.int 0 0), (.int 3 0), (.ref 97), (.bool true), (.int 181 0), (.ref 98), .none, .none, .none, (.ref 99), (.int 338 0), (.int 89 0), (.str "/claim/cut.py" 339)]), #[]⟩),
  (101, ⟨(.type "function"), none, (.func ⟨"order_holds", "order_holds", (fA (T 19)), (.stmts (fB (T 19))), (fS (T 19)), 3, [], .none, .none, .none, (.str "fdsolve.answers" 194), none, (.ref 100), .none, 0⟩), #[]⟩),
  (102, ⟨(.type "tuple"), none, (.seq #[] 0), #[]⟩),
  (104, ⟨(.type "tuple"), none, (.seq #[(.str "told" 344), (.str "values" 345), (.str "name" 346)] 0), #[]⟩),
  (105, ⟨(.type "tuple"), none, (.seq #[] 0), #[]⟩),
  (107, ⟨(.type "code"), none, (.fields #[(.str "logic_holds" 341), (.str "logic_holds" 342), (.str "/claim/cut.py" 343), (.int 99 0), (.int 2 0), (.int 0 0), (.int 0 0), (.int 3 0), (.ref 102), (.bool true), (.int 181 0), (.ref 103), .none, (.ref 104), (.ref 105), (.ref 106), (.int 347 0), (.int 99 0), (.str "/claim/cut.py" 348)]), #[]⟩),
  (108, ⟨(.type "function"), none, (.func ⟨"logic_holds", "logic_holds", (fA (T 20)), (.stmts (fB (T 20))), (fS (T 20)), 3, [], .none, .none, .none, (.str "fdsolve.answers" 194), none, (.ref 107), .none, 0⟩), #[]⟩),
  (109, ⟨(.type "tuple"), none, (.seq #[] 0), #[]⟩),
  (111, ⟨(.type "tuple"), none, (.seq #[(.str "told" 353), (.str "values" 354), (.str "name" 355)] 0), #[]⟩),
  (112, ⟨(.type "tuple"), none, (.seq #[] 0), #[]⟩),
  (114, ⟨(.type "code"), none, (.fields #[(.str "holds" 350), (.str "holds" 351), (.str "/claim/cut.py" 352), (.int 108 0), (.int 2 0), (.int 0 0), (.int 0 0), (.int 3 0), (.ref 109), (.bool true), (.int 181 0), (.ref 110), .none, (.ref 111), (.ref 112), (.ref 113), (.int 356 0), (.int 108 0), (.str "/claim/cut.py" 357)]), #[]⟩),
  (115, ⟨(.type "function"), none, (.func ⟨"holds", "holds", (fA (T 21)), (.stmts (fB (T 21))), (fS (T 21)), 3, [], .none, .none, .none, (.str "fdsolve.answers" 194), none, (.ref 114), .none, 0⟩), #[]⟩),
  (116, ⟨(.type "tuple"), none, (.seq #[] 0), #[]⟩),
  (118, ⟨(.type "tuple"), none, (.seq #[(.str "told" 362), (.str "name" 363)] 0), #[]⟩),
  (119, ⟨(.type "tuple"), none, (.seq #[] 0), #[]⟩),
  (121, ⟨(.type "code"), none, (.fields #[(.str "listed_vars" 359), (.str "listed_vars" 360), (.str "/claim/cut.py" 361), (.int 129 0), (.int 1 0), (.int 0 0), (.int 0 0), (.int 3 0), (.ref 116), (.bool true), (.int 181 0), (.ref 117), .none, (.ref 118), (.ref 119), (.ref 120), (.int 364 0), (.int 129 0), (.str "/claim/cut.py" 365)]), #[]⟩),
  (122, ⟨(.type "function"), none, (.func ⟨"listed_vars", "listed_vars", (fA (T 22)), (.stmts (fB (T 22))), (fS (T 22)), 3, [], .none, .none, .none, (.str "fdsolve.answers" 194), none, (.ref 121), .none, 0⟩), #[]⟩),
  (123, ⟨(.type "tuple"), none, (.seq #[] 0), #[]⟩),
  (125, ⟨(.type "tuple"), none, (.seq #[(.str "told" 370), (.str "found" 371), (.str "x" 372)] 0), #[]⟩),
  (126, ⟨(.type "tuple"), none, (.seq #[] 0), #[]⟩),
  (128, ⟨(.type "code"), none, (.fields #[(.str "vars_of" 367), (.str "vars_of" 368), (.str "/claim/cut.py" 369), (.int 148 0), (.int 1 0), (.int 0 0), (.int 0 0), (.int 3 0), (.ref 123), (.bool true), (.int 181 0), (.ref 124), .none, (.ref 125), (.ref 126), (.ref 127), (.int 373 0), (.int 148 0), (.str "/claim/cut.py" 374)]), #[]⟩),
  (129, ⟨(.type "function"), none, (.func ⟨"vars_of", "vars_of", (fA (T 23)), (.stmts (fB (T 23))), (fS (T 23)), 3, [], .none, .none, .none, (.str "fdsolve.answers" 194), none, (.ref 128), .none, 0⟩), #[]⟩),
  (130, ⟨(.type "tuple"), none, (.seq #[] 0), #[]⟩),
  (133, ⟨(.type "code"), none, (.fields #[(.str "size" 378), (.str "size" 379), (.str "/claim/cut.py" 380), (.int 155 0), (.int 1 0), (.int 0 0), (.int 0 0), (.int 3 0), (.ref 130), (.bool true), (.int 181 0), (.ref 131), .none, .none, .none, (.ref 132), (.int 381 0), (.int 155 0), (.str "/claim/cut.py" 382)]), #[]⟩),
  (134, ⟨(.type "function"), none, (.func ⟨"size", "size", (fA (T 25)), (.stmts (fB (T 25))), (fS (T 25)), 3, [], .none, .none, .none, (.str "fdsolve.domains" 376), none, (.ref 133), .none, 0⟩), #[]⟩),
  (135, ⟨(.type "tuple"), none, (.seq #[] 0), #[]⟩),
  (137, ⟨(.type "tuple"), none, (.seq #[(.str "d" 387), (.str "v" 388), (.str "low" 389), (.str "high" 390)] 0), #[]⟩),
  (138, ⟨(.type "tuple"), none, (.seq #[] 0), #[]⟩),
  (140, ⟨(.type "code"), none, (.fields #[(.str "next_from" 384), (.str "next_from" 385), (.str "/claim/cut.py" 386), (.int 157 0), (.int 2 0), (.int 0 0), (.int 0 0), (.int 3 0), (.ref 135), (.bool true), (.int 181 0), (.ref 136), .none, (.ref 137), (.ref 138), (.ref 139), (.int 391 0), (.int 157 0), (.str "/claim/cut.py" 392)]), #[]⟩),
  (141, ⟨(.type "function"), none, (.func ⟨"next_from", "next_from", (fA (T 26)), (.stmts (fB (T 26))), (fS (T 26)), 3, [], .none, .none, .none, (.str "fdsolve.domains" 376), none, (.ref 140), .none, 0⟩), #[]⟩),
  (142, ⟨(.type "tuple"), none, (.seq #[] 0), #[]⟩),
  (144, ⟨(.type "tuple"), none, (.seq #[(.str "d" 397), (.str "v" 398)] 0), #[]⟩),
  (145, ⟨(.type "tuple"), none, (.seq #[] 0), #[]⟩),
  (147, ⟨(.type "code"), none, (.fields #[(.str "has" 394), (.str "has" 395), (.str "/claim/cut.py" 396), (.int 162 0), (.int 2 0), (.int 0 0), (.int 0 0), (.int 3 0), (.ref 142), (.bool true), (.int 181 0), (.ref 143), .none, (.ref 144), (.ref 145), (.ref 146), (.int 399 0), (.int 162 0), (.str "/claim/cut.py" 400)]), #[]⟩),
  (148, ⟨(.type "function"), none, (.func ⟨"has", "has", (fA (T 27)), (.stmts (fB (T 27))), (fS (T 27)), 3, [], .none, .none, .none, (.str "fdsolve.domains" 376), none, (.ref 147), .none, 0⟩), #[]⟩),
  (149, ⟨(.type "tuple"), none, (.seq #[] 0), #[]⟩),
  (151, ⟨(.type "tuple"), none, (.seq #[(.str "d" 405), (.str "found" 406), (.str "low" 407), (.str "high" 408)] 0), #[]⟩),
  (152, ⟨(.type "tuple"), none, (.seq #[] 0), #[]⟩),
  (154, ⟨(.type "code"), none, (.fields #[(.str "values" 402), (.str "values" 403), (.str "/claim/cut.py" 404), (.int 164 0), (.int 1 0), (.int 0 0), (.int 0 0), (.int 3 0), (.ref 149), (.bool true), (.int 181 0), (.ref 150), .none, (.ref 151), (.ref 152), (.ref 153), (.int 409 0), (.int 164 0), (.str "/claim/cut.py" 410)]), #[]⟩),
  (155, ⟨(.type "function"), none, (.func ⟨"values", "values", (fA (T 28)), (.stmts (fB (T 28))), (fS (T 28)), 3, [], .none, .none, .none, (.str "fdsolve.domains" 376), none, (.ref 154), .none, 0⟩), #[]⟩),
  (156, ⟨(.type "tuple"), none, (.seq #[] 0), #[]⟩),
  (159, ⟨(.type "code"), none, (.fields #[(.str "up_to" 412), (.str "up_to" 413), (.str "/claim/cut.py" 414), (.int 169 0), (.int 2 0), (.int 0 0), (.int 0 0), (.int 3 0), (.ref 156), (.bool true), (.int 181 0), (.ref 157), .none, .none, .none, (.ref 158), (.int 415 0), (.int 169 0), (.str "/claim/cut.py" 416)]), #[]⟩),
  (160, ⟨(.type "function"), none, (.func ⟨"up_to", "up_to", (fA (T 29)), (.stmts (fB (T 29))), (fS (T 29)), 3, [], .none, .none, .none, (.str "fdsolve.domains" 376), none, (.ref 159), .none, 0⟩), #[]⟩),
  (161, ⟨(.type "tuple"), none, (.seq #[] 0), #[]⟩),
  (164, ⟨(.type "code"), none, (.fields #[(.str "from_on" 418), (.str "from_on" 419), (.str "/claim/cut.py" 420), (.int 171 0), (.int 2 0), (.int 0 0), (.int 0 0), (.int 3 0), (.ref 161), (.bool true), (.int 181 0), (.ref 162), .none, .none, .none, (.ref 163), (.int 421 0), (.int 171 0), (.str "/claim/cut.py" 422)]), #[]⟩),
  (165, ⟨(.type "function"), none, (.func ⟨"from_on", "from_on", (fA (T 30)), (.stmts (fB (T 30))), (fS (T 30)), 3, [], .none, .none, .none, (.str "fdsolve.domains" 376), none, (.ref 164), .none, 0⟩), #[]⟩),
  (166, ⟨(.type "tuple"), none, (.seq #[] 0), #[]⟩),
  (168, ⟨(.type "tuple"), none, (.seq #[(.str "d" 427), (.str "v" 428)] 0), #[]⟩),
  (169, ⟨(.type "tuple"), none, (.seq #[] 0), #[]⟩),
  (171, ⟨(.type "code"), none, (.fields #[(.str "without" 424), (.str "without" 425), (.str "/claim/cut.py" 426), (.int 173 0), (.int 2 0), (.int 0 0), (.int 0 0), (.int 3 0), (.ref 166), (.bool true), (.int 181 0), (.ref 167), .none, (.ref 168), (.ref 169), (.ref 170), (.int 429 0), (.int 173 0), (.str "/claim/cut.py" 430)]), #[]⟩),
  (172, ⟨(.type "function"), none, (.func ⟨"without", "without", (fA (T 31)), (.stmts (fB (T 31))), (fS (T 31)), 3, [], .none, .none, .none, (.str "fdsolve.domains" 376), none, (.ref 171), .none, 0⟩), #[]⟩),
  (173, ⟨(.type "tuple"), none, (.seq #[] 0), #[]⟩),
  (175, ⟨(.type "tuple"), none, (.seq #[(.str "d" 435), (.str "e" 436), (.str "found" 437), (.str "i" 438), (.str "j" 439), (.str "low" 440), (.str "high" 441)] 0), #[]⟩),
  (176, ⟨(.type "tuple"), none, (.seq #[] 0), #[]⟩),
  (178, ⟨(.type "code"), none, (.fields #[(.str "meet" 432), (.str "meet" 433), (.str "/claim/cut.py" 434), (.int 175 0), (.int 2 0), (.int 0 0), (.int 0 0), (.int 3 0), (.ref 173), (.bool true), (.int 181 0), (.ref 174), .none, (.ref 175), (.ref 176), (.ref 177), (.int 442 0), (.int 175 0), (.str "/claim/cut.py" 443)]), #[]⟩),
  (179, ⟨(.type "function"), none, (.func ⟨"meet", "meet", (fA (T 32)), (.stmts (fB (T 32))), (fS (T 32)), 3, [], .none, .none, .none, (.str "fdsolve.domains" 376), none, (.ref 178), .none, 0⟩), #[]⟩),
  (180, ⟨(.type "tuple"), none, (.seq #[] 0), #[]⟩),
  (182, ⟨(.type "tuple"), none, (.seq #[(.str "literal" 448), (.str "x" 449), (.str "sign" 450), (.str "k" 451)] 0), #[]⟩),
  (183, ⟨(.type "tuple"), none, (.seq #[] 0), #[]⟩),
  (185, ⟨(.type "code"), none, (.fields #[(.str "negation" 445), (.str "negation" 446), (.str "/claim/cut.py" 447), (.int 186 0), (.int 1 0), (.int 0 0), (.int 0 0), (.int 3 0), (.ref 180), (.bool true), (.int 181 0), (.ref 181), .none, (.ref 182), (.ref 183), (.ref 184), (.int 452 0), (.int 186 0), (.str "/claim/cut.py" 453)]), #[]⟩),
  (186, ⟨(.type "function"), none, (.func ⟨"negation", "negation", (fA (T 33)), (.stmts (fB (T 33))), (fS (T 33)), 3, [], .none, .none, .none, (.str "fdsolve.domains" 376), none, (.ref 185), .none, 0⟩), #[]⟩),
  (187, ⟨(.type "tuple"), none, (.seq #[] 0), #[]⟩),
  (189, ⟨(.type "tuple"), none, (.seq #[(.str "literal" 458), (.str "d" 459), (.str "sign" 460), (.str "k" 461)] 0), #[]⟩),
  (190, ⟨(.type "tuple"), none, (.seq #[] 0), #[]⟩),
  (192, ⟨(.type "code"), none, (.fields #[(.str "struck" 455), (.str "struck" 456), (.str "/claim/cut.py" 457), (.int 193 0), (.int 2 0), (.int 0 0), (.int 0 0), (.int 3 0), (.ref 187), (.bool true), (.int 181 0), (.ref 188), .none, (.ref 189), (.ref 190), (.ref 191), (.int 462 0), (.int 193 0), (.str "/claim/cut.py" 463)]), #[]⟩),
  (193, ⟨(.type "function"), none, (.func ⟨"struck", "struck", (fA (T 34)), (.stmts (fB (T 34))), (fS (T 34)), 3, [], .none, .none, .none, (.str "fdsolve.domains" 376), none, (.ref 192), .none, 0⟩), #[]⟩),
  (194, ⟨(.type "tuple"), none, (.seq #[(.type "Exception")] 0), #[]⟩),
  (197, ⟨(.type "cell"), none, (.cell (some (.ref 219))), #[]⟩),
  (202, ⟨(.type "tuple"), none, (.seq #[(.ref 197)] 0), #[]⟩),
  (203, ⟨(.type "tuple"), none, (.seq #[(.str "__class__" 482)] 0), #[]⟩),
  (205, ⟨(.type "tuple"), none, (.seq #[(.str "self" 483), (.str "what" 484)] 0), #[]⟩),
  (206, ⟨(.type "tuple"), none, (.seq #[] 0), #[]⟩),
  (208, ⟨(.type "code"), none, (.fields #[(.str "__init__" 479), (.str "FdError.__init__" 480), (.str "/claim/cut.py" 481), (.int 203 0), (.int 2 0), (.int 0 0), (.int 0 0), (.int 3 0), (.ref 203), (.bool true), (.int 181 0), (.ref 204), .none, (.ref 205), (.ref 206), (.ref 207), (.int 485 0), (.int 203 0), (.str "/claim/cut.py" 486)]), #[]⟩),
  (209, ⟨(.type "function"), none, (.func ⟨"__init__", "FdError.__init__", (fA (M 36 0)), (.stmts (fB (M 36 0))), (fS (M 36 0)), 3, [("__class__", 197)], .none, .none, .none, (.str "fdsolve.errors" 465), none, (.ref 208), (.ref 202), 0⟩), #[]⟩),
  (210, ⟨(.type "tuple"), none, (.seq #[] 0), #[]⟩),
  (212, ⟨(.type "tuple"), none, (.seq #[(.str "self" 491)] 0), #[]⟩),
  (213, ⟨(.type "tuple"), none, (.seq #[] 0), #[]⟩),
  (215, ⟨(.type "code"), none, (.fields #[(.str "told" 488), (.str "FdError.told" 489), (.str "/claim/cut.py" 490), (.int 207 0), (.int 1 0), (.int 0 0), (.int 0 0), (.int 3 0), (.ref 210), (.bool true), (.int 181 0), (.ref 211), .none, (.ref 212), (.ref 213), (.ref 214), (.int 492 0), (.int 207 0), (.str "/claim/cut.py" 493)]), #[]⟩),
  (216, ⟨(.type "function"), none, (.func ⟨"told", "FdError.told", (fA (M 36 1)), (.stmts (fB (M 36 1))), (fS (M 36 1)), 3, [], .none, .none, .none, (.str "fdsolve.errors" 465), none, (.ref 215), .none, 0⟩), #[]⟩),
  (217, ⟨(.type "tuple"), none, (.seq #[(.str "what" 495)] 0), #[]⟩),
  (218, ⟨(.type "dict"), none, (.dict #[⟨(kh P "__module__"), (.str "__module__" 474), (.str "fdsolve.errors" 465)⟩, ⟨(kh P "__firstlineno__"), (.str "__firstlineno__" 478), (.int 201 477)⟩, ⟨(kh P "__init__"), (.str "__init__" 487), (.ref 209)⟩, ⟨(kh P "told"), (.str "told" 494), (.ref 216)⟩, ⟨(kh P "__static_attributes__"), (.str "__static_attributes__" 496), (.ref 217)⟩, ⟨(kh P "__weakref__"), (.str "__weakref__" 499), (.ref 220)⟩, ⟨(kh P "__doc__"), (.str "__doc__" 500), .none⟩] 4), #[]⟩),
  (219, ⟨(.type "type"), none, (.cls ⟨"FdError", [(.type "Exception")], [(.ref 219), (.type "Exception"), (.type "BaseException"), (.type "object")], 218, "FdError", true, [], [(.ref 248)], false, none, false⟩), #[(some (.ref 194)), none, (some (.str "FdError" 467)), (some (.str "FdError" 475)), (some (.builtin "Exception.__new__")), (some (.bool true))]⟩),
  (220, ⟨(.type "getset_descriptor"), none, (.fields #[(.str "__weakref__" 498), (.ref 219), (.builtin "ExceptionGroup.__weakref__"), .none]), #[]⟩),
  (223, ⟨(.type "tuple"), none, (.seq #[(.ref 219)] 0), #[]⟩),
  (226, ⟨(.type "cell"), none, (.cell (some (.ref 248))), #[]⟩),
  (231, ⟨(.type "tuple"), none, (.seq #[(.ref 226)] 0), #[]⟩),
  (232, ⟨(.type "tuple"), none, (.seq #[(.str "__class__" 520)] 0), #[]⟩),
  (234, ⟨(.type "tuple"), none, (.seq #[(.str "self" 521), (.str "what" 522), (.str "step" 523)] 0), #[]⟩),
  (235, ⟨(.type "tuple"), none, (.seq #[] 0), #[]⟩),
  (237, ⟨(.type "code"), none, (.fields #[(.str "__init__" 517), (.str "ProofFault.__init__" 518), (.str "/claim/cut.py" 519), (.int 211 0), (.int 3 0), (.int 0 0), (.int 0 0), (.int 3 0), (.ref 232), (.bool true), (.int 181 0), (.ref 233), .none, (.ref 234), (.ref 235), (.ref 236), (.int 524 0), (.int 211 0), (.str "/claim/cut.py" 525)]), #[]⟩),
  (238, ⟨(.type "function"), none, (.func ⟨"__init__", "ProofFault.__init__", (fA (M 37 0)), (.stmts (fB (M 37 0))), (fS (M 37 0)), 3, [("__class__", 226)], .none, .none, .none, (.str "fdsolve.errors" 465), none, (.ref 237), (.ref 231), 0⟩), #[]⟩),
  (239, ⟨(.type "tuple"), none, (.seq #[] 0), #[]⟩),
  (241, ⟨(.type "tuple"), none, (.seq #[(.str "self" 530)] 0), #[]⟩),
  (242, ⟨(.type "tuple"), none, (.seq #[] 0), #[]⟩),
  (244, ⟨(.type "code"), none, (.fields #[(.str "told" 527), (.str "ProofFault.told" 528), (.str "/claim/cut.py" 529), (.int 215 0), (.int 1 0), (.int 0 0), (.int 0 0), (.int 3 0), (.ref 239), (.bool true), (.int 181 0), (.ref 240), .none, (.ref 241), (.ref 242), (.ref 243), (.int 531 0), (.int 215 0), (.str "/claim/cut.py" 532)]), #[]⟩),
  (245, ⟨(.type "function"), none, (.func ⟨"told", "ProofFault.told", (fA (M 37 1)), (.stmts (fB (M 37 1))), (fS (M 37 1)), 3, [], .none, .none, .none, (.str "fdsolve.errors" 465), none, (.ref 244), .none, 0⟩), #[]⟩),
  (246, ⟨(.type "tuple"), none, (.seq #[(.str "step" 534)] 0), #[]⟩),
  (247, ⟨(.type "dict"), none, (.dict #[⟨(kh P "__module__"), (.str "__module__" 512), (.str "fdsolve.errors" 465)⟩, ⟨(kh P "__firstlineno__"), (.str "__firstlineno__" 516), (.int 209 515)⟩, ⟨(kh P "__init__"), (.str "__init__" 526), (.ref 238)⟩, ⟨(kh P "told"), (.str "told" 533), (.ref 245)⟩, ⟨(kh P "__static_attributes__"), (.str "__static_attributes__" 535), (.ref 246)⟩, ⟨(kh P "__doc__"), (.str "__doc__" 537), .none⟩] 3), #[]⟩),
  (248, ⟨(.type "type"), none, (.cls ⟨"ProofFault", [(.ref 219)], [(.ref 248), (.ref 219), (.type "Exception"), (.type "BaseException"), (.type "object")], 247, "ProofFault", true, [], [], false, none, false⟩), #[(some (.ref 223)), none, (some (.str "ProofFault" 505)), (some (.str "ProofFault" 513)), (some (.builtin "Exception.__new__")), (some (.bool true))]⟩),
  (251, ⟨(.type "tuple"), none, (.seq #[] 0), #[]⟩),
  (253, ⟨(.type "tuple"), none, (.seq #[(.str "a" 545), (.str "b" 546)] 0), #[]⟩),
  (254, ⟨(.type "tuple"), none, (.seq #[] 0), #[]⟩),
  (256, ⟨(.type "code"), none, (.fields #[(.str "divisor_of" 542), (.str "divisor_of" 543), (.str "/claim/cut.py" 544), (.int 218 0), (.int 2 0), (.int 0 0), (.int 0 0), (.int 3 0), (.ref 251), (.bool true), (.int 181 0), (.ref 252), .none, (.ref 253), (.ref 254), (.ref 255), (.int 547 0), (.int 218 0), (.str "/claim/cut.py" 548)]), #[]⟩),
  (257, ⟨(.type "function"), none, (.func ⟨"divisor_of", "divisor_of", (fA (T 39)), (.stmts (fB (T 39))), (fS (T 39)), 3, [], .none, .none, .none, (.str "fdsolve.proofs" 540), none, (.ref 256), .none, 0⟩), #[]⟩),
  (265, ⟨(.type "tuple"), none, (.seq #[] 0), #[]⟩),
  (267, ⟨(.type "tuple"), none, (.seq #[(.str "self" 565), (.str "domains" 566)] 0), #[]⟩),
  (268, ⟨(.type "tuple"), none, (.seq #[] 0), #[]⟩),
  (270, ⟨(.type "code"), none, (.fields #[(.str "__init__" 562), (.str "Box.__init__" 563), (.str "/claim/cut.py" 564), (.int 225 0), (.int 2 0), (.int 0 0), (.int 0 0), (.int 3 0), (.ref 265), (.bool true), (.int 181 0), (.ref 266), .none, (.ref 267), (.ref 268), (.ref 269), (.int 567 0), (.int 225 0), (.str "/claim/cut.py" 568)]), #[]⟩),
  (271, ⟨(.type "function"), none, (.func ⟨"__init__", "Box.__init__", (fA (M 40 0)), (.stmts (fB (M 40 0))), (fS (M 40 0)), 3, [], .none, .none, .none, (.str "fdsolve.proofs" 540), none, (.ref 270), .none, 0⟩), #[]⟩),
  (272, ⟨(.type "tuple"), none, (.seq #[] 0), #[]⟩),
  (274, ⟨(.type "tuple"), none, (.seq #[(.str "self" 573), (.str "x" 574)] 0), #[]⟩),
  (275, ⟨(.type "tuple"), none, (.seq #[] 0), #[]⟩),
  (277, ⟨(.type "code"), none, (.fields #[(.str "domain" 570), (.str "Box.domain" 571), (.str "/claim/cut.py" 572), (.int 229 0), (.int 2 0), (.int 0 0), (.int 0 0), (.int 3 0), (.ref 272), (.bool true), (.int 181 0), (.ref 273), .none, (.ref 274), (.ref 275), (.ref 276), (.int 575 0), (.int 229 0), (.str "/claim/cut.py" 576)]), #[]⟩),
  (278, ⟨(.type "function"), none, (.func ⟨"domain", "Box.domain", (fA (M 40 1)), (.stmts (fB (M 40 1))), (fS (M 40 1)), 3, [], .none, .none, .none, (.str "fdsolve.proofs" 540), none, (.ref 277), .none, 0⟩), #[]⟩),
  (279, ⟨(.type "tuple"), none, (.seq #[] 0), #[]⟩),
  (281, ⟨(.type "tuple"), none, (.seq #[(.str "self" 581), (.str "literal" 582)] 0), #[]⟩),
  (282, ⟨(.type "tuple"), none, (.seq #[] 0), #[]⟩),
  (284, ⟨(.type "code"), none, (.fields #[(.str "can_hold" 578), (.str "Box.can_hold" 579), (.str "/claim/cut.py" 580), (.int 232 0), (.int 2 0), (.int 0 0), (.int 0 0), (.int 3 0), (.ref 279), (.bool true), (.int 181 0), (.ref 280), .none, (.ref 281), (.ref 282), (.ref 283), (.int 583 0), (.int 232 0), (.str "/claim/cut.py" 584)]), #[]⟩),
  (285, ⟨(.type "function"), none, (.func ⟨"can_hold", "Box.can_hold", (fA (M 40 2)), (.stmts (fB (M 40 2))), (fS (M 40 2)), 3, [], .none, .none, .none, (.str "fdsolve.proofs" 540), none, (.ref 284), .none, 0⟩), #[]⟩),
  (286, ⟨(.type "tuple"), none, (.seq #[] 0), #[]⟩),
  (288, ⟨(.type "tuple"), none, (.seq #[(.str "self" 589), (.str "literal" 590)] 0), #[]⟩),
  (289, ⟨(.type "tuple"), none, (.seq #[] 0), #[]⟩),
  (291, ⟨(.type "code"), none, (.fields #[(.str "does_hold" 586), (.str "Box.does_hold" 587), (.str "/claim/cut.py" 588), (.int 235 0), (.int 2 0), (.int 0 0), (.int 0 0), (.int 3 0), (.ref 286), (.bool true), (.int 181 0), (.ref 287), .none, (.ref 288), (.ref 289), (.ref 290), (.int 591 0), (.int 235 0), (.str "/claim/cut.py" 592)]), #[]⟩),
  (292, ⟨(.type "function"), none, (.func ⟨"does_hold", "Box.does_hold", (fA (M 40 3)), (.stmts (fB (M 40 3))), (fS (M 40 3)), 3, [], .none, .none, .none, (.str "fdsolve.proofs" 540), none, (.ref 291), .none, 0⟩), #[]⟩),
  (293, ⟨(.type "tuple"), none, (.seq #[] 0), #[]⟩),
  (295, ⟨(.type "tuple"), none, (.seq #[(.str "self" 597), (.str "literal" 598)] 0), #[]⟩),
  (296, ⟨(.type "tuple"), none, (.seq #[] 0), #[]⟩),
  (298, ⟨(.type "code"), none, (.fields #[(.str "say" 594), (.str "Box.say" 595), (.str "/claim/cut.py" 596), (.int 238 0), (.int 2 0), (.int 0 0), (.int 0 0), (.int 3 0), (.ref 293), (.bool true), (.int 181 0), (.ref 294), .none, (.ref 295), (.ref 296), (.ref 297), (.int 599 0), (.int 238 0), (.str "/claim/cut.py" 600)]), #[]⟩),
  (299, ⟨(.type "function"), none, (.func ⟨"say", "Box.say", (fA (M 40 4)), (.stmts (fB (M 40 4))), (fS (M 40 4)), 3, [], .none, .none, .none, (.str "fdsolve.proofs" 540), none, (.ref 298), .none, 0⟩), #[]⟩),
  (300, ⟨(.type "tuple"), none, (.seq #[] 0), #[]⟩),
  (302, ⟨(.type "tuple"), none, (.seq #[(.str "self" 605), (.str "clause" 606), (.str "literal" 607)] 0), #[]⟩),
  (303, ⟨(.type "tuple"), none, (.seq #[] 0), #[]⟩),
  (305, ⟨(.type "code"), none, (.fields #[(.str "deny" 602), (.str "Box.deny" 603), (.str "/claim/cut.py" 604), (.int 242 0), (.int 2 0), (.int 0 0), (.int 0 0), (.int 3 0), (.ref 300), (.bool true), (.int 181 0), (.ref 301), .none, (.ref 302), (.ref 303), (.ref 304), (.int 608 0), (.int 242 0), (.str "/claim/cut.py" 609)]), #[]⟩),
  (306, ⟨(.type "function"), none, (.func ⟨"deny", "Box.deny", (fA (M 40 5)), (.stmts (fB (M 40 5))), (fS (M 40 5)), 3, [], .none, .none, .none, (.str "fdsolve.proofs" 540), none, (.ref 305), .none, 0⟩), #[]⟩),
  (307, ⟨(.type "tuple"), none, (.seq #[(.str "domains" 611), (.str "turned" 612)] 0), #[]⟩),
  (308, ⟨(.type "dict"), none, (.dict #[⟨(kh P "__module__"), (.str "__module__" 557), (.str "fdsolve.proofs" 540)⟩, ⟨(kh P "__firstlineno__"), (.str "__firstlineno__" 561), (.int 223 560)⟩, ⟨(kh P "__init__"), (.str "__init__" 569), (.ref 271)⟩, ⟨(kh P "domain"), (.str "domain" 577), (.ref 278)⟩, ⟨(kh P "can_hold"), (.str "can_hold" 585), (.ref 285)⟩, ⟨(kh P "does_hold"), (.str "does_hold" 593), (.ref 292)⟩, ⟨(kh P "say"), (.str "say" 601), (.ref 299)⟩, ⟨(kh P "deny"), (.str "deny" 610), (.ref 306)⟩, ⟨(kh P "__static_attributes__"), (.str "__static_attributes__" 613), (.ref 307)⟩, ⟨(kh P "__dict__"), (.str "__dict__" 615), (.ref 310)⟩, ⟨(kh P "__weakref__"), (.str "__weakref__" 617), (.ref 311)⟩, ⟨(kh P "__doc__"), (.str "__doc__" 618), .none⟩] 4), #[]⟩),
  (309, ⟨(.type "type"), none, (.cls ⟨"Box", [(.type "object")], [(.ref 309), (.type "object")], 308, "Box", true, [], [], false, none, false⟩), #[none, none, (some (.str "Box" 550)), (some (.str "Box" 558)), (some (.builtin "object.__new__")), (some (.bool true))]⟩),
  (310, ⟨(.type "getset_descriptor"), none, (.fields #[(.str "__dict__" 614), (.ref 309), (.builtin "function.__dict__"), (.builtin "function.__dict__#set")]), #[]⟩),
  (311, ⟨(.type "getset_descriptor"), none, (.fields #[(.str "__weakref__" 616), (.ref 309), (.builtin "ExceptionGroup.__weakref__"), .none]), #[]⟩),
  (321, ⟨(.type "tuple"), none, (.seq #[] 0), #[]⟩),
  (323, ⟨(.type "tuple"), none, (.seq #[(.str "self" 636), (.str "domains" 637), (.str "most" 638)] 0), #[]⟩),
  (324, ⟨(.type "tuple"), none, (.seq #[] 0), #[]⟩),
  (326, ⟨(.type "code"), none, (.fields #[(.str "__init__" 633), (.str "StepJudge.__init__" 634), (.str "/claim/cut.py" 635), (.int 249 0), (.int 3 0), (.int 0 0), (.int 0 0), (.int 3 0), (.ref 321), (.bool true), (.int 181 0), (.ref 322), .none, (.ref 323), (.ref 324), (.ref 325), (.int 639 0), (.int 249 0), (.str "/claim/cut.py" 640)]), #[]⟩),
  (327, ⟨(.type "function"), none, (.func ⟨"__init__", "StepJudge.__init__", (fA (M 41 0)), (.stmts (fB (M 41 0))), (fS (M 41 0)), 3, [], .none, .none, .none, (.str "fdsolve.proofs" 540), none, (.ref 326), .none, 0⟩), #[]⟩),
  (328, ⟨(.type "tuple"), none, (.seq #[] 0), #[]⟩),
  (331, ⟨(.type "code"), none, (.fields #[(.str "follows" 642), (.str "StepJudge.follows" 643), (.str "/claim/cut.py" 644), (.int 253 0), (.int 3 0), (.int 0 0), (.int 0 0), (.int 3 0), (.ref 328), (.bool true), (.int 181 0), (.ref 329), .none, .none, .none, (.ref 330), (.int 645 0), (.int 253 0), (.str "/claim/cut.py" 646)]), #[]⟩),
  (332, ⟨(.type "function"), none, (.func ⟨"follows", "StepJudge.follows", (fA (M 41 1)), (.stmts (fB (M 41 1))), (fS (M 41 1)), 3, [], .none, .none, .none, (.str "fdsolve.proofs" 540), none, (.ref 331), .none, 0⟩), #[]⟩),
  (333, ⟨(.type "tuple"), none, (.seq #[] 0), #[]⟩),
  (336, ⟨(.type "code"), none, (.fields #[(.str "is_refuted" 648), (.str "StepJudge.is_refuted" 649), (.str "/claim/cut.py" 650), (.int 269 0), (.int 3 0), (.int 0 0), (.int 0 0), (.int 3 0), (.ref 333), (.bool true), (.int 181 0), (.ref 334), .none, .none, .none, (.ref 335), (.int 651 0), (.int 269 0), (.str "/claim/cut.py" 652)]), #[]⟩),
  (337, ⟨(.type "function"), none, (.func ⟨"is_refuted", "StepJudge.is_refuted", (fA (M 41 2)), (.stmts (fB (M 41 2))), (fS (M 41 2)), 3, [], .none, .none, .none, (.str "fdsolve.proofs" 540), none, (.ref 336), .none, 0⟩), #[]⟩),
  (338, ⟨(.type "tuple"), none, (.seq #[] 0), #[]⟩),
  (340, ⟨(.type "tuple"), none, (.seq #[(.str "self" 657), (.str "told" 658), (.str "box" 659), (.str "factors" 660), (.str "least" 661), (.str "greatest" 662), (.str "lack" 663), (.str "common" 664), (.str "factor" 665), (.str "x" 666), (.str "domain" 667), (.str "ends" 668)] 0), #[]⟩),
  (341, ⟨(.type "tuple"), none, (.seq #[] 0), #[]⟩),
  (343, ⟨(.type "code"), none, (.fields #[(.str "is_beyond" 654), (.str "StepJudge.is_beyond" 655), (.str "/claim/cut.py" 656), (.int 278 0), (.int 3 0), (.int 0 0), (.int 0 0), (.int 3 0), (.ref 338), (.bool true), (.int 181 0), (.ref 339), .none, (.ref 340), (.ref 341), (.ref 342), (.int 669 0), (.int 278 0), (.str "/claim/cut.py" 670)]), #[]⟩),
  (344, ⟨(.type "function"), none, (.func ⟨"is_beyond", "StepJudge.is_beyond", (fA (M 41 3)), (.stmts (fB (M 41 3))), (fS (M 41 3)), 3, [], .none, .none, .none, (.str "fdsolve.proofs" 540), none, (.ref 343), .none, 0⟩), #[]⟩),
  (345, ⟨(.type "tuple"), none, (.seq #[] 0), #[]⟩),
  (348, ⟨(.type "code"), none, (.fields #[(.str "has_row" 672), (.str "StepJudge.has_row" 673), (.str "/claim/cut.py" 674), (.int 294 0), (.int 3 0), (.int 0 0), (.int 0 0), (.int 3 0), (.ref 345), (.bool true), (.int 181 0), (.ref 346), .none, .none, .none, (.ref 347), (.int 675 0), (.int 294 0), (.str "/claim/cut.py" 676)]), #[]⟩),
  (349, ⟨(.type "function"), none, (.func ⟨"has_row", "StepJudge.has_row", (fA (M 41 4)), (.stmts (fB (M 41 4))), (fS (M 41 4)), 3, [], .none, .none, .none, (.str "fdsolve.proofs" 540), none, (.ref 348), .none, 0⟩), #[]⟩),
  (350, ⟨(.type "tuple"), none, (.seq #[] 0), #[]⟩),
  (352, ⟨(.type "tuple"), none, (.seq #[(.str "self" 681), (.str "lots" 682), (.str "owner" 683), (.str "place" 684), (.str "came" 685), (.str "queue" 686), (.str "free" 687), (.str "here" 688), (.str "v" 689)] 0), #[]⟩),
  (353, ⟨(.type "tuple"), none, (.seq #[] 0), #[]⟩),
  (355, ⟨(.type "code"), none, (.fields #[(.str "can_differ" 678), (.str "StepJudge.can_differ" 679), (.str "/claim/cut.py" 680), (.int 301 0), (.int 2 0), (.int 0 0), (.int 0 0), (.int 3 0), (.ref 350), (.bool true), (.int 181 0), (.ref 351), .none, (.ref 352), (.ref 353), (.ref 354), (.int 690 0), (.int 301 0), (.str "/claim/cut.py" 691)]), #[]⟩),
  (356, ⟨(.type "function"), none, (.func ⟨"can_differ", "StepJudge.can_differ", (fA (M 41 5)), (.stmts (fB (M 41 5))), (fS (M 41 5)), 3, [], .none, .none, .none, (.str "fdsolve.proofs" 540), none, (.ref 355), .none, 0⟩), #[]⟩),
  (357, ⟨(.type "tuple"), none, (.seq #[] 0), #[]⟩),
  (360, ⟨(.type "code"), none, (.fields #[(.str "move_on" 693), (.str "StepJudge.move_on" 694), (.str "/claim/cut.py" 695), (.int 319 0), (.int 5 0), (.int 0 0), (.int 0 0), (.int 3 0), (.ref 357), (.bool true), (.int 181 0), (.ref 358), .none, .none, .none, (.ref 359), (.int 696 0), (.int 319 0), (.str "/claim/cut.py" 697)]), #[]⟩),
  (361, ⟨(.type "function"), none, (.func ⟨"move_on", "StepJudge.move_on", (fA (M 41 6)), (.stmts (fB (M 41 6))), (fS (M 41 6)), 3, [], .none, .none, .none, (.str "fdsolve.proofs" 540), none, (.ref 360), .none, 0⟩), #[]⟩),
  (362, ⟨(.type "tuple"), none, (.seq #[] 0), #[]⟩),
  (365, ⟨(.type "code"), none, (.fields #[(.str "has_tuple" 699), (.str "StepJudge.has_tuple" 700), (.str "/claim/cut.py" 701), (.int 328 0), (.int 4 0), (.int 0 0), (.int 0 0), (.int 3 0), (.ref 362), (.bool true), (.int 181 0), (.ref 363), .none, .none, .none, (.ref 364), (.int 702 0), (.int 328 0), (.str "/claim/cut.py" 703)]), #[]⟩),
  (366, ⟨(.type "function"), none, (.func ⟨"has_tuple", "StepJudge.has_tuple", (fA (M 41 7)), (.stmts (fB (M 41 7))), (fS (M 41 7)), 3, [], .none, .none, .none, (.str "fdsolve.proofs" 540), none, (.ref 365), .none, 0⟩), #[]⟩),
  (367, ⟨(.type "tuple"), none, (.seq #[(.str "domains" 705), (.str "most" 706)] 0), #[]⟩),
  (368, ⟨(.type "dict"), none, (.dict #[⟨(kh P "__module__"), (.str "__module__" 628), (.str "fdsolve.proofs" 540)⟩, ⟨(kh P "__firstlineno__"), (.str "__firstlineno__" 632), (.int 247 631)⟩, ⟨(kh P "__init__"), (.str "__init__" 641), (.ref 327)⟩, ⟨(kh P "follows"), (.str "follows" 647), (.ref 332)⟩, ⟨(kh P "is_refuted"), (.str "is_refuted" 653), (.ref 337)⟩, ⟨(kh P "is_beyond"), (.str "is_beyond" 671), (.ref 344)⟩, ⟨(kh P "has_row"), (.str "has_row" 677), (.ref 349)⟩, ⟨(kh P "can_differ"), (.str "can_differ" 692), (.ref 356)⟩, ⟨(kh P "move_on"), (.str "move_on" 698), (.ref 361)⟩, ⟨(kh P "has_tuple"), (.str "has_tuple" 704), (.ref 366)⟩, ⟨(kh P "__static_attributes__"), (.str "__static_attributes__" 707), (.ref 367)⟩, ⟨(kh P "__dict__"), (.str "__dict__" 709), (.ref 370)⟩, ⟨(kh P "__weakref__"), (.str "__weakref__" 711), (.ref 371)⟩, ⟨(kh P "__doc__"), (.str "__doc__" 712), .none⟩] 4), #[]⟩),
  (369, ⟨(.type "type"), none, (.cls ⟨"StepJudge", [(.type "object")], [(.ref 369), (.type "object")], 368, "StepJudge", true, [], [], false, none, false⟩), #[none, none, (some (.str "StepJudge" 621)), (some (.str "StepJudge" 629)), (some (.builtin "object.__new__")), (some (.bool true))]⟩),
  (370, ⟨(.type "getset_descriptor"), none, (.fields #[(.str "__dict__" 708), (.ref 369), (.builtin "function.__dict__"), (.builtin "function.__dict__#set")]), #[]⟩),
  (371, ⟨(.type "getset_descriptor"), none, (.fields #[(.str "__weakref__" 710), (.ref 369), (.builtin "ExceptionGroup.__weakref__"), .none]), #[]⟩),
  (374, ⟨(.type "tuple"), none, (.seq #[] 0), #[]⟩),
  (376, ⟨(.type "tuple"), none, (.seq #[(.str "bin_of" 720), (.str "many" 721), (.str "turn" 722)] 0), #[]⟩),
  (377, ⟨(.type "tuple"), none, (.seq #[] 0), #[]⟩),
  (379, ⟨(.type "code"), none, (.fields #[(.str "_law_scoop" 717), (.str "_law_scoop" 718), (.str "/claim/cut.py" 719), (.int 342 0), (.int 2 0), (.int 0 0), (.int 0 0), (.int 3 0), (.ref 374), (.bool true), (.int 181 0), (.ref 375), .none, (.ref 376), (.ref 377), (.ref 378), (.int 723 0), (.int 342 0), (.str "/claim/cut.py" 724)]), #[]⟩),
  (380, ⟨(.type "function"), none, (.func ⟨"_law_scoop", "_law_scoop", (fA (T 43)), (.stmts (fB (T 43))), (fS (T 43)), 3, [], .none, .none, .none, (.str "law_pc0052_01" 715), none, (.ref 379), .none, 0⟩), #[]⟩),
  (381, ⟨(.type "tuple"), none, (.seq #[] 0), #[]⟩),
  (384, ⟨(.type "code"), none, (.fields #[(.str "_law_can" 726), (.str "_law_can" 727), (.str "/claim/cut.py" 728), (.int 348 0), (.int 1 0), (.int 0 0), (.int 0 0), (.int 3 0), (.ref 381), (.bool true), (.int 181 0), (.ref 382), .none, .none, .none, (.ref 383), (.int 729 0), (.int 348 0), (.str "/claim/cut.py" 730)]), #[]⟩),
  (385, ⟨(.type "function"), none, (.func ⟨"_law_can", "_law_can", (fA (T 44)), (.stmts (fB (T 44))), (fS (T 44)), 3, [], .none, .none, .none, (.str "law_pc0052_01" 715), none, (.ref 384), .none, 0⟩), #[]⟩),
  (386, ⟨(.type "tuple"), none, (.seq #[] 0), #[]⟩),
  (388, ⟨(.type "tuple"), none, (.seq #[(.str "numbers" 735), (.str "found" 736), (.str "number" 737)] 0), #[]⟩),
  (389, ⟨(.type "tuple"), none, (.seq #[] 0), #[]⟩),
  (391, ⟨(.type "code"), none, (.fields #[(.str "_law_ranges" 732), (.str "_law_ranges" 733), (.str "/claim/cut.py" 734), (.int 357 0), (.int 1 0), (.int 0 0), (.int 0 0), (.int 3 0), (.ref 386), (.bool true), (.int 181 0), (.ref 387), .none, (.ref 388), (.ref 389), (.ref 390), (.int 738 0), (.int 357 0), (.str "/claim/cut.py" 739)]), #[]⟩),
  (392, ⟨(.type "function"), none, (.func ⟨"_law_ranges", "_law_ranges", (fA (T 45)), (.stmts (fB (T 45))), (fS (T 45)), 3, [], .none, .none, .none, (.str "law_pc0052_01" 715), none, (.ref 391), .none, 0⟩), #[]⟩),
  (393, ⟨(.type "tuple"), none, (.seq #[] 0), #[]⟩),
  (395, ⟨(.type "tuple"), none, (.seq #[(.str "literal" 744), (.str "number" 745), (.str "sign" 746), (.str "bound" 747)] 0), #[]⟩),
  (396, ⟨(.type "tuple"), none, (.seq #[] 0), #[]⟩),
  (398, ⟨(.type "code"), none, (.fields #[(.str "_law_is_denied" 741), (.str "_law_is_denied" 742), (.str "/claim/cut.py" 743), (.int 365 0), (.int 2 0), (.int 0 0), (.int 0 0), (.int 3 0), (.ref 393), (.bool true), (.int 181 0), (.ref 394), .none, (.ref 395), (.ref 396), (.ref 397), (.int 748 0), (.int 365 0), (.str "/claim/cut.py" 749)]), #[]⟩),
  (399, ⟨(.type "function"), none, (.func ⟨"_law_is_denied", "_law_is_denied", (fA (T 46)), (.stmts (fB (T 46))), (fS (T 46)), 3, [], .none, .none, .none, (.str "law_pc0052_01" 715), none, (.ref 398), .none, 0⟩), #[]⟩),
  (400, ⟨(.type "tuple"), none, (.seq #[] 0), #[]⟩),
  (403, ⟨(.type "code"), none, (.fields #[(.str "_law_lots_right" 751), (.str "_law_lots_right" 752), (.str "/claim/cut.py" 753), (.int 372 0), (.int 1 0), (.int 0 0), (.int 0 0), (.int 3 0), (.ref 400), (.bool true), (.int 181 0), (.ref 401), .none, .none, .none, (.ref 402), (.int 754 0), (.int 372 0), (.str "/claim/cut.py" 755)]), #[]⟩),
  (404, ⟨(.type "function"), none, (.func ⟨"_law_lots_right", "_law_lots_right", (fA (T 47)), (.stmts (fB (T 47))), (fS (T 47)), 3, [], .none, .none, .none, (.str "law_pc0052_01" 715), none, (.ref 403), .none, 0⟩), #[]⟩),
  (405, ⟨(.type "tuple"), none, (.seq #[] 0), #[]⟩),
  (408, ⟨(.type "code"), none, (.fields #[(.str "_law_follows_right" 757), (.str "_law_follows_right" 758), (.str "/claim/cut.py" 759), (.int 382 0), (.int 1 0), (.int 0 0), (.int 0 0), (.int 3 0), (.ref 405), (.bool true), (.int 181 0), (.ref 406), .none, .none, .none, (.ref 407), (.int 760 0), (.int 382 0), (.str "/claim/cut.py" 761)]), #[]⟩),
  (409, ⟨(.type "function"), none, (.func ⟨"_law_follows_right", "_law_follows_right", (fA (T 48)), (.stmts (fB (T 48))), (fS (T 48)), 3, [], .none, .none, .none, (.str "law_pc0052_01" 715), none, (.ref 408), .none, 0⟩), #[]⟩),
  (410, ⟨(.type "tuple"), none, (.seq #[] 0), #[]⟩),
  (413, ⟨(.type "code"), none, (.fields #[(.str "law" 763), (.str "law" 764), (.str "/claim/cut.py" 765), (.int 395 0), (.int 1 0), (.int 0 0), (.int 0 0), (.int 3 0), (.ref 410), (.bool true), (.int 181 0), (.ref 411), .none, .none, .none, (.ref 412), (.int 766 0), (.int 395 0), (.str "/claim/cut.py" 767)]), #[]⟩),
  (414, ⟨(.type "function"), none, (.func ⟨"law", "law", (fA (T 49)), (.stmts (fB (T 49))), (fS (T 49)), 3, [], .none, .none, .none, (.str "law_pc0052_01" 715), none, (.ref 413), .none, 0⟩), #[]⟩)]
noncomputable def KA : List Addr := [2, 3, 15, 17, 18, 20, 21, 22, 23, 24, 25, 26, 27, 28, 31, 32, 33, 35, 36, 38, 39, 40, 42, 43, 45, 46, 47, 49, 50, 52, 53, 54, 56, 57, 59, 60, 61, 63, 64, 66, 67, 68, 70, 71, 73, 74, 75, 78, 79, 80, 83, 84, 85, 88, 89, 90, 92, 93, 95, 96, 97, 100, 101, 102, 104, 105, 107, 108, 109, 111, 112, 114, 115, 116, 118, 119, 121, 122, 123, 125, 126, 128, 129, 130, 133, 134, 135, 137, 138, 140, 141, 142, 144, 145, 147, 148, 149, 151, 152, 154, 155, 156, 159, 160, 161, 164, 165, 166, 168, 169, 171, 172, 173, 175, 176, 178, 179, 180, 182, 183, 185, 186, 187, 189, 190, 192, 193, 194, 197, 202, 203, 205, 206, 208, 209, 210, 212, 213, 215, 216, 217, 218, 219, 220, 223, 226, 231, 232, 234, 235, 237, 238, 239, 241, 242, 244, 245, 246, 247, 248, 251, 253, 254, 256, 257, 265, 267, 268, 270, 271, 272, 274, 275, 277, 278, 279, 281, 282, 284, 285, 286, 288, 289, 291, 292, 293, 295, 296, 298, 299, 300, 302, 303, 305, 306, 307, 308, 309, 310, 311, 321, 323, 324, 326, 327, 328, 331, 332, 333, 336, 337, 338, 340, 341, 343, 344, 345, 348, 349, 350, 352, 353, 355, 356, 357, 360, 361, 362, 365, 366, 367, 368, 369, 370, 371, 374, 376, 377, 379, 380, 381, 384, 385, 386, 388, 389, 391, 392, 393, 395, 396, 398, 399, 400, 403, 404, 405, 408, 409, 410, 413, 414]
theorem KA_eq (P : Params) : KA = (KK P).map (·.1) := rfl
theorem tK1 (P : Params) : ∃ o, (KK P).lookup 186 = some o := ⟨_, rfl⟩
end Mine
-- P0
namespace Mine
/-- the run of the law -/
noncomputable def cx (w : World) (H : Heap) (mg mb : Str → Option Value) : Cx := ⟨Challenge.rw_pc0052_01.row.prog, w, H, KK w.params, mg, mb⟩
end Mine
-- Def2
namespace Mine
section
variable {c : Cx} {n : Nat}
noncomputable def mkPE (scope : Scope) (qual : Str) (code : Value) (L a : Addr) : PE :=
  ⟨newEnv scope L mainGlobals (cellsFrom (L + 1) scope.names []) (qual ++ ".<locals>.") (some a) code none builtinsNs, scope.names.filterMap fun p => (cellsFrom (L + 1) scope.names []).lookup p.1⟩
theorem DefAt.of {a : Addr} {name qual : Str} {params : Arguments} {body : List Stmt} {scope : Scope} {dV kV doc pm cdv ct oc : Value} {an od : Option Addr} {osl : Array (Option Value)} {names : List Str}
    (ho : c.K.lookup a = some ⟨oc, od, .func (fnOf name qual params body scope dV kV doc pm an cdv ct), osl⟩) (hcd : codeIn c.K cdv qual = true)
    (hbind : ∀ ws : List Value, ws.length = names.length → bindArgs (fnOf name qual params [] scope dV kV doc pm an cdv ct) ⟨ws, []⟩ = pure (names.zip ws))
    (hco : scope.isCoroutine = false) (hgen : scope.isGenerator = false) (hk : scope.kind = .function) (hkinds : (names.all fun x => scope.names.lookup x == some .local || scope.names.lookup x == some .cell) = true) :
    DefAt c a (fnOf name qual params body scope dV kV doc pm an cdv ct) body names :=
  ⟨⟨_, ho, rfl⟩, hcd, rfl, rfl, rfl, rfl, hbind, hco, hgen, hk, hkinds⟩
theorem CallOK.def2 {a : Addr} {name qual : Str} {params : Arguments} {body : List Stmt} {scope : Scope} {dV kV doc pm cdv ct oc : Value} {an od : Option Addr} {osl : Array (Option Value)} {names : List Str} {f : SF} (ok : c.Ok)
    (ho : c.K.lookup a = some ⟨oc, od, .func (fnOf name qual params body scope dV kV doc pm an cdv ct), osl⟩) (hcd : codeIn c.K cdv qual = true)
    (hbind : ∀ ws : List Value, ws.length = names.length → bindArgs (fnOf name qual params [] scope dV kV doc pm an cdv ct) ⟨ws, []⟩ = pure (names.zip ws))
    (hco : scope.isCoroutine = false) (hgen : scope.isGenerator = false) (hk : scope.kind = .function) (hkinds : (names.all fun x => scope.names.lookup x == some .local || scope.names.lookup x == some .cell) = true)
    (hf : ∀ L, ExOK c n (mkPE scope qual cdv L a) body f) : CallOK c (n + 1) (.ref a) (defX names f) :=
  CallOK.def ok (DefAt.of ho hcd hbind hco hgen hk hkinds) hf
end
end Mine
-- Mac
namespace Mine
section
variable {c : Cx} {n : Nat} {pe : PE}
noncomputable def freesOf (scope : Scope) : List Str := (scope.names.filter fun p => p.2 == .free).map (·.1)
noncomputable def clOf (scope : Scope) (env : Env) : List (Str × Addr) := scope.names.foldl (fun cs p => if p.2 == .free then (p.1, (env.cells.lookup p.1).getD 0) :: cs else cs) []
theorem CompSt.of' {scope : Scope} {cl : List (Str × Addr)} {own : Option Str} (clos : closureFor scope pe.env = pure cl) (hcl : cl.map (fun p => pe.env.cells.lookup p.1) = cl.map (fun p => some p.2))
    (kcl : ((freesOf scope).all fun x => pe.env.kindOf x == some .cell || pe.env.kindOf x == some .free) = true) (loc : ((freesOf scope).all fun x => scope.names.lookup x == some .free) = true) (cap : ((freesOf scope).all fun x => (cl.lookup x).isSome) = true)
    (ow : (own.all fun x => !(freesOf scope).contains x) = true) (cf : ∀ C, cellsFrom C scope.names cl = ownCells own C ++ cl) (pc : ∀ h, pushCells h scope.names = pushOwn own h) (kind : scope.kind = .function)
    (names : (scope.names.all fun x => x.2 != .local || scope.names.lookup x.1 == some .local) = true) : CompSt pe scope cl own (freesOf scope) := by
  refine ⟨clos, fun p hp => ?_, fun x hx => ?_, fun x hx => ?_, fun x hx => ?_, fun x hx => ?_, cf, pc, kind, fun x hx hl => ?_⟩
  · exact List.map_inj_left.mp hcl p hp
  · rcases Bool.or_eq_true_iff.mp (List.all_eq_true.mp kcl x hx) with q | q
    · exact .inl (beq_iff_eq.mp q)
    · exact .inr (beq_iff_eq.mp q)
  · exact beq_iff_eq.mp (List.all_eq_true.mp loc x hx)
  · exact Option.isSome_iff_exists.mp (List.all_eq_true.mp cap x hx)
  · subst hx
    intro m
    simp only [Option.all_some, Bool.not_eq_true'] at ow
    rw [List.contains_iff_mem.mpr m] at ow
    cases ow
  · have := List.all_eq_true.mp names x hx
    rw [hl] at this
    simpa using this
noncomputable def ownOfS (scope : Scope) : Option Str := (scope.names.find? fun p => p.2 == .cell).map (·.1)
theorem CompSt.of {scope : Scope} (clos : closureFor scope pe.env = pure (clOf scope pe.env)) (hcl : (clOf scope pe.env).map (fun p => pe.env.cells.lookup p.1) = (clOf scope pe.env).map (fun p => some p.2))
    (kcl : ((freesOf scope).all fun x => pe.env.kindOf x == some .cell || pe.env.kindOf x == some .free) = true) (loc : ((freesOf scope).all fun x => scope.names.lookup x == some .free) = true) (cap : ((freesOf scope).all fun x => ((clOf scope pe.env).lookup x).isSome) = true)
    (ow : ((ownOfS scope).all fun x => !(freesOf scope).contains x) = true) (cf : ∀ C, cellsFrom C scope.names (clOf scope pe.env) = ownCells (ownOfS scope) C ++ clOf scope pe.env) (pc : ∀ h, pushCells h scope.names = pushOwn (ownOfS scope) h) (kind : scope.kind = .function)
    (names : (scope.names.all fun x => x.2 != .local || scope.names.lookup x.1 == some .local) = true) : CompSt pe scope (clOf scope pe.env) (ownOfS scope) (freesOf scope) := CompSt.of' clos hcl kcl loc cap ow cf pc kind names
noncomputable def tgtNames (elts : List Expr) : List Str := elts.filterMap fun e => match e with | .Name id _ => some id | _ => none
theorem StOK.swap2 {elts : List Expr} {k : Nat} {tpos pos : Pos} {value : Expr} {f : EF} (he : EvOK c n pe value f) (hs : swapsWithSole [.Tuple elts k tpos] value pos.line pe.env = pure false)
    (hw : swappedStores [.Tuple elts k tpos] value pe.env = pure (some (tgtNames elts))) (hn : ((tgtNames elts).all fun x => pe.env.kindOf x == some .local) = true) : StOK c n pe (.Assign [.Tuple elts k tpos] value pos) (swapX f (tgtNames elts)) :=
  StOK.swap he hs hw fun x hx => beq_iff_eq.mp (List.all_eq_true.mp hn x hx)
end

noncomputable def SelfCls (_ : Addr) : Prop := True
section
variable {c : Cx} {n : Nat} {pe : PE} {w : World} {H : Heap} {mg mb : Str → Option Value}
theorem EvOK.attrC {e : Expr} {name : Str} {pos : Pos} {C : Addr} {a : EF} {attr : Option Value} (_ : SelfCls C) (ok : c.Ok) (he : EvOK c n pe e a) (hg : plainGet c.K C name = true) (hh : hasDictIn c.K C = true) (ha : findIn c.K (.ref C) name = some attr) (hn : noGet c.K attr = true)
    (hf : eval (.Attribute e name pos) pe.env = (do
      let o ← eval e pe.env
      standAt pos.atName
      let r ← holding [o] (getAttr o name true)
      letTemporaryGo e o r
      pure r)) (ht : ∀ o r, letTemporaryGo e o r = pure ()) : EvOK c n pe (.Attribute e name pos) (attrX C name a) := EvOK.attr ok he hg hh ha hn hf ht
theorem ExOK.raise {x y : Option Expr} {pos : Pos} {ss : List Stmt} : ExOK c n pe (.Raise x y pos :: ss) fun _ _ => none := ExOK.bot
theorem CallOK.bot {fv : Value} : CallOK c n fv fun _ _ => none := fun _ _ _ _ e => by cases e
theorem partNone : PartOK c n pe none none := trivial
theorem partSome {e : Expr} {f : EF} (h : EvOK c n pe e f) : PartOK c n pe (some e) (some f) := h
theorem keepT {t : String} : KeepOK c (.type t) := KeepOK.plain fun _ h => by cases h
theorem keepB {t : String} : KeepOK c (.builtin t) := KeepOK.plain fun _ h => by cases h
theorem dead344 : CallOK c n (.ref 344) fun _ _ => none := CallOK.bot
theorem dead349 : CallOK c n (.ref 349) fun _ _ => none := CallOK.bot
theorem dead366 : CallOK c n (.ref 366) fun _ _ => none := CallOK.bot
theorem linear_load {pos : Pos} (ok : (cx w H mg mb).Ok) (hk : pe.env.kindOf "LINEAR" = some .globalImplicit) : EvOK (cx w H mg mb) n pe (.Name "LINEAR" pos) (constX (.tup [.str "linear_le", .str "linear_eq", .str "linear_ne"])) :=
  loadGlobalV ok hk rfl (w := .ref 22) rfl fun g φ h => .tup (h 22 _ rfl) ⟨rfl, _, rfl⟩ (.cons (.str _ _) (.cons (.str _ _) (.cons (.str _ _) .nil)))
theorem bi_len {pos : Pos} (ok : (cx w H mg mb).Ok) (hk : pe.env.kindOf "len" = some .globalImplicit) : EvOK (cx w H mg mb) n pe (.Name "len" pos) (constX (.raw (.builtin "len"))) := loadBuiltin ok hk rfl rfl rfl (by decide)
theorem bi_range {pos : Pos} (ok : (cx w H mg mb).Ok) (hk : pe.env.kindOf "range" = some .globalImplicit) : EvOK (cx w H mg mb) n pe (.Name "range" pos) (constX (.raw (.type "range"))) := loadBuiltin ok hk rfl rfl rfl (by decide)
theorem bi_int {pos : Pos} (ok : (cx w H mg mb).Ok) (hk : pe.env.kindOf "int" = some .globalImplicit) : EvOK (cx w H mg mb) n pe (.Name "int" pos) (constX (.raw (.type "int"))) := loadBuiltin ok hk rfl rfl rfl (by decide)
theorem bi_max {pos : Pos} (ok : (cx w H mg mb).Ok) (hk : pe.env.kindOf "max" = some .globalImplicit) : EvOK (cx w H mg mb) n pe (.Name "max" pos) (constX (.raw (.builtin "max"))) := loadBuiltin ok hk rfl rfl rfl (by decide)
theorem bi_min {pos : Pos} (ok : (cx w H mg mb).Ok) (hk : pe.env.kindOf "min" = some .globalImplicit) : EvOK (cx w H mg mb) n pe (.Name "min" pos) (constX (.raw (.builtin "min"))) := loadBuiltin ok hk rfl rfl rfl (by decide)
theorem bi_list {pos : Pos} (ok : (cx w H mg mb).Ok) (hk : pe.env.kindOf "list" = some .globalImplicit) : EvOK (cx w H mg mb) n pe (.Name "list" pos) (constX (.raw (.type "list"))) := loadBuiltin ok hk rfl rfl rfl (by decide)
theorem bi_set {pos : Pos} (ok : (cx w H mg mb).Ok) (hk : pe.env.kindOf "set" = some .globalImplicit) : EvOK (cx w H mg mb) n pe (.Name "set" pos) (constX (.raw (.type "set"))) := loadBuiltin ok hk rfl rfl rfl (by decide)
theorem bi_sorted {pos : Pos} (ok : (cx w H mg mb).Ok) (hk : pe.env.kindOf "sorted" = some .globalImplicit) : EvOK (cx w H mg mb) n pe (.Name "sorted" pos) (constX (.raw (.builtin "sorted"))) := loadBuiltin ok hk rfl rfl rfl (by decide)
theorem bi_sum {pos : Pos} (ok : (cx w H mg mb).Ok) (hk : pe.env.kindOf "sum" = some .globalImplicit) : EvOK (cx w H mg mb) n pe (.Name "sum" pos) (constX (.raw (.builtin "sum"))) := loadBuiltin ok hk rfl rfl rfl (by decide)
theorem bi_tuple {pos : Pos} (ok : (cx w H mg mb).Ok) (hk : pe.env.kindOf "tuple" = some .globalImplicit) : EvOK (cx w H mg mb) n pe (.Name "tuple" pos) (constX (.raw (.type "tuple"))) := loadBuiltin ok hk rfl rfl rfl (by decide)
theorem bi_enumerate {pos : Pos} (ok : (cx w H mg mb).Ok) (hk : pe.env.kindOf "enumerate" = some .globalImplicit) : EvOK (cx w H mg mb) n pe (.Name "enumerate" pos) (constX (.raw (.type "enumerate"))) := loadBuiltin ok hk rfl rfl rfl (by decide)
end
end Mine
-- Ev1
namespace Mine
theorem lenS {P : List Value → Prop} {n : Nat} {ws : List Value} (h : ws.length = n + 1) (k : ∀ a ws, ws.length = n → P (a :: ws)) : P ws := by
  cases ws with
  | nil => exact absurd h (Nat.succ_ne_zero n).symm
  | cons a ws => exact k a ws (Nat.succ.inj h)
@[elab_as_elim] theorem len1 {P : List Value → Prop} {ws : List Value} (h : ws.length = 1) (k : ∀ a, P [a]) : P ws := lenS h fun a ws h => (List.eq_nil_of_length_eq_zero h) ▸ k a
@[elab_as_elim] theorem len2 {P : List Value → Prop} {ws : List Value} (h : ws.length = 2) (k : ∀ a b, P [a, b]) : P ws := lenS h fun a ws h => len1 (P := fun ws => P (a :: ws)) h (k a)
@[elab_as_elim] theorem len3 {P : List Value → Prop} {ws : List Value} (h : ws.length = 3) (k : ∀ a b d, P [a, b, d]) : P ws := lenS h fun a ws h => len2 (P := fun ws => P (a :: ws)) h (k a)
@[elab_as_elim] theorem len4 {P : List Value → Prop} {ws : List Value} (h : ws.length = 4) (k : ∀ a b d e, P [a, b, d, e]) : P ws := lenS h fun a ws h => len3 (P := fun ws => P (a :: ws)) h (k a)
@[elab_as_elim] theorem len5 {P : List Value → Prop} {ws : List Value} (h : ws.length = 5) (k : ∀ a b d e f, P [a, b, d, e, f]) : P ws := lenS h fun a ws h => len4 (P := fun ws => P (a :: ws)) h (k a)
theorem on1_one {α : Type} (a : V) (f : V → Option α) : on1 [a] f = f a := rfl
theorem on2_two {α : Type} (a b : V) (f : V → V → Option α) : on2 [a, b] f = f a b := rfl
theorem onCons_cons {α : Type} (a : V) (l : List V) (f : V → List V → Option α) : onCons (a :: l) f = f a l := rfl
theorem onNil_nil {α : Type} (o : Option α) : onNil [] o = o := rfl
theorem onRef_ref {α : Type} (k : Nat) (f : Nat → Option α) : (V.ref k).onRef f = f k := rfl
/-! ## Rules for running the refined functions -/
theorem upd_eq (ρ : Rho) (x : Str) (v : V) : upd ρ x v x = some v := if_pos rfl
theorem upd_ne {ρ : Rho} {x y : Str} {v : V} (h : ¬ y = x) : upd ρ x v y = ρ y := if_neg h
theorem shaped_int (a : Int) : SeqAt.shaped (.int a) = true := by simp [SeqAt.shaped, PyData.canLay0, PyData.depth]
theorem shaped_bool (a : Bool) : SeqAt.shaped (.bool a) = true := by simp [SeqAt.shaped, PyData.canLay0, PyData.depth]
theorem shaped_none : SeqAt.shaped .none = true := by simp [SeqAt.shaped, PyData.canLay0, PyData.depth]
theorem dOf_int (m : List MO) (a : Int) : dOf m (.int a) = some (.int a) := by simp [dOf, lstOf, toD]
theorem dOf_bool (m : List MO) (a : Bool) : dOf m (.bool a) = some (.bool a) := by simp [dOf, lstOf, toD]
theorem dOf_none (m : List MO) : dOf m .none = some .none := by simp [dOf, lstOf, toD]
theorem dOf_str (m : List MO) (a : Str) : dOf m (.str a) = some (.str a) := by simp [dOf, lstOf, toD]
theorem eqF_int (a b : Int) (m : List MO) : eqF (.int a) (.int b) m = some (.bool (decide (a = b))) := by
  simp only [eqF, eqvF, dOf_int, Option.bind_some, shaped_int, Bool.and_self, if_true, PyData.eqv]
  congr 2; rw [Bool.eq_iff_iff]; simp
theorem neF_int (a b : Int) (m : List MO) : neF (.int a) (.int b) m = some (.bool (!decide (a = b))) := by
  simp only [neF, eqvF, dOf_int, Option.bind_some, shaped_int, Bool.and_self, if_true, PyData.eqv]
  congr 2; rw [Bool.eq_iff_iff]; simp
theorem eqF_bool (a b : Bool) (m : List MO) : eqF (.bool a) (.bool b) m = some (.bool (a == b)) := by
  simp only [eqF, eqvF, dOf_bool, Option.bind_some, shaped_bool, Bool.and_self, if_true, PyData.eqv]
  congr 2; simp
theorem eqF_none_int (b : Int) (m : List MO) : eqF .none (.int b) m = some (.bool false) := by
  simp only [eqF, eqvF, dOf_int, dOf_none, Option.bind_some, shaped_int, shaped_none, Bool.and_self, if_true, PyData.eqv]
  rfl
theorem eqF_str {a b : Str} (ha : PyData.strOk a = true) (hb : PyData.strOk b = true) (m : List MO) : eqF (.str a) (.str b) m = some (.bool (decide (a = b))) := by
  have h : ∀ x, PyData.strOk x = true → SeqAt.shaped (.str x) = true := fun x hx => by simp [SeqAt.shaped, PyData.canLay0, PyData.depth, hx]
  simp only [eqF, eqvF, dOf_str, Option.bind_some, h a ha, h b hb, Bool.and_self, if_true, PyData.eqv]
  congr 2; rw [Bool.eq_iff_iff]; simp
theorem seqIndex_nat {j n : Nat} (h : j < n) : seqIndex? (j : Int) n = some j := by
  unfold seqIndex?
  have h0 : ¬ ((j : Int) < 0) := by omega
  simp only [h0, if_false]
  rw [if_pos (by simp; omega)]
  simp
theorem seq_item {l : List V} {j : Nat} {v : V} (h : l[j]? = some v) (hj : j ≤ 1000) : seqItem l (j : Int) = some v := by
  have hl : j < l.length := (List.getElem?_eq_some_iff.mp h).1
  have hs : smallI (j : Int) = true := by rw [smallI_iff]; omega
  unfold seqItem
  rw [if_pos hs, seqIndex_nat hl]; exact h
theorem item_lst {l : List V} {j : Nat} {v : V} (h : l[j]? = some v) (hj : j ≤ 1000) (m : List MO) : itemF (.lst l) (.int (j : Int)) m = some v := seq_item h hj
theorem item_tup {l : List V} {j : Nat} {v : V} (h : l[j]? = some v) (hj : j ≤ 1000) (m : List MO) : itemF (.tup l) (.int (j : Int)) m = some v := seq_item h hj
theorem item_tup0 (a : V) (l : List V) (m : List MO) : itemF (.tup (a :: l)) (.int 0) m = some a := item_tup (j := 0) rfl (by decide) m
theorem item_tup1 (a b : V) (l : List V) (m : List MO) : itemF (.tup (a :: b :: l)) (.int 1) m = some b := item_tup (j := 1) rfl (by decide) m
theorem item_tup2 (a b d : V) (l : List V) (m : List MO) : itemF (.tup (a :: b :: d :: l)) (.int 2) m = some d := item_tup (j := 2) rfl (by decide) m
theorem item_lst0 (a : V) (l : List V) (m : List MO) : itemF (.lst (a :: l)) (.int 0) m = some a := item_lst (j := 0) rfl (by decide) m
theorem item_dicS {k : Nat} {l : List (Str × V)} {m : List MO} (h : m[k]? = some (.dicS l)) (x : Str) : itemF (.ref k) (.str x) m = valAt l x := congrArg (moItemS x) h
theorem item_dicI {k : Nat} {l : List (Int × V)} {m : List MO} (h : m[k]? = some (.dicI l)) (x : Int) : itemF (.ref k) (.int x) m = valAt l x := congrArg (moItem x) h
theorem valAt_s {K : Type} [DecidableEq K] (x : K) (v : V) (l : List (K × V)) : valAt ((x, v) :: l) x = some v := by simp [valAt]
theorem valAt_n {K : Type} [DecidableEq K] {x y : K} (h : ¬ x = y) (v : V) (l : List (K × V)) : valAt ((x, v) :: l) y = valAt l y := by simp [valAt, h]
theorem store_dicS {k : Nat} {l : List (Str × V)} {m : List MO} (h : m[k]? = some (.dicS l)) (hz : l.length ≤ 100) (x : Str) (v : V) : storeV (.ref k) (.str x) v m = some (m.set k (.dicS (putV l x v))) := by
  show moS m[k]? _ = _
  rw [h]; exact if_pos (Nat.le_trans hz (by decide))
theorem store_dicI {k : Nat} {l : List (Int × V)} {m : List MO} (h : m[k]? = some (.dicI l)) (hz : l.length ≤ 1000) (x : Int) (v : V) : storeV (.ref k) (.int x) v m = some (m.set k (.dicI (putV l x v))) := by
  show storeI k x v m m[k]? = _
  rw [h]; exact if_pos (Nat.le_trans hz (by decide))
theorem len_lst {l : List V} (h : l.length ≤ 5000) (m : List MO) : lenF [.lst l] m = some (.int l.length, m) := if_pos (Nat.le_trans h (by decide))
theorem len_tup {l : List V} (h : l.length ≤ 5000) (m : List MO) : lenF [.tup l] m = some (.int l.length, m) := if_pos (Nat.le_trans h (by decide))
theorem mulF_int {a b : Int} (ha : -1000000000 ≤ a ∧ a ≤ 1000000000) (hb : -1000000000 ≤ b ∧ b ≤ 1000000000) (m : List MO) : mulF (.int a) (.int b) m = some (.int (a * b)) := by
  exact congrArg (Option.bind · _) (if_pos (by rw [smallI_iff.mpr ha, smallI_iff.mpr hb]; rfl))
theorem fmodF_int {a b : Int} (hb : b ≠ 0) (m : List MO) : fmodF (.int a) (.int b) m = some (.int (a.fmod b)) := by
  exact congrArg (Option.bind · _) (if_pos hb)
theorem fdivF_int {a b : Int} (hb : b ≠ 0) (hz : -1000000000 ≤ b ∧ b ≤ 1000000000) (m : List MO) : fdivF (.int a) (.int b) m = some (.int (a.fdiv b)) := by
  exact congrArg (Option.bind · _) (if_pos ⟨hb, smallI_iff.mpr hz⟩)
theorem ltF_int (a b : Int) (m : List MO) : ltF (.int a) (.int b) m = some (.bool (decide (a < b))) := rfl
theorem leF_int (a b : Int) (m : List MO) : leF (.int a) (.int b) m = some (.bool (decide (a ≤ b))) := rfl
theorem gtF_int (a b : Int) (m : List MO) : gtF (.int a) (.int b) m = some (.bool (decide (b < a))) := rfl
theorem geF_int (a b : Int) (m : List MO) : geF (.int a) (.int b) m = some (.bool (decide (b ≤ a))) := rfl
theorem addF_int (a b : Int) (m : List MO) : addF (.int a) (.int b) m = some (.int (a + b)) := rfl
theorem subF_int (a b : Int) (m : List MO) : subF (.int a) (.int b) m = some (.int (a - b)) := rfl
theorem addF_lst {a b : List V} (h : a.length + b.length ≤ 5000) (m : List MO) : addF (.lst a) (.lst b) m = some (.lst (a ++ b)) := if_pos (Nat.le_trans h (by decide))
theorem addF_tup {a b : List V} (h : a.length + b.length ≤ 5000) (m : List MO) : addF (.tup a) (.tup b) m = some (.tup (a ++ b)) := if_pos (Nat.le_trans h (by decide))
theorem isF_bool (a b : Bool) (m : List MO) : isF (.bool a) (.bool b) m = some (.bool (a == b)) := rfl
theorem isF_nn (m : List MO) : isF .none .none m = some (.bool true) := rfl
theorem isF_in (a : Int) (m : List MO) : isF (.int a) .none m = some (.bool false) := rfl
theorem isNotF_bool (a b : Bool) (m : List MO) : isNotF (.bool a) (.bool b) m = some (.bool (a != b)) := rfl
theorem extend_ref {k : Nat} {l : List V} {m : List MO} (h : m[k]? = some (.lst l)) {a b : Int} (ha : -1000000000 ≤ a ∧ a ≤ 1000000000) (hb : -1000000000 ≤ b ∧ b ≤ 1000000000) (hn : (b - a).toNat ≤ 1000) (hl : l.length ≤ 5000) :
    extendF [.ref k, .rng a b] m = some (.none, m.set k (.lst (l ++ rngInts a (b - a).toNat))) := by
  have : l.length ≤ sizeB := Nat.le_trans hl (by decide)
  show moL m[k]? _ = _
  rw [h]; exact if_pos (by rw [smallI_iff.mpr ha, smallI_iff.mpr hb, decide_eq_true hn, decide_eq_true this]; rfl)
theorem append_ref {k : Nat} {l : List V} {m : List MO} (h : m[k]? = some (.lst l)) (hl : l.length ≤ 5000) (v : V) : appendF [.ref k, v] m = some (.none, m.set k (.lst (l ++ [v]))) := by
  show moL m[k]? _ = _
  rw [h]; exact if_pos (Nat.le_trans hl (by decide))
theorem isLst_ref {k : Nat} {l : List V} {m : List MO} (h : m[k]? = some (.lst l)) : isLst (.ref k) m = true := congrArg (fun o => (moL o fun _ => some true).getD false) h
theorem isDicI_ref {k : Nat} {l : List (Int × V)} {m : List MO} (h : m[k]? = some (.dicI l)) : isDicI (.ref k) m = true := congrArg (fun o => (moI o fun _ => some true).getD false) h
theorem get1_ref {k : Nat} {l : List (Int × V)} {m : List MO} (h : m[k]? = some (.dicI l)) (i : Int) : getF [.ref k, .int i] m = some ((valAt l i).getD .none, m) := by
  show moI m[k]? _ = _
  rw [h]; rfl
theorem get2_ref {k : Nat} {l : List (Int × V)} {m : List MO} (h : m[k]? = some (.dicI l)) (i : Int) (d : V) : getF [.ref k, .int i, d] m = some ((valAt l i).getD d, m) := by
  show moI m[k]? _ = _
  rw [h]; rfl
theorem in_dicI {k : Nat} {l : List (Int × V)} {m : List MO} (h : m[k]? = some (.dicI l)) (i : Int) (neg : Bool) : inF neg (.int i) (.ref k) m = some (.bool (neg != (valAt l i).isSome)) := congrArg (inRef neg i) h
/-- no object of the memory holds a handle -/
noncomputable def FlatM (m : List MO) : Prop := m.all (cleanO 0) = true
theorem and_both {a b : Bool} (x : a = true) (y : b = true) : (a && b) = true := by rw [x, y]; rfl
theorem clean_any {N : Nat} {v : V} : clean 0 v = true → clean N v = true :=
  V.rec (motive_1 := fun v => clean 0 v = true → clean N v = true) (motive_2 := fun l => cleanL 0 l = true → cleanL N l = true) (motive_3 := fun l => cleanF 0 l = true → cleanF N l = true) (motive_4 := fun p => clean 0 p.2 = true → clean N p.2 = true)
    (fun _ => rfl) (fun _ _ => rfl) (fun _ _ => rfl) (fun _ _ => rfl) (fun _ ih h => ih h) (fun _ ih h => ih h) (fun _ _ _ => rfl) (fun _ _ _ => rfl) (fun _ _ ih h => ih h) (fun k h => absurd (of_decide_eq_true (show decide (k < 0) = true from h)) (Nat.not_lt_zero k)) (fun _ _ => rfl) (fun _ => rfl) (fun v l i1 i2 h => and_both (i1 (Bool.and_eq_true_iff.mp h).1) (i2 (Bool.and_eq_true_iff.mp h).2)) (fun _ => rfl) (fun p l i1 i2 h => and_both (i1 (Bool.and_eq_true_iff.mp h).1) (i2 (Bool.and_eq_true_iff.mp h).2)) (fun _ _ ih => ih) v
theorem cleanL_any {N : Nat} {v : List V} (h : cleanL 0 v = true) : cleanL N v = true := clean_any (v := .lst v) h
theorem cleanO_any {N : Nat} {o : MO} (h : cleanO 0 o = true) : cleanO N o = true := by cases o <;> first | exact cleanL_any h | rfl
theorem FlatM.closed {m : List MO} (h : FlatM m) (N : Nat) : m.all (cleanO N) = true := List.all_eq_true.mpr fun o ho => cleanO_any (List.all_eq_true.mp h o ho)
theorem FlatM.get {m : List MO} (h : FlatM m) {k : Nat} {o : MO} (e : m[k]? = some o) : cleanO 0 o = true := List.all_eq_true.mp h o (List.mem_of_getElem? e)
theorem FlatM.set {m : List MO} (h : FlatM m) (k : Nat) {o : MO} (ho : cleanO 0 o = true) : FlatM (m.set k o) := List.all_eq_true.mpr fun x hx => by
  rcases List.mem_or_eq_of_mem_set hx with q | q
  · exact List.all_eq_true.mp h x q
  · rw [q]; exact ho
theorem cleanL_ints (N : Nat) : ∀ (ns : List Int), cleanL N (ns.map .int) = true
  | [] => by rw [List.map_nil, cleanL]
  | n :: ns => and_both rfl (cleanL_ints N ns)
/-- a call that leaves the memory as it was, but for what nobody holds -/
theorem trimC_of {f : CF} {vs : List V} {m m' j : List MO} {v : V} (e : f vs m = some (v, m' ++ j)) (hl : m'.length = m.length) (hv : clean 0 v = true) (hm : FlatM m') : trimC f vs m = some (v, m') := by
  simp only [trimC, e, Option.bind_some]
  rw [show (m' ++ j).take m.length = m' by rw [← hl, List.take_left]]
  rw [if_pos ⟨clean_any hv, hm.closed _⟩]
theorem while_next {T : TF} {B : SF} {n : Nat} {ρ ρ' : Rho} {m m' m'' : List MO} (hT : T ρ m = some (true, m')) (hB : B ρ m' = some (.next, ρ', m'')) : whileX T B (n + 1) ρ m = whileX T B n ρ' m'' := by
  show ((T ρ m).bind _) = _
  rw [hT]
  show ((B ρ m').bind _) = _
  rw [hB]; rfl
theorem while_end {T : TF} {B : SF} {n : Nat} {ρ : Rho} {m m' : List MO} (hT : T ρ m = some (false, m')) : whileX T B (n + 1) ρ m = some (.next, ρ, m') := by
  show ((T ρ m).bind _) = _
  rw [hT]; rfl
theorem while_ret {T : TF} {B : SF} {n : Nat} {ρ ρ' : Rho} {m m' m'' : List MO} {v : V} (hT : T ρ m = some (true, m')) (hB : B ρ m' = some (.ret v, ρ', m'')) : whileX T B (n + 1) ρ m = some (.ret v, ρ', m'') := by
  show ((T ρ m).bind _) = _
  rw [hT]
  show ((B ρ m').bind _) = _
  rw [hB]; rfl
theorem eqF_s {a : Str} (ha : PyData.strOk a = true) (m : List MO) : eqF (.str a) (.str a) m = some (.bool true) := by rw [eqF_str ha ha]; simp
theorem eqF_sn {a b : Str} (h : ¬ a = b) (ha : PyData.strOk a = true) (hb : PyData.strOk b = true) (m : List MO) : eqF (.str a) (.str b) m = some (.bool false) := by rw [eqF_str ha hb]; simp [h]
end Mine
-- S2
namespace Mine

inductive Sg where | le | ge | eq | ne
noncomputable def Sg.str : Sg → Str | .le => "<=" | .ge => ">=" | .eq => "=" | .ne => "!="
noncomputable def Sg.neg : Sg → Int → Sg × Int | .le, k => (.ge, k + 1) | .ge, k => (.le, k - 1) | .eq, k => (.ne, k) | .ne, k => (.eq, k)
structure Lit where
  x : Nat
  s : Sg
  k : Int
noncomputable def litV (l : Lit) : V := .tup [.int l.x, .str l.s.str, .int l.k]
noncomputable def Lit.neg (l : Lit) : Lit := ⟨l.x, (l.s.neg l.k).1, (l.s.neg l.k).2⟩
/-- the literal rules the number out -/
noncomputable def Lit.denied (l : Lit) (n : Int) : Bool := match l.s with | .le => decide (l.k < n) | .ge => decide (n < l.k) | .eq => !decide (n = l.k) | .ne => decide (n = l.k)
/-- the bin of numbers: its cells and how many were drawn -/
noncomputable def lotV (l : List Int) : V := .lst (l.map .int)
noncomputable def binO (cells : List Int) (t : Nat) : MO := .dicS [("cells", lotV cells), ("turn", .int t)]
noncomputable def drawn (cells : List Int) (t : Nat) (many : Int) : Int := match cells[t]? with
  | some c => c.fmod many
  | none => ((7 * (t : Int) * t + 6 * t + 5).fdiv 4).fmod many
section
variable {w : World} {H : Heap} {mg mb : Str → Option Value}
theorem negation_ok (ok : (cx w H mg mb).Ok) : ∃ f, CallOK (cx w H mg mb) 1 (.ref 186) f ∧ ∀ l mem, f [litV l] mem = some (litV l.neg, mem) := by
  refine' ⟨_, CallOK.def2 (names := ["literal"]) ok rfl rfl ?d rfl rfl rfl rfl fun L => ?b, ?s⟩
  case d => (intro ws h; refine len1 h ?_; intros; rfl)
  case b => exact (ExOK.cons (StOK.assign (loadLocal rfl rfl) (AsgOK.tup (k := 3) (AsgsOK.cons (AsgOK.local rfl) (AsgsOK.cons (AsgOK.local rfl) (AsgsOK.cons (AsgOK.local rfl) AsgsOK.nil))) rfl rfl) rfl rfl rfl) (ExOK.cons (StOK.ite (TeOK.cmp (loadLocal rfl rfl) EvOK.str eqOK rfl) (ExOK.cons (StOK.ret (EvOK.tup (EvsOK.cons (loadLocal rfl rfl) (EvsOK.cons EvOK.str (EvsOK.cons (EvOK.bin (loadLocal rfl rfl) EvOK.int addOK) EvsOK.nil rfl) rfl) rfl))) ExOK.nil) ExOK.nil) (ExOK.cons (StOK.ite (TeOK.cmp (loadLocal rfl rfl) EvOK.str eqOK rfl) (ExOK.cons (StOK.ret (EvOK.tup (EvsOK.cons (loadLocal rfl rfl) (EvsOK.cons EvOK.str (EvsOK.cons (EvOK.bin (loadLocal rfl rfl) EvOK.int subOK) EvsOK.nil rfl) rfl) rfl))) ExOK.nil) ExOK.nil) (ExOK.cons (StOK.ret (EvOK.ife (TeOK.cmp (loadLocal rfl rfl) EvOK.str eqOK rfl) (EvOK.tup (EvsOK.cons (loadLocal rfl rfl) (EvsOK.cons EvOK.str (EvsOK.cons (loadLocal rfl rfl) EvsOK.nil rfl) rfl) rfl)) (EvOK.tup (EvsOK.cons (loadLocal rfl rfl) (EvsOK.cons EvOK.str (EvsOK.cons (loadLocal rfl rfl) EvsOK.nil rfl) rfl) rfl)))) ExOK.nil))))
  case s =>
    rintro ⟨x, s, k⟩ mem
    cases s <;> simp only [litV, Lit.neg, Sg.neg, Sg.str] <;> simp (disch := first | assumption | decide | decide +kernel) only [sizeB, Nat.reduceAdd, Nat.reduceLeDiff, decide_true, decide_false, Bool.false_eq_true, if_false, if_true, ite_true, ite_false, reduceIte, Bool.not_true, Bool.not_false, Bool.and_true, Bool.true_and, Bool.and_self, decide_eq_true_eq, List.nil_append, List.cons_append, List.append_nil, List.singleton_append, defX, bindX, seqX, assignX, nameX, tupSt, asgCons, asgNil, nameSt, constX, retX, retN, exprX, brkX, tupX, lstX, consL, nilL, binX, callX, methX, subX, attrX, attrV, ifX, ifeX, notX, orX, andX, negX, cmpT, boolT, notT, andT, orT, swapX, tgtNames, subStX, newLstX, newDicX, forS, itemsOf, nilX, addF_int, subF_int, ltF_int, leF_int, gtF_int, geF_int, isF_bool, isF_nn, isF_in, isNotF_bool, Option.bind_some, Option.bind_none, upd_eq, upd_ne, List.length_cons, List.length_nil, List.filterMap_cons, List.filterMap_nil, List.reverse_cons, List.reverse_nil, eqF_s, eqF_sn, eqF_int, neF_int, eqF_bool, eqF_none_int, item_tup0, item_tup1, item_tup2, item_lst0, valAt_s, valAt_n, V.onInt_int, V.onBool_bool, V.onTup_tup, V.onLst_lst, V.onNone_none, onRef_ref, moL_lst, moI_dic, moS_dic, on1_one, on2_two, onCons_cons, onNil_nil, tupR, lstR, lenR]
theorem law_is_denied_ok (ok : (cx w H mg mb).Ok) : ∃ f, CallOK (cx w H mg mb) 1 (.ref 399) f ∧ ∀ l n mem, f [litV l, .int n] mem = some (.bool (l.denied n), mem) := by
  refine' ⟨_, CallOK.def2 (names := ["literal", "number"]) ok rfl rfl ?d rfl rfl rfl rfl fun L => ?b, ?s⟩
  case d => (intro ws h; refine len2 h ?_; intros; rfl)
  case b => exact (ExOK.cons (StOK.swap2 (EvOK.tup (EvsOK.cons (EvOK.sub (loadLocal rfl rfl) EvOK.int (fun _ _ => rfl)) (EvsOK.cons (EvOK.sub (loadLocal rfl rfl) EvOK.int (fun _ _ => rfl)) EvsOK.nil rfl) rfl)) rfl rfl rfl) (ExOK.cons (StOK.ite (TeOK.cmp (loadLocal rfl rfl) EvOK.str eqOK rfl) (ExOK.cons (StOK.ret (EvOK.cmp (loadLocal rfl rfl) (loadLocal rfl rfl) gtOK rfl)) ExOK.nil) ExOK.nil) (ExOK.cons (StOK.ite (TeOK.cmp (loadLocal rfl rfl) EvOK.str eqOK rfl) (ExOK.cons (StOK.ret (EvOK.cmp (loadLocal rfl rfl) (loadLocal rfl rfl) ltOK rfl)) ExOK.nil) ExOK.nil) (ExOK.cons (StOK.ret (EvOK.cmp (EvOK.cmp (loadLocal rfl rfl) (loadLocal rfl rfl) eqOK rfl) (EvOK.cmp (loadLocal rfl rfl) EvOK.str eqOK rfl) eqOK rfl)) ExOK.nil))))
  case s =>
    rintro ⟨x, s, k⟩ n mem
    cases s <;> simp only [litV, Lit.denied, Sg.str] <;> simp (disch := first | assumption | decide | decide +kernel) only [sizeB, Nat.reduceAdd, Nat.reduceLeDiff, decide_true, decide_false, Bool.false_eq_true, if_false, if_true, ite_true, ite_false, reduceIte, Bool.not_true, Bool.not_false, Bool.and_true, Bool.true_and, Bool.and_self, decide_eq_true_eq, List.nil_append, List.cons_append, List.append_nil, List.singleton_append, defX, bindX, seqX, assignX, nameX, tupSt, asgCons, asgNil, nameSt, constX, retX, retN, exprX, brkX, tupX, lstX, consL, nilL, binX, callX, methX, subX, attrX, attrV, ifX, ifeX, notX, orX, andX, negX, cmpT, boolT, notT, andT, orT, swapX, tgtNames, subStX, newLstX, newDicX, forS, itemsOf, nilX, addF_int, subF_int, ltF_int, leF_int, gtF_int, geF_int, isF_bool, isF_nn, isF_in, isNotF_bool, Option.bind_some, Option.bind_none, upd_eq, upd_ne, List.length_cons, List.length_nil, List.filterMap_cons, List.filterMap_nil, List.reverse_cons, List.reverse_nil, eqF_s, eqF_sn, eqF_int, neF_int, eqF_bool, eqF_none_int, item_tup0, item_tup1, item_tup2, item_lst0, valAt_s, valAt_n, V.onInt_int, V.onBool_bool, V.onTup_tup, V.onLst_lst, V.onNone_none, onRef_ref, moL_lst, moI_dic, moS_dic, on1_one, on2_two, onCons_cons, onNil_nil, tupR, lstR, lenR]
    · cases decide (n = k) <;> rfl
    · cases decide (n = k) <;> rfl
theorem law_scoop_ok (ok : (cx w H mg mb).Ok) : ∃ f, CallOK (cx w H mg mb) 1 (.ref 380) f ∧ ∀ (mem : List MO) (k : Nat) (cells : List Int) (t : Nat) (many : Int), mem[k]? = some (binO cells t) → 0 < many → many ≤ 100 → t ≤ 1000 → cells.length ≤ 1000 →
    f [.ref k, .int many] mem = some (.int (drawn cells t many), mem.set k (binO cells (t + 1))) := by
  refine' ⟨_, CallOK.def2 (names := ["bin_of", "many"]) ok rfl rfl ?d rfl rfl rfl rfl fun L => ?b, ?s⟩
  case d => (intro ws h; refine len2 h ?_; intros; rfl)
  case b => exact (ExOK.cons (StOK.assign (EvOK.sub (loadLocal rfl rfl) EvOK.str (fun _ _ => rfl)) (AsgOK.local rfl) rfl rfl rfl) (ExOK.cons (StOK.assignSub (EvOK.bin (loadLocal rfl rfl) EvOK.int addOK) (loadLocal rfl rfl) EvOK.str rfl) (ExOK.cons (StOK.ite (TeOK.cmp (loadLocal rfl rfl) (EvOK.call (bi_len ok rfl) (EvsOK.cons (EvOK.sub (loadLocal rfl rfl) EvOK.str (fun _ _ => rfl)) EvsOK.nil rfl) rfl keepB lenOK rfl) ltOK rfl) (ExOK.cons (StOK.ret (EvOK.bin (EvOK.sub (EvOK.sub (loadLocal rfl rfl) EvOK.str (fun _ _ => rfl)) (loadLocal rfl rfl) (fun _ _ => rfl)) (loadLocal rfl rfl) fmodOK)) ExOK.nil) ExOK.nil) (ExOK.cons (StOK.ret (EvOK.bin (EvOK.bin (EvOK.bin (EvOK.bin (EvOK.bin (EvOK.bin EvOK.int (loadLocal rfl rfl) mulOK) (loadLocal rfl rfl) mulOK) (EvOK.bin EvOK.int (loadLocal rfl rfl) mulOK) addOK) EvOK.int addOK) EvOK.int fdivOK) (loadLocal rfl rfl) fmodOK)) ExOK.nil))))
  case s =>
    intro mem k cells t many hm h0 h1 ht hc
    have hk : k < mem.length := (List.getElem?_eq_some_iff.mp hm).1
    have hm' : mem[k]? = some (.dicS [("cells", lotV cells), ("turn", .int t)]) := hm
    have hp : putV ([("cells", lotV cells), ("turn", .int t)] : List (Str × V)) ("turn" : Str) (.int ((t : Int) + 1)) = ([("cells", lotV cells), ("turn", .int ((t : Int) + 1))] : List (Str × V)) := rfl
    have hm2 : (mem.set k (.dicS [("cells", lotV cells), ("turn", .int ((t : Int) + 1))]))[k]? = some (.dicS [("cells", lotV cells), ("turn", .int ((t : Int) + 1))]) := List.getElem?_set_self hk
    have hb : binO cells (t + 1) = .dicS [("cells", lotV cells), ("turn", .int ((t : Int) + 1))] := by unfold binO; rfl
    have hlen : (cells.map V.int).length ≤ 5000 := by rw [List.length_map]; omega
    have hl1 : ∀ m, lenF [lotV cells] m = some (.int (cells.map V.int).length, m) := fun m => len_lst hlen m
    have hne : many ≠ 0 := by omega
    have e1 : (-1000000000 : Int) ≤ 7 ∧ (7 : Int) ≤ 1000000000 := by decide
    have e2 : (-1000000000 : Int) ≤ (t : Int) ∧ (t : Int) ≤ 1000000000 := by omega
    have e3 : (-1000000000 : Int) ≤ 7 * (t : Int) ∧ 7 * (t : Int) ≤ 1000000000 := by omega
    have e4 : (-1000000000 : Int) ≤ 6 ∧ (6 : Int) ≤ 1000000000 := by decide
    have e5 : (4 : Int) ≠ 0 := by decide
    have e6 : (-1000000000 : Int) ≤ 4 ∧ (4 : Int) ≤ 1000000000 := by decide
    unfold drawn
    rw [hb]
    by_cases hc2 : t < cells.length
    · have hd : ((t : Int) < (cells.map V.int).length) := by rw [List.length_map]; omega
      have hg : cells[t]? = some cells[t] := List.getElem?_eq_getElem hc2
      have hit : (cells.map V.int)[t]? = some (.int cells[t]) := by rw [List.getElem?_map, hg]; rfl
      have hi1 : ∀ m, itemF (lotV cells) (.int t) m = some (.int cells[t]) := fun m => item_lst hit ht m
      simp (disch := first | assumption | decide | decide +kernel) only [sizeB, Nat.reduceAdd, Nat.reduceLeDiff, decide_true, decide_false, Bool.false_eq_true, if_false, if_true, ite_true, ite_false, reduceIte, Bool.not_true, Bool.not_false, Bool.and_true, Bool.true_and, Bool.and_self, decide_eq_true_eq, List.nil_append, List.cons_append, List.append_nil, List.singleton_append,
    defX, bindX, seqX, assignX, nameX, tupSt, asgCons, asgNil, nameSt, constX, retX, retN, exprX, brkX, tupX, lstX, consL, nilL, binX, callX, methX, subX, attrX, attrV, ifX, ifeX, notX, orX, andX, negX, cmpT, boolT, notT, andT, orT, swapX, tgtNames, subStX, newLstX, newDicX, forS, itemsOf, nilX,
    addF_int, subF_int, ltF_int, leF_int, gtF_int, geF_int, isF_bool, isF_nn, isF_in, isNotF_bool, Option.bind_some, Option.bind_none, upd_eq, upd_ne, List.length_cons, List.length_nil, List.filterMap_cons, List.filterMap_nil, List.reverse_cons, List.reverse_nil, eqF_s, eqF_sn, eqF_int, neF_int, eqF_bool, eqF_none_int, item_tup0, item_tup1, item_tup2, item_lst0, valAt_s, valAt_n, V.onInt_int, V.onBool_bool, V.onTup_tup, V.onLst_lst, V.onNone_none, onRef_ref, moL_lst, moI_dic, moS_dic, on1_one, on2_two, onCons_cons, onNil_nil, tupR, lstR, lenR, item_dicS hm', store_dicS hm' (Nat.le_of_ble_eq_true rfl), hp, item_dicS hm2, hl1, hd, hi1, fmodF_int hne, hg]
    · have hd : ¬ ((t : Int) < (cells.map V.int).length) := by rw [List.length_map]; omega
      have hg : cells[t]? = none := List.getElem?_eq_none (by omega)
      simp (disch := first | assumption | decide | decide +kernel) only [sizeB, Nat.reduceAdd, Nat.reduceLeDiff, decide_true, decide_false, Bool.false_eq_true, if_false, if_true, ite_true, ite_false, reduceIte, Bool.not_true, Bool.not_false, Bool.and_true, Bool.true_and, Bool.and_self, decide_eq_true_eq, List.nil_append, List.cons_append, List.append_nil, List.singleton_append,
    defX, bindX, seqX, assignX, nameX, tupSt, asgCons, asgNil, nameSt, constX, retX, retN, exprX, brkX, tupX, lstX, consL, nilL, binX, callX, methX, subX, attrX, attrV, ifX, ifeX, notX, orX, andX, negX, cmpT, boolT, notT, andT, orT, swapX, tgtNames, subStX, newLstX, newDicX, forS, itemsOf, nilX,
    addF_int, subF_int, ltF_int, leF_int, gtF_int, geF_int, isF_bool, isF_nn, isF_in, isNotF_bool, Option.bind_some, Option.bind_none, upd_eq, upd_ne, List.length_cons, List.length_nil, List.filterMap_cons, List.filterMap_nil, List.reverse_cons, List.reverse_nil, eqF_s, eqF_sn, eqF_int, neF_int, eqF_bool, eqF_none_int, item_tup0, item_tup1, item_tup2, item_lst0, valAt_s, valAt_n, V.onInt_int, V.onBool_bool, V.onTup_tup, V.onLst_lst, V.onNone_none, onRef_ref, moL_lst, moI_dic, moS_dic, on1_one, on2_two, onCons_cons, onNil_nil, tupR, lstR, lenR, item_dicS hm', store_dicS hm' (Nat.le_of_ble_eq_true rfl), hp, item_dicS hm2, hl1, hd, fmodF_int hne, fdivF_int e5 e6, mulF_int e1 e2, mulF_int e3 e2, mulF_int e4 e2, hg]
end
end Mine
-- S3
namespace Mine

noncomputable def pairV (p : Int × Int) : V := .tup [.int p.1, .int p.2]
noncomputable def domV (d : List (Int × Int)) : V := .tup (d.map pairV)
noncomputable def minI (a b : Int) : Int := if b < a then b else a
noncomputable def maxI (a b : Int) : Int := if b > a then b else a
theorem minF_int (a b : Int) (m : List MO) : minF [.int a, .int b] m = some (.int (minI a b), m) := rfl
theorem maxF_int (a b : Int) (m : List MO) : maxF [.int a, .int b] m = some (.int (maxI a b), m) := rfl
noncomputable def upTo (d : List (Int × Int)) (k : Int) : List (Int × Int) := (d.filter fun p => decide (p.1 ≤ k)).map fun p => (p.1, minI p.2 k)
noncomputable def fromOn (d : List (Int × Int)) (k : Int) : List (Int × Int) := (d.filter fun p => decide (k ≤ p.2)).map fun p => (maxI p.1 k, p.2)
abbrev capK (ρ : Rho) (x : Str) : Rho := fun y => if y ∈ [x] then ρ y else none
theorem up_to_loop (k : Int) : ∀ (d : List (Int × Int)) (ρ : Rho) (m : List MO) (acc : List V), ρ "k" = some (.int k) → acc.length + d.length ≤ 1000 →
    ∃ ρ', loopB (tupSt (asgCons (nameSt "low") (asgCons (nameSt "high") asgNil)) 2) (cmpT (nameX "low") (nameX "k") leF) (emitB (tupX (consL (nameX "low") (consL (callX minF (consL (nameX "high") (consL (nameX "k") nilL))) nilL)))) (d.map pairV) ρ m acc
      = some (ρ', m, acc ++ (upTo d k).map pairV)
  | [], ρ, m, acc, _, _ => ⟨ρ, by simp [loopB, upTo]⟩
  | p :: d, ρ, m, acc, hk, hz => by
    rw [List.length_cons] at hz
    have hz1 : acc.length ≤ 100000 := by omega
    have hk' : (upd (upd ρ "low" (.int p.1)) "high" (.int p.2)) "k" = some (.int k) := by rw [upd_ne (by decide), upd_ne (by decide)]; exact hk
    by_cases h : p.1 ≤ k
    · obtain ⟨ρ', e⟩ := up_to_loop k d (upd (upd ρ "low" (.int p.1)) "high" (.int p.2)) m (acc ++ [pairV (p.1, minI p.2 k)]) hk' (by rw [List.length_append]; show acc.length + 1 + d.length ≤ 1000; omega)
      refine ⟨ρ', ?_⟩
      rw [List.map_cons, pairV, loopB]
      simp (disch := first | assumption | decide | decide +kernel) only [sizeB, Nat.reduceAdd, Nat.reduceLeDiff, decide_true, decide_false, Bool.false_eq_true, if_false, if_true, ite_true, ite_false, reduceIte, Bool.not_true, Bool.not_false, Bool.and_true, Bool.true_and, Bool.and_self, decide_eq_true_eq, List.nil_append, List.cons_append, List.append_nil, List.singleton_append,
    defX, bindX, seqX, assignX, nameX, tupSt, asgCons, asgNil, nameSt, constX, retX, retN, exprX, brkX, tupX, lstX, consL, nilL, binX, callX, methX, subX, attrX, attrV, ifX, ifeX, notX, orX, andX, negX, cmpT, boolT, notT, andT, orT, swapX, tgtNames, subStX, newLstX, newDicX, forS, itemsOf, nilX,
    addF_int, subF_int, ltF_int, leF_int, gtF_int, geF_int, isF_bool, isF_nn, isF_in, isNotF_bool, Option.bind_some, Option.bind_none, upd_eq, upd_ne, List.length_cons, List.length_nil, List.filterMap_cons, List.filterMap_nil, List.reverse_cons, List.reverse_nil, eqF_s, eqF_sn, eqF_int, neF_int, eqF_bool, eqF_none_int, item_tup0, item_tup1, item_tup2, item_lst0, valAt_s, valAt_n, V.onInt_int, V.onBool_bool, V.onTup_tup, V.onLst_lst, V.onNone_none, onRef_ref, moL_lst, moI_dic, moS_dic, on1_one, on2_two, onCons_cons, onNil_nil, tupR, lstR, lenR, emitB, hk, minF_int, h, hz1]
      refine e.trans ?_
      simp [upTo, h]
    · obtain ⟨ρ', e⟩ := up_to_loop k d (upd (upd ρ "low" (.int p.1)) "high" (.int p.2)) m acc hk' (by omega)
      refine ⟨ρ', ?_⟩
      rw [List.map_cons, pairV, loopB]
      simp (disch := first | assumption | decide | decide +kernel) only [sizeB, Nat.reduceAdd, Nat.reduceLeDiff, decide_true, decide_false, Bool.false_eq_true, if_false, if_true, ite_true, ite_false, reduceIte, Bool.not_true, Bool.not_false, Bool.and_true, Bool.true_and, Bool.and_self, decide_eq_true_eq, List.nil_append, List.cons_append, List.append_nil, List.singleton_append,
    defX, bindX, seqX, assignX, nameX, tupSt, asgCons, asgNil, nameSt, constX, retX, retN, exprX, brkX, tupX, lstX, consL, nilL, binX, callX, methX, subX, attrX, attrV, ifX, ifeX, notX, orX, andX, negX, cmpT, boolT, notT, andT, orT, swapX, tgtNames, subStX, newLstX, newDicX, forS, itemsOf, nilX,
    addF_int, subF_int, ltF_int, leF_int, gtF_int, geF_int, isF_bool, isF_nn, isF_in, isNotF_bool, Option.bind_some, Option.bind_none, upd_eq, upd_ne, List.length_cons, List.length_nil, List.filterMap_cons, List.filterMap_nil, List.reverse_cons, List.reverse_nil, eqF_s, eqF_sn, eqF_int, neF_int, eqF_bool, eqF_none_int, item_tup0, item_tup1, item_tup2, item_lst0, valAt_s, valAt_n, V.onInt_int, V.onBool_bool, V.onTup_tup, V.onLst_lst, V.onNone_none, onRef_ref, moL_lst, moI_dic, moS_dic, on1_one, on2_two, onCons_cons, onNil_nil, tupR, lstR, lenR, emitB, hk, minF_int, h, hz1]
      refine e.trans ?_
      simp [upTo, h]
theorem from_on_loop (k : Int) : ∀ (d : List (Int × Int)) (ρ : Rho) (m : List MO) (acc : List V), ρ "k" = some (.int k) → acc.length + d.length ≤ 1000 →
    ∃ ρ', loopB (tupSt (asgCons (nameSt "low") (asgCons (nameSt "high") asgNil)) 2) (cmpT (nameX "high") (nameX "k") geF) (emitB (tupX (consL (callX maxF (consL (nameX "low") (consL (nameX "k") nilL))) (consL (nameX "high") nilL)))) (d.map pairV) ρ m acc
      = some (ρ', m, acc ++ (fromOn d k).map pairV)
  | [], ρ, m, acc, _, _ => ⟨ρ, by simp [loopB, fromOn]⟩
  | p :: d, ρ, m, acc, hk, hz => by
    rw [List.length_cons] at hz
    have hz1 : acc.length ≤ 100000 := by omega
    have hk' : (upd (upd ρ "low" (.int p.1)) "high" (.int p.2)) "k" = some (.int k) := by rw [upd_ne (by decide), upd_ne (by decide)]; exact hk
    by_cases h : k ≤ p.2
    · obtain ⟨ρ', e⟩ := from_on_loop k d (upd (upd ρ "low" (.int p.1)) "high" (.int p.2)) m (acc ++ [pairV (maxI p.1 k, p.2)]) hk' (by rw [List.length_append]; show acc.length + 1 + d.length ≤ 1000; omega)
      refine ⟨ρ', ?_⟩
      rw [List.map_cons, pairV, loopB]
      simp (disch := first | assumption | decide | decide +kernel) only [sizeB, Nat.reduceAdd, Nat.reduceLeDiff, decide_true, decide_false, Bool.false_eq_true, if_false, if_true, ite_true, ite_false, reduceIte, Bool.not_true, Bool.not_false, Bool.and_true, Bool.true_and, Bool.and_self, decide_eq_true_eq, List.nil_append, List.cons_append, List.append_nil, List.singleton_append,
    defX, bindX, seqX, assignX, nameX, tupSt, asgCons, asgNil, nameSt, constX, retX, retN, exprX, brkX, tupX, lstX, consL, nilL, binX, callX, methX, subX, attrX, attrV, ifX, ifeX, notX, orX, andX, negX, cmpT, boolT, notT, andT, orT, swapX, tgtNames, subStX, newLstX, newDicX, forS, itemsOf, nilX,
    addF_int, subF_int, ltF_int, leF_int, gtF_int, geF_int, isF_bool, isF_nn, isF_in, isNotF_bool, Option.bind_some, Option.bind_none, upd_eq, upd_ne, List.length_cons, List.length_nil, List.filterMap_cons, List.filterMap_nil, List.reverse_cons, List.reverse_nil, eqF_s, eqF_sn, eqF_int, neF_int, eqF_bool, eqF_none_int, item_tup0, item_tup1, item_tup2, item_lst0, valAt_s, valAt_n, V.onInt_int, V.onBool_bool, V.onTup_tup, V.onLst_lst, V.onNone_none, onRef_ref, moL_lst, moI_dic, moS_dic, on1_one, on2_two, onCons_cons, onNil_nil, tupR, lstR, lenR, emitB, hk, maxF_int, h, hz1]
      refine e.trans ?_
      simp [fromOn, h]
    · obtain ⟨ρ', e⟩ := from_on_loop k d (upd (upd ρ "low" (.int p.1)) "high" (.int p.2)) m acc hk' (by omega)
      refine ⟨ρ', ?_⟩
      rw [List.map_cons, pairV, loopB]
      simp (disch := first | assumption | decide | decide +kernel) only [sizeB, Nat.reduceAdd, Nat.reduceLeDiff, decide_true, decide_false, Bool.false_eq_true, if_false, if_true, ite_true, ite_false, reduceIte, Bool.not_true, Bool.not_false, Bool.and_true, Bool.true_and, Bool.and_self, decide_eq_true_eq, List.nil_append, List.cons_append, List.append_nil, List.singleton_append,
    defX, bindX, seqX, assignX, nameX, tupSt, asgCons, asgNil, nameSt, constX, retX, retN, exprX, brkX, tupX, lstX, consL, nilL, binX, callX, methX, subX, attrX, attrV, ifX, ifeX, notX, orX, andX, negX, cmpT, boolT, notT, andT, orT, swapX, tgtNames, subStX, newLstX, newDicX, forS, itemsOf, nilX,
    addF_int, subF_int, ltF_int, leF_int, gtF_int, geF_int, isF_bool, isF_nn, isF_in, isNotF_bool, Option.bind_some, Option.bind_none, upd_eq, upd_ne, List.length_cons, List.length_nil, List.filterMap_cons, List.filterMap_nil, List.reverse_cons, List.reverse_nil, eqF_s, eqF_sn, eqF_int, neF_int, eqF_bool, eqF_none_int, item_tup0, item_tup1, item_tup2, item_lst0, valAt_s, valAt_n, V.onInt_int, V.onBool_bool, V.onTup_tup, V.onLst_lst, V.onNone_none, onRef_ref, moL_lst, moI_dic, moS_dic, on1_one, on2_two, onCons_cons, onNil_nil, tupR, lstR, lenR, emitB, hk, maxF_int, h, hz1]
      refine e.trans ?_
      simp [fromOn, h]
section
variable {w : World} {H : Heap} {mg mb : Str → Option Value}
theorem up_to_ok (ok : (cx w H mg mb).Ok) : ∃ f, CallOK (cx w H mg mb) 1 (.ref 160) f ∧ ∀ d k mem, d.length ≤ 100 → f [domV d, .int k] mem = some (domV (upTo d k), mem) := by
  refine' ⟨_, CallOK.def2 (names := ["d", "k"]) ok rfl rfl ?d rfl rfl rfl rfl fun L => ?b, ?s⟩
  case d => (intro ws h; refine len2 h ?_; intros; rfl)
  case b => exact (ExOK.cons (StOK.ret (EvOK.call (bi_tuple ok rfl) (EvsOK.cons (EvOK.comp rfl (loadLocal rfl rfl) (fun _ => rfl) (CompSt.of rfl rfl rfl rfl rfl rfl (fun _ => rfl) (fun _ => rfl) rfl rfl) (fun _ => (LpOK.mk (fun _ _ => (turn1 _ _ _ _ _ _ _ _ _)) (AsgOK.tup (k := 2) (AsgsOK.cons (AsgOK.local rfl) (AsgsOK.cons (AsgOK.local rfl) AsgsOK.nil)) rfl rfl) (TsOK.one (TeOK.cmp (loadLocal rfl rfl) (loadCell rfl rfl) leOK rfl)) (InOK.emit (EvOK.tup (EvsOK.cons (loadLocal rfl rfl) (EvsOK.cons (EvOK.call (bi_min ok rfl) (EvsOK.cons (loadLocal rfl rfl) (EvsOK.cons (loadCell rfl rfl) EvsOK.nil rfl) rfl) rfl keepB minOK rfl) EvsOK.nil rfl) rfl)))))) EvsOK.nil rfl) rfl keepT tupOK rfl)) ExOK.nil)
  case s =>
    intro d k mem hd
    simp only [domV]
    simp (disch := first | assumption | decide | decide +kernel) only [sizeB, Nat.reduceAdd, Nat.reduceLeDiff, decide_true, decide_false, Bool.false_eq_true, if_false, if_true, ite_true, ite_false, reduceIte, Bool.not_true, Bool.not_false, Bool.and_true, Bool.true_and, Bool.and_self, decide_eq_true_eq, List.nil_append, List.cons_append, List.append_nil, List.singleton_append,
    defX, bindX, seqX, assignX, nameX, tupSt, asgCons, asgNil, nameSt, constX, retX, retN, exprX, brkX, tupX, lstX, consL, nilL, binX, callX, methX, subX, attrX, attrV, ifX, ifeX, notX, orX, andX, negX, cmpT, boolT, notT, andT, orT, swapX, tgtNames, subStX, newLstX, newDicX, forS, itemsOf, nilX,
    addF_int, subF_int, ltF_int, leF_int, gtF_int, geF_int, isF_bool, isF_nn, isF_in, isNotF_bool, Option.bind_some, Option.bind_none, upd_eq, upd_ne, List.length_cons, List.length_nil, List.filterMap_cons, List.filterMap_nil, List.reverse_cons, List.reverse_nil, eqF_s, eqF_sn, eqF_int, neF_int, eqF_bool, eqF_none_int, item_tup0, item_tup1, item_tup2, item_lst0, valAt_s, valAt_n, V.onInt_int, V.onBool_bool, V.onTup_tup, V.onLst_lst, V.onNone_none, onRef_ref, moL_lst, moI_dic, moS_dic, on1_one, on2_two, onCons_cons, onNil_nil, tupR, lstR, lenR, compX]
    generalize hρ : capX _ _ = ρ0
    have hk : ρ0 "k" = some (.int k) := by rw [← hρ]; rfl
    obtain ⟨ρ', e⟩ := up_to_loop k d ρ0 mem [] hk (by simp; omega)
    rw [e]
    have hz : ((upTo d k).map pairV).length ≤ 100000 := by rw [List.length_map, upTo, List.length_map]; exact Nat.le_trans (List.length_filter_le _ _) (by omega)
    simp (disch := first | assumption | decide | decide +kernel) only [sizeB, Nat.reduceAdd, Nat.reduceLeDiff, decide_true, decide_false, Bool.false_eq_true, if_false, if_true, ite_true, ite_false, reduceIte, Bool.not_true, Bool.not_false, Bool.and_true, Bool.true_and, Bool.and_self, decide_eq_true_eq, List.nil_append, List.cons_append, List.append_nil, List.singleton_append,
    defX, bindX, seqX, assignX, nameX, tupSt, asgCons, asgNil, nameSt, constX, retX, retN, exprX, brkX, tupX, lstX, consL, nilL, binX, callX, methX, subX, attrX, attrV, ifX, ifeX, notX, orX, andX, negX, cmpT, boolT, notT, andT, orT, swapX, tgtNames, subStX, newLstX, newDicX, forS, itemsOf, nilX,
    addF_int, subF_int, ltF_int, leF_int, gtF_int, geF_int, isF_bool, isF_nn, isF_in, isNotF_bool, Option.bind_some, Option.bind_none, upd_eq, upd_ne, List.length_cons, List.length_nil, List.filterMap_cons, List.filterMap_nil, List.reverse_cons, List.reverse_nil, eqF_s, eqF_sn, eqF_int, neF_int, eqF_bool, eqF_none_int, item_tup0, item_tup1, item_tup2, item_lst0, valAt_s, valAt_n, V.onInt_int, V.onBool_bool, V.onTup_tup, V.onLst_lst, V.onNone_none, onRef_ref, moL_lst, moI_dic, moS_dic, on1_one, on2_two, onCons_cons, onNil_nil, tupR, lstR, lenR, tupF, lstOf, hz]

theorem from_on_ok (ok : (cx w H mg mb).Ok) : ∃ f, CallOK (cx w H mg mb) 1 (.ref 165) f ∧ ∀ d k mem, d.length ≤ 100 → f [domV d, .int k] mem = some (domV (fromOn d k), mem) := by
  refine' ⟨_, CallOK.def2 (names := ["d", "k"]) ok rfl rfl ?d rfl rfl rfl rfl fun L => ?b, ?s⟩
  case d => (intro ws h; refine len2 h ?_; intros; rfl)
  case b => exact (ExOK.cons (StOK.ret (EvOK.call (bi_tuple ok rfl) (EvsOK.cons (EvOK.comp rfl (loadLocal rfl rfl) (fun _ => rfl) (CompSt.of rfl rfl rfl rfl rfl rfl (fun _ => rfl) (fun _ => rfl) rfl rfl) (fun _ => (LpOK.mk (fun _ _ => (turn1 _ _ _ _ _ _ _ _ _)) (AsgOK.tup (k := 2) (AsgsOK.cons (AsgOK.local rfl) (AsgsOK.cons (AsgOK.local rfl) AsgsOK.nil)) rfl rfl) (TsOK.one (TeOK.cmp (loadLocal rfl rfl) (loadCell rfl rfl) geOK rfl)) (InOK.emit (EvOK.tup (EvsOK.cons (EvOK.call (bi_max ok rfl) (EvsOK.cons (loadLocal rfl rfl) (EvsOK.cons (loadCell rfl rfl) EvsOK.nil rfl) rfl) rfl keepB maxOK rfl) (EvsOK.cons (loadLocal rfl rfl) EvsOK.nil rfl) rfl)))))) EvsOK.nil rfl) rfl keepT tupOK rfl)) ExOK.nil)
  case s =>
    intro d k mem hd
    simp only [domV]
    simp (disch := first | assumption | decide | decide +kernel) only [sizeB, Nat.reduceAdd, Nat.reduceLeDiff, decide_true, decide_false, Bool.false_eq_true, if_false, if_true, ite_true, ite_false, reduceIte, Bool.not_true, Bool.not_false, Bool.and_true, Bool.true_and, Bool.and_self, decide_eq_true_eq, List.nil_append, List.cons_append, List.append_nil, List.singleton_append,
    defX, bindX, seqX, assignX, nameX, tupSt, asgCons, asgNil, nameSt, constX, retX, retN, exprX, brkX, tupX, lstX, consL, nilL, binX, callX, methX, subX, attrX, attrV, ifX, ifeX, notX, orX, andX, negX, cmpT, boolT, notT, andT, orT, swapX, tgtNames, subStX, newLstX, newDicX, forS, itemsOf, nilX,
    addF_int, subF_int, ltF_int, leF_int, gtF_int, geF_int, isF_bool, isF_nn, isF_in, isNotF_bool, Option.bind_some, Option.bind_none, upd_eq, upd_ne, List.length_cons, List.length_nil, List.filterMap_cons, List.filterMap_nil, List.reverse_cons, List.reverse_nil, eqF_s, eqF_sn, eqF_int, neF_int, eqF_bool, eqF_none_int, item_tup0, item_tup1, item_tup2, item_lst0, valAt_s, valAt_n, V.onInt_int, V.onBool_bool, V.onTup_tup, V.onLst_lst, V.onNone_none, onRef_ref, moL_lst, moI_dic, moS_dic, on1_one, on2_two, onCons_cons, onNil_nil, tupR, lstR, lenR, compX]
    generalize hρ : capX _ _ = ρ0
    have hk : ρ0 "k" = some (.int k) := by rw [← hρ]; rfl
    obtain ⟨ρ', e⟩ := from_on_loop k d ρ0 mem [] hk (by simp; omega)
    rw [e]
    have hz : ((fromOn d k).map pairV).length ≤ 100000 := by rw [List.length_map, fromOn, List.length_map]; exact Nat.le_trans (List.length_filter_le _ _) (by omega)
    simp (disch := first | assumption | decide | decide +kernel) only [sizeB, Nat.reduceAdd, Nat.reduceLeDiff, decide_true, decide_false, Bool.false_eq_true, if_false, if_true, ite_true, ite_false, reduceIte, Bool.not_true, Bool.not_false, Bool.and_true, Bool.true_and, Bool.and_self, decide_eq_true_eq, List.nil_append, List.cons_append, List.append_nil, List.singleton_append,
    defX, bindX, seqX, assignX, nameX, tupSt, asgCons, asgNil, nameSt, constX, retX, retN, exprX, brkX, tupX, lstX, consL, nilL, binX, callX, methX, subX, attrX, attrV, ifX, ifeX, notX, orX, andX, negX, cmpT, boolT, notT, andT, orT, swapX, tgtNames, subStX, newLstX, newDicX, forS, itemsOf, nilX,
    addF_int, subF_int, ltF_int, leF_int, gtF_int, geF_int, isF_bool, isF_nn, isF_in, isNotF_bool, Option.bind_some, Option.bind_none, upd_eq, upd_ne, List.length_cons, List.length_nil, List.filterMap_cons, List.filterMap_nil, List.reverse_cons, List.reverse_nil, eqF_s, eqF_sn, eqF_int, neF_int, eqF_bool, eqF_none_int, item_tup0, item_tup1, item_tup2, item_lst0, valAt_s, valAt_n, V.onInt_int, V.onBool_bool, V.onTup_tup, V.onLst_lst, V.onNone_none, onRef_ref, moL_lst, moI_dic, moS_dic, on1_one, on2_two, onCons_cons, onNil_nil, tupR, lstR, lenR, tupF, lstOf, hz]

theorem domV_tup (d : List (Int × Int)) : domV d = .tup (d.map pairV) := rfl
theorem add_dom {a b : List (Int × Int)} (h : a.length + b.length ≤ 1000) (m : List MO) : addF (domV a) (domV b) m = some (domV (a ++ b), m).1 := by
  have hl : (a.map pairV).length + (b.map pairV).length ≤ 5000 := by rw [List.length_map, List.length_map]; omega
  show addF (.tup (a.map pairV)) (.tup (b.map pairV)) m = _
  rw [addF_tup hl, ← List.map_append]; rfl
theorem upTo_len (d : List (Int × Int)) (k : Int) : (upTo d k).length ≤ d.length := by rw [upTo, List.length_map]; exact List.length_filter_le _ _
theorem fromOn_len (d : List (Int × Int)) (k : Int) : (fromOn d k).length ≤ d.length := by rw [fromOn, List.length_map]; exact List.length_filter_le _ _
abbrev DomFn (f : CF) (g : List (Int × Int) → Int → List (Int × Int)) : Prop := ∀ d k mem, d.length ≤ 100 → f [domV d, .int k] mem = some (domV (g d k), mem)
noncomputable def without (d : List (Int × Int)) (v : Int) : List (Int × Int) := upTo d (v - 1) ++ fromOn d (v + 1)
theorem without_ok (ok : (cx w H mg mb).Ok) {f1 f2 : CF} (h1 : CallOK (cx w H mg mb) 1 (.ref 160) f1) (s1 : DomFn f1 upTo) (h2 : CallOK (cx w H mg mb) 1 (.ref 165) f2) (s2 : DomFn f2 fromOn) : ∃ f, CallOK (cx w H mg mb) 2 (.ref 172) f ∧ DomFn f without := by
  refine' ⟨_, CallOK.def2 (names := ["d", "v"]) ok rfl rfl ?d rfl rfl rfl rfl fun L => ?b, ?s⟩
  case d => (intro ws h; refine len2 h ?_; intros; rfl)
  case b => exact (ExOK.cons (StOK.ret (EvOK.bin (EvOK.call (loadGlobal' ok rfl rfl rfl) (EvsOK.cons (loadLocal rfl rfl) (EvsOK.cons (EvOK.bin (loadLocal rfl rfl) EvOK.int subOK) EvsOK.nil rfl) rfl) rfl (KeepOK.fn ok rfl) (CallOK.up h1 (by decide)) rfl) (EvOK.call (loadGlobal' ok rfl rfl rfl) (EvsOK.cons (loadLocal rfl rfl) (EvsOK.cons (EvOK.bin (loadLocal rfl rfl) EvOK.int addOK) EvsOK.nil rfl) rfl) rfl (KeepOK.fn ok rfl) (CallOK.up h2 (by decide)) rfl) addOK)) ExOK.nil)
  case s =>
    intro d v mem hd
    have e1 := s1 d (v - 1) mem hd
    have e2 := s2 d (v + 1) mem hd
    have e3 : ∀ m, addF (domV (upTo d (v - 1))) (domV (fromOn d (v + 1))) m = some (domV (upTo d (v - 1) ++ fromOn d (v + 1))) := fun m => add_dom (by have := upTo_len d (v - 1); have := fromOn_len d (v + 1); omega) m
    simp (disch := first | assumption | decide | decide +kernel) only [sizeB, Nat.reduceAdd, Nat.reduceLeDiff, decide_true, decide_false, Bool.false_eq_true, if_false, if_true, ite_true, ite_false, reduceIte, Bool.not_true, Bool.not_false, Bool.and_true, Bool.true_and, Bool.and_self, decide_eq_true_eq, List.nil_append, List.cons_append, List.append_nil, List.singleton_append,
    defX, bindX, seqX, assignX, nameX, tupSt, asgCons, asgNil, nameSt, constX, retX, retN, exprX, brkX, tupX, lstX, consL, nilL, binX, callX, methX, subX, attrX, attrV, ifX, ifeX, notX, orX, andX, negX, cmpT, boolT, notT, andT, orT, swapX, tgtNames, subStX, newLstX, newDicX, forS, itemsOf, nilX,
    addF_int, subF_int, ltF_int, leF_int, gtF_int, geF_int, isF_bool, isF_nn, isF_in, isNotF_bool, Option.bind_some, Option.bind_none, upd_eq, upd_ne, List.length_cons, List.length_nil, List.filterMap_cons, List.filterMap_nil, List.reverse_cons, List.reverse_nil, eqF_s, eqF_sn, eqF_int, neF_int, eqF_bool, eqF_none_int, item_tup0, item_tup1, item_tup2, item_lst0, valAt_s, valAt_n, V.onInt_int, V.onBool_bool, V.onTup_tup, V.onLst_lst, V.onNone_none, onRef_ref, moL_lst, moI_dic, moS_dic, on1_one, on2_two, onCons_cons, onNil_nil, tupR, lstR, lenR, e1, e2, e3, without]
/-- the size of a domain -/
noncomputable def sizeD (d : List (Int × Int)) : Int := (d.map fun p => p.2 - p.1 + 1).sum
theorem size_loop : ∀ (d : List (Int × Int)) (ρ : Rho) (m : List MO) (acc : List V), acc.length + d.length ≤ 1000 →
    ∃ ρ', loopB (tupSt (asgCons (nameSt "low") (asgCons (nameSt "high") asgNil)) 2) trueT (emitB (binX (binX (nameX "high") (nameX "low") subF) (constX (.int 1)) addF)) (d.map pairV) ρ m acc = some (ρ', m, acc ++ (d.map fun p => V.int (p.2 - p.1 + 1)))
  | [], ρ, m, acc, _ => ⟨ρ, by simp [loopB]⟩
  | p :: d, ρ, m, acc, hz => by
    rw [List.length_cons] at hz
    have hz1 : acc.length ≤ 100000 := by omega
    obtain ⟨ρ', e⟩ := size_loop d (upd (upd ρ "low" (.int p.1)) "high" (.int p.2)) m (acc ++ [.int (p.2 - p.1 + 1)]) (by rw [List.length_append]; show acc.length + 1 + d.length ≤ 1000; omega)
    refine ⟨ρ', ?_⟩
    rw [List.map_cons, pairV, loopB]
    simp (disch := first | assumption | decide | decide +kernel) only [sizeB, Nat.reduceAdd, Nat.reduceLeDiff, decide_true, decide_false, Bool.false_eq_true, if_false, if_true, ite_true, ite_false, reduceIte, Bool.not_true, Bool.not_false, Bool.and_true, Bool.true_and, Bool.and_self, decide_eq_true_eq, List.nil_append, List.cons_append, List.append_nil, List.singleton_append,
    defX, bindX, seqX, assignX, nameX, tupSt, asgCons, asgNil, nameSt, constX, retX, retN, exprX, brkX, tupX, lstX, consL, nilL, binX, callX, methX, subX, attrX, attrV, ifX, ifeX, notX, orX, andX, negX, cmpT, boolT, notT, andT, orT, swapX, tgtNames, subStX, newLstX, newDicX, forS, itemsOf, nilX,
    addF_int, subF_int, ltF_int, leF_int, gtF_int, geF_int, isF_bool, isF_nn, isF_in, isNotF_bool, Option.bind_some, Option.bind_none, upd_eq, upd_ne, List.length_cons, List.length_nil, List.filterMap_cons, List.filterMap_nil, List.reverse_cons, List.reverse_nil, eqF_s, eqF_sn, eqF_int, neF_int, eqF_bool, eqF_none_int, item_tup0, item_tup1, item_tup2, item_lst0, valAt_s, valAt_n, V.onInt_int, V.onBool_bool, V.onTup_tup, V.onLst_lst, V.onNone_none, onRef_ref, moL_lst, moI_dic, moS_dic, on1_one, on2_two, onCons_cons, onNil_nil, tupR, lstR, lenR, emitB, trueT, hz1]
    refine e.trans ?_
    simp
theorem size_ok (ok : (cx w H mg mb).Ok) : ∃ f, CallOK (cx w H mg mb) 1 (.ref 134) f ∧ ∀ d mem, d.length ≤ 100 → f [domV d] mem = some (.int (sizeD d), mem) := by
  refine' ⟨_, CallOK.def2 (names := ["d"]) ok rfl rfl ?d rfl rfl rfl rfl fun L => ?b, ?s⟩
  case d => (intro ws h; refine len1 h ?_; intros; rfl)
  case b => exact (ExOK.cons (StOK.ret (EvOK.call (bi_sum ok rfl) (EvsOK.cons (EvOK.comp rfl (loadLocal rfl rfl) (fun _ => rfl) (CompSt.of rfl rfl rfl rfl rfl rfl (fun _ => rfl) (fun _ => rfl) rfl rfl) (fun _ => (LpOK.mk (fun _ _ => (turn1 _ _ _ _ _ _ _ _ _)) (AsgOK.tup (k := 2) (AsgsOK.cons (AsgOK.local rfl) (AsgsOK.cons (AsgOK.local rfl) AsgsOK.nil)) rfl rfl) TsOK.nil (InOK.emit (EvOK.bin (EvOK.bin (loadLocal rfl rfl) (loadLocal rfl rfl) subOK) EvOK.int addOK))))) EvsOK.nil rfl) rfl keepB sumOK rfl)) ExOK.nil)
  case s =>
    intro d mem hd
    simp only [domV]
    simp (disch := first | assumption | decide | decide +kernel) only [sizeB, Nat.reduceAdd, Nat.reduceLeDiff, decide_true, decide_false, Bool.false_eq_true, if_false, if_true, ite_true, ite_false, reduceIte, Bool.not_true, Bool.not_false, Bool.and_true, Bool.true_and, Bool.and_self, decide_eq_true_eq, List.nil_append, List.cons_append, List.append_nil, List.singleton_append,
    defX, bindX, seqX, assignX, nameX, tupSt, asgCons, asgNil, nameSt, constX, retX, retN, exprX, brkX, tupX, lstX, consL, nilL, binX, callX, methX, subX, attrX, attrV, ifX, ifeX, notX, orX, andX, negX, cmpT, boolT, notT, andT, orT, swapX, tgtNames, subStX, newLstX, newDicX, forS, itemsOf, nilX,
    addF_int, subF_int, ltF_int, leF_int, gtF_int, geF_int, isF_bool, isF_nn, isF_in, isNotF_bool, Option.bind_some, Option.bind_none, upd_eq, upd_ne, List.length_cons, List.length_nil, List.filterMap_cons, List.filterMap_nil, List.reverse_cons, List.reverse_nil, eqF_s, eqF_sn, eqF_int, neF_int, eqF_bool, eqF_none_int, item_tup0, item_tup1, item_tup2, item_lst0, valAt_s, valAt_n, V.onInt_int, V.onBool_bool, V.onTup_tup, V.onLst_lst, V.onNone_none, onRef_ref, moL_lst, moI_dic, moS_dic, on1_one, on2_two, onCons_cons, onNil_nil, tupR, lstR, lenR, compX]
    generalize hρ : capX _ _ = ρ0
    obtain ⟨ρ', e⟩ := size_loop d ρ0 mem [] (by simp; omega)
    rw [e]
    have ht : toInts (d.map fun p => V.int (p.2 - p.1 + 1)) = some (d.map fun p => p.2 - p.1 + 1) := by
      have := toInts_map (d.map fun p => p.2 - p.1 + 1)
      rwa [List.map_map] at this
    simp (disch := first | assumption | decide | decide +kernel) only [sizeB, Nat.reduceAdd, Nat.reduceLeDiff, decide_true, decide_false, Bool.false_eq_true, if_false, if_true, ite_true, ite_false, reduceIte, Bool.not_true, Bool.not_false, Bool.and_true, Bool.true_and, Bool.and_self, decide_eq_true_eq, List.nil_append, List.cons_append, List.append_nil, List.singleton_append,
    defX, bindX, seqX, assignX, nameX, tupSt, asgCons, asgNil, nameSt, constX, retX, retN, exprX, brkX, tupX, lstX, consL, nilL, binX, callX, methX, subX, attrX, attrV, ifX, ifeX, notX, orX, andX, negX, cmpT, boolT, notT, andT, orT, swapX, tgtNames, subStX, newLstX, newDicX, forS, itemsOf, nilX,
    addF_int, subF_int, ltF_int, leF_int, gtF_int, geF_int, isF_bool, isF_nn, isF_in, isNotF_bool, Option.bind_some, Option.bind_none, upd_eq, upd_ne, List.length_cons, List.length_nil, List.filterMap_cons, List.filterMap_nil, List.reverse_cons, List.reverse_nil, eqF_s, eqF_sn, eqF_int, neF_int, eqF_bool, eqF_none_int, item_tup0, item_tup1, item_tup2, item_lst0, valAt_s, valAt_n, V.onInt_int, V.onBool_bool, V.onTup_tup, V.onLst_lst, V.onNone_none, onRef_ref, moL_lst, moI_dic, moS_dic, on1_one, on2_two, onCons_cons, onNil_nil, tupR, lstR, lenR, sumF, lstOf, ht, sizeD]
end
end Mine
-- S4
namespace Mine

/-- the numbers of an interval, of a domain -/
noncomputable def rngI (a b : Int) : List Int := (List.range (b + 1 - a).toNat).map fun i => a + (i : Nat)
noncomputable def numsD (d : List (Int × Int)) : List Int := d.flatMap fun p => rngI p.1 p.2
noncomputable def SmallD (d : List (Int × Int)) : Prop := ∀ p ∈ d, -1000 ≤ p.1 ∧ p.1 ≤ 1000 ∧ -1000 ≤ p.2 ∧ p.2 ≤ 1000 ∧ p.2 - p.1 ≤ 20
theorem rngInts_eq (a b : Int) : rngInts a (b + 1 - a).toNat = (rngI a b).map V.int := by unfold rngInts rngI; rw [List.map_map]; rfl
theorem rngI_len (a b : Int) (h : b - a ≤ 20) : (rngI a b).length ≤ 21 := by unfold rngI; rw [List.length_map, List.length_range]; omega
theorem values_loop (k : Nat) : ∀ (d : List (Int × Int)) (ρ : Rho) (m : List MO) (acc : List V), SmallD d → m[k]? = some (.lst acc) → ρ "found" = some (.ref k) → acc.length + 21 * d.length ≤ 5000 →
    ∃ ρ', forX (tupSt (asgCons (nameSt "low") (asgCons (nameSt "high") asgNil)) 2) (seqX (exprX (methX isLst extendF (nameX "found") (consL (callX rangeF (consL (nameX "low") (consL (binX (nameX "high") (constX (.int 1)) addF) nilL))) nilL))) nilX) (d.map pairV) ρ m = some (.next, ρ', m.set k (.lst (acc ++ (numsD d).map V.int))) ∧ ρ' "found" = some (.ref k)
  | [], ρ, m, acc, _, hm, hr, _ => by
    have hk : k < m.length := (List.getElem?_eq_some_iff.mp hm).1
    refine ⟨ρ, ?_, hr⟩
    have e : m.set k (.lst acc) = m := by
      apply List.ext_getElem?
      intro i
      by_cases q : i = k
      · subst q; rw [List.getElem?_set_self hk, hm]
      · rw [List.getElem?_set_ne (Ne.symm q)]
    simp [forX, numsD, e]
  | p :: d, ρ, m, acc, hs, hm, hr, hz => by
    have hk : k < m.length := (List.getElem?_eq_some_iff.mp hm).1
    rw [List.length_cons] at hz
    obtain ⟨p1, p2, p3, p4, p5⟩ := hs p (.head _)
    have hr' : (upd (upd ρ "low" (.int p.1)) "high" (.int p.2)) "found" = some (.ref k) := by rw [upd_ne (by decide), upd_ne (by decide)]; exact hr
    have b1 : -1000000000 ≤ p.1 ∧ p.1 ≤ 1000000000 := by omega
    have b2 : -1000000000 ≤ p.2 + 1 ∧ p.2 + 1 ≤ 1000000000 := by omega
    have b3 : (p.2 + 1 - p.1).toNat ≤ 1000 := by omega
    have b4 : acc.length ≤ 5000 := by omega
    have hx := extend_ref hm b1 b2 b3 b4
    have hi := isLst_ref hm
    rw [rngInts_eq] at hx
    have hl := rngI_len p.1 p.2 p5
    obtain ⟨ρ', e, er⟩ := values_loop k d (upd (upd ρ "low" (.int p.1)) "high" (.int p.2)) (m.set k (.lst (acc ++ (rngI p.1 p.2).map V.int))) (acc ++ (rngI p.1 p.2).map V.int) (fun q hq => hs q (.tail _ hq)) (List.getElem?_set_self hk) hr' (by rw [List.length_append, List.length_map]; omega)
    refine ⟨ρ', ?_, er⟩
    rw [List.map_cons, pairV, forX]
    simp (disch := first | assumption | decide | decide +kernel) only [sizeB, Nat.reduceAdd, Nat.reduceLeDiff, decide_true, decide_false, Bool.false_eq_true, if_false, if_true, ite_true, ite_false, reduceIte, Bool.not_true, Bool.not_false, Bool.and_true, Bool.true_and, Bool.and_self, decide_eq_true_eq, List.nil_append, List.cons_append, List.append_nil, List.singleton_append,
    defX, bindX, seqX, assignX, nameX, tupSt, asgCons, asgNil, nameSt, constX, retX, retN, exprX, brkX, tupX, lstX, consL, nilL, binX, callX, methX, subX, attrX, attrV, ifX, ifeX, notX, orX, andX, negX, cmpT, boolT, notT, andT, orT, swapX, tgtNames, subStX, newLstX, newDicX, forS, itemsOf, nilX,
    addF_int, subF_int, ltF_int, leF_int, gtF_int, geF_int, isF_bool, isF_nn, isF_in, isNotF_bool, Option.bind_some, Option.bind_none, upd_eq, upd_ne, List.length_cons, List.length_nil, List.filterMap_cons, List.filterMap_nil, List.reverse_cons, List.reverse_nil, eqF_s, eqF_sn, eqF_int, neF_int, eqF_bool, eqF_none_int, item_tup0, item_tup1, item_tup2, item_lst0, valAt_s, valAt_n, V.onInt_int, V.onBool_bool, V.onTup_tup, V.onLst_lst, V.onNone_none, onRef_ref, moL_lst, moI_dic, moS_dic, on1_one, on2_two, onCons_cons, onNil_nil, tupR, lstR, lenR, hr, hi, rangeF, hx]
    refine e.trans ?_
    rw [List.set_set]
    simp [numsD]
section
variable {w : World} {H : Heap} {mg mb : Str → Option Value}
theorem set_last {m : List MO} {o o' : MO} : (m ++ [o]).set m.length o' = m ++ [o'] := by rw [List.set_append_right _ _ (Nat.le_refl _)]; simp
theorem get_last {m : List MO} {o : MO} : (m ++ [o])[m.length]? = some o := by rw [List.getElem?_append_right (Nat.le_refl _), Nat.sub_self]; rfl
theorem clean_lot (ns : List Int) : clean 0 (lotV ns) = true := by unfold lotV; rw [clean]; exact cleanL_ints 0 ns
theorem values_ok (ok : (cx w H mg mb).Ok) : ∃ f, CallOK (cx w H mg mb) 1 (.ref 155) f ∧ ∀ d mem, SmallD d → d.length ≤ 100 → FlatM mem → f [domV d] mem = some (lotV (numsD d), mem) := by
  refine' ⟨_, CallOK.trim (CallOK.def2 (names := ["d"]) ok rfl rfl ?d rfl rfl rfl rfl fun L => ?b), ?s⟩
  case d => (intro ws h; refine len1 h ?_; intros; rfl)
  case b => exact (ExOK.cons (StOK.assign (EvOK.newLst ok) (AsgOK.local rfl) rfl rfl rfl) (ExOK.cons (StOK.for (loadLocal rfl rfl) (AsgOK.tup (k := 2) (AsgsOK.cons (AsgOK.local rfl) (AsgsOK.cons (AsgOK.local rfl) AsgsOK.nil)) rfl rfl) (ExOK.cons (StOK.expr (EvOK.meth (loadLocal rfl rfl) (EvsOK.cons (EvOK.call (bi_range ok rfl) (EvsOK.cons (loadLocal rfl rfl) (EvsOK.cons (EvOK.bin (loadLocal rfl rfl) EvOK.int addOK) EvsOK.nil rfl) rfl) rfl keepT rangeOK rfl) EvsOK.nil rfl) rfl (MethOK.list PySem.F.slot_list_extend rfl) keepB extendOK rfl rfl rfl) rfl rfl) ExOK.nil) (fun _ => rfl)) (ExOK.freeze "found" (ExOK.cons (StOK.ret (loadLocal rfl rfl)) ExOK.nil))))
  case s =>
    intro d mem hs hd hF
    refine trimC_of (j := [.dead]) ?_ rfl (clean_lot _) hF
    simp only [domV]
    obtain ⟨ρ', e, er⟩ := values_loop mem.length d (upd (upd (fun _ => none) "d" (.tup (d.map pairV))) "found" (.ref mem.length)) (mem ++ [.lst []]) [] hs get_last rfl (by simp; omega)
    rw [set_last, List.nil_append] at e
    have g := get_last (m := mem) (o := .lst ((numsD d).map V.int))
    simp (disch := first | assumption | decide | decide +kernel) only [sizeB, Nat.reduceAdd, Nat.reduceLeDiff, decide_true, decide_false, Bool.false_eq_true, if_false, if_true, ite_true, ite_false, reduceIte, Bool.not_true, Bool.not_false, Bool.and_true, Bool.true_and, Bool.and_self, decide_eq_true_eq, List.nil_append, List.cons_append, List.append_nil, List.singleton_append,
    defX, bindX, seqX, assignX, nameX, tupSt, asgCons, asgNil, nameSt, constX, retX, retN, exprX, brkX, tupX, lstX, consL, nilL, binX, callX, methX, subX, attrX, attrV, ifX, ifeX, notX, orX, andX, negX, cmpT, boolT, notT, andT, orT, swapX, tgtNames, subStX, newLstX, newDicX, forS, itemsOf, nilX,
    addF_int, subF_int, ltF_int, leF_int, gtF_int, geF_int, isF_bool, isF_nn, isF_in, isNotF_bool, Option.bind_some, Option.bind_none, upd_eq, upd_ne, List.length_cons, List.length_nil, List.filterMap_cons, List.filterMap_nil, List.reverse_cons, List.reverse_nil, eqF_s, eqF_sn, eqF_int, neF_int, eqF_bool, eqF_none_int, item_tup0, item_tup1, item_tup2, item_lst0, valAt_s, valAt_n, V.onInt_int, V.onBool_bool, V.onTup_tup, V.onLst_lst, V.onNone_none, onRef_ref, moL_lst, moI_dic, moS_dic, on1_one, on2_two, onCons_cons, onNil_nil, tupR, lstR, lenR, e, frzX, er, g, set_last, lotV]
end
end Mine
-- S5
namespace Mine

noncomputable def meetK (k : Int) : List (Int × Int) → List (Int × Int)
  | [] => []
  | p :: ps => if p.2 < k then meetK k ps else if p.1 ≤ k then [(k, k)] else []
structure MeetI (d : List (Int × Int)) (k : Int) (m0 : List MO) (ρ : Rho) (m : List MO) (i j : Nat) (acc : List V) : Prop where
  d : ρ "d" = some (domV d)
  e : ρ "e" = some (domV [(k, k)])
  f : ρ "found" = some (.ref m0.length)
  i : ρ "i" = some (.int (i : Nat))
  j : ρ "j" = some (.int (j : Nat))
  m : m = m0 ++ [.lst acc]
theorem meet_while {d : List (Int × Int)} {k : Int} {m0 : List MO} {T : TF} {B : SF}
    (hT : ∀ ρ m i j acc, MeetI d k m0 ρ m i j acc → T ρ m = some (decide (i < d.length) && decide (j < 1), m))
    (hB : ∀ ρ m i acc p, MeetI d k m0 ρ m i 0 acc → d[i]? = some p → acc.length ≤ 2 → ∃ ρ' m' , B ρ m = some (.next, ρ', m') ∧ MeetI d k m0 ρ' m' (if p.2 < k then i + 1 else i) (if p.2 < k then 0 else 1) (acc ++ if maxI p.1 k ≤ minI p.2 k then [pairV (maxI p.1 k, minI p.2 k)] else [])) :
    ∀ (rest : List (Int × Int)) (fuel i : Nat) (ρ : Rho) (m : List MO), d.drop i = rest → rest.length + 3 ≤ fuel → MeetI d k m0 ρ m i 0 [] →
      ∃ ρ', whileX T B fuel ρ m = some (.next, ρ', m0 ++ [.lst ((meetK k rest).map pairV)]) ∧ ρ' "found" = some (.ref m0.length)
  | [], fuel, i, ρ, m, hd, hf, I => by
    obtain ⟨fuel, rfl⟩ : ∃ f, fuel = f + 1 := ⟨fuel - 1, by omega⟩
    have hi : d.length ≤ i := List.drop_eq_nil_iff.mp hd
    refine ⟨ρ, ?_, I.f⟩
    have : decide (i < d.length) = false := by simpa using hi
    rw [while_end (m' := m) (by rw [hT ρ m i 0 [] I, this]; rfl), I.m]; rfl
  | p :: ps, fuel, i, ρ, m, hd, hf, I => by
    obtain ⟨fuel, rfl⟩ : ∃ f, fuel = f + 1 := ⟨fuel - 1, by omega⟩
    rw [List.length_cons] at hf
    have hp : d[i]? = some p := by
      have := congrArg (fun l => l[0]?) hd
      simpa [List.getElem?_drop] using this
    have hi : i < d.length := (List.getElem?_eq_some_iff.mp hp).1
    have hd' : d.drop (i + 1) = ps := by
      have := congrArg (List.drop 1) hd
      simpa [List.drop_drop, Nat.add_comm] using this
    obtain ⟨ρ', m', e, I'⟩ := hB ρ m i [] p I hp (Nat.zero_le _)
    have e0 : whileX T B (fuel + 1) ρ m = whileX T B fuel ρ' m' := by
      have : decide (i < d.length) = true := by simpa using hi
      exact while_next (by rw [hT ρ m i 0 [] I, this]; rfl) e
    rw [e0]
    by_cases c : p.2 < k
    · have hno : ¬ (maxI p.1 k ≤ minI p.2 k) := by unfold maxI minI; split <;> split <;> omega
      rw [if_pos c, if_pos c, if_neg hno] at I'
      obtain ⟨ρ'', e2, f2⟩ := meet_while hT hB ps fuel (i + 1) ρ' m' hd' (by omega) I'
      exact ⟨ρ'', by rw [e2, meetK, if_pos c], f2⟩
    · rw [if_neg c, if_neg c] at I'
      obtain ⟨fuel, rfl⟩ : ∃ f, fuel = f + 1 := ⟨fuel - 1, by omega⟩
      refine ⟨ρ', ?_, I'.f⟩
      rw [while_end (m' := m') (by rw [hT ρ' m' _ _ _ I', show decide (1 < 1) = false from rfl, Bool.and_false]), I'.m, meetK, if_neg c]
      by_cases c2 : p.1 ≤ k
      · have e1 : maxI p.1 k = k := by unfold maxI; split <;> omega
        have e2 : minI p.2 k = k := by unfold minI; split <;> omega
        rw [e1, e2, if_pos (Int.le_refl k), if_pos c2]; rfl
      · have hno : ¬ (maxI p.1 k ≤ minI p.2 k) := by unfold maxI minI; split <;> split <;> omega
        rw [if_neg hno, if_neg c2]; rfl
theorem meetK_len (k : Int) : ∀ d, (meetK k d).length ≤ 1
  | [] => Nat.zero_le _
  | p :: ps => by
    rw [meetK]
    split
    · exact meetK_len k ps
    · split <;> simp
section
variable {w : World} {H : Heap} {mg mb : Str → Option Value}
theorem clean_dom : ∀ (d : List (Int × Int)), clean 0 (domV d) = true := fun d => by
  unfold domV
  rw [clean]
  induction d with
  | nil => rw [List.map_nil, cleanL]
  | cons p d ih => rw [List.map_cons, cleanL, ih, pairV, clean]; rfl
theorem meet_ok (ok : (cx w H mg mb).Ok) : ∃ f, CallOK (cx w H mg mb) 1 (.ref 179) f ∧ ∀ d k mem, d.length ≤ 50 → FlatM mem → f [domV d, domV [(k, k)]] mem = some (domV (meetK k d), mem) := by
  refine' ⟨_, CallOK.trim (CallOK.def2 (names := ["d", "e"]) ok rfl rfl ?d rfl rfl rfl rfl fun L => ?b), ?s⟩
  case d => (intro ws h; refine len2 h ?_; intros; rfl)
  case b => exact (ExOK.cons (StOK.swap2 (EvOK.tup (EvsOK.cons (EvOK.newLst ok) (EvsOK.cons EvOK.int (EvsOK.cons EvOK.int EvsOK.nil rfl) rfl) rfl)) rfl rfl rfl) (ExOK.cons (StOK.whl (TeOK.and (TeOK.cmp (loadLocal rfl rfl) (EvOK.call (bi_len ok rfl) (EvsOK.cons (loadLocal rfl rfl) EvsOK.nil rfl) rfl keepB lenOK rfl) ltOK rfl) (TeOK.cmp (loadLocal rfl rfl) (EvOK.call (bi_len ok rfl) (EvsOK.cons (loadLocal rfl rfl) EvsOK.nil rfl) rfl keepB lenOK rfl) ltOK rfl)) (ExOK.cons (StOK.swap2 (EvOK.tup (EvsOK.cons (EvOK.call (bi_max ok rfl) (EvsOK.cons (EvOK.sub (EvOK.sub (loadLocal rfl rfl) (loadLocal rfl rfl) (fun _ _ => rfl)) EvOK.int (fun _ _ => rfl)) (EvsOK.cons (EvOK.sub (EvOK.sub (loadLocal rfl rfl) (loadLocal rfl rfl) (fun _ _ => rfl)) EvOK.int (fun _ _ => rfl)) EvsOK.nil rfl) rfl) rfl keepB maxOK rfl) (EvsOK.cons (EvOK.call (bi_min ok rfl) (EvsOK.cons (EvOK.sub (EvOK.sub (loadLocal rfl rfl) (loadLocal rfl rfl) (fun _ _ => rfl)) EvOK.int (fun _ _ => rfl)) (EvsOK.cons (EvOK.sub (EvOK.sub (loadLocal rfl rfl) (loadLocal rfl rfl) (fun _ _ => rfl)) EvOK.int (fun _ _ => rfl)) EvsOK.nil rfl) rfl) rfl keepB minOK rfl) EvsOK.nil rfl) rfl)) rfl rfl rfl) (ExOK.cons (StOK.ite (TeOK.cmp (loadLocal rfl rfl) (loadLocal rfl rfl) leOK rfl) (ExOK.cons (StOK.expr (EvOK.meth (loadLocal rfl rfl) (EvsOK.cons (EvOK.tup (EvsOK.cons (loadLocal rfl rfl) (EvsOK.cons (loadLocal rfl rfl) EvsOK.nil rfl) rfl)) EvsOK.nil rfl) rfl (MethOK.list PySem.F.slot_list_append rfl) keepB appendOK rfl rfl rfl) rfl rfl) ExOK.nil) ExOK.nil) (ExOK.cons (StOK.ite (TeOK.cmp (EvOK.sub (EvOK.sub (loadLocal rfl rfl) (loadLocal rfl rfl) (fun _ _ => rfl)) EvOK.int (fun _ _ => rfl)) (EvOK.sub (EvOK.sub (loadLocal rfl rfl) (loadLocal rfl rfl) (fun _ _ => rfl)) EvOK.int (fun _ _ => rfl)) ltOK rfl) (ExOK.cons (StOK.assign (EvOK.bin (loadLocal rfl rfl) EvOK.int addOK) (AsgOK.local rfl) rfl rfl rfl) ExOK.nil) (ExOK.cons (StOK.assign (EvOK.bin (loadLocal rfl rfl) EvOK.int addOK) (AsgOK.local rfl) rfl rfl rfl) ExOK.nil)) ExOK.nil))) 64) (ExOK.cons (StOK.ret (EvOK.call (bi_tuple ok rfl) (EvsOK.cons (loadLocal rfl rfl) EvsOK.nil rfl) rfl keepT tupOK rfl)) ExOK.nil)))
  case s =>
    intro d k mem hd hF
    refine trimC_of (j := [.lst ((meetK k d).map pairV)]) ?_ rfl (clean_dom _) hF
    simp (disch := first | assumption | decide | decide +kernel) only [sizeB, Nat.reduceAdd, Nat.reduceLeDiff, decide_true, decide_false, Bool.false_eq_true, if_false, if_true, ite_true, ite_false, reduceIte, Bool.not_true, Bool.not_false, Bool.and_true, Bool.true_and, Bool.and_self, decide_eq_true_eq, List.nil_append, List.cons_append, List.append_nil, List.singleton_append,
    defX, bindX, seqX, assignX, nameX, tupSt, asgCons, asgNil, nameSt, constX, retX, retN, exprX, brkX, tupX, lstX, consL, nilL, binX, callX, methX, subX, attrX, attrV, ifX, ifeX, notX, orX, andX, negX, cmpT, boolT, notT, andT, orT, swapX, tgtNames, subStX, newLstX, newDicX, forS, itemsOf, nilX,
    addF_int, subF_int, ltF_int, leF_int, gtF_int, geF_int, isF_bool, isF_nn, isF_in, isNotF_bool, Option.bind_some, Option.bind_none, upd_eq, upd_ne, List.length_cons, List.length_nil, List.filterMap_cons, List.filterMap_nil, List.reverse_cons, List.reverse_nil, eqF_s, eqF_sn, eqF_int, neF_int, eqF_bool, eqF_none_int, item_tup0, item_tup1, item_tup2, item_lst0, valAt_s, valAt_n, V.onInt_int, V.onBool_bool, V.onTup_tup, V.onLst_lst, V.onNone_none, onRef_ref, moL_lst, moI_dic, moS_dic, on1_one, on2_two, onCons_cons, onNil_nil, tupR, lstR, lenR]
    generalize hρ : upd _ "found" _ = ρ0
    have I : MeetI d k mem ρ0 (mem ++ [.lst []]) 0 0 [] := by
      subst hρ
      exact ⟨rfl, rfl, rfl, rfl, rfl, rfl⟩
    generalize hW : whileX _ _ 64 ρ0 _ = W
    have key : ∃ ρ', W = some (.next, ρ', mem ++ [.lst ((meetK k d).map pairV)]) ∧ ρ' "found" = some (.ref mem.length) := by
      rw [← hW]
      refine meet_while (d := d) (k := k) (m0 := mem) ?hT ?hB d 64 0 ρ0 _ rfl (by omega) I
      case hT =>
        intro ρ m i j acc I
        have l1 : ∀ m, lenF [domV d] m = some (.int d.length, m) := fun m => by
          have := len_tup (l := d.map pairV) (by rw [List.length_map]; omega) m
          rw [List.length_map] at this; exact this
        have l2 : ∀ m, lenF [domV [(k, k)]] m = some (.int 1, m) := fun m => rfl
        have z1 : decide ((i : Int) < (d.length : Int)) = decide (i < d.length) := by simp
        have z2 : decide ((j : Int) < 1) = decide (j < 1) := by rw [Bool.eq_iff_iff]; simp; omega
        simp (disch := first | assumption | decide | decide +kernel) only [sizeB, Nat.reduceAdd, Nat.reduceLeDiff, decide_true, decide_false, Bool.false_eq_true, if_false, if_true, ite_true, ite_false, reduceIte, Bool.not_true, Bool.not_false, Bool.and_true, Bool.true_and, Bool.and_self, decide_eq_true_eq, List.nil_append, List.cons_append, List.append_nil, List.singleton_append,
    defX, bindX, seqX, assignX, nameX, tupSt, asgCons, asgNil, nameSt, constX, retX, retN, exprX, brkX, tupX, lstX, consL, nilL, binX, callX, methX, subX, attrX, attrV, ifX, ifeX, notX, orX, andX, negX, cmpT, boolT, notT, andT, orT, swapX, tgtNames, subStX, newLstX, newDicX, forS, itemsOf, nilX,
    addF_int, subF_int, ltF_int, leF_int, gtF_int, geF_int, isF_bool, isF_nn, isF_in, isNotF_bool, Option.bind_some, Option.bind_none, upd_eq, upd_ne, List.length_cons, List.length_nil, List.filterMap_cons, List.filterMap_nil, List.reverse_cons, List.reverse_nil, eqF_s, eqF_sn, eqF_int, neF_int, eqF_bool, eqF_none_int, item_tup0, item_tup1, item_tup2, item_lst0, valAt_s, valAt_n, V.onInt_int, V.onBool_bool, V.onTup_tup, V.onLst_lst, V.onNone_none, onRef_ref, moL_lst, moI_dic, moS_dic, on1_one, on2_two, onCons_cons, onNil_nil, tupR, lstR, lenR, I.d, I.e, I.f, I.i, I.j, l1, l2, z1, z2]
        by_cases q : i < d.length <;> simp [q]
      case hB =>
        intro ρ m i acc p I hp hz
        have hi : i < d.length := (List.getElem?_eq_some_iff.mp hp).1
        have hj : ρ "j" = some (.int 0) := I.j
        have i1 : ∀ m, itemF (domV d) (.int (i : Int)) m = some (pairV p) := fun m => item_tup (by rw [List.getElem?_map, hp]; rfl) (by omega) m
        have i2 : ∀ m, itemF (domV [(k, k)]) (.int 0) m = some (pairV (k, k)) := fun m => item_tup0 _ _ m
        have ip0 : ∀ (p : Int × Int) m, itemF (pairV p) (.int 0) m = some (.int p.1) := fun p m => item_tup0 _ _ m
        have ip1 : ∀ (p : Int × Int) m, itemF (pairV p) (.int 1) m = some (.int p.2) := fun p m => item_tup1 _ _ _ m
        have g : m[mem.length]? = some (.lst acc) := by rw [I.m]; exact get_last
        have il := isLst_ref g
        have ap : ∀ v, appendF [.ref mem.length, v] m = some (.none, mem ++ [.lst (acc ++ [v])]) := fun v => by rw [append_ref g (by omega), I.m, set_last]
        have em := I.m
        by_cases c1 : maxI p.1 k ≤ minI p.2 k
        · by_cases c2 : p.2 < k
          · refine' ⟨_, _, ?e1, ?I1⟩
            case e1 =>
              simp (disch := first | assumption | decide | decide +kernel) only [sizeB, Nat.reduceAdd, Nat.reduceLeDiff, decide_true, decide_false, Bool.false_eq_true, if_false, if_true, ite_true, ite_false, reduceIte, Bool.not_true, Bool.not_false, Bool.and_true, Bool.true_and, Bool.and_self, decide_eq_true_eq, List.nil_append, List.cons_append, List.append_nil, List.singleton_append,
    defX, bindX, seqX, assignX, nameX, tupSt, asgCons, asgNil, nameSt, constX, retX, retN, exprX, brkX, tupX, lstX, consL, nilL, binX, callX, methX, subX, attrX, attrV, ifX, ifeX, notX, orX, andX, negX, cmpT, boolT, notT, andT, orT, swapX, tgtNames, subStX, newLstX, newDicX, forS, itemsOf, nilX,
    addF_int, subF_int, ltF_int, leF_int, gtF_int, geF_int, isF_bool, isF_nn, isF_in, isNotF_bool, Option.bind_some, Option.bind_none, upd_eq, upd_ne, List.length_cons, List.length_nil, List.filterMap_cons, List.filterMap_nil, List.reverse_cons, List.reverse_nil, eqF_s, eqF_sn, eqF_int, neF_int, eqF_bool, eqF_none_int, item_tup0, item_tup1, item_tup2, item_lst0, valAt_s, valAt_n, V.onInt_int, V.onBool_bool, V.onTup_tup, V.onLst_lst, V.onNone_none, onRef_ref, moL_lst, moI_dic, moS_dic, on1_one, on2_two, onCons_cons, onNil_nil, tupR, lstR, lenR, I.d, I.e, I.f, I.i, hj, i1, i2, ip0, ip1, maxF_int, minF_int, c1, c2, il, ap]
              rfl
            case I1 =>
              simp only [c1, c2, if_true, if_false, List.append_nil]
              refine ⟨?_, ?_, ?_, ?_, ?_, ?_⟩
              all_goals first | exact em | rfl | skip
              all_goals (repeat rw [upd_ne (by decide)])
              all_goals first | exact I.d | exact I.e | exact I.f | exact I.i | exact I.j | rfl
          · refine' ⟨_, _, ?e2, ?I2⟩
            case e2 =>
              simp (disch := first | assumption | decide | decide +kernel) only [sizeB, Nat.reduceAdd, Nat.reduceLeDiff, decide_true, decide_false, Bool.false_eq_true, if_false, if_true, ite_true, ite_false, reduceIte, Bool.not_true, Bool.not_false, Bool.and_true, Bool.true_and, Bool.and_self, decide_eq_true_eq, List.nil_append, List.cons_append, List.append_nil, List.singleton_append,
    defX, bindX, seqX, assignX, nameX, tupSt, asgCons, asgNil, nameSt, constX, retX, retN, exprX, brkX, tupX, lstX, consL, nilL, binX, callX, methX, subX, attrX, attrV, ifX, ifeX, notX, orX, andX, negX, cmpT, boolT, notT, andT, orT, swapX, tgtNames, subStX, newLstX, newDicX, forS, itemsOf, nilX,
    addF_int, subF_int, ltF_int, leF_int, gtF_int, geF_int, isF_bool, isF_nn, isF_in, isNotF_bool, Option.bind_some, Option.bind_none, upd_eq, upd_ne, List.length_cons, List.length_nil, List.filterMap_cons, List.filterMap_nil, List.reverse_cons, List.reverse_nil, eqF_s, eqF_sn, eqF_int, neF_int, eqF_bool, eqF_none_int, item_tup0, item_tup1, item_tup2, item_lst0, valAt_s, valAt_n, V.onInt_int, V.onBool_bool, V.onTup_tup, V.onLst_lst, V.onNone_none, onRef_ref, moL_lst, moI_dic, moS_dic, on1_one, on2_two, onCons_cons, onNil_nil, tupR, lstR, lenR, I.d, I.e, I.f, I.i, hj, i1, i2, ip0, ip1, maxF_int, minF_int, c1, c2, il, ap]
              rfl
            case I2 =>
              simp only [c1, c2, if_true, if_false, List.append_nil]
              refine ⟨?_, ?_, ?_, ?_, ?_, ?_⟩
              all_goals first | exact em | rfl | skip
              all_goals (repeat rw [upd_ne (by decide)])
              all_goals first | exact I.d | exact I.e | exact I.f | exact I.i | exact I.j | rfl
        · by_cases c2 : p.2 < k
          · refine' ⟨_, _, ?e3, ?I3⟩
            case e3 =>
              simp (disch := first | assumption | decide | decide +kernel) only [sizeB, Nat.reduceAdd, Nat.reduceLeDiff, decide_true, decide_false, Bool.false_eq_true, if_false, if_true, ite_true, ite_false, reduceIte, Bool.not_true, Bool.not_false, Bool.and_true, Bool.true_and, Bool.and_self, decide_eq_true_eq, List.nil_append, List.cons_append, List.append_nil, List.singleton_append,
    defX, bindX, seqX, assignX, nameX, tupSt, asgCons, asgNil, nameSt, constX, retX, retN, exprX, brkX, tupX, lstX, consL, nilL, binX, callX, methX, subX, attrX, attrV, ifX, ifeX, notX, orX, andX, negX, cmpT, boolT, notT, andT, orT, swapX, tgtNames, subStX, newLstX, newDicX, forS, itemsOf, nilX,
    addF_int, subF_int, ltF_int, leF_int, gtF_int, geF_int, isF_bool, isF_nn, isF_in, isNotF_bool, Option.bind_some, Option.bind_none, upd_eq, upd_ne, List.length_cons, List.length_nil, List.filterMap_cons, List.filterMap_nil, List.reverse_cons, List.reverse_nil, eqF_s, eqF_sn, eqF_int, neF_int, eqF_bool, eqF_none_int, item_tup0, item_tup1, item_tup2, item_lst0, valAt_s, valAt_n, V.onInt_int, V.onBool_bool, V.onTup_tup, V.onLst_lst, V.onNone_none, onRef_ref, moL_lst, moI_dic, moS_dic, on1_one, on2_two, onCons_cons, onNil_nil, tupR, lstR, lenR, I.d, I.e, I.f, I.i, hj, i1, i2, ip0, ip1, maxF_int, minF_int, c1, c2, il, ap]
              rfl
            case I3 =>
              simp only [c1, c2, if_true, if_false, List.append_nil]
              refine ⟨?_, ?_, ?_, ?_, ?_, ?_⟩
              all_goals first | exact em | rfl | skip
              all_goals (repeat rw [upd_ne (by decide)])
              all_goals first | exact I.d | exact I.e | exact I.f | exact I.i | exact I.j | rfl
          · refine' ⟨_, _, ?e4, ?I4⟩
            case e4 =>
              simp (disch := first | assumption | decide | decide +kernel) only [sizeB, Nat.reduceAdd, Nat.reduceLeDiff, decide_true, decide_false, Bool.false_eq_true, if_false, if_true, ite_true, ite_false, reduceIte, Bool.not_true, Bool.not_false, Bool.and_true, Bool.true_and, Bool.and_self, decide_eq_true_eq, List.nil_append, List.cons_append, List.append_nil, List.singleton_append,
    defX, bindX, seqX, assignX, nameX, tupSt, asgCons, asgNil, nameSt, constX, retX, retN, exprX, brkX, tupX, lstX, consL, nilL, binX, callX, methX, subX, attrX, attrV, ifX, ifeX, notX, orX, andX, negX, cmpT, boolT, notT, andT, orT, swapX, tgtNames, subStX, newLstX, newDicX, forS, itemsOf, nilX,
    addF_int, subF_int, ltF_int, leF_int, gtF_int, geF_int, isF_bool, isF_nn, isF_in, isNotF_bool, Option.bind_some, Option.bind_none, upd_eq, upd_ne, List.length_cons, List.length_nil, List.filterMap_cons, List.filterMap_nil, List.reverse_cons, List.reverse_nil, eqF_s, eqF_sn, eqF_int, neF_int, eqF_bool, eqF_none_int, item_tup0, item_tup1, item_tup2, item_lst0, valAt_s, valAt_n, V.onInt_int, V.onBool_bool, V.onTup_tup, V.onLst_lst, V.onNone_none, onRef_ref, moL_lst, moI_dic, moS_dic, on1_one, on2_two, onCons_cons, onNil_nil, tupR, lstR, lenR, I.d, I.e, I.f, I.i, hj, i1, i2, ip0, ip1, maxF_int, minF_int, c1, c2, il, ap]
              rfl
            case I4 =>
              simp only [c1, c2, if_true, if_false, List.append_nil]
              refine ⟨?_, ?_, ?_, ?_, ?_, ?_⟩
              all_goals first | exact em | rfl | skip
              all_goals (repeat rw [upd_ne (by decide)])
              all_goals first | exact I.d | exact I.e | exact I.f | exact I.i | exact I.j | rfl
    obtain ⟨ρ', e, ef⟩ := key
    subst e
    have g := get_last (m := mem) (o := .lst ((meetK k d).map pairV))
    have hz : ((meetK k d).map pairV).length ≤ 100000 := by rw [List.length_map]; exact Nat.le_trans (meetK_len k d) (by decide)
    simp (disch := first | assumption | decide | decide +kernel) only [sizeB, Nat.reduceAdd, Nat.reduceLeDiff, decide_true, decide_false, Bool.false_eq_true, if_false, if_true, ite_true, ite_false, reduceIte, Bool.not_true, Bool.not_false, Bool.and_true, Bool.true_and, Bool.and_self, decide_eq_true_eq, List.nil_append, List.cons_append, List.append_nil, List.singleton_append,
    defX, bindX, seqX, assignX, nameX, tupSt, asgCons, asgNil, nameSt, constX, retX, retN, exprX, brkX, tupX, lstX, consL, nilL, binX, callX, methX, subX, attrX, attrV, ifX, ifeX, notX, orX, andX, negX, cmpT, boolT, notT, andT, orT, swapX, tgtNames, subStX, newLstX, newDicX, forS, itemsOf, nilX,
    addF_int, subF_int, ltF_int, leF_int, gtF_int, geF_int, isF_bool, isF_nn, isF_in, isNotF_bool, Option.bind_some, Option.bind_none, upd_eq, upd_ne, List.length_cons, List.length_nil, List.filterMap_cons, List.filterMap_nil, List.reverse_cons, List.reverse_nil, eqF_s, eqF_sn, eqF_int, neF_int, eqF_bool, eqF_none_int, item_tup0, item_tup1, item_tup2, item_lst0, valAt_s, valAt_n, V.onInt_int, V.onBool_bool, V.onTup_tup, V.onLst_lst, V.onNone_none, onRef_ref, moL_lst, moI_dic, moS_dic, on1_one, on2_two, onCons_cons, onNil_nil, tupR, lstR, lenR, ef, tupF, lstOf, g, hz]
    rfl
end
end Mine
-- S6
namespace Mine

noncomputable def struckD (l : Lit) (d : List (Int × Int)) : List (Int × Int) := match l.s with
  | .le => upTo d l.k
  | .ge => fromOn d l.k
  | .eq => meetK l.k d
  | .ne => without d l.k
theorem toDs_ints : ∀ (ns : List Int), toDs (ns.map .int) = some (ns.map PyData.int)
  | [] => by rw [List.map_nil, toDs]; rfl
  | n :: ns => by rw [List.map_cons, toDs, toDs_ints ns, toD]; rfl
theorem layAll_ints : ∀ (ns : List Int), PyData.canLayAll0 (ns.map PyData.int) = true
  | [] => by simp [PyData.canLayAll0]
  | n :: ns => by rw [List.map_cons, PyData.canLayAll0, layAll_ints ns]; simp [PyData.canLay0]
theorem in_ints {k : Nat} {ns : List Int} {m : List MO} (h : m[k]? = some (.lst (ns.map .int))) (i : Int) (neg : Bool) : inF neg (.int i) (.ref k) m = some (.bool (neg != decide (i ∈ ns))) := by
  show inRef neg i m[k]? = _
  rw [h]
  show ((toDs (ns.map .int)).bind _) = _
  simp only [toDs_ints, Option.bind_some, layAll_ints, if_true]
  congr 3
  rw [List.any_map, Bool.eq_iff_iff, List.any_eq_true, decide_eq_true_eq]
  constructor
  · rintro ⟨x, hx, q⟩
    simp [PyData.eqv] at q
    exact q ▸ hx
  · intro hi
    exact ⟨i, hi, by simp [PyData.eqv]⟩
section
variable {w : World} {H : Heap} {mg mb : Str → Option Value}
theorem struck_ok (ok : (cx w H mg mb).Ok) {f1 f2 f3 f4 : CF} (h1 : CallOK (cx w H mg mb) 1 (.ref 160) f1) (s1 : DomFn f1 upTo) (h2 : CallOK (cx w H mg mb) 1 (.ref 165) f2) (s2 : DomFn f2 fromOn) (h3 : CallOK (cx w H mg mb) 2 (.ref 172) f3) (s3 : DomFn f3 without)
    (h4 : CallOK (cx w H mg mb) 1 (.ref 179) f4) (s4 : ∀ d k mem, d.length ≤ 50 → FlatM mem → f4 [domV d, domV [(k, k)]] mem = some (domV (meetK k d), mem)) : ∃ f, CallOK (cx w H mg mb) 3 (.ref 193) f ∧ ∀ l d mem, d.length ≤ 50 → FlatM mem → f [litV l, domV d] mem = some (domV (struckD l d), mem) := by
  refine' ⟨_, CallOK.def2 (names := ["literal", "d"]) ok rfl rfl ?d rfl rfl rfl rfl fun L => ?b, ?s⟩
  case d => (intro ws h; refine len2 h ?_; intros; rfl)
  case b => exact (ExOK.cons (StOK.swap2 (EvOK.tup (EvsOK.cons (EvOK.sub (loadLocal rfl rfl) EvOK.int (fun _ _ => rfl)) (EvsOK.cons (EvOK.sub (loadLocal rfl rfl) EvOK.int (fun _ _ => rfl)) EvsOK.nil rfl) rfl)) rfl rfl rfl) (ExOK.cons (StOK.ite (TeOK.cmp (loadLocal rfl rfl) EvOK.str eqOK rfl) (ExOK.cons (StOK.ret (EvOK.call (loadGlobal' ok rfl rfl rfl) (EvsOK.cons (loadLocal rfl rfl) (EvsOK.cons (loadLocal rfl rfl) EvsOK.nil rfl) rfl) rfl (KeepOK.fn ok rfl) (CallOK.up h1 (by decide)) rfl)) ExOK.nil) ExOK.nil) (ExOK.cons (StOK.ite (TeOK.cmp (loadLocal rfl rfl) EvOK.str eqOK rfl) (ExOK.cons (StOK.ret (EvOK.call (loadGlobal' ok rfl rfl rfl) (EvsOK.cons (loadLocal rfl rfl) (EvsOK.cons (loadLocal rfl rfl) EvsOK.nil rfl) rfl) rfl (KeepOK.fn ok rfl) (CallOK.up h2 (by decide)) rfl)) ExOK.nil) ExOK.nil) (ExOK.cons (StOK.ret (EvOK.ife (TeOK.cmp (loadLocal rfl rfl) EvOK.str eqOK rfl) (EvOK.call (loadGlobal' ok rfl rfl rfl) (EvsOK.cons (loadLocal rfl rfl) (EvsOK.cons (EvOK.tup (EvsOK.cons (EvOK.tup (EvsOK.cons (loadLocal rfl rfl) (EvsOK.cons (loadLocal rfl rfl) EvsOK.nil rfl) rfl)) EvsOK.nil rfl)) EvsOK.nil rfl) rfl) rfl (KeepOK.fn ok rfl) (CallOK.up h4 (by decide)) rfl) (EvOK.call (loadGlobal' ok rfl rfl rfl) (EvsOK.cons (loadLocal rfl rfl) (EvsOK.cons (loadLocal rfl rfl) EvsOK.nil rfl) rfl) rfl (KeepOK.fn ok rfl) (CallOK.up h3 (by decide)) rfl))) ExOK.nil))))
  case s =>
    rintro ⟨x, s, k⟩ d mem hd hF
    have e1 := s1 d k mem (by omega)
    have e2 := s2 d k mem (by omega)
    have e3 := s3 d k mem (by omega)
    have e4 := s4 d k mem hd hF
    have e5 : (V.tup [.tup [.int k, .int k]]) = domV [(k, k)] := rfl
    cases s <;> simp only [litV, struckD, Sg.str] <;> simp (config := { maxSteps := 3000000 }) (disch := first | assumption | decide | decide +kernel) only [sizeB, Nat.reduceAdd, Nat.reduceLeDiff, decide_true, decide_false, Bool.false_eq_true, if_false, if_true, ite_true, ite_false, reduceIte, Bool.not_true, Bool.not_false, Bool.and_true, Bool.true_and, Bool.and_self, decide_eq_true_eq, List.nil_append, List.cons_append, List.append_nil, List.singleton_append,
    defX, bindX, seqX, assignX, nameX, tupSt, asgCons, asgNil, nameSt, constX, retX, retN, exprX, brkX, tupX, lstX, consL, nilL, binX, callX, methX, subX, attrX, attrV, ifX, ifeX, notX, orX, andX, negX, cmpT, boolT, notT, andT, orT, swapX, tgtNames, subStX, newLstX, newDicX, forS, itemsOf, nilX,
    addF_int, subF_int, ltF_int, leF_int, gtF_int, geF_int, isF_bool, isF_nn, isF_in, isNotF_bool, Option.bind_some, Option.bind_none, upd_eq, upd_ne, List.length_cons, List.length_nil, List.filterMap_cons, List.filterMap_nil, List.reverse_cons, List.reverse_nil, eqF_s, eqF_sn, eqF_int, neF_int, eqF_bool, eqF_none_int, item_tup0, item_tup1, item_tup2, item_lst0, valAt_s, valAt_n, V.onInt_int, V.onBool_bool, V.onTup_tup, V.onLst_lst, V.onNone_none, onRef_ref, moL_lst, moI_dic, moS_dic, on1_one, on2_two, onCons_cons, onNil_nil, tupR, lstR, lenR, e1, e2, e3, e4, e5]
/-- the told: all of these variables are to differ -/
noncomputable def varsI (n : Nat) : List Int := (List.range n).map fun i => ((i : Nat) : Int)
noncomputable def varsV (n : Nat) : List V := (varsI n).map .int
noncomputable def toldV (n : Nat) : V := .tup [.str "all_different", .tup (varsV n)]
theorem rngInts0 (n : Nat) : rngInts 0 n = varsV n := by unfold rngInts varsV varsI; rw [List.map_map]; apply List.map_congr_left; intro i _; simp
theorem listed_vars_ok (ok : (cx w H mg mb).Ok) : ∃ f, CallOK (cx w H mg mb) 1 (.ref 122) f ∧ ∀ n mem, n ≤ 50 → f [toldV n] mem = some (.lst (varsV n), mem) := by
  refine' ⟨_, CallOK.def2 (names := ["told"]) ok rfl rfl ?d rfl rfl rfl rfl fun L => ?b, ?s⟩
  case d => (intro ws h; refine len1 h ?_; intros; rfl)
  case b => exact (ExOK.cons (StOK.assign (EvOK.sub (loadLocal rfl rfl) EvOK.int (fun _ _ => rfl)) (AsgOK.local rfl) rfl rfl rfl) (ExOK.cons (StOK.ite (TeOK.or (TeOK.cmp (loadLocal rfl rfl) EvOK.str eqOK rfl) (TeOK.cmp (loadLocal rfl rfl) EvOK.str eqOK rfl)) (ExOK.cons (StOK.ret (EvOK.bin (EvOK.lst (EvsOK.cons (EvOK.sub (loadLocal rfl rfl) EvOK.int (fun _ _ => rfl)) EvsOK.nil rfl)) (EvOK.call (bi_list ok rfl) (EvsOK.cons (EvOK.sub (EvOK.sub (loadLocal rfl rfl) EvOK.int (fun _ _ => rfl)) EvOK.int (fun _ _ => rfl)) EvsOK.nil rfl) rfl keepT listCallOK rfl) addOK)) ExOK.nil) ExOK.nil) (ExOK.cons (StOK.ite (TeOK.cmp (loadLocal rfl rfl) (linear_load ok rfl) inOK rfl) (ExOK.cons (StOK.ret (EvOK.call (bi_list ok rfl) (EvsOK.cons (EvOK.sub (loadLocal rfl rfl) EvOK.int (fun _ _ => rfl)) EvsOK.nil rfl) rfl keepT listCallOK rfl)) ExOK.nil) ExOK.nil) (ExOK.cons (StOK.ite (TeOK.cmp (loadLocal rfl rfl) (EvOK.tup (EvsOK.cons EvOK.str (EvsOK.cons EvOK.str (EvsOK.cons EvOK.str (EvsOK.cons EvOK.str (EvsOK.cons EvOK.str EvsOK.nil rfl) rfl) rfl) rfl) rfl)) inOK rfl) (ExOK.cons (StOK.ret (EvOK.call (bi_list ok rfl) (EvsOK.cons (EvOK.slice (loadLocal rfl rfl) (partSome EvOK.int) partNone partNone (fun _ _ => ⟨_, rfl⟩)) EvsOK.nil rfl) rfl keepT listCallOK rfl)) ExOK.nil) ExOK.nil) (ExOK.cons (StOK.ite (TeOK.cmp (loadLocal rfl rfl) (EvOK.tup (EvsOK.cons EvOK.str (EvsOK.cons EvOK.str (EvsOK.cons EvOK.str (EvsOK.cons EvOK.str (EvsOK.cons EvOK.str EvsOK.nil rfl) rfl) rfl) rfl) rfl)) inOK rfl) (ExOK.cons (StOK.ret (EvOK.bin (EvOK.call (bi_list ok rfl) (EvsOK.cons (EvOK.sub (loadLocal rfl rfl) EvOK.int (fun _ _ => rfl)) EvsOK.nil rfl) rfl keepT listCallOK rfl) (EvOK.lst (EvsOK.cons (EvOK.sub (loadLocal rfl rfl) EvOK.int (fun _ _ => rfl)) EvsOK.nil rfl)) addOK)) ExOK.nil) ExOK.nil) (ExOK.cons (StOK.ite (TeOK.cmp (loadLocal rfl rfl) (EvOK.tup (EvsOK.cons EvOK.str (EvsOK.cons EvOK.str (EvsOK.cons EvOK.str (EvsOK.cons EvOK.str EvsOK.nil rfl) rfl) rfl) rfl)) inOK rfl) (ExOK.cons (StOK.ret (EvOK.bin (EvOK.call (bi_list ok rfl) (EvsOK.cons (EvOK.sub (loadLocal rfl rfl) EvOK.int (fun _ _ => rfl)) EvsOK.nil rfl) rfl keepT listCallOK rfl) (EvOK.call (bi_list ok rfl) (EvsOK.cons (EvOK.sub (loadLocal rfl rfl) EvOK.int (fun _ _ => rfl)) EvsOK.nil rfl) rfl keepT listCallOK rfl) addOK)) ExOK.nil) ExOK.nil) (ExOK.cons (StOK.ite (TeOK.cmp (loadLocal rfl rfl) EvOK.str eqOK rfl) (ExOK.cons (StOK.ret (EvOK.bin (EvOK.bin (EvOK.lst (EvsOK.cons (EvOK.sub (loadLocal rfl rfl) EvOK.int (fun _ _ => rfl)) EvsOK.nil rfl)) (EvOK.call (bi_list ok rfl) (EvsOK.cons (EvOK.sub (loadLocal rfl rfl) EvOK.int (fun _ _ => rfl)) EvsOK.nil rfl) rfl keepT listCallOK rfl) addOK) (EvOK.lst (EvsOK.cons (EvOK.sub (loadLocal rfl rfl) EvOK.int (fun _ _ => rfl)) EvsOK.nil rfl)) addOK)) ExOK.nil) ExOK.nil) (ExOK.cons (StOK.ite (TeOK.cmp (loadLocal rfl rfl) EvOK.str eqOK rfl) (ExOK.cons (StOK.ret (EvOK.lst (EvsOK.cons (EvOK.sub (loadLocal rfl rfl) EvOK.int (fun _ _ => rfl)) (EvsOK.cons (EvOK.sub (loadLocal rfl rfl) EvOK.int (fun _ _ => rfl)) EvsOK.nil rfl) rfl))) ExOK.nil) ExOK.nil) (ExOK.cons (StOK.ite (TeOK.cmp (loadLocal rfl rfl) EvOK.str eqOK rfl) (ExOK.cons (StOK.ret (EvOK.bin (EvOK.call (bi_list ok rfl) (EvsOK.cons (EvOK.sub (loadLocal rfl rfl) EvOK.int (fun _ _ => rfl)) EvsOK.nil rfl) rfl keepT listCallOK rfl) (EvOK.lst (EvsOK.cons (EvOK.sub (loadLocal rfl rfl) EvOK.int (fun _ _ => rfl)) EvsOK.nil rfl)) addOK)) ExOK.nil) ExOK.nil) (ExOK.cons (StOK.ret (EvOK.call (bi_list ok rfl) (EvsOK.cons (EvOK.ife (TeOK.cmp (loadLocal rfl rfl) EvOK.str eqOK rfl) (EvOK.sub (loadLocal rfl rfl) EvOK.int (fun _ _ => rfl)) (EvOK.sub (loadLocal rfl rfl) EvOK.int (fun _ _ => rfl))) EvsOK.nil rfl) rfl keepT listCallOK rfl)) ExOK.nil))))))))))
  case s =>
    intro n mem hn
    have hz : (varsV n).length ≤ 100000 := by unfold varsV varsI; rw [List.length_map, List.length_map, List.length_range]; omega
    have hl : ∀ m, listCallF [.tup (varsV n)] m = some (.lst (varsV n), m) := fun m => by
      have : (varsV n).length ≤ sizeB := hz
      exact if_pos this
    have in0 : ∀ m, inF false (.str "all_different") (.tup [.str "linear_le", .str "linear_eq", .str "linear_ne"]) m = some (.bool false) := fun m => by kernel_rfl
    have in1 : ∀ m, inF false (.str "all_different") (.tup [.str "times", .str "div", .str "mod", .str "abs", .str "xor"]) m = some (.bool false) := fun m => by kernel_rfl
    have in2 : ∀ m, inF false (.str "all_different") (.tup [.str "max", .str "min", .str "and", .str "or", .str "nvalue"]) m = some (.bool false) := fun m => by kernel_rfl
    have in3 : ∀ m, inF false (.str "all_different") (.tup [.str "inverse", .str "lex_le", .str "lex_lt", .str "clause"]) m = some (.bool false) := fun m => by kernel_rfl
    simp only [toldV]
    simp (config := { maxSteps := 3000000 }) (disch := first | assumption | decide | decide +kernel) only [sizeB, Nat.reduceAdd, Nat.reduceLeDiff, decide_true, decide_false, Bool.false_eq_true, if_false, if_true, ite_true, ite_false, reduceIte, Bool.not_true, Bool.not_false, Bool.and_true, Bool.true_and, Bool.and_self, decide_eq_true_eq, List.nil_append, List.cons_append, List.append_nil, List.singleton_append,
    defX, bindX, seqX, assignX, nameX, tupSt, asgCons, asgNil, nameSt, constX, retX, retN, exprX, brkX, tupX, lstX, consL, nilL, binX, callX, methX, subX, attrX, attrV, ifX, ifeX, notX, orX, andX, negX, cmpT, boolT, notT, andT, orT, swapX, tgtNames, subStX, newLstX, newDicX, forS, itemsOf, nilX,
    addF_int, subF_int, ltF_int, leF_int, gtF_int, geF_int, isF_bool, isF_nn, isF_in, isNotF_bool, Option.bind_some, Option.bind_none, upd_eq, upd_ne, List.length_cons, List.length_nil, List.filterMap_cons, List.filterMap_nil, List.reverse_cons, List.reverse_nil, eqF_s, eqF_sn, eqF_int, neF_int, eqF_bool, eqF_none_int, item_tup0, item_tup1, item_tup2, item_lst0, valAt_s, valAt_n, V.onInt_int, V.onBool_bool, V.onTup_tup, V.onLst_lst, V.onNone_none, onRef_ref, moL_lst, moI_dic, moS_dic, on1_one, on2_two, onCons_cons, onNil_nil, tupR, lstR, lenR, hl, in0, in1, in2, in3]
theorem vars_loop (k : Nat) {T : TF} {B : SF} (m0 : List MO) (hk : k = m0.length)
    (hB : ∀ ρ (acc : List Int) (x : Int), ρ "found" = some (.ref k) → x ∉ acc → acc.length ≤ 100 → ∃ ρ', B (upd ρ "x" (.int x)) (m0 ++ [.lst (acc.map .int)]) = some (.next, ρ', m0 ++ [.lst ((acc ++ [x]).map .int)]) ∧ ρ' "found" = some (.ref k)) :
    ∀ (rest acc : List Int) (ρ : Rho), (acc ++ rest).Nodup → (acc ++ rest).length ≤ 100 → ρ "found" = some (.ref k) → ∃ ρ', forX (nameSt "x") B (rest.map .int) ρ (m0 ++ [.lst (acc.map .int)]) = some (.next, ρ', m0 ++ [.lst ((acc ++ rest).map .int)]) ∧ ρ' "found" = some (.ref k)
  | [], acc, ρ, _, _, hr => ⟨ρ, by simp [forX], hr⟩
  | x :: rest, acc, ρ, hn, hz, hr => by
    have hx : x ∉ acc := fun q => by
      have := (List.nodup_append.mp hn).2.2 x q x (.head _)
      exact this rfl
    obtain ⟨ρ1, e1, r1⟩ := hB ρ acc x hr hx (by rw [List.length_append] at hz; omega)
    have ea : acc ++ x :: rest = (acc ++ [x]) ++ rest := by simp
    obtain ⟨ρ', e, er⟩ := vars_loop (T := T) k m0 hk hB rest (acc ++ [x]) ρ1 (by rw [← ea]; exact hn) (by rw [← ea]; exact hz) r1
    refine ⟨ρ', ?_, er⟩
    rw [List.map_cons, forX]
    show ((nameSt "x" (.int x) ρ (m0 ++ [.lst (acc.map .int)])).bind _) = _
    show ((B (upd ρ "x" (.int x)) (m0 ++ [.lst (acc.map .int)])).bind _) = _
    rw [e1, ea]
    exact e
theorem varsI_nodup (n : Nat) : (varsI n).Nodup := List.Pairwise.map _ (fun a b (h : a ≠ b) (q : (a : Int) = b) => h (by omega)) List.nodup_range
theorem varsI_len (n : Nat) : (varsI n).length = n := by unfold varsI; rw [List.length_map, List.length_range]
theorem vars_of_ok (ok : (cx w H mg mb).Ok) {f1 : CF} (h1 : CallOK (cx w H mg mb) 1 (.ref 122) f1) (s1 : ∀ n mem, n ≤ 50 → f1 [toldV n] mem = some (.lst (varsV n), mem)) : ∃ f, CallOK (cx w H mg mb) 2 (.ref 129) f ∧ ∀ n mem, n ≤ 50 → FlatM mem → f [toldV n] mem = some (.tup (varsV n), mem) := by
  refine' ⟨_, CallOK.trim (CallOK.def2 (names := ["told"]) ok rfl rfl ?d rfl rfl rfl rfl fun L => ?b), ?s⟩
  case d => (intro ws h; refine len1 h ?_; intros; rfl)
  case b => exact (ExOK.cons (StOK.assign (EvOK.newLst ok) (AsgOK.local rfl) rfl rfl rfl) (ExOK.cons (StOK.for (EvOK.call (loadGlobal' ok rfl rfl rfl) (EvsOK.cons (loadLocal rfl rfl) EvsOK.nil rfl) rfl (KeepOK.fn ok rfl) (CallOK.up h1 (by decide)) rfl) (AsgOK.local rfl) (ExOK.cons (StOK.ite (TeOK.cmp (loadLocal rfl rfl) (loadLocal rfl rfl) notInOK rfl) (ExOK.cons (StOK.expr (EvOK.meth (loadLocal rfl rfl) (EvsOK.cons (loadLocal rfl rfl) EvsOK.nil rfl) rfl (MethOK.list PySem.F.slot_list_append rfl) keepB appendOK rfl rfl rfl) rfl rfl) ExOK.nil) ExOK.nil) ExOK.nil) (fun _ => rfl)) (ExOK.cons (StOK.ret (EvOK.call (bi_tuple ok rfl) (EvsOK.cons (loadLocal rfl rfl) EvsOK.nil rfl) rfl keepT tupOK rfl)) ExOK.nil)))
  case s =>
    intro n mem hn hF
    refine trimC_of (j := [.lst (varsV n)]) ?_ rfl (by rw [clean]; exact cleanL_ints 0 _) hF
    have e1 := s1 n (mem ++ [.lst []]) hn
    simp (config := { maxSteps := 3000000 }) (disch := first | assumption | decide | decide +kernel) only [sizeB, Nat.reduceAdd, Nat.reduceLeDiff, decide_true, decide_false, Bool.false_eq_true, if_false, if_true, ite_true, ite_false, reduceIte, Bool.not_true, Bool.not_false, Bool.and_true, Bool.true_and, Bool.and_self, decide_eq_true_eq, List.nil_append, List.cons_append, List.append_nil, List.singleton_append,
    defX, bindX, seqX, assignX, nameX, tupSt, asgCons, asgNil, nameSt, constX, retX, retN, exprX, brkX, tupX, lstX, consL, nilL, binX, callX, methX, subX, attrX, attrV, ifX, ifeX, notX, orX, andX, negX, cmpT, boolT, notT, andT, orT, swapX, tgtNames, subStX, newLstX, newDicX, forS, itemsOf, nilX,
    addF_int, subF_int, ltF_int, leF_int, gtF_int, geF_int, isF_bool, isF_nn, isF_in, isNotF_bool, Option.bind_some, Option.bind_none, upd_eq, upd_ne, List.length_cons, List.length_nil, List.filterMap_cons, List.filterMap_nil, List.reverse_cons, List.reverse_nil, eqF_s, eqF_sn, eqF_int, neF_int, eqF_bool, eqF_none_int, item_tup0, item_tup1, item_tup2, item_lst0, valAt_s, valAt_n, V.onInt_int, V.onBool_bool, V.onTup_tup, V.onLst_lst, V.onNone_none, onRef_ref, moL_lst, moI_dic, moS_dic, on1_one, on2_two, onCons_cons, onNil_nil, tupR, lstR, lenR, e1]
    generalize hρ : upd _ "found" _ = ρ0
    generalize hW : forX _ _ (varsV n) ρ0 _ = W
    have key : ∃ ρ', W = some (.next, ρ', mem ++ [.lst (varsV n)]) ∧ ρ' "found" = some (.ref mem.length) := by
      rw [← hW]
      refine vars_loop (T := trueT) mem.length mem rfl ?_ (varsI n) [] ρ0 (by simpa using varsI_nodup n) (by simp [varsI_len]; omega) (by rw [← hρ]; rfl)
      intro ρ acc x hr hx hz
      have g := get_last (m := mem) (o := .lst (acc.map .int))
      have il := isLst_ref g
      have ap : ∀ v, appendF [.ref mem.length, v] (mem ++ [.lst (acc.map .int)]) = some (.none, mem ++ [.lst (acc.map .int ++ [v])]) := fun v => by rw [append_ref g (by rw [List.length_map]; omega), set_last]
      have hi := in_ints g x true
      have hx' : (true != decide (x ∈ acc)) = true := by simp [hx]
      rw [hx'] at hi
      refine' ⟨_, ?e, ?r⟩
      case e =>
        simp (config := { maxSteps := 3000000 }) (disch := first | assumption | decide | decide +kernel) only [sizeB, Nat.reduceAdd, Nat.reduceLeDiff, decide_true, decide_false, Bool.false_eq_true, if_false, if_true, ite_true, ite_false, reduceIte, Bool.not_true, Bool.not_false, Bool.and_true, Bool.true_and, Bool.and_self, decide_eq_true_eq, List.nil_append, List.cons_append, List.append_nil, List.singleton_append,
    defX, bindX, seqX, assignX, nameX, tupSt, asgCons, asgNil, nameSt, constX, retX, retN, exprX, brkX, tupX, lstX, consL, nilL, binX, callX, methX, subX, attrX, attrV, ifX, ifeX, notX, orX, andX, negX, cmpT, boolT, notT, andT, orT, swapX, tgtNames, subStX, newLstX, newDicX, forS, itemsOf, nilX,
    addF_int, subF_int, ltF_int, leF_int, gtF_int, geF_int, isF_bool, isF_nn, isF_in, isNotF_bool, Option.bind_some, Option.bind_none, upd_eq, upd_ne, List.length_cons, List.length_nil, List.filterMap_cons, List.filterMap_nil, List.reverse_cons, List.reverse_nil, eqF_s, eqF_sn, eqF_int, neF_int, eqF_bool, eqF_none_int, item_tup0, item_tup1, item_tup2, item_lst0, valAt_s, valAt_n, V.onInt_int, V.onBool_bool, V.onTup_tup, V.onLst_lst, V.onNone_none, onRef_ref, moL_lst, moI_dic, moS_dic, on1_one, on2_two, onCons_cons, onNil_nil, tupR, lstR, lenR, hr, hi, il, ap]
        rw [List.map_append]; rfl
      case r =>
        repeat rw [upd_ne (by decide)]
        exact hr
    obtain ⟨ρ', e, er⟩ := key
    subst e
    have g := get_last (m := mem) (o := .lst (varsV n))
    have hz : (varsV n).length ≤ 100000 := by unfold varsV; rw [List.length_map, varsI_len]; omega
    simp (config := { maxSteps := 3000000 }) (disch := first | assumption | decide | decide +kernel) only [sizeB, Nat.reduceAdd, Nat.reduceLeDiff, decide_true, decide_false, Bool.false_eq_true, if_false, if_true, ite_true, ite_false, reduceIte, Bool.not_true, Bool.not_false, Bool.and_true, Bool.true_and, Bool.and_self, decide_eq_true_eq, List.nil_append, List.cons_append, List.append_nil, List.singleton_append,
    defX, bindX, seqX, assignX, nameX, tupSt, asgCons, asgNil, nameSt, constX, retX, retN, exprX, brkX, tupX, lstX, consL, nilL, binX, callX, methX, subX, attrX, attrV, ifX, ifeX, notX, orX, andX, negX, cmpT, boolT, notT, andT, orT, swapX, tgtNames, subStX, newLstX, newDicX, forS, itemsOf, nilX,
    addF_int, subF_int, ltF_int, leF_int, gtF_int, geF_int, isF_bool, isF_nn, isF_in, isNotF_bool, Option.bind_some, Option.bind_none, upd_eq, upd_ne, List.length_cons, List.length_nil, List.filterMap_cons, List.filterMap_nil, List.reverse_cons, List.reverse_nil, eqF_s, eqF_sn, eqF_int, neF_int, eqF_bool, eqF_none_int, item_tup0, item_tup1, item_tup2, item_lst0, valAt_s, valAt_n, V.onInt_int, V.onBool_bool, V.onTup_tup, V.onLst_lst, V.onNone_none, onRef_ref, moL_lst, moI_dic, moS_dic, on1_one, on2_two, onCons_cons, onNil_nil, tupR, lstR, lenR, er, tupF, lstOf, g, hz]
end
end Mine
-- S7
namespace Mine

section
variable {w : World} {H : Heap} {mg mb : Str → Option Value}
noncomputable def boxV (D : V) (k : Nat) : V := .inst 309 [("domains", D), ("turned", .ref k)]
noncomputable def judgeV (D : V) (most : V) : V := .inst 369 [("domains", D), ("most", most)]
theorem box_new_ok (ok : (cx w H mg mb).Ok) : ∃ f, CallOK (cx w H mg mb) 2 (.ref 309) f ∧ ∀ D mem, f [D] mem = some (boxV D mem.length, mem ++ [.dicI []]) := by
  refine' ⟨_, CallOK.cls (n := 0) (self := "self") (names := ["domains"]) (fl := [("domains", nameX "domains"), ("turned", newDicX)]) ok ⟨rfl, rfl, rfl⟩ rfl rfl rfl (DefAt.of rfl rfl ?d rfl rfl rfl rfl) rfl rfl (fun L => ?b) ?h, ?s⟩
  case d => (intro ws h; refine len2 h ?_; intros; rfl)
  case b => exact (InitsOK.cons (loadLocal rfl rfl) rfl rfl (InitsOK.cons (EvOK.newDic ok) rfl rfl InitsOK.nil))
  case h =>
    intro vs ρ e w
    match vs, e with
    | [D], e => cases e; exact ⟨_, rfl, rfl, fun m => rfl⟩
  case s => intro D mem; rfl
theorem judge_new_ok (ok : (cx w H mg mb).Ok) : ∃ f, CallOK (cx w H mg mb) 2 (.ref 369) f ∧ ∀ D k mem, f [D, k] mem = some (judgeV D k, mem) := by
  refine' ⟨_, CallOK.cls (n := 0) (self := "self") (names := ["domains", "most"]) (fl := [("domains", nameX "domains"), ("most", nameX "most")]) ok ⟨rfl, rfl, rfl⟩ rfl rfl rfl (DefAt.of rfl rfl ?d rfl rfl rfl rfl) rfl rfl (fun L => ?b) ?h, ?s⟩
  case d => (intro ws h; refine len3 h ?_; intros; rfl)
  case b => exact (InitsOK.cons (loadLocal rfl rfl) rfl rfl (InitsOK.cons (loadLocal rfl rfl) rfl rfl InitsOK.nil))
  case h =>
    intro vs ρ e w
    match vs, e with
    | [D, k], e => cases e; exact ⟨_, rfl, rfl, fun m => rfl⟩
  case s => intro D k mem; rfl
end
end Mine
-- S8
namespace Mine

abbrev Dom := List (Int × Int)
noncomputable def domsV (D : List Dom) : V := .lst (D.map domV)
noncomputable def turnO (T : List (Int × Dom)) : MO := .dicI (T.map fun p => (p.1, domV p.2))
noncomputable def domOf (D : List Dom) (T : List (Int × Dom)) (x : Nat) : Dom := match T.find? (fun p => decide (p.1 = (x : Int))) with
  | some p => p.2
  | none => D.getD x []
noncomputable def putT (T : List (Int × Dom)) (x : Nat) (d : Dom) : List (Int × Dom) := if T.any (fun p => decide (p.1 = (x : Int))) then T.map (fun p => if p.1 = (x : Int) then (p.1, d) else p) else T ++ [((x : Int), d)]
theorem turn_val (T : List (Int × Dom)) (x : Int) : valAt (T.map fun p => (p.1, domV p.2)) x = (T.find? fun p => decide (p.1 = x)).map fun p => domV p.2 := by
  unfold valAt
  induction T with
  | nil => rfl
  | cons p T ih =>
    rw [List.map_cons, List.find?_cons, List.find?_cons]
    by_cases q : p.1 = x
    · simp [q]
    · simp only [q, decide_false]; exact ih
theorem turn_put (T : List (Int × Dom)) (x : Nat) (d : Dom) : putV (T.map fun p => (p.1, domV p.2)) (x : Int) (domV d) = (putT T x d).map fun p => (p.1, domV p.2) := by
  unfold putV putT
  rw [List.any_map]
  show (if T.any (fun p => decide (p.1 = (x : Int))) = true then _ else _) = _
  split
  · rw [List.map_map, List.map_map]
    apply List.map_congr_left
    intro p _
    show (if p.1 = (x : Int) then _ else _) = _
    split <;> rename_i q <;> simp [q]
  · rw [List.map_append]; rfl
theorem find_put (T : List (Int × Dom)) (x y : Nat) (d : Dom) : (putT T x d).find? (fun p => decide (p.1 = (y : Int))) = if y = x then some ((x : Int), d) else T.find? fun p => decide (p.1 = (y : Int)) := by
  have aux : ∀ T : List (Int × Dom), T.any (fun p => decide (p.1 = (x : Int))) = true → (T.map fun p => if p.1 = (x : Int) then (p.1, d) else p).find? (fun p => decide (p.1 = (x : Int))) = some ((x : Int), d) := by
    intro T
    induction T with
    | nil => intro q; simp at q
    | cons p T ih =>
      intro q
      by_cases e : p.1 = (x : Int)
      · simp [e]
      · simp only [List.any_cons, e, decide_false, Bool.false_or] at q
        simp only [List.map_cons, e, if_false, List.find?_cons, decide_false]
        exact ih q
  have aux2 : y ≠ x → ∀ T : List (Int × Dom), (T.map fun p => if p.1 = (x : Int) then (p.1, d) else p).find? (fun p => decide (p.1 = (y : Int))) = T.find? fun p => decide (p.1 = (y : Int)) := by
    intro n T
    induction T with
    | nil => rfl
    | cons p T ih =>
      by_cases e : p.1 = (x : Int)
      · have : ¬ (x : Int) = (y : Int) := fun q => n (by omega)
        simp only [List.map_cons, e, if_true, List.find?_cons, this, decide_false]
        exact ih
      · simp only [List.map_cons, e, if_false, List.find?_cons]
        rw [ih]
  unfold putT
  split
  · rename_i q
    split
    · rename_i e; subst e; exact aux T q
    · rename_i e; exact aux2 e T
  · rename_i q
    rw [List.find?_append]
    split
    · rename_i e
      subst e
      have : T.find? (fun p => decide (p.1 = (y : Int))) = none := by
        rw [List.find?_eq_none]; intro p hp h
        exact q (List.any_eq_true.mpr ⟨p, hp, h⟩)
      rw [this]; simp
    · rename_i e
      have : ¬ (x : Int) = (y : Int) := fun q => e (by omega)
      simp [this]
theorem dom_put (D : List Dom) (T : List (Int × Dom)) (x y : Nat) (d : Dom) : domOf D (putT T x d) y = if y = x then d else domOf D T y := by
  unfold domOf
  rw [find_put]
  by_cases h : y = x
  · rw [if_pos h, if_pos h]
  · rw [if_neg h, if_neg h]
theorem putT_len (T : List (Int × Dom)) (x : Nat) (d : Dom) : (putT T x d).length ≤ T.length + 1 := by
  unfold putT; split <;> simp
theorem attr_turned (D : V) (k : Nat) : attrV 309 "turned" (boxV D k) = some (.ref k) := rfl
theorem attr_domains (D : List Dom) (k : Nat) : attrV 309 "domains" (boxV (domsV D) k) = some (domsV D) := rfl
theorem turn_clean (T : List (Int × Dom)) : cleanO 0 (turnO T) = true := by
  show cleanL 0 ((T.map fun p => (p.1, domV p.2)).map (·.2)) = true
  induction T with
  | nil => rw [List.map_nil, List.map_nil, cleanL]
  | cons p T ih => rw [List.map_cons, List.map_cons, cleanL, ih, clean_dom]; rfl
noncomputable def pd (p : Int × Int) : PyData := .tuple [.int p.1, .int p.2]
theorem toDs_pairs : ∀ (d : Dom), toDs (d.map pairV) = some (d.map pd)
  | [] => by rw [List.map_nil, toDs]; rfl
  | p :: d => by rw [List.map_cons, toDs, toDs_pairs d, pairV, toD, toDs, toDs, toD, toD, toDs]; rfl
theorem lay_pairs : ∀ (d : Dom), PyData.canLayAll0 (d.map pd) = true
  | [] => by simp [PyData.canLayAll0]
  | p :: d => by rw [List.map_cons, PyData.canLayAll0, lay_pairs d]; simp [pd, PyData.canLay0, PyData.canLayAll0]
theorem depth_pairs : ∀ (d : Dom), PyData.depthAll (d.map pd) ≤ 2
  | [] => by simp [PyData.depthAll]
  | p :: d => by
    have := depth_pairs d
    rw [List.map_cons, PyData.depthAll]
    simp [pd, PyData.depth, PyData.depthAll]
    omega
theorem neF_dom (d : Dom) (m : List MO) : neF (domV d) (.tup []) m = some (.bool (!d.isEmpty)) := by
  have h1 : dOf m (domV d) = some (.tuple (d.map pd)) := by simp [dOf, lstOf, domV, toD, toDs_pairs]
  have h2 : dOf m (.tup []) = some (.tuple []) := by simp [dOf, lstOf, toD, toDs]
  have s1 : SeqAt.shaped (.tuple (d.map pd)) = true := by
    have := depth_pairs d
    simp [SeqAt.shaped, PyData.canLay0, lay_pairs, PyData.depth]; omega
  have s2 : SeqAt.shaped (.tuple []) = true := by simp [SeqAt.shaped, PyData.canLay0, PyData.canLayAll0, PyData.depth, PyData.depthAll]
  simp only [neF, eqvF, h1, h2, Option.bind_some, s1, s2, Bool.and_self, if_true, PyData.eqv]
  cases d <;> simp [PyData.eqvAll]
section
variable {w : World} {H : Heap} {mg mb : Str → Option Value}
theorem domain_ok (ok : (cx w H mg mb).Ok) : ∃ f, CallOK (cx w H mg mb) 1 (.ref 278) f ∧ ∀ D T k x mem, mem[k]? = some (turnO T) → x < D.length → x ≤ 1000 → f [boxV (domsV D) k, .int (x : Nat)] mem = some (domV (domOf D T x), mem) := by
  have hC : SelfCls 309 := trivial
  refine' ⟨_, CallOK.def2 (names := ["self", "x"]) ok rfl rfl ?d rfl rfl rfl rfl fun L => ?b, ?s⟩
  case d => (intro ws h; refine len2 h ?_; intros; rfl)
  case b => exact (ExOK.cons (StOK.ret (EvOK.meth (EvOK.attrC (C := 309) trivial ok (loadLocal rfl rfl) rfl rfl rfl rfl rfl (fun _ _ => rfl)) (EvsOK.cons (loadLocal rfl rfl) (EvsOK.cons (EvOK.sub (EvOK.attrC (C := 309) trivial ok (loadLocal rfl rfl) rfl rfl rfl rfl rfl (fun _ _ => rfl)) (loadLocal rfl rfl) (fun _ _ => rfl)) EvsOK.nil rfl) rfl) rfl (MethOK.dict PySem.F.slot_dict_get rfl) keepB getOK rfl rfl rfl)) ExOK.nil)
  case s =>
    intro D T k x mem hm hx hx2
    have hm' : mem[k]? = some (.dicI (T.map fun p => (p.1, domV p.2))) := hm
    have i1 : ∀ m, itemF (domsV D) (.int (x : Int)) m = some (domV (D.getD x [])) := fun m => item_lst (by rw [List.getElem?_map, List.getD_eq_getElem?_getD, List.getElem?_eq_getElem hx]; rfl) hx2 m
    have il := isDicI_ref hm'
    have g2 := fun d => get2_ref hm' (x : Int) d
    have e : ((valAt (T.map fun p => (p.1, domV p.2)) (x : Int)).getD (domV (D.getD x []))) = domV (domOf D T x) := by
      rw [turn_val]; unfold domOf
      cases T.find? fun p => decide (p.1 = (x : Int)) <;> rfl
    simp (config := { maxSteps := 3000000 }) (disch := first | assumption | decide | decide +kernel) only [sizeB, Nat.reduceAdd, Nat.reduceLeDiff, decide_true, decide_false, Bool.false_eq_true, if_false, if_true, ite_true, ite_false, reduceIte, Bool.not_true, Bool.not_false, Bool.and_true, Bool.true_and, Bool.and_self, decide_eq_true_eq, List.nil_append, List.cons_append, List.append_nil, List.singleton_append,
    defX, bindX, seqX, assignX, nameX, tupSt, asgCons, asgNil, nameSt, constX, retX, retN, exprX, brkX, tupX, lstX, consL, nilL, binX, callX, methX, subX, attrX, ifX, ifeX, notX, orX, andX, negX, cmpT, boolT, notT, andT, orT, swapX, tgtNames, subStX, newLstX, newDicX, forS, itemsOf, nilX,
    addF_int, subF_int, ltF_int, leF_int, gtF_int, geF_int, isF_bool, isF_nn, isF_in, isNotF_bool, Option.bind_some, Option.bind_none, upd_eq, upd_ne, List.length_cons, List.length_nil, List.filterMap_cons, List.filterMap_nil, List.reverse_cons, List.reverse_nil, eqF_s, eqF_sn, eqF_int, neF_int, eqF_bool, eqF_none_int, item_tup0, item_tup1, item_tup2, item_lst0, valAt_s, valAt_n, V.onInt_int, V.onBool_bool, V.onTup_tup, V.onLst_lst, V.onNone_none, onRef_ref, moL_lst, moI_dic, moS_dic, on1_one, on2_two, onCons_cons, onNil_nil, tupR, lstR, lenR, attr_turned, attr_domains, i1, il, g2, e]
abbrev DomainS (f : CF) : Prop := ∀ D T k x mem, mem[k]? = some (turnO T) → x < D.length → x ≤ 1000 → f [boxV (domsV D) k, .int (x : Nat)] mem = some (domV (domOf D T x), mem)
theorem inst_box (D : V) (k : Nat) (name : Str) (m : List MO) (h1 : ¬ ("domains" : Str) = name) (h2 : ¬ ("turned" : Str) = name) : isInst 309 name (boxV D k) m = true := by
  simp [isInst, boxV, fieldAt, h1, h2]
theorem say_ok (ok : (cx w H mg mb).Ok) {f1 f2 : CF} (h1 : CallOK (cx w H mg mb) 3 (.ref 193) f1) (s1 : ∀ l d mem, d.length ≤ 50 → FlatM mem → f1 [litV l, domV d] mem = some (domV (struckD l d), mem)) (h2 : CallOK (cx w H mg mb) 1 (.ref 278) f2) (s2 : DomainS f2) :
    ∃ f, CallOK (cx w H mg mb) 4 (.ref 299) f ∧ ∀ D T k l mem, mem[k]? = some (turnO T) → FlatM mem → l.x < D.length → l.x ≤ 1000 → T.length ≤ 900 → (domOf D T l.x).length ≤ 50 →
      f [boxV (domsV D) k, litV l] mem = some (.bool (!(struckD l (domOf D T l.x)).isEmpty), mem.set k (turnO (putT T l.x (struckD l (domOf D T l.x))))) := by
  have hC : SelfCls 309 := trivial
  refine' ⟨_, CallOK.def2 (names := ["self", "literal"]) ok rfl rfl ?d rfl rfl rfl rfl fun L => ?b, ?s⟩
  case d => (intro ws h; refine len2 h ?_; intros; rfl)
  case b => exact (ExOK.cons (StOK.assignSub (EvOK.call (loadGlobal' ok rfl rfl rfl) (EvsOK.cons (loadLocal rfl rfl) (EvsOK.cons (EvOK.meth (loadLocal rfl rfl) (EvsOK.cons (EvOK.sub (loadLocal rfl rfl) EvOK.int (fun _ _ => rfl)) EvsOK.nil rfl) rfl (MethOK.inst (C := 309) ok rfl rfl rfl) (KeepOK.fn ok rfl) (CallOK.up h2 (by decide)) rfl rfl rfl) EvsOK.nil rfl) rfl) rfl (KeepOK.fn ok rfl) (CallOK.up h1 (by decide)) rfl) (EvOK.attrC (C := 309) trivial ok (loadLocal rfl rfl) rfl rfl rfl rfl rfl (fun _ _ => rfl)) (EvOK.sub (loadLocal rfl rfl) EvOK.int (fun _ _ => rfl)) rfl) (ExOK.cons (StOK.ret (EvOK.cmp (EvOK.sub (EvOK.attrC (C := 309) trivial ok (loadLocal rfl rfl) rfl rfl rfl rfl rfl (fun _ _ => rfl)) (EvOK.sub (loadLocal rfl rfl) EvOK.int (fun _ _ => rfl)) (fun _ _ => rfl)) (EvOK.tup EvsOK.nil) neOK rfl)) ExOK.nil))
  case s =>
    intro D T k l mem hm hF hx hx2 hT hd
    have hk : k < mem.length := (List.getElem?_eq_some_iff.mp hm).1
    have hm' : mem[k]? = some (.dicI (T.map fun p => (p.1, domV p.2))) := hm
    have e2 := s2 D T k l.x mem hm hx hx2
    have e1 := s1 l (domOf D T l.x) mem hd hF
    have st := store_dicI hm' (by rw [List.length_map]; omega) (l.x : Int) (domV (struckD l (domOf D T l.x)))
    rw [turn_put] at st
    have hm2 : (mem.set k (.dicI ((putT T l.x (struckD l (domOf D T l.x))).map fun p => (p.1, domV p.2))))[k]? = some (.dicI ((putT T l.x (struckD l (domOf D T l.x))).map fun p => (p.1, domV p.2))) := List.getElem?_set_self hk
    have g := item_dicI hm2 (l.x : Int)
    have ev : valAt ((putT T l.x (struckD l (domOf D T l.x))).map fun p => (p.1, domV p.2)) (l.x : Int) = some (domV (struckD l (domOf D T l.x))) := by
      rw [turn_val, find_put, if_pos rfl]; rfl
    rw [ev] at g
    have il : ∀ m, itemF (litV l) (.int 0) m = some (.int (l.x : Int)) := fun m => item_tup0 _ _ m
    simp (config := { maxSteps := 3000000 }) (disch := first | assumption | decide | decide +kernel) only [sizeB, Nat.reduceAdd, Nat.reduceLeDiff, decide_true, decide_false, Bool.false_eq_true, if_false, if_true, ite_true, ite_false, reduceIte, Bool.not_true, Bool.not_false, Bool.and_true, Bool.true_and, Bool.and_self, decide_eq_true_eq, List.nil_append, List.cons_append, List.append_nil, List.singleton_append,
    defX, bindX, seqX, assignX, nameX, tupSt, asgCons, asgNil, nameSt, constX, retX, retN, exprX, brkX, tupX, lstX, consL, nilL, binX, callX, methX, subX, attrX, ifX, ifeX, notX, orX, andX, negX, cmpT, boolT, notT, andT, orT, swapX, tgtNames, subStX, newLstX, newDicX, forS, itemsOf, nilX,
    addF_int, subF_int, ltF_int, leF_int, gtF_int, geF_int, isF_bool, isF_nn, isF_in, isNotF_bool, Option.bind_some, Option.bind_none, upd_eq, upd_ne, List.length_cons, List.length_nil, List.filterMap_cons, List.filterMap_nil, List.reverse_cons, List.reverse_nil, eqF_s, eqF_sn, eqF_int, neF_int, eqF_bool, eqF_none_int, item_tup0, item_tup1, item_tup2, item_lst0, valAt_s, valAt_n, V.onInt_int, V.onBool_bool, V.onTup_tup, V.onLst_lst, V.onNone_none, onRef_ref, moL_lst, moI_dic, moS_dic, on1_one, on2_two, onCons_cons, onNil_nil, tupR, lstR, lenR, attr_turned, e1, e2, st, g, il, inst_box, neF_dom]
    rfl
/-- strike one literal after another; stop at the first empty domain -/
noncomputable def denyT (D : List Dom) : List Lit → List (Int × Dom) → Bool × List (Int × Dom)
  | [], T => (true, T)
  | l :: ls, T => if struckD l.neg (domOf D T l.x) = [] then (false, putT T l.x []) else denyT D ls (putT T l.x (struckD l.neg (domOf D T l.x)))
end
end Mine
-- S9
namespace Mine

theorem struckD_len (l : Lit) (d : Dom) : (struckD l d).length ≤ 2 * d.length + 1 := by
  have h1 := fun k => upTo_len d k
  have h2 := fun k => fromOn_len d k
  have h3 := fun k => meetK_len k d
  unfold struckD
  split
  · have := h1 l.k; omega
  · have := h2 l.k; omega
  · have := h3 l.k; omega
  · unfold without; rw [List.length_append]; have := h1 (l.k - 1); have := h2 (l.k + 1); omega
theorem deny_loop (D : List Dom) (k : Nat) {B : SF}
    (hB : ∀ ρ mem T (l : Lit), ρ "self" = some (boxV (domsV D) k) → mem[k]? = some (turnO T) → FlatM mem → l.x < D.length → T.length ≤ 900 → (domOf D T l.x).length ≤ 50 →
      B (upd ρ "literal" (litV l)) mem = some (if struckD l.neg (domOf D T l.x) = [] then .ret (.bool false) else .next, upd ρ "literal" (litV l), mem.set k (turnO (putT T l.x (struckD l.neg (domOf D T l.x)))))) :
    ∀ (ls : List Lit) (ρ : Rho) (mem : List MO) (T : List (Int × Dom)) (b : Nat), (∀ l ∈ ls, l.x < D.length) → ρ "self" = some (boxV (domsV D) k) → mem[k]? = some (turnO T) → FlatM mem → T.length + ls.length ≤ 900 → (∀ x, (domOf D T x).length ≤ b) → (b + 1) * 2 ^ ls.length ≤ 51 →
      ∃ ρ', forX (nameSt "literal") B (ls.map litV) ρ mem = some (if (denyT D ls T).1 then .next else .ret (.bool false), ρ', mem.set k (turnO (denyT D ls T).2))
  | [], ρ, mem, T, b, hx, hr, hm, hF, hT, hb, hz => ⟨ρ, by
    have : mem.set k (turnO T) = mem := by
      apply List.ext_getElem?; intro i
      rw [List.getElem?_set]
      split
      · rename_i e; subst e; split
        · exact hm.symm
        · rw [List.getElem?_eq_none (by omega)]
      · rfl
    simp [forX, denyT, this]⟩
  | l :: ls, ρ, mem, T, b, hx, hr, hm, hF, hT, hb, hz => by
    have hk : k < mem.length := (List.getElem?_eq_some_iff.mp hm).1
    have hp : 0 < 2 ^ ls.length := Nat.two_pow_pos _
    rw [List.length_cons, Nat.pow_succ] at hz
    rw [List.length_cons] at hT
    have hb50 : b ≤ 50 := by
      have : (b + 1) * 1 ≤ (b + 1) * (2 ^ ls.length * 2) := Nat.mul_le_mul_left _ (by omega)
      omega
    have e := hB ρ mem T l hr hm hF (hx l (.head _)) (by omega) (Nat.le_trans (hb l.x) hb50)
    rw [List.map_cons, forX]
    show ∃ ρ', ((B (upd ρ "literal" (litV l)) mem).bind _) = _
    rw [e]
    unfold denyT
    by_cases q : struckD l.neg (domOf D T l.x) = []
    · rw [if_pos q, if_pos q, q]
      exact ⟨_, rfl⟩
    · rw [if_neg q, if_neg q]
      have hm2 : (mem.set k (turnO (putT T l.x (struckD l.neg (domOf D T l.x)))))[k]? = some (turnO (putT T l.x (struckD l.neg (domOf D T l.x)))) := List.getElem?_set_self hk
      obtain ⟨ρ', e2⟩ := deny_loop D k hB ls (upd ρ "literal" (litV l)) _ _ (2 * b + 1) (fun l' h' => hx l' (.tail _ h')) (by rw [upd_ne (by decide)]; exact hr) hm2 (hF.set k (turn_clean _))
        (by have := putT_len T l.x (struckD l.neg (domOf D T l.x)); omega)
        (fun x => by
          rw [dom_put]; split
          · have := struckD_len l.neg (domOf D T l.x); have := hb l.x; omega
          · have := hb x; omega)
        (by
          have : (2 * b + 1 + 1) * 2 ^ ls.length = (b + 1) * (2 ^ ls.length * 2) := by rw [show 2 * b + 1 + 1 = (b + 1) * 2 by omega, Nat.mul_assoc, Nat.mul_comm 2]
          omega)
      rw [List.set_set] at e2
      exact ⟨ρ', e2⟩
section
variable {w : World} {H : Heap} {mg mb : Str → Option Value}
theorem inst_box' (D : V) (k : Nat) (name : Str) (m : List MO) (h1 : ¬ ("domains" : Str) = name) (h2 : ¬ ("turned" : Str) = name) : isInst 309 name (boxV D k) m = true := inst_box D k name m h1 h2
theorem deny_ok (ok : (cx w H mg mb).Ok) {f1 f2 : CF} (h1 : CallOK (cx w H mg mb) 1 (.ref 186) f1) (s1 : ∀ l mem, f1 [litV l] mem = some (litV l.neg, mem)) (h2 : CallOK (cx w H mg mb) 4 (.ref 299) f2)
    (s2 : ∀ D T k l mem, mem[k]? = some (turnO T) → FlatM mem → l.x < D.length → l.x ≤ 1000 → T.length ≤ 900 → (domOf D T l.x).length ≤ 50 →
      f2 [boxV (domsV D) k, litV l] mem = some (.bool (!(struckD l (domOf D T l.x)).isEmpty), mem.set k (turnO (putT T l.x (struckD l (domOf D T l.x)))))) :
    ∃ f, CallOK (cx w H mg mb) 5 (.ref 306) f ∧ ∀ D T k ls mem b, mem[k]? = some (turnO T) → FlatM mem → (∀ l ∈ ls, l.x < D.length) → D.length ≤ 1000 → T.length + ls.length ≤ 900 → (∀ x, (domOf D T x).length ≤ b) → (b + 1) * 2 ^ ls.length ≤ 51 →
      f [boxV (domsV D) k, .tup (ls.map litV)] mem = some (.bool (denyT D ls T).1, mem.set k (turnO (denyT D ls T).2)) := by
  have hC : SelfCls 309 := trivial
  refine' ⟨_, CallOK.def2 (names := ["self", "clause"]) ok rfl rfl ?d rfl rfl rfl rfl fun L => ?b, ?s⟩
  case d => (intro ws h; refine len2 h ?_; intros; rfl)
  case b => exact (ExOK.cons (StOK.for (loadLocal rfl rfl) (AsgOK.local rfl) (ExOK.cons (StOK.ite (TeOK.not (TeOK.ofEv (EvOK.meth (loadLocal rfl rfl) (EvsOK.cons (EvOK.call (loadGlobal' ok rfl rfl rfl) (EvsOK.cons (loadLocal rfl rfl) EvsOK.nil rfl) rfl (KeepOK.fn ok rfl) (CallOK.up h1 (by decide)) rfl) EvsOK.nil rfl) rfl (MethOK.inst (C := 309) ok rfl rfl rfl) (KeepOK.fn ok rfl) (CallOK.up h2 (by decide)) rfl rfl rfl) (fun _ => rfl))) (ExOK.cons (StOK.ret EvOK.bool) ExOK.nil) ExOK.nil) ExOK.nil) (fun _ => rfl)) (ExOK.cons (StOK.ret EvOK.bool) ExOK.nil))
  case s =>
    intro D T k ls mem b hm hF hx hD hT hb hz
    simp (config := { maxSteps := 3000000 }) (disch := first | assumption | decide | decide +kernel) only [sizeB, Nat.reduceAdd, Nat.reduceLeDiff, decide_true, decide_false, Bool.false_eq_true, if_false, if_true, ite_true, ite_false, reduceIte, Bool.not_true, Bool.not_false, Bool.and_true, Bool.true_and, Bool.and_self, decide_eq_true_eq, List.nil_append, List.cons_append, List.append_nil, List.singleton_append,
    defX, bindX, seqX, assignX, nameX, tupSt, asgCons, asgNil, nameSt, constX, retX, retN, exprX, brkX, tupX, lstX, consL, nilL, binX, callX, methX, subX, attrX, ifX, ifeX, notX, orX, andX, negX, cmpT, boolT, notT, andT, orT, swapX, tgtNames, subStX, newLstX, newDicX, forS, itemsOf, nilX,
    addF_int, subF_int, ltF_int, leF_int, gtF_int, geF_int, isF_bool, isF_nn, isF_in, isNotF_bool, Option.bind_some, Option.bind_none, upd_eq, upd_ne, List.length_cons, List.length_nil, List.filterMap_cons, List.filterMap_nil, List.reverse_cons, List.reverse_nil, eqF_s, eqF_sn, eqF_int, neF_int, eqF_bool, eqF_none_int, item_tup0, item_tup1, item_tup2, item_lst0, valAt_s, valAt_n, V.onInt_int, V.onBool_bool, V.onTup_tup, V.onLst_lst, V.onNone_none, onRef_ref, moL_lst, moI_dic, moS_dic, on1_one, on2_two, onCons_cons, onNil_nil, tupR, lstR, lenR]
    generalize hρ : upd _ "clause" _ = ρ0
    generalize hW : forX _ _ (ls.map litV) ρ0 _ = W
    have key : ∃ ρ', W = some (if (denyT D ls T).1 then .next else .ret (.bool false), ρ', mem.set k (turnO (denyT D ls T).2)) := by
      rw [← hW]
      refine deny_loop D k ?_ ls ρ0 mem T b hx (by rw [← hρ]; rfl) hm hF hT hb hz
      intro ρ mem T l hr hm hF hx hT hd
      have e1 := s1 l
      have e2 := s2 D T k l.neg mem hm hF hx (by have : l.neg.x = l.x := rfl; omega) hT hd
      have : l.neg.x = l.x := rfl
      rw [this] at e2
      cases hq : struckD l.neg (domOf D T l.x) with
      | nil =>
        rw [hq] at e2
        have e3 : (!([] : Dom).isEmpty) = false := rfl
        rw [e3] at e2
        simp (config := { maxSteps := 3000000 }) (disch := first | assumption | decide | decide +kernel) only [sizeB, Nat.reduceAdd, Nat.reduceLeDiff, decide_true, decide_false, Bool.false_eq_true, if_false, if_true, ite_true, ite_false, reduceIte, Bool.not_true, Bool.not_false, Bool.and_true, Bool.true_and, Bool.and_self, decide_eq_true_eq, List.nil_append, List.cons_append, List.append_nil, List.singleton_append,
    defX, bindX, seqX, assignX, nameX, tupSt, asgCons, asgNil, nameSt, constX, retX, retN, exprX, brkX, tupX, lstX, consL, nilL, binX, callX, methX, subX, attrX, ifX, ifeX, notX, orX, andX, negX, cmpT, boolT, notT, andT, orT, swapX, tgtNames, subStX, newLstX, newDicX, forS, itemsOf, nilX,
    addF_int, subF_int, ltF_int, leF_int, gtF_int, geF_int, isF_bool, isF_nn, isF_in, isNotF_bool, Option.bind_some, Option.bind_none, upd_eq, upd_ne, List.length_cons, List.length_nil, List.filterMap_cons, List.filterMap_nil, List.reverse_cons, List.reverse_nil, eqF_s, eqF_sn, eqF_int, neF_int, eqF_bool, eqF_none_int, item_tup0, item_tup1, item_tup2, item_lst0, valAt_s, valAt_n, V.onInt_int, V.onBool_bool, V.onTup_tup, V.onLst_lst, V.onNone_none, onRef_ref, moL_lst, moI_dic, moS_dic, on1_one, on2_two, onCons_cons, onNil_nil, tupR, lstR, lenR, hr, e1, e2, inst_box]
      | cons p d =>
        rw [hq] at e2
        have e3 : (!(p :: d : Dom).isEmpty) = true := rfl
        rw [e3] at e2
        have e4 : ¬ (p :: d = ([] : Dom)) := fun h => by cases h
        simp (config := { maxSteps := 3000000 }) (disch := first | assumption | decide | decide +kernel) only [sizeB, Nat.reduceAdd, Nat.reduceLeDiff, decide_true, decide_false, Bool.false_eq_true, if_false, if_true, ite_true, ite_false, reduceIte, Bool.not_true, Bool.not_false, Bool.and_true, Bool.true_and, Bool.and_self, decide_eq_true_eq, List.nil_append, List.cons_append, List.append_nil, List.singleton_append,
    defX, bindX, seqX, assignX, nameX, tupSt, asgCons, asgNil, nameSt, constX, retX, retN, exprX, brkX, tupX, lstX, consL, nilL, binX, callX, methX, subX, attrX, ifX, ifeX, notX, orX, andX, negX, cmpT, boolT, notT, andT, orT, swapX, tgtNames, subStX, newLstX, newDicX, forS, itemsOf, nilX,
    addF_int, subF_int, ltF_int, leF_int, gtF_int, geF_int, isF_bool, isF_nn, isF_in, isNotF_bool, Option.bind_some, Option.bind_none, upd_eq, upd_ne, List.length_cons, List.length_nil, List.filterMap_cons, List.filterMap_nil, List.reverse_cons, List.reverse_nil, eqF_s, eqF_sn, eqF_int, neF_int, eqF_bool, eqF_none_int, item_tup0, item_tup1, item_tup2, item_lst0, valAt_s, valAt_n, V.onInt_int, V.onBool_bool, V.onTup_tup, V.onLst_lst, V.onNone_none, onRef_ref, moL_lst, moI_dic, moS_dic, on1_one, on2_two, onCons_cons, onNil_nil, tupR, lstR, lenR, hr, e1, e2, inst_box, e4]
    obtain ⟨ρ', e⟩ := key
    subst e
    cases (denyT D ls T).1 <;> rfl
end
end Mine
-- S10
namespace Mine

/-! ## Loops in general -/
theorem items_lst (l : List V) : itemsOf (.lst l) = some l := rfl
theorem items_tup (l : List V) : itemsOf (.tup l) = some l := rfl

theorem forX_fold {σ τ : Type} {a : AF} {b : SF} (R : Nat → σ → Rho → List MO → Prop) (st : σ → τ → σ) (g : τ → V) : ∀ (l : List τ) (s : σ) (ρ : Rho) (m : List MO), R l.length s ρ m →
    (∀ (k : Nat) (s : σ) (x : τ) (ρ : Rho) (m : List MO), R (k + 1) s ρ m → x ∈ l → ∃ ρ1 m1, (∀ rest, forX a b (g x :: rest) ρ m = forX a b rest ρ1 m1) ∧ R k (st s x) ρ1 m1) →
    ∃ ρ' m', forX a b (l.map g) ρ m = some (.next, ρ', m') ∧ R 0 (l.foldl st s) ρ' m'
  | [], s, ρ, m, h, _ => ⟨ρ, m, rfl, h⟩
  | x :: l, s, ρ, m, h, H => by
    obtain ⟨ρ1, m1, e1, h1⟩ := H l.length s x ρ m h (.head _)
    obtain ⟨ρ', m', e, h'⟩ := forX_fold R st g l (st s x) ρ1 m1 h1 fun k s y ρ m r hy => H k s y ρ m r (.tail _ hy)
    exact ⟨ρ', m', by rw [List.map_cons, e1]; exact e, h'⟩
theorem forX_find {τ : Type} {a : AF} {b : SF} (P : Rho → Prop) (m : List MO) (g : τ → V) (t : τ → Bool) (r : V) : ∀ (l : List τ) (ρ : Rho), P ρ →
    (∀ (x : τ) (ρ : Rho), P ρ → x ∈ l → ∃ ρ1, (∀ rest, forX a b (g x :: rest) ρ m = if t x = true then some (.ret r, ρ1, m) else forX a b rest ρ1 m) ∧ P ρ1) →
    ∃ ρ', forX a b (l.map g) ρ m = some (if l.any t then .ret r else .next, ρ', m) ∧ P ρ'
  | [], ρ, h, _ => ⟨ρ, rfl, h⟩
  | x :: l, ρ, h, H => by
    obtain ⟨ρ1, e1, h1⟩ := H x ρ h (.head _)
    rw [List.any_cons, List.map_cons, e1]
    cases t x with
    | true => exact ⟨ρ1, by rfl, h1⟩
    | false =>
      obtain ⟨ρ', e2, h2⟩ := forX_find P m g t r l ρ1 h1 fun y ρ r hy => H y ρ r (.tail _ hy)
      exact ⟨ρ', by rw [if_neg (by decide), e2, Bool.false_or], h2⟩
/-- a comprehension that leaves the memory alone -/
theorem loopB_flat {τ : Type} {a : AF} {t : TF} {b : CB} (P : Rho → Prop) (m : List MO) (g : τ → V) (hh : τ → List V) (Z K : Nat) : ∀ (l : List τ) (ρ : Rho) (acc : List V), P ρ → (∀ x ∈ l, (hh x).length ≤ K) → acc.length + K * l.length ≤ Z →
    (∀ (x : τ) (ρ : Rho) (acc : List V), P ρ → x ∈ l → acc.length ≤ Z → ∃ ρ1, (∀ rest, loopB a t b (g x :: rest) ρ m acc = loopB a t b rest ρ1 m (acc ++ hh x)) ∧ P ρ1) →
    ∃ ρ', loopB a t b (l.map g) ρ m acc = some (ρ', m, acc ++ l.flatMap hh) ∧ P ρ'
  | [], ρ, acc, h, _, _, _ => ⟨ρ, by simp [loopB], h⟩
  | x :: l, ρ, acc, h, hK, hz, H => by
    rw [List.length_cons, Nat.mul_succ] at hz
    obtain ⟨ρ1, e1, h1⟩ := H x ρ acc h (.head _) (by omega)
    have := hK x (.head _)
    obtain ⟨ρ', e, h'⟩ := loopB_flat P m g hh Z K l ρ1 (acc ++ hh x) h1 (fun y hy => hK y (.tail _ hy)) (by rw [List.length_append]; omega) fun y ρ acc r hy => H y ρ acc r (.tail _ hy)
    exact ⟨ρ', by rw [List.map_cons, e1, e, List.flatMap_cons, List.append_assoc], h'⟩
theorem map_flat {α β : Type} (f : α → β) (l : List α) : l.flatMap (fun x => [f x]) = l.map f := by induction l with
  | nil => rfl
  | cons x l ih => rw [List.flatMap_cons, ih]; rfl
theorem filter_flat {α β : Type} (p : α → Bool) (f : α → β) (l : List α) : l.flatMap (fun x => if p x then [f x] else []) = (l.filter p).map f := by induction l with
  | nil => rfl
  | cons x l ih =>
    rw [List.flatMap_cons, ih, List.filter_cons]
    cases p x <;> rfl
/-! ## may the lots differ: by the choices -/
noncomputable def lotsV (L : List (List Int)) : V := .lst (L.map lotV)
noncomputable def chV (C : List (List (List Int))) : V := .lst (C.map lotsV)
noncomputable def chStep (C : List (List (List Int))) (l : List Int) : List (List (List Int)) := C ++ C.map (· ++ [l])
noncomputable def choicesOf (L : List (List Int)) : List (List (List Int)) := L.foldl chStep [[]]
noncomputable def tight (c : List (List Int)) : Bool := decide ((dedI c.flatten).length < c.length)
noncomputable def canA (L : List (List Int)) : Bool := !(choicesOf L).any tight
theorem set_ints {c : Cx} {ns : List Int} (h : ns.length ≤ 4000) (m : List MO) : setF c [.lst (ns.map .int)] m = some (.set (ledOf c.w) (dedI ns), m) := by
  show ((toInts (ns.map .int)).bind _) = _
  rw [toInts_map]; exact if_pos h
theorem dedI_len_le (ns : List Int) : (dedI ns).length ≤ ns.length := by
  have : ∀ (ns acc : List Int), (ns.foldl step_dedup acc).length ≤ acc.length + ns.length := by
    intro ns
    induction ns with
    | nil => intro acc; simp
    | cons n ns ih =>
      intro acc
      have := ih (step_dedup acc n)
      have h2 : (step_dedup acc n).length ≤ acc.length + 1 := by unfold step_dedup; split <;> simp
      rw [List.foldl_cons, List.length_cons]; omega
  simpa [dedI] using this ns []
theorem len_set {led : Bool} {l : List Int} (h : l.length ≤ 5000) (m : List MO) : lenF [.set led l] m = some (.int l.length, m) := by
  have : l.length ≤ sizeB := Nat.le_trans h (by decide)
  exact if_pos this
section
variable {w : World} {H : Heap} {mg mb : Str → Option Value}
theorem law_can_ok (ok : (cx w H mg mb).Ok) : ∃ f, CallOK (cx w H mg mb) 1 (.ref 385) f ∧ ∀ L mem, L.length ≤ 7 → (∀ l ∈ L, l.length ≤ 10) → f [lotsV L] mem = some (.bool (canA L), mem) := by
  refine' ⟨_, CallOK.def2 (names := ["lots"]) ok rfl rfl ?d rfl rfl rfl rfl fun L => ?b, ?s⟩
  case d => (intro ws h; refine len1 h ?_; intros; rfl)
  case b => exact (ExOK.cons (StOK.assign (EvOK.lst (EvsOK.cons (EvOK.lst EvsOK.nil) EvsOK.nil rfl)) (AsgOK.local rfl) rfl rfl rfl) (ExOK.cons (StOK.for (loadLocal rfl rfl) (AsgOK.cell rfl rfl (List.Mem.head _)) (ExOK.cons (StOK.assign (EvOK.bin (loadLocal rfl rfl) (EvOK.comp rfl (loadLocal rfl rfl) (fun _ => rfl) (CompSt.of rfl rfl rfl rfl rfl rfl (fun _ => rfl) (fun _ => rfl) rfl rfl) (fun _ => (LpOK.mk (fun _ _ => (turn1 _ _ _ _ _ _ _ _ _)) (AsgOK.local rfl) TsOK.nil (InOK.emit (EvOK.bin (loadLocal rfl rfl) (EvOK.lst (EvsOK.cons (loadCell rfl rfl) EvsOK.nil rfl)) addOK))))) addOK) (AsgOK.local rfl) rfl rfl rfl) ExOK.nil) (fun _ => rfl)) (ExOK.cons (StOK.for (loadLocal rfl rfl) (AsgOK.local rfl) (ExOK.cons (StOK.assign (EvOK.call (bi_set ok rfl) (EvsOK.cons (EvOK.comp rfl (loadLocal rfl rfl) (fun _ => rfl) (CompSt.of rfl rfl rfl rfl rfl rfl (fun _ => rfl) (fun _ => rfl) rfl rfl) (fun _ => (LpOK.mk (fun _ _ => (turn2a _ _ _ _ _ _ _ _ _ _ _ _)) (AsgOK.local rfl) TsOK.nil (InOK.nest rfl rfl (loadLocal rfl rfl) (fun _ => rfl) (LpOK.mk (fun _ _ => (turn2b _ _ _ _ _ _ _ _ _ _ _ _)) (AsgOK.local rfl) TsOK.nil (InOK.emit (loadLocal rfl rfl))))))) EvsOK.nil rfl) rfl keepT setOK rfl) (AsgOK.local rfl) rfl rfl rfl) (ExOK.cons (StOK.ite (TeOK.cmp (EvOK.call (bi_len ok rfl) (EvsOK.cons (loadLocal rfl rfl) EvsOK.nil rfl) rfl keepB lenOK rfl) (EvOK.call (bi_len ok rfl) (EvsOK.cons (loadLocal rfl rfl) EvsOK.nil rfl) rfl keepB lenOK rfl) ltOK rfl) (ExOK.cons (StOK.ret EvOK.bool) ExOK.nil) ExOK.nil) ExOK.nil)) (fun _ => rfl)) (ExOK.cons (StOK.ret EvOK.bool) ExOK.nil))))
  case s =>
    intro L mem hL hl
    have hi : ∀ L, itemsOf (lotsV L) = some (L.map lotV) := fun L => rfl
    simp (config := { maxSteps := 3000000 }) (disch := first | assumption | decide | decide +kernel) only [sizeB, Nat.reduceAdd, Nat.reduceLeDiff, decide_true, decide_false, Bool.false_eq_true, if_false, if_true, ite_true, ite_false, reduceIte, Bool.not_true, Bool.not_false, Bool.and_true, Bool.true_and, Bool.and_self, decide_eq_true_eq, List.nil_append, List.cons_append, List.append_nil, List.singleton_append,
    defX, bindX, seqX, assignX, nameX, tupSt, asgCons, asgNil, nameSt, constX, retX, retN, exprX, brkX, tupX, lstX, consL, nilL, binX, callX, methX, subX, attrX, ifX, ifeX, notX, orX, andX, negX, cmpT, boolT, notT, andT, orT, swapX, tgtNames, subStX, newLstX, newDicX, forS, items_lst, items_tup, nilX,
    addF_int, subF_int, ltF_int, leF_int, gtF_int, geF_int, isF_bool, isF_nn, isF_in, isNotF_bool, Option.bind_some, Option.bind_none, upd_eq, upd_ne, List.length_cons, List.length_nil, List.filterMap_cons, List.filterMap_nil, List.reverse_cons, List.reverse_nil, eqF_s, eqF_sn, eqF_int, neF_int, eqF_bool, eqF_none_int, item_tup0, item_tup1, item_tup2, item_lst0, valAt_s, valAt_n, V.onInt_int, V.onBool_bool, V.onTup_tup, V.onLst_lst, V.onNone_none, onRef_ref, moL_lst, moI_dic, moS_dic, on1_one, on2_two, onCons_cons, onNil_nil, tupR, lstR, lenR, lotsV]
    generalize hρ : upd _ "choices" _ = ρ0
    generalize hW : forX _ _ (L.map lotV) ρ0 _ = W
    let R : Nat → List (List (List Int)) → Rho → List MO → Prop := fun k C ρ m => m = mem ∧ ρ "choices" = some (chV C) ∧ C.length * 2 ^ k ≤ 128 ∧ (∀ c ∈ C, c.length + k ≤ 7 ∧ ∀ l ∈ c, l.length ≤ 10)
    have key : ∃ ρ' m', W = some (.next, ρ', m') ∧ R 0 (choicesOf L) ρ' m' := by
      rw [← hW]
      refine forX_fold R chStep lotV L [[]] ρ0 mem ⟨rfl, by rw [← hρ]; rfl, ?_, ?_⟩ ?_
      · have : 2 ^ L.length ≤ 2 ^ 7 := Nat.pow_le_pow_right (by decide) hL
        simpa using this
      · intro c hc; rw [List.mem_singleton] at hc; subst hc; exact ⟨by simpa using hL, fun l h => by cases h⟩
      · rintro k C l ρ m ⟨rfl, hr, hz, hc⟩ hl'
        have hp : 0 < 2 ^ k := Nat.two_pow_pos _
        rw [Nat.pow_succ] at hz
        have hC : C.length ≤ 128 := by
          have : C.length * 1 ≤ C.length * (2 ^ k * 2) := Nat.mul_le_mul_left _ (by omega)
          omega
        refine ⟨upd (upd ρ "lot" (lotV l)) "choices" (chV (chStep C l)), m, fun rest => ?_, rfl, rfl, ?_, ?_⟩
        · rw [forX]
          have hi : itemsOf (chV C) = some (C.map lotsV) := rfl
          have had : addF (chV C) (chV (C.map (· ++ [l]))) m = some (chV (chStep C l)) := by
            unfold chV chStep
            rw [addF_lst (by rw [List.length_map, List.length_map, List.length_map]; omega), ← List.map_append]
          simp (config := { maxSteps := 3000000 }) (disch := first | assumption | decide | decide +kernel) only [sizeB, Nat.reduceAdd, Nat.reduceLeDiff, decide_true, decide_false, Bool.false_eq_true, if_false, if_true, ite_true, ite_false, reduceIte, Bool.not_true, Bool.not_false, Bool.and_true, Bool.true_and, Bool.and_self, decide_eq_true_eq, List.nil_append, List.cons_append, List.append_nil, List.singleton_append,
    defX, bindX, seqX, assignX, nameX, tupSt, asgCons, asgNil, nameSt, constX, retX, retN, exprX, brkX, tupX, lstX, consL, nilL, binX, callX, methX, subX, attrX, ifX, ifeX, notX, orX, andX, negX, cmpT, boolT, notT, andT, orT, swapX, tgtNames, subStX, newLstX, newDicX, forS, items_lst, items_tup, nilX,
    addF_int, subF_int, ltF_int, leF_int, gtF_int, geF_int, isF_bool, isF_nn, isF_in, isNotF_bool, Option.bind_some, Option.bind_none, upd_eq, upd_ne, List.length_cons, List.length_nil, List.filterMap_cons, List.filterMap_nil, List.reverse_cons, List.reverse_nil, eqF_s, eqF_sn, eqF_int, neF_int, eqF_bool, eqF_none_int, item_tup0, item_tup1, item_tup2, item_lst0, valAt_s, valAt_n, V.onInt_int, V.onBool_bool, V.onTup_tup, V.onLst_lst, V.onNone_none, onRef_ref, moL_lst, moI_dic, moS_dic, on1_one, on2_two, onCons_cons, onNil_nil, tupR, lstR, lenR, hr, compX, hi]
          generalize hρ2 : capX _ _ = ρ2
          have h2 : ρ2 "lot" = some (lotV l) := by rw [← hρ2]; rfl
          generalize hW2 : loopB _ _ _ (C.map lotsV) ρ2 _ _ = W2
          have key2 : ∃ ρ', W2 = some (ρ', m, [] ++ C.flatMap fun c => [lotsV (c ++ [l])]) ∧ ρ' "lot" = some (lotV l) := by
            rw [← hW2]
            refine loopB_flat (fun ρ => ρ "lot" = some (lotV l)) m lotsV _ 1000 1 C ρ2 [] h2 (fun _ _ => Nat.le_refl 1) (by simp; omega) ?_
            intro c ρ acc hr hc' hz'
            have hz1 : acc.length ≤ 100000 := by omega
            have had2 : ∀ m, addF (lotsV c) (.lst [lotV l]) m = some (lotsV (c ++ [l])) := fun m => by
              unfold lotsV
              rw [addF_lst (by have := (hc c hc').1; simp; omega), List.map_append]; rfl
            refine ⟨upd ρ "choice" (lotsV c), fun rest => ?_, by rw [upd_ne (by decide)]; exact hr⟩
            rw [loopB]
            simp (config := { maxSteps := 3000000 }) (disch := first | assumption | decide | decide +kernel) only [sizeB, Nat.reduceAdd, Nat.reduceLeDiff, decide_true, decide_false, Bool.false_eq_true, if_false, if_true, ite_true, ite_false, reduceIte, Bool.not_true, Bool.not_false, Bool.and_true, Bool.true_and, Bool.and_self, decide_eq_true_eq, List.nil_append, List.cons_append, List.append_nil, List.singleton_append,
    defX, bindX, seqX, assignX, nameX, tupSt, asgCons, asgNil, nameSt, constX, retX, retN, exprX, brkX, tupX, lstX, consL, nilL, binX, callX, methX, subX, attrX, ifX, ifeX, notX, orX, andX, negX, cmpT, boolT, notT, andT, orT, swapX, tgtNames, subStX, newLstX, newDicX, forS, items_lst, items_tup, nilX,
    addF_int, subF_int, ltF_int, leF_int, gtF_int, geF_int, isF_bool, isF_nn, isF_in, isNotF_bool, Option.bind_some, Option.bind_none, upd_eq, upd_ne, List.length_cons, List.length_nil, List.filterMap_cons, List.filterMap_nil, List.reverse_cons, List.reverse_nil, eqF_s, eqF_sn, eqF_int, neF_int, eqF_bool, eqF_none_int, item_tup0, item_tup1, item_tup2, item_lst0, valAt_s, valAt_n, V.onInt_int, V.onBool_bool, V.onTup_tup, V.onLst_lst, V.onNone_none, onRef_ref, moL_lst, moI_dic, moS_dic, on1_one, on2_two, onCons_cons, onNil_nil, tupR, lstR, lenR, hr, emitB, had2, hz1, trueT]
          obtain ⟨ρ', e, _⟩ := key2
          subst e
          have e5 : ([] ++ C.flatMap fun c => [lotsV (c ++ [l])]) = (C.map (· ++ [l])).map lotsV := by
            rw [List.nil_append, map_flat, List.map_map]; rfl
          rw [e5]
          have e6 : V.lst ((C.map (· ++ [l])).map lotsV) = chV (C.map (· ++ [l])) := rfl
          simp (config := { maxSteps := 3000000 }) (disch := first | assumption | decide | decide +kernel) only [sizeB, Nat.reduceAdd, Nat.reduceLeDiff, decide_true, decide_false, Bool.false_eq_true, if_false, if_true, ite_true, ite_false, reduceIte, Bool.not_true, Bool.not_false, Bool.and_true, Bool.true_and, Bool.and_self, decide_eq_true_eq, List.nil_append, List.cons_append, List.append_nil, List.singleton_append,
    defX, bindX, seqX, assignX, nameX, tupSt, asgCons, asgNil, nameSt, constX, retX, retN, exprX, brkX, tupX, lstX, consL, nilL, binX, callX, methX, subX, attrX, ifX, ifeX, notX, orX, andX, negX, cmpT, boolT, notT, andT, orT, swapX, tgtNames, subStX, newLstX, newDicX, forS, items_lst, items_tup, nilX,
    addF_int, subF_int, ltF_int, leF_int, gtF_int, geF_int, isF_bool, isF_nn, isF_in, isNotF_bool, Option.bind_some, Option.bind_none, upd_eq, upd_ne, List.length_cons, List.length_nil, List.filterMap_cons, List.filterMap_nil, List.reverse_cons, List.reverse_nil, eqF_s, eqF_sn, eqF_int, neF_int, eqF_bool, eqF_none_int, item_tup0, item_tup1, item_tup2, item_lst0, valAt_s, valAt_n, V.onInt_int, V.onBool_bool, V.onTup_tup, V.onLst_lst, V.onNone_none, onRef_ref, moL_lst, moI_dic, moS_dic, on1_one, on2_two, onCons_cons, onNil_nil, tupR, lstR, lenR, e6, had]
        · show (C ++ C.map (· ++ [l])).length * 2 ^ k ≤ 128
          rw [List.length_append, List.length_map, ← Nat.two_mul, Nat.mul_comm 2, Nat.mul_assoc, Nat.mul_comm 2]; exact hz
        · intro c hc'
          rcases List.mem_append.mp hc' with q | q
          · have := hc c q; exact ⟨by omega, this.2⟩
          · obtain ⟨c', q1, rfl⟩ := List.mem_map.mp q
            have := hc c' q1
            refine ⟨by rw [List.length_append]; show c'.length + 1 + k ≤ 7; omega, fun x hx => ?_⟩
            rcases List.mem_append.mp hx with q | q
            · exact this.2 x q
            · rw [List.mem_singleton] at q; subst q; exact hl x hl'
    obtain ⟨ρ', m', e, rfl, hr, hz, hc⟩ := key
    subst e
    have hi : itemsOf (chV (choicesOf L)) = some ((choicesOf L).map lotsV) := rfl
    clear hW
    simp (config := { maxSteps := 3000000 }) (disch := first | assumption | decide | decide +kernel) only [sizeB, Nat.reduceAdd, Nat.reduceLeDiff, decide_true, decide_false, Bool.false_eq_true, if_false, if_true, ite_true, ite_false, reduceIte, Bool.not_true, Bool.not_false, Bool.and_true, Bool.true_and, Bool.and_self, decide_eq_true_eq, List.nil_append, List.cons_append, List.append_nil, List.singleton_append,
    defX, bindX, seqX, assignX, nameX, tupSt, asgCons, asgNil, nameSt, constX, retX, retN, exprX, brkX, tupX, lstX, consL, nilL, binX, callX, methX, subX, attrX, ifX, ifeX, notX, orX, andX, negX, cmpT, boolT, notT, andT, orT, swapX, tgtNames, subStX, newLstX, newDicX, forS, items_lst, items_tup, nilX,
    addF_int, subF_int, ltF_int, leF_int, gtF_int, geF_int, isF_bool, isF_nn, isF_in, isNotF_bool, Option.bind_some, Option.bind_none, upd_eq, upd_ne, List.length_cons, List.length_nil, List.filterMap_cons, List.filterMap_nil, List.reverse_cons, List.reverse_nil, eqF_s, eqF_sn, eqF_int, neF_int, eqF_bool, eqF_none_int, item_tup0, item_tup1, item_tup2, item_lst0, valAt_s, valAt_n, V.onInt_int, V.onBool_bool, V.onTup_tup, V.onLst_lst, V.onNone_none, onRef_ref, moL_lst, moI_dic, moS_dic, on1_one, on2_two, onCons_cons, onNil_nil, tupR, lstR, lenR, hr, hi]
    generalize hW : forX _ _ ((choicesOf L).map lotsV) ρ' _ = W
    have key : ∃ ρ'', W = some (if (choicesOf L).any tight then .ret (.bool false) else .next, ρ'', m') ∧ True := by
      rw [← hW]
      refine forX_find (fun _ => True) m' lotsV tight (.bool false) (choicesOf L) ρ' trivial ?_
      intro c ρ _ hc'
      have hcl := (hc c hc').1
      have hcl2 := (hc c hc').2
      have hfl : c.flatten.length ≤ 4000 := by
        have : ∀ c : List (List Int), (∀ l ∈ c, l.length ≤ 10) → c.flatten.length ≤ 10 * c.length := by
          intro c
          induction c with
          | nil => intro _; simp
          | cons l c ih =>
            intro h
            have h1 := ih fun x hx => h x (.tail _ hx)
            have h2 := h l (.head _)
            rw [List.flatten_cons, List.length_append, List.length_cons]; omega
        have := this c hcl2
        omega
      refine ⟨upd (upd ρ "choice" (lotsV c)) "together" (.set (ledOf w) (dedI c.flatten)), fun rest => ?_, trivial⟩
      rw [forX]
      have hi2 : itemsOf (lotsV c) = some (c.map lotV) := rfl
      simp (config := { maxSteps := 3000000 }) (disch := first | assumption | decide | decide +kernel) only [sizeB, Nat.reduceAdd, Nat.reduceLeDiff, decide_true, decide_false, Bool.false_eq_true, if_false, if_true, ite_true, ite_false, reduceIte, Bool.not_true, Bool.not_false, Bool.and_true, Bool.true_and, Bool.and_self, decide_eq_true_eq, List.nil_append, List.cons_append, List.append_nil, List.singleton_append,
    defX, bindX, seqX, assignX, nameX, tupSt, asgCons, asgNil, nameSt, constX, retX, retN, exprX, brkX, tupX, lstX, consL, nilL, binX, callX, methX, subX, attrX, ifX, ifeX, notX, orX, andX, negX, cmpT, boolT, notT, andT, orT, swapX, tgtNames, subStX, newLstX, newDicX, forS, items_lst, items_tup, nilX,
    addF_int, subF_int, ltF_int, leF_int, gtF_int, geF_int, isF_bool, isF_nn, isF_in, isNotF_bool, Option.bind_some, Option.bind_none, upd_eq, upd_ne, List.length_cons, List.length_nil, List.filterMap_cons, List.filterMap_nil, List.reverse_cons, List.reverse_nil, eqF_s, eqF_sn, eqF_int, neF_int, eqF_bool, eqF_none_int, item_tup0, item_tup1, item_tup2, item_lst0, valAt_s, valAt_n, V.onInt_int, V.onBool_bool, V.onTup_tup, V.onLst_lst, V.onNone_none, onRef_ref, moL_lst, moI_dic, moS_dic, on1_one, on2_two, onCons_cons, onNil_nil, tupR, lstR, lenR, compX, hi2]
      generalize hρ2 : capX _ _ = ρ2
      generalize hW2 : loopB _ _ _ (c.map lotV) ρ2 _ _ = W2
      have key2 : ∃ ρ', W2 = some (ρ', m', [] ++ c.flatMap fun l => l.map .int) ∧ True := by
        rw [← hW2]
        refine loopB_flat (fun _ => True) m' lotV _ 1000 10 c ρ2 [] trivial (fun l h => by rw [List.length_map]; exact hcl2 l h) (by simp; omega) ?_
        intro l ρ acc _ hl' hz'
        have hlz : l.length ≤ 10 := hcl2 l hl'
        have hi3 : itemsOf (lotV l) = some (l.map .int) := rfl
        have key3 : ∀ ρ3, ∃ ρ', loopB (nameSt "number") trueT (emitB (nameX "number")) (l.map .int) ρ3 m' acc = some (ρ', m', acc ++ l.flatMap fun i => [.int i]) ∧ True := fun ρ3 => by
          refine loopB_flat (fun _ => True) m' V.int _ 2000 1 l ρ3 acc trivial (fun _ _ => Nat.le_refl 1) (by omega) ?_
          intro i ρ acc _ _ hz'
          have hz1 : acc.length ≤ 100000 := by omega
          refine ⟨upd ρ "number" (.int i), fun rest => ?_, trivial⟩
          rw [loopB]
          simp (config := { maxSteps := 3000000 }) (disch := first | assumption | decide | decide +kernel) only [sizeB, Nat.reduceAdd, Nat.reduceLeDiff, decide_true, decide_false, Bool.false_eq_true, if_false, if_true, ite_true, ite_false, reduceIte, Bool.not_true, Bool.not_false, Bool.and_true, Bool.true_and, Bool.and_self, decide_eq_true_eq, List.nil_append, List.cons_append, List.append_nil, List.singleton_append,
    defX, bindX, seqX, assignX, nameX, tupSt, asgCons, asgNil, nameSt, constX, retX, retN, exprX, brkX, tupX, lstX, consL, nilL, binX, callX, methX, subX, attrX, ifX, ifeX, notX, orX, andX, negX, cmpT, boolT, notT, andT, orT, swapX, tgtNames, subStX, newLstX, newDicX, forS, items_lst, items_tup, nilX,
    addF_int, subF_int, ltF_int, leF_int, gtF_int, geF_int, isF_bool, isF_nn, isF_in, isNotF_bool, Option.bind_some, Option.bind_none, upd_eq, upd_ne, List.length_cons, List.length_nil, List.filterMap_cons, List.filterMap_nil, List.reverse_cons, List.reverse_nil, eqF_s, eqF_sn, eqF_int, neF_int, eqF_bool, eqF_none_int, item_tup0, item_tup1, item_tup2, item_lst0, valAt_s, valAt_n, V.onInt_int, V.onBool_bool, V.onTup_tup, V.onLst_lst, V.onNone_none, onRef_ref, moL_lst, moI_dic, moS_dic, on1_one, on2_two, onCons_cons, onNil_nil, tupR, lstR, lenR, emitB, hz1, trueT]
        obtain ⟨ρ', e3, _⟩ := key3 (upd ρ "lot" (lotV l))
        refine' ⟨ρ', fun rest => ?e, trivial⟩
        case e =>
          rw [loopB]
          simp (config := { maxSteps := 3000000 }) (disch := first | assumption | decide | decide +kernel) only [sizeB, Nat.reduceAdd, Nat.reduceLeDiff, decide_true, decide_false, Bool.false_eq_true, if_false, if_true, ite_true, ite_false, reduceIte, Bool.not_true, Bool.not_false, Bool.and_true, Bool.true_and, Bool.and_self, decide_eq_true_eq, List.nil_append, List.cons_append, List.append_nil, List.singleton_append,
    defX, bindX, seqX, assignX, nameX, tupSt, asgCons, asgNil, nameSt, constX, retX, retN, exprX, brkX, tupX, lstX, consL, nilL, binX, callX, methX, subX, attrX, ifX, ifeX, notX, orX, andX, negX, cmpT, boolT, notT, andT, orT, swapX, tgtNames, subStX, newLstX, newDicX, forS, items_lst, items_tup, nilX,
    addF_int, subF_int, ltF_int, leF_int, gtF_int, geF_int, isF_bool, isF_nn, isF_in, isNotF_bool, Option.bind_some, Option.bind_none, upd_eq, upd_ne, List.length_cons, List.length_nil, List.filterMap_cons, List.filterMap_nil, List.reverse_cons, List.reverse_nil, eqF_s, eqF_sn, eqF_int, neF_int, eqF_bool, eqF_none_int, item_tup0, item_tup1, item_tup2, item_lst0, valAt_s, valAt_n, V.onInt_int, V.onBool_bool, V.onTup_tup, V.onLst_lst, V.onNone_none, onRef_ref, moL_lst, moI_dic, moS_dic, on1_one, on2_two, onCons_cons, onNil_nil, tupR, lstR, lenR, nestB, trueT, hi3, e3, map_flat]
      obtain ⟨ρ', e, _⟩ := key2
      subst e
      have e5 : ([] ++ c.flatMap fun l => l.map V.int) = c.flatten.map .int := by
        rw [List.nil_append, List.map_flatten, List.flatMap_def]
      rw [e5]
      have e6 := fun m => set_ints (c := cx w H mg mb) hfl m
      have e7 : ∀ m, lenF [.set (ledOf (cx w H mg mb).w) (dedI c.flatten)] m = some (.int (dedI c.flatten).length, m) := fun m => len_set (Nat.le_trans (dedI_len_le _) (by omega)) m
      have e8 : ∀ m, lenF [lotsV c] m = some (.int c.length, m) := fun m => by unfold lotsV; rw [len_lst (by rw [List.length_map]; omega), List.length_map]
      have e9 : (cx w H mg mb).w = w := rfl
      rw [e9] at e6 e7
      cases ht : tight c with
      | true =>
        have e10 : ((dedI c.flatten).length : Int) < c.length := by have := of_decide_eq_true ht; omega
        simp (config := { maxSteps := 3000000 }) (disch := first | assumption | decide | decide +kernel) only [sizeB, Nat.reduceAdd, Nat.reduceLeDiff, decide_true, decide_false, Bool.false_eq_true, if_false, if_true, ite_true, ite_false, reduceIte, Bool.not_true, Bool.not_false, Bool.and_true, Bool.true_and, Bool.and_self, decide_eq_true_eq, List.nil_append, List.cons_append, List.append_nil, List.singleton_append,
    defX, bindX, seqX, assignX, nameX, tupSt, asgCons, asgNil, nameSt, constX, retX, retN, exprX, brkX, tupX, lstX, consL, nilL, binX, callX, methX, subX, attrX, ifX, ifeX, notX, orX, andX, negX, cmpT, boolT, notT, andT, orT, swapX, tgtNames, subStX, newLstX, newDicX, forS, items_lst, items_tup, nilX,
    addF_int, subF_int, ltF_int, leF_int, gtF_int, geF_int, isF_bool, isF_nn, isF_in, isNotF_bool, Option.bind_some, Option.bind_none, upd_eq, upd_ne, List.length_cons, List.length_nil, List.filterMap_cons, List.filterMap_nil, List.reverse_cons, List.reverse_nil, eqF_s, eqF_sn, eqF_int, neF_int, eqF_bool, eqF_none_int, item_tup0, item_tup1, item_tup2, item_lst0, valAt_s, valAt_n, V.onInt_int, V.onBool_bool, V.onTup_tup, V.onLst_lst, V.onNone_none, onRef_ref, moL_lst, moI_dic, moS_dic, on1_one, on2_two, onCons_cons, onNil_nil, tupR, lstR, lenR, e6, e7, e8, e10]
      | false =>
        have e10 : ¬ ((dedI c.flatten).length : Int) < c.length := by have := of_decide_eq_false ht; omega
        simp (config := { maxSteps := 3000000 }) (disch := first | assumption | decide | decide +kernel) only [sizeB, Nat.reduceAdd, Nat.reduceLeDiff, decide_true, decide_false, Bool.false_eq_true, if_false, if_true, ite_true, ite_false, reduceIte, Bool.not_true, Bool.not_false, Bool.and_true, Bool.true_and, Bool.and_self, decide_eq_true_eq, List.nil_append, List.cons_append, List.append_nil, List.singleton_append,
    defX, bindX, seqX, assignX, nameX, tupSt, asgCons, asgNil, nameSt, constX, retX, retN, exprX, brkX, tupX, lstX, consL, nilL, binX, callX, methX, subX, attrX, ifX, ifeX, notX, orX, andX, negX, cmpT, boolT, notT, andT, orT, swapX, tgtNames, subStX, newLstX, newDicX, forS, items_lst, items_tup, nilX,
    addF_int, subF_int, ltF_int, leF_int, gtF_int, geF_int, isF_bool, isF_nn, isF_in, isNotF_bool, Option.bind_some, Option.bind_none, upd_eq, upd_ne, List.length_cons, List.length_nil, List.filterMap_cons, List.filterMap_nil, List.reverse_cons, List.reverse_nil, eqF_s, eqF_sn, eqF_int, neF_int, eqF_bool, eqF_none_int, item_tup0, item_tup1, item_tup2, item_lst0, valAt_s, valAt_n, V.onInt_int, V.onBool_bool, V.onTup_tup, V.onLst_lst, V.onNone_none, onRef_ref, moL_lst, moI_dic, moS_dic, on1_one, on2_two, onCons_cons, onNil_nil, tupR, lstR, lenR, e6, e7, e8, e10]
    obtain ⟨ρ'', e, _⟩ := key
    subst e
    unfold canA
    cases (choicesOf L).any tight <;> rfl
end
end Mine
-- S11
namespace Mine
noncomputable def rngStep (d : Dom) (n : Int) : Dom := match d.getLast? with
  | some p => if p.2 = n - 1 then d.dropLast ++ [(p.1, n)] else d ++ [(n, n)]
  | none => [(n, n)]
noncomputable def rangesOf (ns : List Int) : Dom := (sortI (dedI ns)).foldl rngStep []
theorem rngStep_len (d : Dom) (n : Int) : (rngStep d n).length ≤ d.length + 1 := by
  unfold rngStep
  split
  · split
    · simp only [List.length_append, List.length_dropLast, List.length_cons, List.length_nil]; omega
    · simp
  · simp
theorem ne_empty {k : Nat} {d : Dom} {m : List MO} (h : m[k]? = some (.lst (d.map pairV))) : neF (.ref k) (.lst []) m = some (.bool (!d.isEmpty)) := by
  have h1 : dOf m (.ref k) = some (.list (d.map pd)) := by simp [dOf, lstOf, h, toDs_pairs]
  have h2 : dOf m (.lst []) = some (.list []) := by simp [dOf, lstOf, toDs]
  have s1 : SeqAt.shaped (.list (d.map pd)) = true := by
    have := depth_pairs d
    simp [SeqAt.shaped, PyData.canLay0, lay_pairs, PyData.depth]; omega
  have s2 : SeqAt.shaped (.list []) = true := by simp [SeqAt.shaped, PyData.canLay0, PyData.canLayAll0, PyData.depth, PyData.depthAll]
  simp only [neF, eqvF, h1, h2, Option.bind_some, s1, s2, Bool.and_self, if_true, PyData.eqv]
  cases d <;> simp [PyData.eqvAll]
theorem item_last {k : Nat} {l : List V} {v : V} {m : List MO} (h : m[k]? = some (.lst (l ++ [v]))) : itemF (.ref k) (.int (-1)) m = some v := by
  have e : seqIndex? (-1) (l.length + 1) = some l.length := by
    unfold seqIndex?
    have h0 : ((-1 : Int) < 0) := by decide
    simp only [h0, if_true]
    rw [if_pos (by simp; omega)]
    congr 1; omega
  show moItem (-1) m[k]? = _
  rw [h]
  show seqItem _ _ = _
  unfold seqItem
  rw [if_pos (by decide), List.length_append, List.length_singleton, e]; simp
theorem store_last {k : Nat} {l : List V} {v x : V} {m : List MO} (h : m[k]? = some (.lst (l ++ [v]))) : storeV (.ref k) (.int (-1)) x m = some (m.set k (.lst (l ++ [x]))) := by
  show storeI k (-1) x m m[k]? = _
  rw [h]
  refine (if_pos ⟨rfl, by simp⟩).trans ?_
  simp
theorem sorted_set {c : Cx} {l : List Int} (h : smallL l = true) (m : List MO) : sortedF c [.set (ledOf c.w) l] m = some (lotV (sortI l), m) := by
  exact if_pos ⟨rfl, h⟩
theorem sortI_len (l : List Int) : (sortI l).length = l.length := (List.mergeSort_perm l _).length_eq
section
variable {w : World} {H : Heap} {mg mb : Str → Option Value}
theorem law_ranges_ok (ok : (cx w H mg mb).Ok) : ∃ f, CallOK (cx w H mg mb) 1 (.ref 392) f ∧ ∀ ns mem, ns.length ≤ 100 → smallL (dedI ns) = true → FlatM mem → f [lotV ns] mem = some (domV (rangesOf ns), mem) := by
  refine' ⟨_, CallOK.trim (CallOK.def2 (names := ["numbers"]) ok rfl rfl ?d rfl rfl rfl rfl fun L => ?b), ?s⟩
  case d => (intro ws h; refine len1 h ?_; intros; rfl)
  case b => exact (ExOK.cons (StOK.assign (EvOK.newLst ok) (AsgOK.local rfl) rfl rfl rfl) (ExOK.cons (StOK.for (EvOK.call (bi_sorted ok rfl) (EvsOK.cons (EvOK.call (bi_set ok rfl) (EvsOK.cons (loadLocal rfl rfl) EvsOK.nil rfl) rfl keepT setOK rfl) EvsOK.nil rfl) rfl keepB sortedOK rfl) (AsgOK.local rfl) (ExOK.cons (StOK.ite (TeOK.and (TeOK.cmp (loadLocal rfl rfl) (EvOK.lst EvsOK.nil) neOK rfl) (TeOK.cmp (EvOK.sub (EvOK.sub (loadLocal rfl rfl) (EvOK.neg EvOK.int) (fun _ _ => rfl)) EvOK.int (fun _ _ => rfl)) (EvOK.bin (loadLocal rfl rfl) EvOK.int subOK) eqOK rfl)) (ExOK.cons (StOK.assignSub (EvOK.tup (EvsOK.cons (EvOK.sub (EvOK.sub (loadLocal rfl rfl) (EvOK.neg EvOK.int) (fun _ _ => rfl)) EvOK.int (fun _ _ => rfl)) (EvsOK.cons (loadLocal rfl rfl) EvsOK.nil rfl) rfl)) (loadLocal rfl rfl) (EvOK.neg EvOK.int) rfl) ExOK.nil) (ExOK.cons (StOK.expr (EvOK.meth (loadLocal rfl rfl) (EvsOK.cons (EvOK.tup (EvsOK.cons (loadLocal rfl rfl) (EvsOK.cons (loadLocal rfl rfl) EvsOK.nil rfl) rfl)) EvsOK.nil rfl) rfl (MethOK.list PySem.F.slot_list_append rfl) keepB appendOK rfl rfl rfl) rfl rfl) ExOK.nil)) ExOK.nil) (fun _ => rfl)) (ExOK.cons (StOK.ret (EvOK.call (bi_tuple ok rfl) (EvsOK.cons (loadLocal rfl rfl) EvsOK.nil rfl) rfl keepT tupOK rfl)) ExOK.nil)))
  case s =>
    intro ns mem hn hs hF
    refine trimC_of (j := [.lst ((rangesOf ns).map pairV)]) ?_ rfl (clean_dom _) hF
    have e6 := fun m => set_ints (c := cx w H mg mb) (ns := ns) (by omega) m
    have e7 := fun m => sorted_set (c := cx w H mg mb) hs m
    have e9 : (cx w H mg mb).w = w := rfl
    rw [e9] at e6 e7
    have el : lotV ns = .lst (ns.map .int) := rfl
    rw [← el] at e6
    have hi : ∀ l, itemsOf (lotV l) = some (l.map .int) := fun l => rfl
    have hlen : (sortI (dedI ns)).length ≤ 4 := by
      rw [sortI_len]
      unfold smallL at hs; rw [Bool.and_eq_true] at hs; exact of_decide_eq_true hs.2
    simp (config := { maxSteps := 3000000 }) (disch := first | assumption | decide | decide +kernel) only [sizeB, Nat.reduceAdd, Nat.reduceLeDiff, decide_true, decide_false, Bool.false_eq_true, if_false, if_true, ite_true, ite_false, reduceIte, Bool.not_true, Bool.not_false, Bool.and_true, Bool.true_and, Bool.and_self, decide_eq_true_eq, List.nil_append, List.cons_append, List.append_nil, List.singleton_append,
    defX, bindX, seqX, assignX, nameX, tupSt, asgCons, asgNil, nameSt, constX, retX, retN, exprX, brkX, tupX, lstX, consL, nilL, binX, callX, methX, subX, attrX, ifX, ifeX, notX, orX, andX, negX, cmpT, boolT, notT, andT, orT, swapX, tgtNames, subStX, newLstX, newDicX, forS, items_lst, items_tup, nilX,
    addF_int, subF_int, ltF_int, leF_int, gtF_int, geF_int, isF_bool, isF_nn, isF_in, isNotF_bool, Option.bind_some, Option.bind_none, upd_eq, upd_ne, List.length_cons, List.length_nil, List.filterMap_cons, List.filterMap_nil, List.reverse_cons, List.reverse_nil, eqF_s, eqF_sn, eqF_int, neF_int, eqF_bool, eqF_none_int, item_tup0, item_tup1, item_tup2, item_lst0, valAt_s, valAt_n, V.onInt_int, V.onBool_bool, V.onTup_tup, V.onLst_lst, V.onNone_none, onRef_ref, moL_lst, moI_dic, moS_dic, on1_one, on2_two, onCons_cons, onNil_nil, tupR, lstR, lenR, e6, e7, hi]
    generalize hρ : upd _ "found" _ = ρ0
    generalize hW : forX _ _ _ ρ0 _ = W
    let R : Nat → Dom → Rho → List MO → Prop := fun k d ρ m => m = mem ++ [.lst (d.map pairV)] ∧ ρ "found" = some (.ref mem.length) ∧ d.length + k ≤ 4
    have key : ∃ ρ' m', W = some (.next, ρ', m') ∧ R 0 (rangesOf ns) ρ' m' := by
      rw [← hW]
      refine forX_fold R rngStep V.int (sortI (dedI ns)) [] ρ0 _ ⟨rfl, by rw [← hρ]; rfl, by simpa using hlen⟩ ?_
      rintro k d n ρ m ⟨rfl, hr, hz⟩ _
      have hz2 : (d.map pairV).length ≤ 5000 := by rw [List.length_map]; omega
      refine ⟨upd ρ "number" (.int n), mem ++ [.lst ((rngStep d n).map pairV)], fun rest => ?_, rfl, by rw [upd_ne (by decide)]; exact hr, by have := rngStep_len d n; omega⟩
      rw [forX]
      have g := get_last (m := mem) (o := .lst (d.map pairV))
      have il := isLst_ref g
      have ap : ∀ v, appendF [.ref mem.length, v] (mem ++ [.lst (d.map pairV)]) = some (.none, mem ++ [.lst (d.map pairV ++ [v])]) := fun v => by rw [append_ref g hz2, set_last]
      have hne := ne_empty g
      rcases List.eq_nil_or_concat d with q | ⟨d0, p, q⟩
      · subst q
        have e1 : rngStep [] n = [(n, n)] := rfl
        have e2 : (!([] : Dom).isEmpty) = false := rfl
        rw [e2] at hne
        rw [e1]
        simp (config := { maxSteps := 3000000 }) (disch := first | assumption | decide | decide +kernel) only [sizeB, Nat.reduceAdd, Nat.reduceLeDiff, decide_true, decide_false, Bool.false_eq_true, if_false, if_true, ite_true, ite_false, reduceIte, Bool.not_true, Bool.not_false, Bool.and_true, Bool.true_and, Bool.and_self, decide_eq_true_eq, List.nil_append, List.cons_append, List.append_nil, List.singleton_append,
    defX, bindX, seqX, assignX, nameX, tupSt, asgCons, asgNil, nameSt, constX, retX, retN, exprX, brkX, tupX, lstX, consL, nilL, binX, callX, methX, subX, attrX, ifX, ifeX, notX, orX, andX, negX, cmpT, boolT, notT, andT, orT, swapX, tgtNames, subStX, newLstX, newDicX, forS, items_lst, items_tup, nilX,
    addF_int, subF_int, ltF_int, leF_int, gtF_int, geF_int, isF_bool, isF_nn, isF_in, isNotF_bool, Option.bind_some, Option.bind_none, upd_eq, upd_ne, List.length_cons, List.length_nil, List.filterMap_cons, List.filterMap_nil, List.reverse_cons, List.reverse_nil, eqF_s, eqF_sn, eqF_int, neF_int, eqF_bool, eqF_none_int, item_tup0, item_tup1, item_tup2, item_lst0, valAt_s, valAt_n, V.onInt_int, V.onBool_bool, V.onTup_tup, V.onLst_lst, V.onNone_none, onRef_ref, moL_lst, moI_dic, moS_dic, on1_one, on2_two, onCons_cons, onNil_nil, tupR, lstR, lenR, hr, hne, il, ap]
        rfl
      · rw [List.concat_eq_append] at q
        subst q
        have em : List.map pairV (d0 ++ [p]) = d0.map pairV ++ [pairV p] := by simp
        rw [em] at g hne il ⊢
        simp only [em] at ap
        have it := item_last g
        have st := fun x => store_last (x := x) g
        simp only [set_last] at st
        have ip0 : ∀ m, itemF (pairV p) (.int 0) m = some (.int p.1) := fun m => item_tup0 _ _ m
        have ip1 : ∀ m, itemF (pairV p) (.int 1) m = some (.int p.2) := fun m => item_tup1 _ _ _ m
        have e2 : (!(d0 ++ [p] : Dom).isEmpty) = true := by simp
        rw [e2] at hne
        by_cases hq : p.2 = n - 1
        · have e1 : rngStep (d0 ++ [p]) n = d0 ++ [(p.1, n)] := by
            unfold rngStep; rw [List.getLast?_concat]; simp only [hq, if_true, List.dropLast_concat]
          rw [e1]
          simp (config := { maxSteps := 3000000 }) (disch := first | assumption | decide | decide +kernel) only [sizeB, Nat.reduceAdd, Nat.reduceLeDiff, decide_true, decide_false, Bool.false_eq_true, if_false, if_true, ite_true, ite_false, reduceIte, Bool.not_true, Bool.not_false, Bool.and_true, Bool.true_and, Bool.and_self, decide_eq_true_eq, List.nil_append, List.cons_append, List.append_nil, List.singleton_append,
    defX, bindX, seqX, assignX, nameX, tupSt, asgCons, asgNil, nameSt, constX, retX, retN, exprX, brkX, tupX, lstX, consL, nilL, binX, callX, methX, subX, attrX, ifX, ifeX, notX, orX, andX, negX, cmpT, boolT, notT, andT, orT, swapX, tgtNames, subStX, newLstX, newDicX, forS, items_lst, items_tup, nilX,
    addF_int, subF_int, ltF_int, leF_int, gtF_int, geF_int, isF_bool, isF_nn, isF_in, isNotF_bool, Option.bind_some, Option.bind_none, upd_eq, upd_ne, List.length_cons, List.length_nil, List.filterMap_cons, List.filterMap_nil, List.reverse_cons, List.reverse_nil, eqF_s, eqF_sn, eqF_int, neF_int, eqF_bool, eqF_none_int, item_tup0, item_tup1, item_tup2, item_lst0, valAt_s, valAt_n, V.onInt_int, V.onBool_bool, V.onTup_tup, V.onLst_lst, V.onNone_none, onRef_ref, moL_lst, moI_dic, moS_dic, on1_one, on2_two, onCons_cons, onNil_nil, tupR, lstR, lenR, hr, hne, il, ap, it, st, ip0, ip1, hq]
          simp only [List.map_append, List.map_cons, List.map_nil, pairV]
        · have e1 : rngStep (d0 ++ [p]) n = d0 ++ [p] ++ [(n, n)] := by
            unfold rngStep; rw [List.getLast?_concat]; simp only [hq, if_false]
          rw [e1]
          simp (config := { maxSteps := 3000000 }) (disch := first | assumption | decide | decide +kernel) only [sizeB, Nat.reduceAdd, Nat.reduceLeDiff, decide_true, decide_false, Bool.false_eq_true, if_false, if_true, ite_true, ite_false, reduceIte, Bool.not_true, Bool.not_false, Bool.and_true, Bool.true_and, Bool.and_self, decide_eq_true_eq, List.nil_append, List.cons_append, List.append_nil, List.singleton_append,
    defX, bindX, seqX, assignX, nameX, tupSt, asgCons, asgNil, nameSt, constX, retX, retN, exprX, brkX, tupX, lstX, consL, nilL, binX, callX, methX, subX, attrX, ifX, ifeX, notX, orX, andX, negX, cmpT, boolT, notT, andT, orT, swapX, tgtNames, subStX, newLstX, newDicX, forS, items_lst, items_tup, nilX,
    addF_int, subF_int, ltF_int, leF_int, gtF_int, geF_int, isF_bool, isF_nn, isF_in, isNotF_bool, Option.bind_some, Option.bind_none, upd_eq, upd_ne, List.length_cons, List.length_nil, List.filterMap_cons, List.filterMap_nil, List.reverse_cons, List.reverse_nil, eqF_s, eqF_sn, eqF_int, neF_int, eqF_bool, eqF_none_int, item_tup0, item_tup1, item_tup2, item_lst0, valAt_s, valAt_n, V.onInt_int, V.onBool_bool, V.onTup_tup, V.onLst_lst, V.onNone_none, onRef_ref, moL_lst, moI_dic, moS_dic, on1_one, on2_two, onCons_cons, onNil_nil, tupR, lstR, lenR, hr, hne, il, ap, it, st, ip0, ip1, hq]
          simp only [List.map_append, List.map_cons, List.map_nil, pairV]
    obtain ⟨ρ', m', e, rfl, hr, hz⟩ := key
    subst e
    have g := get_last (m := mem) (o := .lst ((rangesOf ns).map pairV))
    have hz2 : ((rangesOf ns).map pairV).length ≤ 100000 := by rw [List.length_map]; omega
    simp (config := { maxSteps := 3000000 }) (disch := first | assumption | decide | decide +kernel) only [sizeB, Nat.reduceAdd, Nat.reduceLeDiff, decide_true, decide_false, Bool.false_eq_true, if_false, if_true, ite_true, ite_false, reduceIte, Bool.not_true, Bool.not_false, Bool.and_true, Bool.true_and, Bool.and_self, decide_eq_true_eq, List.nil_append, List.cons_append, List.append_nil, List.singleton_append,
    defX, bindX, seqX, assignX, nameX, tupSt, asgCons, asgNil, nameSt, constX, retX, retN, exprX, brkX, tupX, lstX, consL, nilL, binX, callX, methX, subX, attrX, ifX, ifeX, notX, orX, andX, negX, cmpT, boolT, notT, andT, orT, swapX, tgtNames, subStX, newLstX, newDicX, forS, items_lst, items_tup, nilX,
    addF_int, subF_int, ltF_int, leF_int, gtF_int, geF_int, isF_bool, isF_nn, isF_in, isNotF_bool, Option.bind_some, Option.bind_none, upd_eq, upd_ne, List.length_cons, List.length_nil, List.filterMap_cons, List.filterMap_nil, List.reverse_cons, List.reverse_nil, eqF_s, eqF_sn, eqF_int, neF_int, eqF_bool, eqF_none_int, item_tup0, item_tup1, item_tup2, item_lst0, valAt_s, valAt_n, V.onInt_int, V.onBool_bool, V.onTup_tup, V.onLst_lst, V.onNone_none, onRef_ref, moL_lst, moI_dic, moS_dic, on1_one, on2_two, onCons_cons, onNil_nil, tupR, lstR, lenR, hr, tupF, lstOf, g, hz2]
    rfl
end
end Mine
-- S12
namespace Mine
/-! ## dicts of ints -/
abbrev AL := List (Int × Int)
noncomputable def asV (l : AL) : List (Int × V) := l.map fun p => (p.1, .int p.2)
noncomputable def getA (l : AL) (x : Int) : Option Int := (l.find? fun p => decide (p.1 = x)).map (·.2)
noncomputable def putA (l : AL) (x v : Int) : AL := if l.any (fun p => decide (p.1 = x)) then l.map (fun p => if p.1 = x then (p.1, v) else p) else l ++ [(x, v)]
theorem asV_val (l : AL) (x : Int) : valAt (asV l) x = (getA l x).map V.int := by
  unfold valAt asV getA
  induction l with
  | nil => rfl
  | cons p T ih =>
    rw [List.map_cons, List.find?_cons, List.find?_cons]
    by_cases q : p.1 = x
    · simp [q]
    · simp only [q, decide_false]; exact ih
theorem asV_put (l : AL) (x v : Int) : putV (asV l) x (.int v) = asV (putA l x v) := by
  unfold putV putA asV
  rw [List.any_map]
  show (if l.any (fun p => decide (p.1 = x)) = true then _ else _) = _
  split
  · rw [List.map_map, List.map_map]
    apply List.map_congr_left
    intro p _
    show (if p.1 = x then _ else _) = _
    split <;> rename_i q <;> simp [q]
  · rw [List.map_append]; rfl
theorem asV_keys (l : AL) : (asV l).map (·.1) = l.map (·.1) := by unfold asV; rw [List.map_map]; rfl
theorem asV_len (l : AL) : (asV l).length = l.length := by unfold asV; rw [List.length_map]
theorem putA_len (l : AL) (x v : Int) : (putA l x v).length ≤ l.length + 1 := by unfold putA; split <;> simp
noncomputable def optV : Option Int → V | some i => .int i | none => .none
theorem optV_eq (l : AL) (x : Int) : (valAt (asV l) x).getD .none = optV (getA l x) := by rw [asV_val]; cases getA l x <;> rfl
theorem eqF_opt (o : Option Int) (b : Int) (m : List MO) : eqF (optV o) (.int b) m = some (.bool (decide (o = some b))) := by
  cases o with
  | none => rw [optV, eqF_none_int]; simp
  | some a => rw [optV, eqF_int]; simp
noncomputable def leftA (came own : AL) (here : Int) : List Int := (sortI (came.map (·.1))).filter fun v => decide (getA own v = some here)
noncomputable def moveA (came : AL) (place : Int) : Nat → AL → Int → Option AL
  | 0, _, _ => none
  | n + 1, own, free => (getA came free).bind fun here => if here = place then some (putA own free here) else (leftA came own here).head?.bind fun f => moveA came place n (putA own free here) f
theorem sorted_keys {c : Cx} {k : Nat} {l : AL} {m : List MO} (h : m[k]? = some (.dicI (asV l))) (hl : l.length < 64) : sortedF c [.ref k] m = some (lotV (sortI (l.map (·.1))), m) := by
  have : (l.map (·.1)).length < 64 := by rw [List.length_map]; exact hl
  show sortM m m[k]? = _
  rw [h]
  show sortR ((asV l).map (·.1)) m = _
  rw [asV_keys]; exact if_pos this
structure MvI (ko kc : Nat) (place : Int) (ρ : Rho) (free : Int) : Prop where
  o : ρ "owner" = some (.ref ko)
  c : ρ "came" = some (.ref kc)
  p : ρ "place" = some (.int place)
  f : ρ "free" = some (.int free)
theorem move_while {T : TF} {B : SF} (ko kc : Nat) (hk : ko ≠ kc) (came : AL) (place : Int) (hT : ∀ ρ m, T ρ m = some (true, m))
    (hB : ∀ ρ m own free here, MvI ko kc place ρ free → m[ko]? = some (.dicI (asV own)) → m[kc]? = some (.dicI (asV came)) → getA came free = some here → own.length ≤ 900 →
      if here = place then ∃ ρ', B ρ m = some (.ret .none, ρ', m.set ko (.dicI (asV (putA own free here)))) else ∀ f, (leftA came own here).head? = some f → ∃ ρ', B ρ m = some (.next, ρ', m.set ko (.dicI (asV (putA own free here)))) ∧ MvI ko kc place ρ' f) :
    ∀ n own free ρ m own', moveA came place n own free = some own' → MvI ko kc place ρ free → m[ko]? = some (.dicI (asV own)) → m[kc]? = some (.dicI (asV came)) → own.length + n ≤ 900 →
      ∃ ρ', whileX T B n ρ m = some (.ret .none, ρ', m.set ko (.dicI (asV own')))
  | 0, own, free, ρ, m, own', e, _, _, _, _ => by cases e
  | n + 1, own, free, ρ, m, own', e, I, ho, hc, hz => by
    have hlt : ko < m.length := (List.getElem?_eq_some_iff.mp ho).1
    obtain ⟨here, e1, e2⟩ := Option.bind_eq_some_iff.mp e
    have b := hB ρ m own free here I ho hc e1 (by omega)
    split at e2
    · rename_i q
      rw [if_pos q] at b
      obtain ⟨ρ', b⟩ := b
      cases e2
      exact ⟨ρ', while_ret (hT ρ m) b⟩
    · rename_i q
      rw [if_neg q] at b
      obtain ⟨f, e3, e4⟩ := Option.bind_eq_some_iff.mp e2
      obtain ⟨ρ1, b, I1⟩ := b f e3
      obtain ⟨ρ', e5⟩ := move_while ko kc hk came place hT hB n (putA own free here) f ρ1 (m.set ko (.dicI (asV (putA own free here)))) own' e4 I1 (List.getElem?_set_self hlt)
        (by rw [List.getElem?_set_ne hk]; exact hc) (by have := putA_len own free here; omega)
      exact ⟨ρ', by rw [while_next (hT ρ m) b, e5, List.set_set]⟩
section
variable {w : World} {H : Heap} {mg mb : Str → Option Value}
theorem move_on_ok (ok : (cx w H mg mb).Ok) : ∃ f, CallOK (cx w H mg mb) 1 (.ref 361) f ∧ ∀ J ko kc came place own free own' mem, ko ≠ kc → mem[ko]? = some (.dicI (asV own)) → mem[kc]? = some (.dicI (asV came)) → came.length < 64 → own.length ≤ 800 → moveA came place 64 own free = some own' →
    f [J, .ref ko, .ref kc, .int free, .int place] mem = some (.none, mem.set ko (.dicI (asV own'))) := by
  have hC : SelfCls 369 := trivial
  refine' ⟨_, CallOK.def2 (names := ["self", "owner", "came", "free", "place"]) ok rfl rfl ?d rfl rfl rfl rfl fun L => ?b, ?s⟩
  case d => (intro ws h; refine len5 h ?_; intros; rfl)
  case b => exact (ExOK.cons (StOK.whl (TeOK.ofEv EvOK.bool (fun _ => rfl)) (ExOK.cons (StOK.assign (EvOK.sub (loadLocal rfl rfl) (loadLocal rfl rfl) (fun _ _ => rfl)) (AsgOK.cell rfl rfl (List.Mem.tail _ (List.Mem.head _))) rfl rfl rfl) (ExOK.cons (StOK.assignComp rfl (EvOK.call (bi_sorted ok rfl) (EvsOK.cons (loadLocal rfl rfl) EvsOK.nil rfl) rfl keepB sortedOK rfl) (fun _ => rfl) (CompSt.of rfl rfl rfl rfl rfl rfl (fun _ => rfl) (fun _ => rfl) rfl rfl) (fun _ => (LpOK.mk (fun _ _ => (turn1 _ _ _ _ _ _ _ _ _)) (AsgOK.local rfl) (TsOK.one (TeOK.cmp (EvOK.meth (loadCell rfl rfl) (EvsOK.cons (loadLocal rfl rfl) EvsOK.nil rfl) rfl (MethOK.dict PySem.F.slot_dict_get rfl) keepB getOK rfl rfl rfl) (loadCell rfl rfl) eqOK rfl)) (InOK.emit (loadLocal rfl rfl)))) rfl (AsgOK.local rfl)) (ExOK.cons (StOK.assignSub (loadCell rfl rfl) (loadCell rfl rfl) (loadLocal rfl rfl) rfl) (ExOK.cons (StOK.ite (TeOK.cmp (loadCell rfl rfl) (loadLocal rfl rfl) eqOK rfl) (ExOK.cons StOK.retNone ExOK.nil) ExOK.nil) (ExOK.cons (StOK.assign (EvOK.sub (loadLocal rfl rfl) EvOK.int (fun _ _ => rfl)) (AsgOK.local rfl) rfl rfl rfl) ExOK.nil))))) 64) ExOK.nil)
  case s =>
    intro J ko kc came place own free own' mem hk ho hc hz hz2 hm
    simp (config := { maxSteps := 3000000 }) (disch := first | assumption | decide | decide +kernel) only [sizeB, Nat.reduceAdd, Nat.reduceLeDiff, decide_true, decide_false, Bool.false_eq_true, if_false, if_true, ite_true, ite_false, reduceIte, Bool.not_true, Bool.not_false, Bool.and_true, Bool.true_and, Bool.and_self, decide_eq_true_eq, List.nil_append, List.cons_append, List.append_nil, List.singleton_append,
    defX, bindX, seqX, assignX, nameX, tupSt, asgCons, asgNil, nameSt, constX, retX, retN, exprX, brkX, tupX, lstX, consL, nilL, binX, callX, methX, subX, attrX, ifX, ifeX, notX, orX, andX, negX, cmpT, boolT, notT, andT, orT, swapX, tgtNames, subStX, newLstX, newDicX, forS, items_lst, items_tup, nilX,
    addF_int, subF_int, ltF_int, leF_int, gtF_int, geF_int, isF_bool, isF_nn, isF_in, isNotF_bool, Option.bind_some, Option.bind_none, upd_eq, upd_ne, List.length_cons, List.length_nil, List.filterMap_cons, List.filterMap_nil, List.reverse_cons, List.reverse_nil, eqF_s, eqF_sn, eqF_int, neF_int, eqF_bool, eqF_none_int, item_tup0, item_tup1, item_tup2, item_lst0, valAt_s, valAt_n, V.onInt_int, V.onBool_bool, V.onTup_tup, V.onLst_lst, V.onNone_none, onRef_ref, moL_lst, moI_dic, moS_dic, on1_one, on2_two, onCons_cons, onNil_nil, tupR, lstR, lenR]
    generalize hρ : upd _ "place" _ = ρ0
    generalize hW : whileX _ _ 64 ρ0 _ = W
    have key : ∃ ρ', W = some (.ret .none, ρ', mem.set ko (.dicI (asV own'))) := by
      rw [← hW]
      refine move_while ko kc hk came place ?_ ?_ 64 own free ρ0 mem own' hm ⟨by rw [← hρ]; rfl, by rw [← hρ]; rfl, by rw [← hρ]; rfl, by rw [← hρ]; rfl⟩ ho hc (by omega)
      · intro ρ m; rfl
      · intro ρ m own free here I ho hc hf hz
        obtain ⟨io, ic, ip, iff⟩ := I
        have g1 := item_dicI hc free
        rw [asV_val, hf] at g1
        have g1' : itemF (.ref kc) (.int free) m = some (.int here) := g1
        have sk := sorted_keys (c := cx w H mg mb) hc (by assumption)
        have il := isDicI_ref ho
        have gg := fun i => get1_ref ho i
        simp only [optV_eq] at gg
        have st := store_dicI ho (by rw [asV_len]; omega) free (.int here)
        rw [asV_put] at st
        have hi : ∀ l, itemsOf (lotV l) = some (l.map .int) := fun l => rfl
        simp (config := { maxSteps := 3000000 }) (disch := first | assumption | decide | decide +kernel) only [sizeB, Nat.reduceAdd, Nat.reduceLeDiff, decide_true, decide_false, Bool.false_eq_true, if_false, if_true, ite_true, ite_false, reduceIte, Bool.not_true, Bool.not_false, Bool.and_true, Bool.true_and, Bool.and_self, decide_eq_true_eq, List.nil_append, List.cons_append, List.append_nil, List.singleton_append,
    defX, bindX, seqX, assignX, nameX, tupSt, asgCons, asgNil, nameSt, constX, retX, retN, exprX, brkX, tupX, lstX, consL, nilL, binX, callX, methX, subX, attrX, ifX, ifeX, notX, orX, andX, negX, cmpT, boolT, notT, andT, orT, swapX, tgtNames, subStX, newLstX, newDicX, forS, items_lst, items_tup, nilX,
    addF_int, subF_int, ltF_int, leF_int, gtF_int, geF_int, isF_bool, isF_nn, isF_in, isNotF_bool, Option.bind_some, Option.bind_none, upd_eq, upd_ne, List.length_cons, List.length_nil, List.filterMap_cons, List.filterMap_nil, List.reverse_cons, List.reverse_nil, eqF_s, eqF_sn, eqF_int, neF_int, eqF_bool, eqF_none_int, item_tup0, item_tup1, item_tup2, item_lst0, valAt_s, valAt_n, V.onInt_int, V.onBool_bool, V.onTup_tup, V.onLst_lst, V.onNone_none, onRef_ref, moL_lst, moI_dic, moS_dic, on1_one, on2_two, onCons_cons, onNil_nil, tupR, lstR, lenR, io, ic, ip, iff, g1', sk, compX, hi]
        generalize hρ2 : capX _ _ = ρ2
        have h2 : ρ2 "owner" = some (.ref ko) ∧ ρ2 "here" = some (.int here) := ⟨by rw [← hρ2]; exact (if_pos (by decide)).trans ((upd_ne (by decide)).trans io), by rw [← hρ2]; rfl⟩
        generalize hW2 : loopB _ _ _ ((sortI (came.map (·.1))).map V.int) ρ2 _ _ = W2
        have key2 : ∃ ρ', W2 = some (ρ', m, [] ++ (sortI (came.map (·.1))).flatMap fun v => if decide (getA own v = some here) then [.int v] else []) ∧ (ρ' "owner" = some (.ref ko) ∧ ρ' "here" = some (.int here)) := by
          rw [← hW2]
          refine loopB_flat (fun ρ => ρ "owner" = some (.ref ko) ∧ ρ "here" = some (.int here)) m V.int _ 1000 1 _ ρ2 [] h2 (fun v _ => by split <;> simp) (by rw [sortI_len]; simp; omega) ?_
          rintro v ρ acc ⟨hr1, hr2⟩ _ hz'
          have hz1 : acc.length ≤ 100000 := by omega
          refine ⟨upd ρ "v" (.int v), fun rest => ?_, by rw [upd_ne (by decide)]; exact hr1, by rw [upd_ne (by decide)]; exact hr2⟩
          rw [loopB]
          by_cases hq : getA own v = some here
          · have hq' : decide (getA own v = some here) = true := decide_eq_true hq
            have eo := eqF_opt (getA own v) here m
            rw [hq'] at eo ⊢
            simp (config := { maxSteps := 3000000 }) (disch := first | assumption | decide | decide +kernel) only [sizeB, Nat.reduceAdd, Nat.reduceLeDiff, decide_true, decide_false, Bool.false_eq_true, if_false, if_true, ite_true, ite_false, reduceIte, Bool.not_true, Bool.not_false, Bool.and_true, Bool.true_and, Bool.and_self, decide_eq_true_eq, List.nil_append, List.cons_append, List.append_nil, List.singleton_append,
    defX, bindX, seqX, assignX, nameX, tupSt, asgCons, asgNil, nameSt, constX, retX, retN, exprX, brkX, tupX, lstX, consL, nilL, binX, callX, methX, subX, attrX, ifX, ifeX, notX, orX, andX, negX, cmpT, boolT, notT, andT, orT, swapX, tgtNames, subStX, newLstX, newDicX, forS, items_lst, items_tup, nilX,
    addF_int, subF_int, ltF_int, leF_int, gtF_int, geF_int, isF_bool, isF_nn, isF_in, isNotF_bool, Option.bind_some, Option.bind_none, upd_eq, upd_ne, List.length_cons, List.length_nil, List.filterMap_cons, List.filterMap_nil, List.reverse_cons, List.reverse_nil, eqF_s, eqF_sn, eqF_int, neF_int, eqF_bool, eqF_none_int, item_tup0, item_tup1, item_tup2, item_lst0, valAt_s, valAt_n, V.onInt_int, V.onBool_bool, V.onTup_tup, V.onLst_lst, V.onNone_none, onRef_ref, moL_lst, moI_dic, moS_dic, on1_one, on2_two, onCons_cons, onNil_nil, tupR, lstR, lenR, hr1, hr2, il, gg, eo, emitB, hz1]
          · have hq' : decide (getA own v = some here) = false := decide_eq_false hq
            have eo := eqF_opt (getA own v) here m
            rw [hq'] at eo ⊢
            simp (config := { maxSteps := 3000000 }) (disch := first | assumption | decide | decide +kernel) only [sizeB, Nat.reduceAdd, Nat.reduceLeDiff, decide_true, decide_false, Bool.false_eq_true, if_false, if_true, ite_true, ite_false, reduceIte, Bool.not_true, Bool.not_false, Bool.and_true, Bool.true_and, Bool.and_self, decide_eq_true_eq, List.nil_append, List.cons_append, List.append_nil, List.singleton_append,
    defX, bindX, seqX, assignX, nameX, tupSt, asgCons, asgNil, nameSt, constX, retX, retN, exprX, brkX, tupX, lstX, consL, nilL, binX, callX, methX, subX, attrX, ifX, ifeX, notX, orX, andX, negX, cmpT, boolT, notT, andT, orT, swapX, tgtNames, subStX, newLstX, newDicX, forS, items_lst, items_tup, nilX,
    addF_int, subF_int, ltF_int, leF_int, gtF_int, geF_int, isF_bool, isF_nn, isF_in, isNotF_bool, Option.bind_some, Option.bind_none, upd_eq, upd_ne, List.length_cons, List.length_nil, List.filterMap_cons, List.filterMap_nil, List.reverse_cons, List.reverse_nil, eqF_s, eqF_sn, eqF_int, neF_int, eqF_bool, eqF_none_int, item_tup0, item_tup1, item_tup2, item_lst0, valAt_s, valAt_n, V.onInt_int, V.onBool_bool, V.onTup_tup, V.onLst_lst, V.onNone_none, onRef_ref, moL_lst, moI_dic, moS_dic, on1_one, on2_two, onCons_cons, onNil_nil, tupR, lstR, lenR, hr1, hr2, il, gg, eo, emitB, hz1]
        obtain ⟨ρ', e, _⟩ := key2
        subst e
        rw [List.nil_append, filter_flat]
        have hfold : List.filter (fun v => decide (getA own v = some here)) (sortI (came.map (·.1))) = leftA came own here := rfl
        rw [hfold]
        by_cases hp : here = place
        · rw [if_pos hp]
          subst hp
          refine' ⟨_, ?e⟩
          case e =>
            simp (config := { maxSteps := 3000000 }) (disch := first | assumption | decide | decide +kernel) only [sizeB, Nat.reduceAdd, Nat.reduceLeDiff, decide_true, decide_false, Bool.false_eq_true, if_false, if_true, ite_true, ite_false, reduceIte, Bool.not_true, Bool.not_false, Bool.and_true, Bool.true_and, Bool.and_self, decide_eq_true_eq, List.nil_append, List.cons_append, List.append_nil, List.singleton_append,
    defX, bindX, seqX, assignX, nameX, tupSt, asgCons, asgNil, nameSt, constX, retX, retN, exprX, brkX, tupX, lstX, consL, nilL, binX, callX, methX, subX, attrX, ifX, ifeX, notX, orX, andX, negX, cmpT, boolT, notT, andT, orT, swapX, tgtNames, subStX, newLstX, newDicX, forS, items_lst, items_tup, nilX,
    addF_int, subF_int, ltF_int, leF_int, gtF_int, geF_int, isF_bool, isF_nn, isF_in, isNotF_bool, Option.bind_some, Option.bind_none, upd_eq, upd_ne, List.length_cons, List.length_nil, List.filterMap_cons, List.filterMap_nil, List.reverse_cons, List.reverse_nil, eqF_s, eqF_sn, eqF_int, neF_int, eqF_bool, eqF_none_int, item_tup0, item_tup1, item_tup2, item_lst0, valAt_s, valAt_n, V.onInt_int, V.onBool_bool, V.onTup_tup, V.onLst_lst, V.onNone_none, onRef_ref, moL_lst, moI_dic, moS_dic, on1_one, on2_two, onCons_cons, onNil_nil, tupR, lstR, lenR, io, ic, ip, iff, st, eq_self]
            rfl
        · rw [if_neg hp]
          intro f hf
          obtain ⟨ls, hls⟩ : ∃ ls, leftA came own here = f :: ls := by
            cases hl : leftA came own here with
            | nil => rw [hl] at hf; cases hf
            | cons a l => rw [hl] at hf; cases hf; exact ⟨l, rfl⟩
          rw [hls, List.map_cons]
          refine' ⟨_, ?e, ?r⟩
          case e =>
            simp (config := { maxSteps := 3000000 }) (disch := first | assumption | decide | decide +kernel) only [sizeB, Nat.reduceAdd, Nat.reduceLeDiff, decide_true, decide_false, Bool.false_eq_true, if_false, if_true, ite_true, ite_false, reduceIte, Bool.not_true, Bool.not_false, Bool.and_true, Bool.true_and, Bool.and_self, decide_eq_true_eq, List.nil_append, List.cons_append, List.append_nil, List.singleton_append,
    defX, bindX, seqX, assignX, nameX, tupSt, asgCons, asgNil, nameSt, constX, retX, retN, exprX, brkX, tupX, lstX, consL, nilL, binX, callX, methX, subX, attrX, ifX, ifeX, notX, orX, andX, negX, cmpT, boolT, notT, andT, orT, swapX, tgtNames, subStX, newLstX, newDicX, forS, items_lst, items_tup, nilX,
    addF_int, subF_int, ltF_int, leF_int, gtF_int, geF_int, isF_bool, isF_nn, isF_in, isNotF_bool, Option.bind_some, Option.bind_none, upd_eq, upd_ne, List.length_cons, List.length_nil, List.filterMap_cons, List.filterMap_nil, List.reverse_cons, List.reverse_nil, eqF_s, eqF_sn, eqF_int, neF_int, eqF_bool, eqF_none_int, item_tup0, item_tup1, item_tup2, item_lst0, valAt_s, valAt_n, V.onInt_int, V.onBool_bool, V.onTup_tup, V.onLst_lst, V.onNone_none, onRef_ref, moL_lst, moI_dic, moS_dic, on1_one, on2_two, onCons_cons, onNil_nil, tupR, lstR, lenR, io, ic, ip, iff, st, hp]
            rfl
          case r => exact ⟨io, ic, ip, rfl⟩
    obtain ⟨ρ', e⟩ := key
    subst e
    rfl
end
end Mine
-- SL
namespace Mine
theorem range_get {α : Type} (l : List α) (a n : Nat) (h : a + n ≤ l.length) : ((List.range n).map fun (k : Nat) => ((a : Int) + 1 * (k : Int)).toNat).filterMap (l[·]?) = (l.drop a).take n := by
  rw [List.filterMap_map]
  apply List.ext_getElem?
  intro i
  have : ∀ n, a + n ≤ l.length → (List.range n).filterMap ((fun x => l[x]?) ∘ fun (k : Nat) => ((a : Int) + 1 * (k : Int)).toNat) = (l.drop a).take n := by
    intro n
    induction n with
    | zero => intro _; simp
    | succ n ih =>
      intro h
      rw [List.range_succ, List.filterMap_append, ih (by omega)]
      have e : ((a : Int) + 1 * (n : Int)).toNat = a + n := by omega
      have h2 : a + n < l.length := by omega
      rw [List.take_add_one]
      congr 1
      simp only [List.filterMap_cons, Function.comp, e, List.filterMap_nil, List.getElem?_eq_getElem h2, List.getElem?_drop, Option.toList]
  rw [this n h]
theorem pick_from (l : List V) (a : Nat) (h : a ≤ l.length) : pickV l (some (a : Int)) none none = l.drop a := by
  unfold pickV
  have e : sliceBounds (some (a : Int)) none none l.length = ((a : Int), (l.length : Int), 1) := by
    unfold sliceBounds
    have h0 : ¬ ((a : Int) < 0) := by omega
    simp only [Option.getD_none, h0, if_false]
    simp; omega
  rw [e]
  unfold sliceRange
  have : (if (1 : Int) > 0 then (if (a : Int) < l.length then ((l.length : Int) - a + 1 - 1) / 1 else 0) else (if (a : Int) > l.length then ((a : Int) - l.length - 1 - 1) / (-1) else 0)).toNat = l.length - a := by
    simp only [Int.ediv_one, show (1 : Int) > 0 from by decide, if_true]
    split <;> omega
  dsimp only
  rw [this, range_get l a _ (by omega)]
  rw [List.take_of_length_le (by simp)]
theorem pick_to (l : List V) (a : Nat) (h : a ≤ l.length) : pickV l none (some (a : Int)) none = l.take a := by
  unfold pickV
  have e : sliceBounds none (some (a : Int)) none l.length = (0, (a : Int), 1) := by
    unfold sliceBounds
    have h0 : ¬ ((a : Int) < 0) := by omega
    simp only [Option.getD_none, h0, if_false]
    simp; omega
  rw [e]
  unfold sliceRange
  have : (if (1 : Int) > 0 then (if (0 : Int) < a then ((a : Int) - 0 + 1 - 1) / 1 else 0) else (if (0 : Int) > a then ((0 : Int) - a - 1 - 1) / (-1) else 0)).toNat = a := by
    simp only [Int.ediv_one, show (1 : Int) > 0 from by decide, if_true]
    split <;> omega
  dsimp only
  rw [this]
  have := range_get l 0 a (by omega)
  simpa using this
theorem pick_rev (l : List V) : pickV l none none (some (-1)) = l.reverse := by
  unfold pickV
  have e : sliceBounds none none (some (-1)) l.length = ((l.length : Int) - 1, -1, -1) := by
    unfold sliceBounds
    simp
  rw [e]
  unfold sliceRange
  have : (if (-1 : Int) > 0 then (if (l.length : Int) - 1 < -1 then (-1 - ((l.length : Int) - 1) + -1 - 1) / -1 else 0) else (if (l.length : Int) - 1 > -1 then ((l.length : Int) - 1 - -1 - -1 - 1) / (-(-1)) else 0)).toNat = l.length := by
    simp only [show ¬ (-1 : Int) > 0 from by decide, if_false, Int.neg_neg, Int.ediv_one]
    split <;> omega
  dsimp only
  rw [this, List.filterMap_map]
  have key : ∀ n, n ≤ l.length → (List.range n).filterMap ((fun x => l[x]?) ∘ fun (k : Nat) => ((l.length : Int) - 1 + -1 * (k : Int)).toNat) = l.reverse.take n := by
    intro n
    induction n with
    | zero => intro _; simp
    | succ n ih =>
      intro h
      rw [List.range_succ, List.filterMap_append, ih (by omega)]
      have e : ((l.length : Int) - 1 + -1 * (n : Int)).toNat = l.length - 1 - n := by omega
      have h2 : l.length - 1 - n < l.length := by omega
      rw [List.take_add_one]
      congr 1
      simp only [List.filterMap_cons, Function.comp, e, List.filterMap_nil, List.getElem?_eq_getElem h2, List.getElem?_reverse (show n < l.length by omega), Option.toList]
  rw [key _ (Nat.le_refl _), List.take_of_length_le (by simp)]
end Mine
-- S13
namespace Mine
/-! ## can_differ -/
noncomputable def itemA (L : List (List Int)) (h : Int) : Option (List Int) := if smallI h = true then (seqIndex? h L.length).bind fun j => L[j]? else none
theorem item_lots (L : List (List Int)) (h : Int) (m : List MO) : itemF (lotsV L) (.int h) m = (itemA L h).map lotV := by
  unfold itemA lotsV
  show seqItem (L.map lotV) h = _
  unfold seqItem
  rw [List.length_map]
  split
  · cases seqIndex? h L.length with
    | none => rfl
    | some j => simp only [Option.bind_some, List.getElem?_map]
  · rfl
noncomputable def scanA (own : AL) (here : Int) : List Int → AL → List Int → Option (AL × List Int × Option Int)
  | [], came, q => some (came, q, none)
  | v :: vs, came, q => if (getA came v).isSome then scanA own here vs came q else if came.length ≤ 60 ∧ q.length ≤ 900 then
      match getA own v with
      | none => some (putA came v here, q, some v)
      | some o => scanA own here vs (putA came v here) (q ++ [o])
    else none
noncomputable def bfsA (L : List (List Int)) (own : AL) : Nat → AL → List Int → Option Int → Option (AL × Option Int)
  | 0, _, _, _ => none
  | _ + 1, came, _, some f => some (came, some f)
  | _ + 1, came, [], none => some (came, none)
  | n + 1, came, h :: q, none => (itemA L h).bind fun lot => if q.length ≤ 900 then (scanA own h lot came q).bind fun r => bfsA L own n r.1 r.2.1 r.2.2 else none
noncomputable def cdA (L : List (List Int)) : List Int → AL → Option Bool
  | [], _ => some true
  | p :: ps, own => if own.length ≤ 800 then (bfsA L own 64 [] [p] none).bind fun r => match r.2 with
    | none => some false
    | some f => if r.1.length < 64 then (moveA r.1 p 64 own f).bind fun own' => cdA L ps own' else none
    else none
theorem ne_ints (l : List Int) (m : List MO) : neF (lotV l) (.lst []) m = some (.bool (!l.isEmpty)) := by
  have h1 : dOf m (lotV l) = some (.list (l.map PyData.int)) := by simp [dOf, lstOf, lotV, toDs_ints]
  have h2 : dOf m (.lst []) = some (.list []) := by simp [dOf, lstOf, toDs]
  have dp : ∀ l : List Int, PyData.depthAll (l.map PyData.int) ≤ 1 := fun l => by
    induction l with
    | nil => simp [PyData.depthAll]
    | cons a l ih => rw [List.map_cons, PyData.depthAll]; simp [PyData.depth]; omega
  have s1 : SeqAt.shaped (.list (l.map PyData.int)) = true := by
    have := dp l
    simp [SeqAt.shaped, PyData.canLay0, layAll_ints, PyData.depth]; omega
  have s2 : SeqAt.shaped (.list []) = true := by simp [SeqAt.shaped, PyData.canLay0, PyData.canLayAll0, PyData.depth, PyData.depthAll]
  simp only [neF, eqvF, h1, h2, Option.bind_some, s1, s2, Bool.and_self, if_true, PyData.eqv]
  cases l <;> simp [PyData.eqvAll]
theorem isF_opt (o : Option Int) (m : List MO) : isF (optV o) .none m = some (.bool o.isNone) := by cases o <;> rfl
theorem set_same {m : List MO} {k : Nat} {o : MO} (h : m[k]? = some o) : m.set k o = m := by
  have hlt : k < m.length := (List.getElem?_eq_some_iff.mp h).1
  apply List.ext_getElem?; intro i
  rw [List.getElem?_set]
  by_cases e : k = i
  · subst e; simp only [if_true, hlt]; exact h.symm
  · simp [e]
theorem slice1 {ρ : Rho} {m : List MO} {x : Str} {h : Int} {q : List Int} (hr : ρ x = some (lotV (h :: q))) (hz : q.length ≤ 900) : sliceX (nameX x) (some (constX (.int 1))) none none ρ m = some (lotV q, m) := by
  have hz1 : ((h :: q).map V.int).length ≤ sizeB ∧ (none : Option Int) ≠ some 0 := ⟨by have : sizeB = 100000 := rfl; simp; omega, by simp⟩
  have pk : pickV ((h :: q).map V.int) (some 1) none none = q.map .int := by
    have := pick_from ((h :: q).map V.int) 1 (by simp)
    simpa using this
  simp only [sliceX, nameX, hr, Option.bind_some, partX, constX, lotV, V.onInt_int, V.onLst_lst, if_pos hz1, pk]
/-- the names while one place is matched -/
structure CdI (L : List (List Int)) (J : V) (ko kc : Nat) (p : Int) (ρ : Rho) (q : List Int) (fr : Option Int) : Prop where
  s : ρ "self" = some J
  l : ρ "lots" = some (lotsV L)
  p : ρ "place" = some (.int p)
  o : ρ "owner" = some (.ref ko)
  c : ρ "came" = some (.ref kc)
  q : ρ "queue" = some (lotV q)
  f : ρ "free" = some (optV fr)
theorem scan_loop (L : List (List Int)) (J : V) (ko kc : Nat) (hk : ko ≠ kc) (p : Int) (own : AL) (here : Int) {B : SF}
    (hB : ∀ ρ m came q v, CdI L J ko kc p ρ q none → ρ "here" = some (.int here) → m[ko]? = some (.dicI (asV own)) → m[kc]? = some (.dicI (asV came)) →
      if (getA came v).isSome then ∃ ρ', B (upd ρ "v" (.int v)) m = some (.next, ρ', m) ∧ CdI L J ko kc p ρ' q none ∧ ρ' "here" = some (.int here)
      else came.length ≤ 60 → q.length ≤ 900 → match getA own v with
        | none => ∃ ρ', B (upd ρ "v" (.int v)) m = some (.brk, ρ', m.set kc (.dicI (asV (putA came v here)))) ∧ CdI L J ko kc p ρ' q (some v)
        | some o => ∃ ρ', B (upd ρ "v" (.int v)) m = some (.next, ρ', m.set kc (.dicI (asV (putA came v here)))) ∧ CdI L J ko kc p ρ' (q ++ [o]) none ∧ ρ' "here" = some (.int here)) :
    ∀ (lot : List Int) (came : AL) (q : List Int) (ρ : Rho) (m : List MO) (r : AL × List Int × Option Int), scanA own here lot came q = some r → CdI L J ko kc p ρ q none → ρ "here" = some (.int here) → m[ko]? = some (.dicI (asV own)) → m[kc]? = some (.dicI (asV came)) →
      ∃ ρ', forX (nameSt "v") B (lot.map .int) ρ m = some (.next, ρ', m.set kc (.dicI (asV r.1))) ∧ CdI L J ko kc p ρ' r.2.1 r.2.2
  | [], came, q, ρ, m, r, e, I, hh, ho, hc => by
    cases e
    have : m.set kc (.dicI (asV came)) = m := set_same hc
    exact ⟨ρ, by rw [this]; rfl, I⟩
  | v :: lot, came, q, ρ, m, r, e, I, hh, ho, hc => by
    have hlt : kc < m.length := (List.getElem?_eq_some_iff.mp hc).1
    have b := hB ρ m came q v I hh ho hc
    rw [scanA] at e
    rw [List.map_cons, forX]
    show ∃ ρ', ((B (upd ρ "v" (.int v)) m).bind _) = _ ∧ _
    split at e
    · rename_i h
      rw [if_pos h] at b
      obtain ⟨ρ1, e1, I1, hh1⟩ := b
      rw [e1]
      exact scan_loop L J ko kc hk p own here hB lot came q ρ1 m r e I1 hh1 ho hc
    · rename_i h
      rw [if_neg h] at b
      split at e
      · rename_i hz
        have b := b hz.1 hz.2
        cases ho' : getA own v with
        | none =>
          rw [ho'] at b e
          obtain ⟨ρ1, e1, I1⟩ := b
          cases e
          rw [e1]
          exact ⟨ρ1, rfl, I1⟩
        | some o =>
          rw [ho'] at b e
          obtain ⟨ρ1, e1, I1, hh1⟩ := b
          rw [e1]
          obtain ⟨ρ', e2, I2⟩ := scan_loop L J ko kc hk p own here hB lot (putA came v here) (q ++ [o]) ρ1 (m.set kc (.dicI (asV (putA came v here)))) r e I1 hh1 (by rw [List.getElem?_set_ne (Ne.symm hk)]; exact ho) (List.getElem?_set_self hlt)
          rw [List.set_set] at e2
          exact ⟨ρ', e2, I2⟩
      · cases e
theorem bfs_while (L : List (List Int)) (J : V) (ko kc : Nat) (hk : ko ≠ kc) (p : Int) (own : AL) {T : TF} {B : SF}
    (hT : ∀ ρ m q fr, CdI L J ko kc p ρ q fr → T ρ m = some (!q.isEmpty && fr.isNone, m))
    (hB : ∀ ρ m came h q lot r, CdI L J ko kc p ρ (h :: q) none → m[ko]? = some (.dicI (asV own)) → m[kc]? = some (.dicI (asV came)) → itemA L h = some lot → q.length ≤ 900 → scanA own h lot came q = some r →
      ∃ ρ', B ρ m = some (.next, ρ', m.set kc (.dicI (asV r.1))) ∧ CdI L J ko kc p ρ' r.2.1 r.2.2) :
    ∀ n came q fr ρ m r, bfsA L own n came q fr = some r → CdI L J ko kc p ρ q fr → m[ko]? = some (.dicI (asV own)) → m[kc]? = some (.dicI (asV came)) →
      ∃ ρ' q', whileX T B n ρ m = some (.next, ρ', m.set kc (.dicI (asV r.1))) ∧ CdI L J ko kc p ρ' q' r.2
  | 0, came, q, fr, ρ, m, r, e, _, _, _ => by cases e
  | n + 1, came, q, fr, ρ, m, r, e, I, ho, hc => by
    have hlt : kc < m.length := (List.getElem?_eq_some_iff.mp hc).1
    have hset : m.set kc (.dicI (asV came)) = m := set_same hc
    have t := hT ρ m q fr I
    cases fr with
    | some f =>
      cases e
      have : (!q.isEmpty && (some f).isNone) = false := by simp
      rw [this] at t
      exact ⟨ρ, q, by rw [while_end t, hset], I⟩
    | none =>
      cases q with
      | nil =>
        cases e
        exact ⟨ρ, [], by rw [while_end t, hset], I⟩
      | cons h q =>
        rw [bfsA] at e
        obtain ⟨lot, e1, e⟩ := Option.bind_eq_some_iff.mp e
        split at e
        · rename_i hz
          obtain ⟨s, e2, e⟩ := Option.bind_eq_some_iff.mp e
          obtain ⟨ρ1, b, I1⟩ := hB ρ m came h q lot s I ho hc e1 hz e2
          obtain ⟨ρ', q', e3, I2⟩ := bfs_while L J ko kc hk p own hT hB n s.1 s.2.1 s.2.2 ρ1 (m.set kc (.dicI (asV s.1))) r e I1 (by rw [List.getElem?_set_ne (Ne.symm hk)]; exact ho) (List.getElem?_set_self hlt)
          exact ⟨ρ', q', by rw [while_next t b, e3, List.set_set], I2⟩
        · cases e
structure CdO (L : List (List Int)) (J : V) (ko : Nat) (ρ : Rho) : Prop where
  s : ρ "self" = some J
  l : ρ "lots" = some (lotsV L)
  o : ρ "owner" = some (.ref ko)
theorem place_loop (L : List (List Int)) (J : V) (m0 : List MO) {B : SF}
    (hB : ∀ ρ own js p r, CdO L J m0.length ρ → own.length ≤ 800 → bfsA L own 64 [] [p] none = some r → match r.2 with
      | none => ∃ ρ', B (upd ρ "place" (.int p)) (m0 ++ .dicI (asV own) :: js) = some (.ret (.bool false), ρ', m0 ++ .dicI (asV own) :: (js ++ [.dicI (asV r.1)]))
      | some f => r.1.length < 64 → ∀ own', moveA r.1 p 64 own f = some own' → ∃ ρ', B (upd ρ "place" (.int p)) (m0 ++ .dicI (asV own) :: js) = some (.next, ρ', m0 ++ .dicI (asV own') :: (js ++ [.dicI (asV r.1)])) ∧ CdO L J m0.length ρ') :
    ∀ ps own js ρ b, cdA L ps own = some b → CdO L J m0.length ρ → ∃ ρ' j', forX (nameSt "place") B (ps.map .int) ρ (m0 ++ .dicI (asV own) :: js) = some (if b then .next else .ret (.bool false), ρ', m0 ++ j')
  | [], own, js, ρ, b, e, I => by cases e; exact ⟨ρ, _, rfl⟩
  | p :: ps, own, js, ρ, b, e, I => by
    rw [cdA] at e
    split at e
    · rename_i hz
      obtain ⟨r, e1, e⟩ := Option.bind_eq_some_iff.mp e
      have h := hB ρ own js p r I hz e1
      rw [List.map_cons, forX]
      show ∃ ρ' j', ((B (upd ρ "place" (.int p)) (m0 ++ .dicI (asV own) :: js)).bind _) = _
      cases hr : r.2 with
      | none =>
        rw [hr] at h e
        obtain ⟨ρ', e2⟩ := h
        cases e
        rw [e2]
        exact ⟨ρ', _, rfl⟩
      | some f =>
        rw [hr] at h e
        dsimp only at h e
        split at e
        · rename_i hc
          obtain ⟨own', e3, e⟩ := Option.bind_eq_some_iff.mp e
          obtain ⟨ρ1, e2, I1⟩ := h hc own' e3
          rw [e2]
          exact place_loop L J m0 hB ps own' _ ρ1 b e I1
        · cases e
    · cases e
section
variable {w : World} {H : Heap} {mg mb : Str → Option Value}
abbrev MoveS (f : CF) : Prop := ∀ J ko kc came place own free own' mem, ko ≠ kc → mem[ko]? = some (.dicI (asV own)) → mem[kc]? = some (.dicI (asV came)) → came.length < 64 → own.length ≤ 800 → moveA came place 64 own free = some own' →
    f [J, .ref ko, .ref kc, .int free, .int place] mem = some (.none, mem.set ko (.dicI (asV own')))
theorem inst_judge (D M : V) (name : Str) (m : List MO) (h1 : ¬ ("domains" : Str) = name) (h2 : ¬ ("most" : Str) = name) : isInst 369 name (judgeV D M) m = true := by
  simp [isInst, judgeV, fieldAt, h1, h2]
theorem can_differ_ok (ok : (cx w H mg mb).Ok) {f1 : CF} (h1 : CallOK (cx w H mg mb) 1 (.ref 361) f1) (s1 : MoveS f1) : ∃ f, CallOK (cx w H mg mb) 2 (.ref 356) f ∧ ∀ D M L b mem, L.length ≤ 100 → cdA L (varsI L.length) [] = some b → FlatM mem →
    f [judgeV D M, lotsV L] mem = some (.bool b, mem) := by
  have hC : SelfCls 369 := trivial
  refine' ⟨_, CallOK.trim (CallOK.def2 (names := ["self", "lots"]) ok rfl rfl ?d rfl rfl rfl rfl fun L => ?b), ?s⟩
  case d => (intro ws h; refine len2 h ?_; intros; rfl)
  case b => exact (ExOK.cons (StOK.assign (EvOK.newDic ok) (AsgOK.local rfl) rfl rfl rfl) (ExOK.cons (StOK.for (EvOK.call (bi_range ok rfl) (EvsOK.cons (EvOK.call (bi_len ok rfl) (EvsOK.cons (loadLocal rfl rfl) EvsOK.nil rfl) rfl keepB lenOK rfl) EvsOK.nil rfl) rfl keepT rangeOK rfl) (AsgOK.local rfl) (ExOK.cons (StOK.swap2 (EvOK.tup (EvsOK.cons (EvOK.newDic ok) (EvsOK.cons (EvOK.lst (EvsOK.cons (loadLocal rfl rfl) EvsOK.nil rfl)) (EvsOK.cons EvOK.none EvsOK.nil rfl) rfl) rfl)) rfl rfl rfl) (ExOK.cons (StOK.whl (TeOK.and (TeOK.cmp (loadLocal rfl rfl) (EvOK.lst EvsOK.nil) neOK rfl) (TeOK.cmp (loadLocal rfl rfl) EvOK.none isOK rfl)) (ExOK.cons (StOK.swap2 (EvOK.tup (EvsOK.cons (EvOK.sub (loadLocal rfl rfl) EvOK.int (fun _ _ => rfl)) (EvsOK.cons (EvOK.slice (loadLocal rfl rfl) (partSome EvOK.int) partNone partNone (fun _ _ => ⟨_, rfl⟩)) EvsOK.nil rfl) rfl)) rfl rfl rfl) (ExOK.cons (StOK.for (EvOK.sub (loadLocal rfl rfl) (loadLocal rfl rfl) (fun _ _ => rfl)) (AsgOK.local rfl) (ExOK.cons (StOK.ite (TeOK.cmp (loadLocal rfl rfl) (loadLocal rfl rfl) notInOK rfl) (ExOK.cons (StOK.assignSub (loadLocal rfl rfl) (loadLocal rfl rfl) (loadLocal rfl rfl) rfl) (ExOK.cons (StOK.ite (TeOK.cmp (loadLocal rfl rfl) (loadLocal rfl rfl) notInOK rfl) (ExOK.cons (StOK.assign (loadLocal rfl rfl) (AsgOK.local rfl) rfl rfl rfl) (ExOK.cons StOK.brk ExOK.nil)) ExOK.nil) (ExOK.cons (StOK.assign (EvOK.bin (loadLocal rfl rfl) (EvOK.lst (EvsOK.cons (EvOK.sub (loadLocal rfl rfl) (loadLocal rfl rfl) (fun _ _ => rfl)) EvsOK.nil rfl)) addOK) (AsgOK.local rfl) rfl rfl rfl) ExOK.nil))) ExOK.nil) ExOK.nil) (fun _ => rfl)) ExOK.nil)) 64) (ExOK.cons (StOK.ite (TeOK.cmp (loadLocal rfl rfl) EvOK.none isOK rfl) (ExOK.cons (StOK.ret EvOK.bool) ExOK.nil) ExOK.nil) (ExOK.cons (StOK.expr (EvOK.meth (loadLocal rfl rfl) (EvsOK.cons (loadLocal rfl rfl) (EvsOK.cons (loadLocal rfl rfl) (EvsOK.cons (loadLocal rfl rfl) (EvsOK.cons (loadLocal rfl rfl) EvsOK.nil rfl) rfl) rfl) rfl) rfl (MethOK.inst (C := 369) ok rfl rfl rfl) (KeepOK.fn ok rfl) (CallOK.up h1 (by decide)) rfl rfl rfl) rfl rfl) ExOK.nil)))) (fun _ => rfl)) (ExOK.cons (StOK.ret EvOK.bool) ExOK.nil)))
  case s =>
    intro D M L b mem hL hb hF
    have ll : ∀ m, lenF [lotsV L] m = some (.int L.length, m) := fun m => by unfold lotsV; rw [len_lst (by rw [List.length_map]; omega), List.length_map]
    suffices hs : ∃ j, defX _ _ _ _ = some (.bool b, mem ++ j) by
      obtain ⟨j, e⟩ := hs
      exact trimC_of e rfl rfl hF
    have hv : rngInts 0 L.length = varsV L.length := rngInts0 L.length
    have hi : itemsOf (.rng 0 (L.length : Int)) = some ((varsI L.length).map .int) := by
      have s1 : smallI 0 = true := rfl
      have s2 : smallI (L.length : Int) = true := by rw [smallI_iff]; omega
      have : rngInts 0 ((L.length : Int) - 0).toNat = varsV L.length := by rw [← hv]; congr 1
      simp only [itemsOf, s1, s2, Bool.and_self, if_true]
      exact congrArg some this
    simp (config := { maxSteps := 3000000 }) (disch := first | assumption | decide | decide +kernel) only [sizeB, Nat.reduceAdd, Nat.reduceLeDiff, decide_true, decide_false, Bool.false_eq_true, if_false, if_true, ite_true, ite_false, reduceIte, Bool.not_true, Bool.not_false, Bool.and_true, Bool.true_and, Bool.and_self, decide_eq_true_eq, List.nil_append, List.cons_append, List.append_nil, List.singleton_append,
    defX, bindX, seqX, assignX, nameX, tupSt, asgCons, asgNil, nameSt, constX, retX, retN, exprX, brkX, tupX, lstX, consL, nilL, binX, callX, methX, subX, attrX, ifX, ifeX, notX, orX, andX, negX, cmpT, boolT, notT, andT, orT, swapX, tgtNames, subStX, newLstX, newDicX, forS, items_lst, items_tup, nilX,
    addF_int, subF_int, ltF_int, leF_int, gtF_int, geF_int, isF_bool, isF_nn, isF_in, isNotF_bool, Option.bind_some, Option.bind_none, upd_eq, upd_ne, List.length_cons, List.length_nil, List.filterMap_cons, List.filterMap_nil, List.reverse_cons, List.reverse_nil, eqF_s, eqF_sn, eqF_int, neF_int, eqF_bool, eqF_none_int, item_tup0, item_tup1, item_tup2, item_lst0, valAt_s, valAt_n, V.onInt_int, V.onBool_bool, V.onTup_tup, V.onLst_lst, V.onNone_none, onRef_ref, moL_lst, moI_dic, moS_dic, on1_one, on2_two, onCons_cons, onNil_nil, tupR, lstR, lenR, rangeF, ll, hi]
    generalize hρ : upd _ "owner" _ = ρ0
    generalize hW : forX _ _ _ ρ0 _ = W
    have key : ∃ ρ' j', W = some (if b then .next else .ret (.bool false), ρ', mem ++ j') := by
      rw [← hW]
      refine place_loop L (judgeV D M) mem ?_ (varsI L.length) [] [] ρ0 b hb ⟨by rw [← hρ]; rfl, by rw [← hρ]; rfl, by rw [← hρ]; rfl⟩
      intro ρ own js p r I hz he
      obtain ⟨is, il, io⟩ := I
      generalize hm1 : mem ++ MO.dicI (asV own) :: js = m1
      have gk : m1[mem.length]? = some (.dicI (asV own)) := by rw [← hm1, List.getElem?_append_right (Nat.le_refl _), Nat.sub_self]; rfl
      have ghc : (m1 ++ [.dicI (asV [])])[m1.length]? = some (.dicI (asV [])) := get_last
      have gho : (m1 ++ [.dicI (asV [])])[mem.length]? = some (.dicI (asV own)) := by
        rw [List.getElem?_append_left (by rw [← hm1]; simp)]; exact gk
      have hk : mem.length ≠ m1.length := by rw [← hm1]; simp
      have lV : V.lst [.int p] = lotV [p] := rfl
      simp (config := { maxSteps := 3000000 }) (disch := first | assumption | decide | decide +kernel) only [sizeB, Nat.reduceAdd, Nat.reduceLeDiff, decide_true, decide_false, Bool.false_eq_true, if_false, if_true, ite_true, ite_false, reduceIte, Bool.not_true, Bool.not_false, Bool.and_true, Bool.true_and, Bool.and_self, decide_eq_true_eq, List.nil_append, List.cons_append, List.append_nil, List.singleton_append,
    defX, bindX, seqX, assignX, nameX, tupSt, asgCons, asgNil, nameSt, constX, retX, retN, exprX, brkX, tupX, lstX, consL, nilL, binX, callX, methX, subX, attrX, ifX, ifeX, notX, orX, andX, negX, cmpT, boolT, notT, andT, orT, swapX, tgtNames, subStX, newLstX, newDicX, forS, items_lst, items_tup, nilX,
    addF_int, subF_int, ltF_int, leF_int, gtF_int, geF_int, isF_bool, isF_nn, isF_in, isNotF_bool, Option.bind_some, Option.bind_none, upd_eq, upd_ne, List.length_cons, List.length_nil, List.filterMap_cons, List.filterMap_nil, List.reverse_cons, List.reverse_nil, eqF_s, eqF_sn, eqF_int, neF_int, eqF_bool, eqF_none_int, item_tup0, item_tup1, item_tup2, item_lst0, valAt_s, valAt_n, V.onInt_int, V.onBool_bool, V.onTup_tup, V.onLst_lst, V.onNone_none, onRef_ref, moL_lst, moI_dic, moS_dic, on1_one, on2_two, onCons_cons, onNil_nil, tupR, lstR, lenR, is, il, io, lV]
      generalize hρ1 : upd _ "came" _ = ρ1
      generalize hW : whileX _ _ 64 ρ1 _ = W
      have key : ∃ ρ' q', W = some (.next, ρ', (m1 ++ [MO.dicI (asV [])]).set m1.length (.dicI (asV r.1))) ∧ CdI L (judgeV D M) mem.length m1.length p ρ' q' r.2 := by
        rw [← hW]
        refine bfs_while L (judgeV D M) mem.length m1.length hk p own ?_ ?_ 64 [] [p] none ρ1 (m1 ++ [.dicI (asV [])]) r he ?_ gho ghc
        · rintro ρ m q fr ⟨cs, cl, cp, co, cc, cq, cf⟩
          have hn := ne_ints q m
          have hf := isF_opt fr m
          cases hq : !q.isEmpty with
          | false =>
            rw [hq] at hn
            simp (config := { maxSteps := 3000000 }) (disch := first | assumption | decide | decide +kernel) only [sizeB, Nat.reduceAdd, Nat.reduceLeDiff, decide_true, decide_false, Bool.false_eq_true, if_false, if_true, ite_true, ite_false, reduceIte, Bool.not_true, Bool.not_false, Bool.and_true, Bool.true_and, Bool.and_self, decide_eq_true_eq, List.nil_append, List.cons_append, List.append_nil, List.singleton_append,
    defX, bindX, seqX, assignX, nameX, tupSt, asgCons, asgNil, nameSt, constX, retX, retN, exprX, brkX, tupX, lstX, consL, nilL, binX, callX, methX, subX, attrX, ifX, ifeX, notX, orX, andX, negX, cmpT, boolT, notT, andT, orT, swapX, tgtNames, subStX, newLstX, newDicX, forS, items_lst, items_tup, nilX,
    addF_int, subF_int, ltF_int, leF_int, gtF_int, geF_int, isF_bool, isF_nn, isF_in, isNotF_bool, Option.bind_some, Option.bind_none, upd_eq, upd_ne, List.length_cons, List.length_nil, List.filterMap_cons, List.filterMap_nil, List.reverse_cons, List.reverse_nil, eqF_s, eqF_sn, eqF_int, neF_int, eqF_bool, eqF_none_int, item_tup0, item_tup1, item_tup2, item_lst0, valAt_s, valAt_n, V.onInt_int, V.onBool_bool, V.onTup_tup, V.onLst_lst, V.onNone_none, onRef_ref, moL_lst, moI_dic, moS_dic, on1_one, on2_two, onCons_cons, onNil_nil, tupR, lstR, lenR, cq, cf, hn, Bool.false_and]
          | true =>
            rw [hq] at hn
            simp (config := { maxSteps := 3000000 }) (disch := first | assumption | decide | decide +kernel) only [sizeB, Nat.reduceAdd, Nat.reduceLeDiff, decide_true, decide_false, Bool.false_eq_true, if_false, if_true, ite_true, ite_false, reduceIte, Bool.not_true, Bool.not_false, Bool.and_true, Bool.true_and, Bool.and_self, decide_eq_true_eq, List.nil_append, List.cons_append, List.append_nil, List.singleton_append,
    defX, bindX, seqX, assignX, nameX, tupSt, asgCons, asgNil, nameSt, constX, retX, retN, exprX, brkX, tupX, lstX, consL, nilL, binX, callX, methX, subX, attrX, ifX, ifeX, notX, orX, andX, negX, cmpT, boolT, notT, andT, orT, swapX, tgtNames, subStX, newLstX, newDicX, forS, items_lst, items_tup, nilX,
    addF_int, subF_int, ltF_int, leF_int, gtF_int, geF_int, isF_bool, isF_nn, isF_in, isNotF_bool, Option.bind_some, Option.bind_none, upd_eq, upd_ne, List.length_cons, List.length_nil, List.filterMap_cons, List.filterMap_nil, List.reverse_cons, List.reverse_nil, eqF_s, eqF_sn, eqF_int, neF_int, eqF_bool, eqF_none_int, item_tup0, item_tup1, item_tup2, item_lst0, valAt_s, valAt_n, V.onInt_int, V.onBool_bool, V.onTup_tup, V.onLst_lst, V.onNone_none, onRef_ref, moL_lst, moI_dic, moS_dic, on1_one, on2_two, onCons_cons, onNil_nil, tupR, lstR, lenR, cq, cf, hn, hf]
        · rintro ρ m came h q lot r ⟨cs, cl, cp, co, cc, cq, cf⟩ ho hc hi hz hs
          have i0 : ∀ m, itemF (lotV (h :: q)) (.int 0) m = some (.int h) := fun m => item_lst0 _ _ m
          have it := item_lots L h m
          rw [hi] at it
          have it' : itemF (lotsV L) (.int h) m = some (lotV lot) := it
          have hil : itemsOf (lotV lot) = some (lot.map .int) := rfl
          have sl := slice1 (x := "queue") (ρ := ρ) (m := m) cq hz
          simp (config := { maxSteps := 3000000 }) (disch := first | assumption | decide | decide +kernel) only [sizeB, Nat.reduceAdd, Nat.reduceLeDiff, decide_true, decide_false, Bool.false_eq_true, if_false, if_true, ite_true, ite_false, reduceIte, Bool.not_true, Bool.not_false, Bool.and_true, Bool.true_and, Bool.and_self, decide_eq_true_eq, List.nil_append, List.cons_append, List.append_nil, List.singleton_append,
    defX, bindX, seqX, assignX, nameX, tupSt, asgCons, asgNil, nameSt, constX, retX, retN, exprX, brkX, tupX, lstX, consL, nilL, binX, callX, methX, subX, attrX, ifX, ifeX, notX, orX, andX, negX, cmpT, boolT, notT, andT, orT, swapX, tgtNames, subStX, newLstX, newDicX, forS, items_lst, items_tup, nilX,
    addF_int, subF_int, ltF_int, leF_int, gtF_int, geF_int, isF_bool, isF_nn, isF_in, isNotF_bool, Option.bind_some, Option.bind_none, upd_eq, upd_ne, List.length_cons, List.length_nil, List.filterMap_cons, List.filterMap_nil, List.reverse_cons, List.reverse_nil, eqF_s, eqF_sn, eqF_int, neF_int, eqF_bool, eqF_none_int, item_tup0, item_tup1, item_tup2, item_lst0, valAt_s, valAt_n, V.onInt_int, V.onBool_bool, V.onTup_tup, V.onLst_lst, V.onNone_none, onRef_ref, moL_lst, moI_dic, moS_dic, on1_one, on2_two, onCons_cons, onNil_nil, tupR, lstR, lenR, cq, i0, sl, cl, it', hil]
          generalize hρ2 : upd _ "here" _ = ρ2
          generalize hW : forX _ _ _ ρ2 _ = W
          have I0 : CdI L (judgeV D M) mem.length m1.length p ρ2 q none := by rw [← hρ2]; exact ⟨cs, cl, cp, co, cc, rfl, cf⟩
          have key : ∃ ρ', W = some (.next, ρ', m.set m1.length (.dicI (asV r.1))) ∧ CdI L (judgeV D M) mem.length m1.length p ρ' r.2.1 r.2.2 := by
            rw [← hW]
            refine scan_loop L (judgeV D M) mem.length m1.length hk p own h ?_ lot came q ρ2 m r hs I0 (by rw [← hρ2]; rfl) ho hc
            rintro ρ m came q v ⟨cs, cl, cp, co, cc, cq, cf⟩ hh ho hc
            have in1 := in_dicI hc v true
            have in2 := in_dicI ho v true
            rw [asV_val] at in1 in2
            cases hv : getA came v with
            | some u =>
              rw [hv] at in1
              have in1' : inF true (.int v) (.ref m1.length) m = some (.bool false) := in1
              refine' ⟨_, ?e, ?I1, ?h1⟩
              case e =>
                simp (config := { maxSteps := 3000000 }) (disch := first | assumption | decide | decide +kernel) only [sizeB, Nat.reduceAdd, Nat.reduceLeDiff, decide_true, decide_false, Bool.false_eq_true, if_false, if_true, ite_true, ite_false, reduceIte, Bool.not_true, Bool.not_false, Bool.and_true, Bool.true_and, Bool.and_self, decide_eq_true_eq, List.nil_append, List.cons_append, List.append_nil, List.singleton_append,
    defX, bindX, seqX, assignX, nameX, tupSt, asgCons, asgNil, nameSt, constX, retX, retN, exprX, brkX, tupX, lstX, consL, nilL, binX, callX, methX, subX, attrX, ifX, ifeX, notX, orX, andX, negX, cmpT, boolT, notT, andT, orT, swapX, tgtNames, subStX, newLstX, newDicX, forS, items_lst, items_tup, nilX,
    addF_int, subF_int, ltF_int, leF_int, gtF_int, geF_int, isF_bool, isF_nn, isF_in, isNotF_bool, Option.bind_some, Option.bind_none, upd_eq, upd_ne, List.length_cons, List.length_nil, List.filterMap_cons, List.filterMap_nil, List.reverse_cons, List.reverse_nil, eqF_s, eqF_sn, eqF_int, neF_int, eqF_bool, eqF_none_int, item_tup0, item_tup1, item_tup2, item_lst0, valAt_s, valAt_n, V.onInt_int, V.onBool_bool, V.onTup_tup, V.onLst_lst, V.onNone_none, onRef_ref, moL_lst, moI_dic, moS_dic, on1_one, on2_two, onCons_cons, onNil_nil, tupR, lstR, lenR, cc, in1']
                rfl
              case I1 => exact ⟨cs, cl, cp, co, cc, cq, cf⟩
              case h1 => exact hh
            | none =>
              rw [hv] at in1
              have in1' : inF true (.int v) (.ref m1.length) m = some (.bool true) := in1
              rw [if_neg (by decide)]
              intro hz1 hz2
              have st := store_dicI hc (by rw [asV_len]; omega) v (.int h)
              rw [asV_put] at st
              have ho2 : (m.set m1.length (.dicI (asV (putA came v h))))[mem.length]? = some (.dicI (asV own)) := by rw [List.getElem?_set_ne (Ne.symm hk)]; exact ho
              have in2 := in_dicI ho2 v true
              have io2 := item_dicI ho2 v
              rw [asV_val] at in2 io2
              cases hv2 : getA own v with
              | none =>
                rw [hv2] at in2
                have in2' : inF true (.int v) (.ref mem.length) (m.set m1.length (.dicI (asV (putA came v h)))) = some (.bool true) := in2
                refine' ⟨_, ?e2, ?I2⟩
                case e2 =>
                  simp (config := { maxSteps := 3000000 }) (disch := first | assumption | decide | decide +kernel) only [sizeB, Nat.reduceAdd, Nat.reduceLeDiff, decide_true, decide_false, Bool.false_eq_true, if_false, if_true, ite_true, ite_false, reduceIte, Bool.not_true, Bool.not_false, Bool.and_true, Bool.true_and, Bool.and_self, decide_eq_true_eq, List.nil_append, List.cons_append, List.append_nil, List.singleton_append,
    defX, bindX, seqX, assignX, nameX, tupSt, asgCons, asgNil, nameSt, constX, retX, retN, exprX, brkX, tupX, lstX, consL, nilL, binX, callX, methX, subX, attrX, ifX, ifeX, notX, orX, andX, negX, cmpT, boolT, notT, andT, orT, swapX, tgtNames, subStX, newLstX, newDicX, forS, items_lst, items_tup, nilX,
    addF_int, subF_int, ltF_int, leF_int, gtF_int, geF_int, isF_bool, isF_nn, isF_in, isNotF_bool, Option.bind_some, Option.bind_none, upd_eq, upd_ne, List.length_cons, List.length_nil, List.filterMap_cons, List.filterMap_nil, List.reverse_cons, List.reverse_nil, eqF_s, eqF_sn, eqF_int, neF_int, eqF_bool, eqF_none_int, item_tup0, item_tup1, item_tup2, item_lst0, valAt_s, valAt_n, V.onInt_int, V.onBool_bool, V.onTup_tup, V.onLst_lst, V.onNone_none, onRef_ref, moL_lst, moI_dic, moS_dic, on1_one, on2_two, onCons_cons, onNil_nil, tupR, lstR, lenR, cc, in1', hh, st, co, in2']
                  rfl
                case I2 => exact ⟨cs, cl, cp, co, cc, cq, rfl⟩
              | some o =>
                rw [hv2] at in2 io2
                have in2' : inF true (.int v) (.ref mem.length) (m.set m1.length (.dicI (asV (putA came v h)))) = some (.bool false) := in2
                have io2' : itemF (.ref mem.length) (.int v) (m.set m1.length (.dicI (asV (putA came v h)))) = some (.int o) := io2
                have had : ∀ m, addF (lotV q) (.lst [.int o]) m = some (lotV (q ++ [o])) := fun m => by
                  unfold lotV
                  rw [addF_lst (by simp; omega), List.map_append]; rfl
                refine' ⟨_, ?e3, ?I3, ?h3⟩
                case e3 =>
                  simp (config := { maxSteps := 3000000 }) (disch := first | assumption | decide | decide +kernel) only [sizeB, Nat.reduceAdd, Nat.reduceLeDiff, decide_true, decide_false, Bool.false_eq_true, if_false, if_true, ite_true, ite_false, reduceIte, Bool.not_true, Bool.not_false, Bool.and_true, Bool.true_and, Bool.and_self, decide_eq_true_eq, List.nil_append, List.cons_append, List.append_nil, List.singleton_append,
    defX, bindX, seqX, assignX, nameX, tupSt, asgCons, asgNil, nameSt, constX, retX, retN, exprX, brkX, tupX, lstX, consL, nilL, binX, callX, methX, subX, attrX, ifX, ifeX, notX, orX, andX, negX, cmpT, boolT, notT, andT, orT, swapX, tgtNames, subStX, newLstX, newDicX, forS, items_lst, items_tup, nilX,
    addF_int, subF_int, ltF_int, leF_int, gtF_int, geF_int, isF_bool, isF_nn, isF_in, isNotF_bool, Option.bind_some, Option.bind_none, upd_eq, upd_ne, List.length_cons, List.length_nil, List.filterMap_cons, List.filterMap_nil, List.reverse_cons, List.reverse_nil, eqF_s, eqF_sn, eqF_int, neF_int, eqF_bool, eqF_none_int, item_tup0, item_tup1, item_tup2, item_lst0, valAt_s, valAt_n, V.onInt_int, V.onBool_bool, V.onTup_tup, V.onLst_lst, V.onNone_none, onRef_ref, moL_lst, moI_dic, moS_dic, on1_one, on2_two, onCons_cons, onNil_nil, tupR, lstR, lenR, cc, in1', hh, st, co, in2', io2', cq, had]
                  rfl
                case I3 => exact ⟨cs, cl, cp, co, cc, rfl, cf⟩
                case h3 => exact hh
          obtain ⟨ρ', e, I1⟩ := key
          subst e
          exact ⟨ρ', rfl, I1⟩
        · rw [← hρ1]
          exact ⟨is, il, rfl, io, rfl, rfl, rfl⟩
      rw [set_last] at key
      obtain ⟨ρ', q', e, ⟨cs, cl, cp, co, cc, cq, cf⟩⟩ := key
      subst e
      have hk2 : (m1 ++ [MO.dicI (asV r.1)])[m1.length]? = some (.dicI (asV r.1)) := get_last
      have hk1 : (m1 ++ [MO.dicI (asV r.1)])[mem.length]? = some (.dicI (asV own)) := by
        rw [List.getElem?_append_left (by rw [← hm1]; simp)]; exact gk
      have hf := isF_opt r.2 (m1 ++ [MO.dicI (asV r.1)])
      cases hr : r.2 with
      | none =>
        rw [hr] at hf cf
        have hf' : isF (optV none) .none (m1 ++ [MO.dicI (asV r.1)]) = some (.bool true) := hf
        dsimp only
        refine' ⟨ρ', ?_⟩
        simp (config := { maxSteps := 3000000 }) (disch := first | assumption | decide | decide +kernel) only [sizeB, Nat.reduceAdd, Nat.reduceLeDiff, decide_true, decide_false, Bool.false_eq_true, if_false, if_true, ite_true, ite_false, reduceIte, Bool.not_true, Bool.not_false, Bool.and_true, Bool.true_and, Bool.and_self, decide_eq_true_eq, List.nil_append, List.cons_append, List.append_nil, List.singleton_append,
    defX, bindX, seqX, assignX, nameX, tupSt, asgCons, asgNil, nameSt, constX, retX, retN, exprX, brkX, tupX, lstX, consL, nilL, binX, callX, methX, subX, attrX, ifX, ifeX, notX, orX, andX, negX, cmpT, boolT, notT, andT, orT, swapX, tgtNames, subStX, newLstX, newDicX, forS, items_lst, items_tup, nilX,
    addF_int, subF_int, ltF_int, leF_int, gtF_int, geF_int, isF_bool, isF_nn, isF_in, isNotF_bool, Option.bind_some, Option.bind_none, upd_eq, upd_ne, List.length_cons, List.length_nil, List.filterMap_cons, List.filterMap_nil, List.reverse_cons, List.reverse_nil, eqF_s, eqF_sn, eqF_int, neF_int, eqF_bool, eqF_none_int, item_tup0, item_tup1, item_tup2, item_lst0, valAt_s, valAt_n, V.onInt_int, V.onBool_bool, V.onTup_tup, V.onLst_lst, V.onNone_none, onRef_ref, moL_lst, moI_dic, moS_dic, on1_one, on2_two, onCons_cons, onNil_nil, tupR, lstR, lenR, cf, hf']
        rw [← hm1]; simp
      | some f =>
        rw [hr] at hf cf
        have hf' : isF (optV (some f)) .none (m1 ++ [MO.dicI (asV r.1)]) = some (.bool false) := hf
        dsimp only
        intro hc own' hmv
        have mv := s1 (judgeV D M) mem.length m1.length r.1 p own f own' (m1 ++ [MO.dicI (asV r.1)]) hk hk1 hk2 hc hz hmv
        have hv : optV (some f) = .int f := rfl
        rw [hv] at cf hf'
        refine' ⟨ρ', ?_, ⟨cs, cl, co⟩⟩
        simp (config := { maxSteps := 3000000 }) (disch := first | assumption | decide | decide +kernel) only [sizeB, Nat.reduceAdd, Nat.reduceLeDiff, decide_true, decide_false, Bool.false_eq_true, if_false, if_true, ite_true, ite_false, reduceIte, Bool.not_true, Bool.not_false, Bool.and_true, Bool.true_and, Bool.and_self, decide_eq_true_eq, List.nil_append, List.cons_append, List.append_nil, List.singleton_append,
    defX, bindX, seqX, assignX, nameX, tupSt, asgCons, asgNil, nameSt, constX, retX, retN, exprX, brkX, tupX, lstX, consL, nilL, binX, callX, methX, subX, attrX, ifX, ifeX, notX, orX, andX, negX, cmpT, boolT, notT, andT, orT, swapX, tgtNames, subStX, newLstX, newDicX, forS, items_lst, items_tup, nilX,
    addF_int, subF_int, ltF_int, leF_int, gtF_int, geF_int, isF_bool, isF_nn, isF_in, isNotF_bool, Option.bind_some, Option.bind_none, upd_eq, upd_ne, List.length_cons, List.length_nil, List.filterMap_cons, List.filterMap_nil, List.reverse_cons, List.reverse_nil, eqF_s, eqF_sn, eqF_int, neF_int, eqF_bool, eqF_none_int, item_tup0, item_tup1, item_tup2, item_lst0, valAt_s, valAt_n, V.onInt_int, V.onBool_bool, V.onTup_tup, V.onLst_lst, V.onNone_none, onRef_ref, moL_lst, moI_dic, moS_dic, on1_one, on2_two, onCons_cons, onNil_nil, tupR, lstR, lenR, cf, hf', cs, co, cc, cp, mv, inst_judge]
        rw [← hm1]; simp [List.set_append]
    obtain ⟨ρ', j', e⟩ := key
    subst e
    refine ⟨j', ?_⟩
    cases b <;> rfl
end
end Mine
-- S14
namespace Mine
theorem loopB_map {τ : Type} {a : AF} {t : TF} {b : CB} (P : Rho → Prop) (m : List MO) (g h : τ → V) (Z : Nat) (l : List τ) (ρ : Rho) (hP : P ρ) (hz : l.length ≤ Z)
    (H : ∀ (x : τ) (ρ : Rho) (acc : List V), P ρ → x ∈ l → acc.length ≤ Z → ∃ ρ1, (∀ rest, loopB a t b (g x :: rest) ρ m acc = loopB a t b rest ρ1 m (acc ++ [h x])) ∧ P ρ1) :
    ∃ ρ', loopB a t b (l.map g) ρ m [] = some (ρ', m, l.map h) ∧ P ρ' := by
  obtain ⟨ρ', e, q⟩ := loopB_flat P m g (fun x => [h x]) Z 1 l ρ [] hP (fun _ _ => Nat.le_refl 1) (by simpa using hz) H
  exact ⟨ρ', by rw [e, map_flat, List.nil_append], q⟩
noncomputable def lotsOf (D : List Dom) (T : List (Int × Dom)) (n : Nat) : List (List Int) := (List.range n).map fun x => numsD (domOf D T x)
theorem varsV_eq (n : Nat) : varsV n = (List.range n).map fun (x : Nat) => V.int (x : Int) := by unfold varsV varsI; rw [List.map_map]; rfl
theorem dedI_id {ns : List Int} (h : ns.Nodup) : (dedI ns).length = ns.length := by
  have p : (dedI ns).Perm ns := (List.perm_ext_iff_of_nodup (dedI_nodup ns) h).mpr fun _ => mem_dedI
  exact p.length_eq
theorem set_vars {c : Cx} {n : Nat} (h : n ≤ 50) (m : List MO) : setF c [.tup (varsV n)] m = some (.set (ledOf c.w) (dedI (varsI n)), m) := by
  have : (varsI n).length ≤ 4000 := by rw [varsI_len]; omega
  have e : toInts (varsV n) = some (varsI n) := toInts_map _
  show ((toInts (varsV n)).bind _) = _
  rw [e]; exact if_pos this
section
variable {w : World} {H : Heap} {mg mb : Str → Option Value}
abbrev ValuesS (f : CF) : Prop := ∀ d mem, SmallD d → d.length ≤ 100 → FlatM mem → f [domV d] mem = some (lotV (numsD d), mem)
abbrev CanS (f : CF) : Prop := ∀ D M L b mem, L.length ≤ 100 → cdA L (varsI L.length) [] = some b → FlatM mem → f [judgeV D M, lotsV L] mem = some (.bool b, mem)
theorem is_refuted_ok (ok : (cx w H mg mb).Ok) {f1 f2 f3 : CF} (h1 : CallOK (cx w H mg mb) 1 (.ref 278) f1) (s1 : DomainS f1) (h2 : CallOK (cx w H mg mb) 1 (.ref 155) f2) (s2 : ValuesS f2) (h3 : CallOK (cx w H mg mb) 2 (.ref 356) f3) (s3 : CanS f3) :
    ∃ f, CallOK (cx w H mg mb) 4 (.ref 337) f ∧ ∀ J M D T k n b mem, mem[k]? = some (turnO T) → FlatM mem → n ≤ D.length → n ≤ 50 → (∀ x, x < n → SmallD (domOf D T x) ∧ (domOf D T x).length ≤ 50) → cdA (lotsOf D T n) (varsI n) [] = some b →
      f [judgeV J M, toldV n, boxV (domsV D) k] mem = some (.bool (!b), mem) := by
  have hC : SelfCls 369 := trivial
  refine' ⟨_, CallOK.def2 (names := ["self", "told", "box"]) ok rfl rfl ?d rfl rfl rfl rfl fun L => ?b, ?s⟩
  case d => (intro ws h; refine len3 h ?_; intros; rfl)
  case b => exact (ExOK.cons (StOK.ite (TeOK.cmp (EvOK.sub (loadLocal rfl rfl) EvOK.int (fun _ _ => rfl)) (EvOK.tup (EvsOK.cons EvOK.str (EvsOK.cons EvOK.str EvsOK.nil rfl) rfl)) inOK rfl) (ExOK.cons (StOK.ret (EvOK.meth (loadLocal rfl rfl) (EvsOK.cons (loadLocal rfl rfl) (EvsOK.cons (loadCell rfl rfl) EvsOK.nil rfl) rfl) rfl (MethOK.inst (C := 369) ok rfl rfl rfl) (KeepOK.fn ok rfl) dead344 rfl rfl rfl)) ExOK.nil) ExOK.nil) (ExOK.cons (StOK.ite (TeOK.cmp (EvOK.sub (loadLocal rfl rfl) EvOK.int (fun _ _ => rfl)) EvOK.str eqOK rfl) (ExOK.cons (StOK.ret (EvOK.or (EvOK.cmp (EvOK.call (bi_len ok rfl) (EvsOK.cons (EvOK.call (bi_set ok rfl) (EvsOK.cons (EvOK.sub (loadLocal rfl rfl) EvOK.int (fun _ _ => rfl)) EvsOK.nil rfl) rfl keepT setOK rfl) EvsOK.nil rfl) rfl keepB lenOK rfl) (EvOK.call (bi_len ok rfl) (EvsOK.cons (EvOK.sub (loadLocal rfl rfl) EvOK.int (fun _ _ => rfl)) EvsOK.nil rfl) rfl keepB lenOK rfl) ltOK rfl) (EvOK.not (EvOK.meth (loadLocal rfl rfl) (EvsOK.cons (EvOK.comp rfl (EvOK.sub (loadLocal rfl rfl) EvOK.int (fun _ _ => rfl)) (fun _ => rfl) (CompSt.of rfl rfl rfl rfl rfl rfl (fun _ => rfl) (fun _ => rfl) rfl rfl) (fun _ => (LpOK.mk (fun _ _ => (turn1 _ _ _ _ _ _ _ _ _)) (AsgOK.local rfl) TsOK.nil (InOK.emit (EvOK.call (loadGlobal' ok rfl rfl rfl) (EvsOK.cons (EvOK.meth (loadCell rfl rfl) (EvsOK.cons (loadLocal rfl rfl) EvsOK.nil rfl) rfl (MethOK.inst (C := 309) ok rfl rfl rfl) (KeepOK.fn ok rfl) (CallOK.up h1 (by decide)) rfl rfl rfl) EvsOK.nil rfl) rfl (KeepOK.fn ok rfl) (CallOK.up h2 (by decide)) rfl))))) EvsOK.nil rfl) rfl (MethOK.inst (C := 369) ok rfl rfl rfl) (KeepOK.fn ok rfl) (CallOK.up h3 (by decide)) rfl rfl rfl)))) ExOK.nil) ExOK.nil) (ExOK.cons (StOK.ite (TeOK.cmp (EvOK.sub (loadLocal rfl rfl) EvOK.int (fun _ _ => rfl)) EvOK.str eqOK rfl) (ExOK.cons (StOK.ret (EvOK.not (EvOK.meth (loadLocal rfl rfl) (EvsOK.cons (loadLocal rfl rfl) (EvsOK.cons (loadCell rfl rfl) EvsOK.nil rfl) rfl) rfl (MethOK.inst (C := 369) ok rfl rfl rfl) (KeepOK.fn ok rfl) dead349 rfl rfl rfl))) ExOK.nil) ExOK.nil) (ExOK.cons (StOK.ret EvOK.bool) ExOK.nil))))
  case s =>
    intro J M D T k n b mem hm hF hn hn2 hd hb
    have t0 : ∀ m, itemF (toldV n) (.int 0) m = some (.str "all_different") := fun m => item_tup0 _ _ m
    have t1 : ∀ m, itemF (toldV n) (.int 1) m = some (.tup (varsV n)) := fun m => item_tup1 _ _ _ m
    have in0 : ∀ m, inF false (.str "all_different") (.tup [.str "linear_le", .str "linear_eq"]) m = some (.bool false) := fun m => by kernel_rfl
    have e1 := fun m => set_vars (c := cx w H mg mb) hn2 m
    have e9 : (cx w H mg mb).w = w := rfl
    rw [e9] at e1
    have hz : (dedI (varsI n)).length = n := by rw [dedI_id (varsI_nodup n), varsI_len]
    have e2 : ∀ m, lenF [.set (ledOf w) (dedI (varsI n))] m = some (.int n, m) := fun m => by rw [len_set (by omega), hz]
    have e3 : ∀ m, lenF [.tup (varsV n)] m = some (.int n, m) := fun m => by
      have : (varsV n).length = n := by unfold varsV; rw [List.length_map, varsI_len]
      rw [len_tup (by omega), this]
    have e4 : ¬ ((n : Int) < n) := by omega
    simp (config := { maxSteps := 3000000 }) (disch := first | assumption | decide | decide +kernel) only [sizeB, Nat.reduceAdd, Nat.reduceLeDiff, decide_true, decide_false, Bool.false_eq_true, if_false, if_true, ite_true, ite_false, reduceIte, Bool.not_true, Bool.not_false, Bool.and_true, Bool.true_and, Bool.and_self, decide_eq_true_eq, List.nil_append, List.cons_append, List.append_nil, List.singleton_append,
    defX, bindX, seqX, assignX, nameX, tupSt, asgCons, asgNil, nameSt, constX, retX, retN, exprX, brkX, tupX, lstX, consL, nilL, binX, callX, methX, subX, attrX, ifX, ifeX, notX, orX, andX, negX, cmpT, boolT, notT, andT, orT, swapX, tgtNames, subStX, newLstX, newDicX, forS, items_lst, items_tup, nilX,
    addF_int, subF_int, ltF_int, leF_int, gtF_int, geF_int, isF_bool, isF_nn, isF_in, isNotF_bool, Option.bind_some, Option.bind_none, upd_eq, upd_ne, List.length_cons, List.length_nil, List.filterMap_cons, List.filterMap_nil, List.reverse_cons, List.reverse_nil, eqF_s, eqF_sn, eqF_int, neF_int, eqF_bool, eqF_none_int, item_tup0, item_tup1, item_tup2, item_lst0, valAt_s, valAt_n, V.onInt_int, V.onBool_bool, V.onTup_tup, V.onLst_lst, V.onNone_none, onRef_ref, moL_lst, moI_dic, moS_dic, on1_one, on2_two, onCons_cons, onNil_nil, tupR, lstR, lenR, t0, t1, in0, e1, e2, e3, e4, compX]
    generalize hρ : capX _ _ = ρ0
    have hr : ρ0 "box" = some (boxV (domsV D) k) := by rw [← hρ]; rfl
    rw [varsV_eq]
    generalize hW : loopB _ _ _ _ ρ0 _ _ = W
    have key : ∃ ρ', W = some (ρ', mem, (List.range n).map fun x => lotV (numsD (domOf D T x))) ∧ ρ' "box" = some (boxV (domsV D) k) := by
      rw [← hW]
      refine loopB_map (fun ρ => ρ "box" = some (boxV (domsV D) k)) mem _ _ 1000 (List.range n) ρ0 hr (by simp; omega) ?_
      intro x ρ acc hr hx hz
      have hx := List.mem_range.mp hx
      have hz1 : acc.length ≤ 100000 := by omega
      have d1 := s1 D T k x mem hm (by omega) (by omega)
      have d2 := s2 (domOf D T x) mem (hd x hx).1 (by have := (hd x hx).2; omega) hF
      refine ⟨upd ρ "x" (.int (x : Int)), fun rest => ?_, by rw [upd_ne (by decide)]; exact hr⟩
      rw [loopB]
      simp (config := { maxSteps := 3000000 }) (disch := first | assumption | decide | decide +kernel) only [sizeB, Nat.reduceAdd, Nat.reduceLeDiff, decide_true, decide_false, Bool.false_eq_true, if_false, if_true, ite_true, ite_false, reduceIte, Bool.not_true, Bool.not_false, Bool.and_true, Bool.true_and, Bool.and_self, decide_eq_true_eq, List.nil_append, List.cons_append, List.append_nil, List.singleton_append,
    defX, bindX, seqX, assignX, nameX, tupSt, asgCons, asgNil, nameSt, constX, retX, retN, exprX, brkX, tupX, lstX, consL, nilL, binX, callX, methX, subX, attrX, ifX, ifeX, notX, orX, andX, negX, cmpT, boolT, notT, andT, orT, swapX, tgtNames, subStX, newLstX, newDicX, forS, items_lst, items_tup, nilX,
    addF_int, subF_int, ltF_int, leF_int, gtF_int, geF_int, isF_bool, isF_nn, isF_in, isNotF_bool, Option.bind_some, Option.bind_none, upd_eq, upd_ne, List.length_cons, List.length_nil, List.filterMap_cons, List.filterMap_nil, List.reverse_cons, List.reverse_nil, eqF_s, eqF_sn, eqF_int, neF_int, eqF_bool, eqF_none_int, item_tup0, item_tup1, item_tup2, item_lst0, valAt_s, valAt_n, V.onInt_int, V.onBool_bool, V.onTup_tup, V.onLst_lst, V.onNone_none, onRef_ref, moL_lst, moI_dic, moS_dic, on1_one, on2_two, onCons_cons, onNil_nil, tupR, lstR, lenR, hr, d1, d2, inst_box, emitB, trueT, hz1]
    obtain ⟨ρ', e, _⟩ := key
    subst e
    have el : V.lst ((List.range n).map fun x => lotV (numsD (domOf D T x))) = lotsV (lotsOf D T n) := by unfold lotsV lotsOf; rw [List.map_map]; rfl
    have hlen : (lotsOf D T n).length = n := by unfold lotsOf; rw [List.length_map, List.length_range]
    have e5 := s3 J M (lotsOf D T n) b mem (by omega) (by rw [hlen]; exact hb) hF
    simp (config := { maxSteps := 3000000 }) (disch := first | assumption | decide | decide +kernel) only [sizeB, Nat.reduceAdd, Nat.reduceLeDiff, decide_true, decide_false, Bool.false_eq_true, if_false, if_true, ite_true, ite_false, reduceIte, Bool.not_true, Bool.not_false, Bool.and_true, Bool.true_and, Bool.and_self, decide_eq_true_eq, List.nil_append, List.cons_append, List.append_nil, List.singleton_append,
    defX, bindX, seqX, assignX, nameX, tupSt, asgCons, asgNil, nameSt, constX, retX, retN, exprX, brkX, tupX, lstX, consL, nilL, binX, callX, methX, subX, attrX, ifX, ifeX, notX, orX, andX, negX, cmpT, boolT, notT, andT, orT, swapX, tgtNames, subStX, newLstX, newDicX, forS, items_lst, items_tup, nilX,
    addF_int, subF_int, ltF_int, leF_int, gtF_int, geF_int, isF_bool, isF_nn, isF_in, isNotF_bool, Option.bind_some, Option.bind_none, upd_eq, upd_ne, List.length_cons, List.length_nil, List.filterMap_cons, List.filterMap_nil, List.reverse_cons, List.reverse_nil, eqF_s, eqF_sn, eqF_int, neF_int, eqF_bool, eqF_none_int, item_tup0, item_tup1, item_tup2, item_lst0, valAt_s, valAt_n, V.onInt_int, V.onBool_bool, V.onTup_tup, V.onLst_lst, V.onNone_none, onRef_ref, moL_lst, moI_dic, moS_dic, on1_one, on2_two, onCons_cons, onNil_nil, tupR, lstR, lenR, el, e5, inst_judge]
end
end Mine
-- S15
namespace Mine
theorem FlatM.push {m : List MO} (h : FlatM m) {o : MO} (ho : cleanO 0 o = true) : FlatM (m ++ [o]) := by
  show (m ++ [o]).all (cleanO 0) = true
  rw [List.all_append, show m.all (cleanO 0) = true from h, List.all_cons, ho]; rfl
theorem toDs_doms : ∀ (Ds : List Dom), toDs (Ds.map domV) = some (Ds.map fun d => PyData.tuple (d.map pd))
  | [] => by rw [List.map_nil, toDs]; rfl
  | d :: Ds => by rw [List.map_cons, toDs, toDs_doms Ds, domV, toD, toDs_pairs]; rfl
theorem lay_doms : ∀ (Ds : List Dom), PyData.canLayAll0 (Ds.map fun d => PyData.tuple (d.map pd)) = true
  | [] => by simp [PyData.canLayAll0]
  | d :: Ds => by rw [List.map_cons, PyData.canLayAll0, lay_doms Ds]; simp [PyData.canLay0, lay_pairs]
theorem in_doms (Ds : List Dom) (m : List MO) : inF false (.tup []) (.lst (Ds.map domV)) m = some (.bool (Ds.any fun d => d.isEmpty)) := by
  have h2 : dOf m (.tup []) = some (.tuple []) := by simp [dOf, lstOf, toD, toDs]
  have s2 : SeqAt.shaped (.tuple []) = true := by simp [SeqAt.shaped, PyData.canLay0, PyData.canLayAll0, PyData.depth, PyData.depthAll]
  show inSeq false (.tup []) (Ds.map domV) m = _
  simp only [inSeq, h2, toDs_doms, Option.bind_some, s2, lay_doms, Bool.and_self, if_true, Bool.false_bne, List.any_map]
  congr 3
  funext d
  cases d <;> simp [PyData.eqv, PyData.eqvAll]
section
variable {w : World} {H : Heap} {mg mb : Str → Option Value}
abbrev NewBoxS (f : CF) : Prop := ∀ D mem, f [D] mem = some (boxV D mem.length, mem ++ [.dicI []])
abbrev DenyS (f : CF) : Prop := ∀ D T k ls mem b, mem[k]? = some (turnO T) → FlatM mem → (∀ l ∈ ls, l.x < D.length) → D.length ≤ 1000 → T.length + ls.length ≤ 900 → (∀ x, (domOf D T x).length ≤ b) → (b + 1) * 2 ^ ls.length ≤ 51 →
      f [boxV (domsV D) k, .tup (ls.map litV)] mem = some (.bool (denyT D ls T).1, mem.set k (turnO (denyT D ls T).2))
abbrev VarsS (f : CF) : Prop := ∀ n mem, n ≤ 50 → FlatM mem → f [toldV n] mem = some (.tup (varsV n), mem)
abbrev SizeS (f : CF) : Prop := ∀ d mem, d.length ≤ 100 → f [domV d] mem = some (.int (sizeD d), mem)
abbrev RefutS (f : CF) : Prop := ∀ J M D T k n b mem, mem[k]? = some (turnO T) → FlatM mem → n ≤ D.length → n ≤ 50 → (∀ x, x < n → SmallD (domOf D T x) ∧ (domOf D T x).length ≤ 50) → cdA (lotsOf D T n) (varsI n) [] = some b →
      f [judgeV J M, toldV n, boxV (domsV D) k] mem = some (.bool (!b), mem)
noncomputable def followsA (D : List Dom) (ls : List Lit) (n : Nat) (b : Bool) : Bool := !(denyT D ls []).1 || ((List.range n).map fun x => domOf D (denyT D ls []).2 x).any (fun d => d.isEmpty) || !b
theorem follows_ok (ok : (cx w H mg mb).Ok) {f1 f2 f3 f4 f5 f6 : CF} (h1 : CallOK (cx w H mg mb) 2 (.ref 309) f1) (s1 : NewBoxS f1) (h2 : CallOK (cx w H mg mb) 5 (.ref 306) f2) (s2 : DenyS f2) (h3 : CallOK (cx w H mg mb) 2 (.ref 129) f3) (s3 : VarsS f3)
    (h4 : CallOK (cx w H mg mb) 1 (.ref 278) f4) (s4 : DomainS f4) (h5 : CallOK (cx w H mg mb) 4 (.ref 337) f5) (s5 : RefutS f5) (h6 : CallOK (cx w H mg mb) 1 (.ref 134) f6) (s6 : SizeS f6) :
    ∃ f, CallOK (cx w H mg mb) 6 (.ref 332) f ∧ ∀ D ls n b b0 mem, FlatM mem → n ≤ D.length → n ≤ 5 → D.length ≤ 1000 → ls.length ≤ 900 → (∀ l ∈ ls, l.x < D.length) → (∀ x, (domOf D [] x).length ≤ b0) → (b0 + 1) * 2 ^ ls.length ≤ 51 →
      (∀ x, x < n → domOf D (denyT D ls []).2 x ≠ [] → SmallD (domOf D (denyT D ls []).2 x) ∧ (domOf D (denyT D ls []).2 x).length ≤ 50 ∧ 1 ≤ sizeD (domOf D (denyT D ls []).2 x) ∧ sizeD (domOf D (denyT D ls []).2 x) ≤ 50) →
      ((denyT D ls []).1 = true → cdA (lotsOf D (denyT D ls []).2 n) (varsI n) [] = some b) →
      f [judgeV (domsV D) (.int 0), toldV n, .tup (ls.map litV)] mem = some (.bool (followsA D ls n b), mem) := by
  have hC : SelfCls 369 := trivial
  refine' ⟨_, CallOK.trim (CallOK.def2 (names := ["self", "told", "clause"]) ok rfl rfl ?d rfl rfl rfl rfl fun L => ?b), ?s⟩
  case d => (intro ws h; refine len3 h ?_; intros; rfl)
  case b => exact (ExOK.cons (StOK.assign (EvOK.call (loadGlobal' ok rfl rfl rfl) (EvsOK.cons (EvOK.attrC (C := 369) trivial ok (loadLocal rfl rfl) rfl rfl rfl rfl rfl (fun _ _ => rfl)) EvsOK.nil rfl) rfl (KeepOK.fn ok rfl) (CallOK.up h1 (by decide)) rfl) (AsgOK.cell rfl rfl (List.Mem.head _)) rfl rfl rfl) (ExOK.cons (StOK.ite (TeOK.not (TeOK.ofEv (EvOK.meth (loadCell rfl rfl) (EvsOK.cons (loadLocal rfl rfl) EvsOK.nil rfl) rfl (MethOK.inst (C := 309) ok rfl rfl rfl) (KeepOK.fn ok rfl) (CallOK.up h2 (by decide)) rfl rfl rfl) (fun _ => rfl))) (ExOK.cons (StOK.ret EvOK.bool) ExOK.nil) ExOK.nil) (ExOK.cons (StOK.assign (EvOK.call (loadGlobal' ok rfl rfl rfl) (EvsOK.cons (loadLocal rfl rfl) EvsOK.nil rfl) rfl (KeepOK.fn ok rfl) (CallOK.up h3 (by decide)) rfl) (AsgOK.local rfl) rfl rfl rfl) (ExOK.cons (StOK.ite (TeOK.or (TeOK.cmp (EvOK.tup EvsOK.nil) (EvOK.comp rfl (loadLocal rfl rfl) (fun _ => rfl) (CompSt.of rfl rfl rfl rfl rfl rfl (fun _ => rfl) (fun _ => rfl) rfl rfl) (fun _ => (LpOK.mk (fun _ _ => (turn1 _ _ _ _ _ _ _ _ _)) (AsgOK.local rfl) TsOK.nil (InOK.emit (EvOK.meth (loadCell rfl rfl) (EvsOK.cons (loadLocal rfl rfl) EvsOK.nil rfl) rfl (MethOK.inst (C := 309) ok rfl rfl rfl) (KeepOK.fn ok rfl) (CallOK.up h4 (by decide)) rfl rfl rfl))))) inOK rfl) (TeOK.ofEv (EvOK.meth (loadLocal rfl rfl) (EvsOK.cons (loadLocal rfl rfl) (EvsOK.cons (loadCell rfl rfl) EvsOK.nil rfl) rfl) rfl (MethOK.inst (C := 369) ok rfl rfl rfl) (KeepOK.fn ok rfl) (CallOK.up h5 (by decide)) rfl rfl rfl) (fun _ => rfl))) (ExOK.cons (StOK.ret EvOK.bool) ExOK.nil) ExOK.nil) (ExOK.cons (StOK.assign EvOK.int (AsgOK.local rfl) rfl rfl rfl) (ExOK.cons (StOK.for (loadLocal rfl rfl) (AsgOK.local rfl) (ExOK.cons (StOK.assign (EvOK.bin (loadLocal rfl rfl) (EvOK.call (loadGlobal' ok rfl rfl rfl) (EvsOK.cons (EvOK.meth (loadCell rfl rfl) (EvsOK.cons (loadLocal rfl rfl) EvsOK.nil rfl) rfl (MethOK.inst (C := 309) ok rfl rfl rfl) (KeepOK.fn ok rfl) (CallOK.up h4 (by decide)) rfl rfl rfl) EvsOK.nil rfl) rfl (KeepOK.fn ok rfl) (CallOK.up h6 (by decide)) rfl) mulOK) (AsgOK.local rfl) rfl rfl rfl) ExOK.nil) (fun _ => rfl)) (ExOK.cons (StOK.ite (TeOK.cmp (loadLocal rfl rfl) (EvOK.attrC (C := 369) trivial ok (loadLocal rfl rfl) rfl rfl rfl rfl rfl (fun _ _ => rfl)) leOK rfl) (ExOK.cons (StOK.ret (EvOK.not (EvOK.meth (loadLocal rfl rfl) (EvsOK.cons (loadLocal rfl rfl) (EvsOK.cons (loadLocal rfl rfl) (EvsOK.cons (loadCell rfl rfl) EvsOK.nil rfl) rfl) rfl) rfl (MethOK.inst (C := 369) ok rfl rfl rfl) (KeepOK.fn ok rfl) dead366 rfl rfl rfl))) ExOK.nil) ExOK.nil) (ExOK.cons (StOK.ite (TeOK.cmp (EvOK.sub (loadLocal rfl rfl) EvOK.int (fun _ _ => rfl)) (EvOK.tup (EvsOK.cons EvOK.str (EvsOK.cons EvOK.str EvsOK.nil rfl) rfl)) inOK rfl) (ExOK.cons (StOK.ret EvOK.bool) ExOK.nil) ExOK.nil) ExOK.raise))))))))
  case s =>
    intro D ls n b b0 mem hF hn hn2 hD hls hlx hb0 hz hd hb
    refine trimC_of (j := [turnO (denyT D ls []).2]) ?_ rfl rfl hF
    have a1 : attrV 369 "domains" (judgeV (domsV D) (.int 0)) = some (domsV D) := rfl
    have a2 : attrV 369 "most" (judgeV (domsV D) (.int 0)) = some (.int 0) := rfl
    have e1 := s1 (domsV D) mem
    have g0 : (mem ++ [.dicI []])[mem.length]? = some (turnO []) := get_last
    have e2 := s2 D [] mem.length ls (mem ++ [.dicI []]) b0 g0 (hF.push rfl) hlx hD (by simpa using hls) hb0 hz
    rw [set_last] at e2
    cases hT : (denyT D ls []).1 with
    | false =>
      rw [hT] at e2
      have ef : followsA D ls n b = true := by unfold followsA; rw [hT]; rfl
      rw [ef]
      simp (config := { maxSteps := 3000000 }) (disch := first | assumption | decide | decide +kernel) only [sizeB, Nat.reduceAdd, Nat.reduceLeDiff, decide_true, decide_false, Bool.false_eq_true, if_false, if_true, ite_true, ite_false, reduceIte, Bool.not_true, Bool.not_false, Bool.and_true, Bool.true_and, Bool.and_self, decide_eq_true_eq, List.nil_append, List.cons_append, List.append_nil, List.singleton_append,
    defX, bindX, seqX, assignX, nameX, tupSt, asgCons, asgNil, nameSt, constX, retX, retN, exprX, brkX, tupX, lstX, consL, nilL, binX, callX, methX, subX, attrX, ifX, ifeX, notX, orX, andX, negX, cmpT, boolT, notT, andT, orT, swapX, tgtNames, subStX, newLstX, newDicX, forS, items_lst, items_tup, nilX,
    addF_int, subF_int, ltF_int, leF_int, gtF_int, geF_int, isF_bool, isF_nn, isF_in, isNotF_bool, Option.bind_some, Option.bind_none, upd_eq, upd_ne, List.length_cons, List.length_nil, List.filterMap_cons, List.filterMap_nil, List.reverse_cons, List.reverse_nil, eqF_s, eqF_sn, eqF_int, neF_int, eqF_bool, eqF_none_int, item_tup0, item_tup1, item_tup2, item_lst0, valAt_s, valAt_n, V.onInt_int, V.onBool_bool, V.onTup_tup, V.onLst_lst, V.onNone_none, onRef_ref, moL_lst, moI_dic, moS_dic, on1_one, on2_two, onCons_cons, onNil_nil, tupR, lstR, lenR, a1, a2, e1, e2, inst_box]
    | true =>
      rw [hT] at e2
      have hb := hb hT
      have ef : followsA D ls n b = (((List.range n).map fun x => domOf D (denyT D ls []).2 x).any (fun d => d.isEmpty) || !b) := by unfold followsA; rw [hT]; rfl
      rw [ef]
      generalize (denyT D ls []).2 = T at *
      have hF2 : FlatM (mem ++ [turnO T]) := hF.push (turn_clean T)
      have g : (mem ++ [turnO T])[mem.length]? = some (turnO T) := get_last
      have e3 := s3 n (mem ++ [turnO T]) (by omega) hF2
      generalize mem ++ [turnO T] = mem2 at *
      have t0 : ∀ m, itemF (toldV n) (.int 0) m = some (.str "all_different") := fun m => item_tup0 _ _ m
      have in0 : ∀ m, inF false (.str "all_different") (.tup [.str "all_different", .str "table"]) m = some (.bool true) := fun m => by kernel_rfl
      have hi : itemsOf (.tup (varsV n)) = some ((List.range n).map fun (x : Nat) => V.int (x : Int)) := by rw [varsV_eq]; rfl
      simp (config := { maxSteps := 3000000 }) (disch := first | assumption | decide | decide +kernel) only [sizeB, Nat.reduceAdd, Nat.reduceLeDiff, decide_true, decide_false, Bool.false_eq_true, if_false, if_true, ite_true, ite_false, reduceIte, Bool.not_true, Bool.not_false, Bool.and_true, Bool.true_and, Bool.and_self, decide_eq_true_eq, List.nil_append, List.cons_append, List.append_nil, List.singleton_append,
    defX, bindX, seqX, assignX, nameX, tupSt, asgCons, asgNil, nameSt, constX, retX, retN, exprX, brkX, tupX, lstX, consL, nilL, binX, callX, methX, subX, attrX, ifX, ifeX, notX, orX, andX, negX, cmpT, boolT, notT, andT, orT, swapX, tgtNames, subStX, newLstX, newDicX, forS, items_lst, items_tup, nilX,
    addF_int, subF_int, ltF_int, leF_int, gtF_int, geF_int, isF_bool, isF_nn, isF_in, isNotF_bool, Option.bind_some, Option.bind_none, upd_eq, upd_ne, List.length_cons, List.length_nil, List.filterMap_cons, List.filterMap_nil, List.reverse_cons, List.reverse_nil, eqF_s, eqF_sn, eqF_int, neF_int, eqF_bool, eqF_none_int, item_tup0, item_tup1, item_tup2, item_lst0, valAt_s, valAt_n, V.onInt_int, V.onBool_bool, V.onTup_tup, V.onLst_lst, V.onNone_none, onRef_ref, moL_lst, moI_dic, moS_dic, on1_one, on2_two, onCons_cons, onNil_nil, tupR, lstR, lenR, a1, a2, e1, e2, e3, inst_box, compX, hi]
      generalize hρ : capX _ _ = ρ0
      have hr : ρ0 "box" = some (boxV (domsV D) mem.length) := by rw [← hρ]; rfl
      generalize hW : loopB _ _ _ _ ρ0 _ _ = W
      have key : ∃ ρ', W = some (ρ', mem2, (List.range n).map fun x => domV (domOf D T x)) ∧ ρ' "box" = some (boxV (domsV D) mem.length) := by
        rw [← hW]
        refine loopB_map (fun ρ => ρ "box" = some (boxV (domsV D) mem.length)) mem2 _ _ 1000 (List.range n) ρ0 hr (by simp; omega) ?_
        intro x ρ acc hr hx hz
        have hx := List.mem_range.mp hx
        have hz1 : acc.length ≤ 100000 := by omega
        have d1 := s4 D T mem.length x mem2 g (by omega) (by omega)
        refine ⟨upd ρ "x" (.int (x : Int)), fun rest => ?_, by rw [upd_ne (by decide)]; exact hr⟩
        rw [loopB]
        simp (config := { maxSteps := 3000000 }) (disch := first | assumption | decide | decide +kernel) only [sizeB, Nat.reduceAdd, Nat.reduceLeDiff, decide_true, decide_false, Bool.false_eq_true, if_false, if_true, ite_true, ite_false, reduceIte, Bool.not_true, Bool.not_false, Bool.and_true, Bool.true_and, Bool.and_self, decide_eq_true_eq, List.nil_append, List.cons_append, List.append_nil, List.singleton_append,
    defX, bindX, seqX, assignX, nameX, tupSt, asgCons, asgNil, nameSt, constX, retX, retN, exprX, brkX, tupX, lstX, consL, nilL, binX, callX, methX, subX, attrX, ifX, ifeX, notX, orX, andX, negX, cmpT, boolT, notT, andT, orT, swapX, tgtNames, subStX, newLstX, newDicX, forS, items_lst, items_tup, nilX,
    addF_int, subF_int, ltF_int, leF_int, gtF_int, geF_int, isF_bool, isF_nn, isF_in, isNotF_bool, Option.bind_some, Option.bind_none, upd_eq, upd_ne, List.length_cons, List.length_nil, List.filterMap_cons, List.filterMap_nil, List.reverse_cons, List.reverse_nil, eqF_s, eqF_sn, eqF_int, neF_int, eqF_bool, eqF_none_int, item_tup0, item_tup1, item_tup2, item_lst0, valAt_s, valAt_n, V.onInt_int, V.onBool_bool, V.onTup_tup, V.onLst_lst, V.onNone_none, onRef_ref, moL_lst, moI_dic, moS_dic, on1_one, on2_two, onCons_cons, onNil_nil, tupR, lstR, lenR, hr, d1, inst_box, emitB, trueT, hz1]
      obtain ⟨ρ', e, _⟩ := key
      subst e
      have el : V.lst ((List.range n).map fun x => domV (domOf D T x)) = .lst (((List.range n).map fun x => domOf D T x).map domV) := by rw [List.map_map]; rfl
      have e4 := in_doms ((List.range n).map fun x => domOf D T x) mem2
      cases hE : ((List.range n).map fun x => domOf D T x).any (fun d => d.isEmpty) with
      | true =>
        rw [hE] at e4
        simp (config := { maxSteps := 3000000 }) (disch := first | assumption | decide | decide +kernel) only [sizeB, Nat.reduceAdd, Nat.reduceLeDiff, decide_true, decide_false, Bool.false_eq_true, if_false, if_true, ite_true, ite_false, reduceIte, Bool.not_true, Bool.not_false, Bool.and_true, Bool.true_and, Bool.and_self, decide_eq_true_eq, List.nil_append, List.cons_append, List.append_nil, List.singleton_append,
    defX, bindX, seqX, assignX, nameX, tupSt, asgCons, asgNil, nameSt, constX, retX, retN, exprX, brkX, tupX, lstX, consL, nilL, binX, callX, methX, subX, attrX, ifX, ifeX, notX, orX, andX, negX, cmpT, boolT, notT, andT, orT, swapX, tgtNames, subStX, newLstX, newDicX, forS, items_lst, items_tup, nilX,
    addF_int, subF_int, ltF_int, leF_int, gtF_int, geF_int, isF_bool, isF_nn, isF_in, isNotF_bool, Option.bind_some, Option.bind_none, upd_eq, upd_ne, List.length_cons, List.length_nil, List.filterMap_cons, List.filterMap_nil, List.reverse_cons, List.reverse_nil, eqF_s, eqF_sn, eqF_int, neF_int, eqF_bool, eqF_none_int, item_tup0, item_tup1, item_tup2, item_lst0, valAt_s, valAt_n, V.onInt_int, V.onBool_bool, V.onTup_tup, V.onLst_lst, V.onNone_none, onRef_ref, moL_lst, moI_dic, moS_dic, on1_one, on2_two, onCons_cons, onNil_nil, tupR, lstR, lenR, el, e4]
        rfl
      | false =>
        rw [hE] at e4
        have hne : ∀ x, x < n → domOf D T x ≠ [] := fun x hx q => by
          have := List.any_eq_false.mp hE (domOf D T x) (List.mem_map.mpr ⟨x, List.mem_range.mpr hx, rfl⟩)
          rw [q] at this; exact this rfl
        have e5 := s5 (domsV D) (.int 0) D T mem.length n b mem2 g hF2 hn (by omega) (fun x hx => ⟨(hd x hx (hne x hx)).1, (hd x hx (hne x hx)).2.1⟩) hb
        cases b with
        | false =>
          have e5' : f5 [judgeV (domsV D) (.int 0), toldV n, boxV (domsV D) mem.length] mem2 = some (.bool true, mem2) := e5
          simp (config := { maxSteps := 3000000 }) (disch := first | assumption | decide | decide +kernel) only [sizeB, Nat.reduceAdd, Nat.reduceLeDiff, decide_true, decide_false, Bool.false_eq_true, if_false, if_true, ite_true, ite_false, reduceIte, Bool.not_true, Bool.not_false, Bool.and_true, Bool.true_and, Bool.and_self, decide_eq_true_eq, List.nil_append, List.cons_append, List.append_nil, List.singleton_append,
    defX, bindX, seqX, assignX, nameX, tupSt, asgCons, asgNil, nameSt, constX, retX, retN, exprX, brkX, tupX, lstX, consL, nilL, binX, callX, methX, subX, attrX, ifX, ifeX, notX, orX, andX, negX, cmpT, boolT, notT, andT, orT, swapX, tgtNames, subStX, newLstX, newDicX, forS, items_lst, items_tup, nilX,
    addF_int, subF_int, ltF_int, leF_int, gtF_int, geF_int, isF_bool, isF_nn, isF_in, isNotF_bool, Option.bind_some, Option.bind_none, upd_eq, upd_ne, List.length_cons, List.length_nil, List.filterMap_cons, List.filterMap_nil, List.reverse_cons, List.reverse_nil, eqF_s, eqF_sn, eqF_int, neF_int, eqF_bool, eqF_none_int, item_tup0, item_tup1, item_tup2, item_lst0, valAt_s, valAt_n, V.onInt_int, V.onBool_bool, V.onTup_tup, V.onLst_lst, V.onNone_none, onRef_ref, moL_lst, moI_dic, moS_dic, on1_one, on2_two, onCons_cons, onNil_nil, tupR, lstR, lenR, el, e4, e5', inst_judge]
          rfl
        | true =>
          have e5' : f5 [judgeV (domsV D) (.int 0), toldV n, boxV (domsV D) mem.length] mem2 = some (.bool false, mem2) := e5
          simp (config := { maxSteps := 3000000 }) (disch := first | assumption | decide | decide +kernel) only [sizeB, Nat.reduceAdd, Nat.reduceLeDiff, decide_true, decide_false, Bool.false_eq_true, if_false, if_true, ite_true, ite_false, reduceIte, Bool.not_true, Bool.not_false, Bool.and_true, Bool.true_and, Bool.and_self, decide_eq_true_eq, List.nil_append, List.cons_append, List.append_nil, List.singleton_append,
    defX, bindX, seqX, assignX, nameX, tupSt, asgCons, asgNil, nameSt, constX, retX, retN, exprX, brkX, tupX, lstX, consL, nilL, binX, callX, methX, subX, attrX, ifX, ifeX, notX, orX, andX, negX, cmpT, boolT, notT, andT, orT, swapX, tgtNames, subStX, newLstX, newDicX, forS, items_lst, items_tup, nilX,
    addF_int, subF_int, ltF_int, leF_int, gtF_int, geF_int, isF_bool, isF_nn, isF_in, isNotF_bool, Option.bind_some, Option.bind_none, upd_eq, upd_ne, List.length_cons, List.length_nil, List.filterMap_cons, List.filterMap_nil, List.reverse_cons, List.reverse_nil, eqF_s, eqF_sn, eqF_int, neF_int, eqF_bool, eqF_none_int, item_tup0, item_tup1, item_tup2, item_lst0, valAt_s, valAt_n, V.onInt_int, V.onBool_bool, V.onTup_tup, V.onLst_lst, V.onNone_none, onRef_ref, moL_lst, moI_dic, moS_dic, on1_one, on2_two, onCons_cons, onNil_nil, tupR, lstR, lenR, el, e4, e5', inst_judge, hi]
          generalize hρ : upd _ "many" _ = ρ1
          have hr : ρ1 "box" = some (boxV (domsV D) mem.length) := by rw [← hρ]; rfl
          have hs : ρ1 "self" = some (judgeV (domsV D) (.int 0)) := by rw [← hρ]; rfl
          have ht : ρ1 "told" = some (toldV n) := by rw [← hρ]; rfl
          have hm : ρ1 "many" = some (.int 1) := by rw [← hρ]; rfl
          generalize hW : forX _ _ _ ρ1 _ = W
          let R : Nat → Unit → Rho → List MO → Prop := fun k _ ρ m => m = mem2 ∧ ρ "box" = some (boxV (domsV D) mem.length) ∧ ρ "self" = some (judgeV (domsV D) (.int 0)) ∧ ρ "told" = some (toldV n) ∧ ∃ p : Int, ρ "many" = some (.int p) ∧ 1 ≤ p ∧ p * 50 ^ k ≤ 50 ^ 5
          have key : ∃ ρ' m', W = some (.next, ρ', m') ∧ R 0 ((List.range n).foldl (fun s _ => s) ()) ρ' m' := by
            rw [← hW]
            refine forX_fold R (fun s _ => s) (fun (x : Nat) => V.int (x : Int)) (List.range n) () ρ1 mem2 ⟨rfl, hr, hs, ht, 1, hm, Int.le_refl 1, ?_⟩ ?_
            · rw [List.length_range, Int.one_mul]
              have : 50 ^ n ≤ 50 ^ 5 := Nat.pow_le_pow_right (by decide) hn2
              exact_mod_cast this
            · rintro k s x ρ m ⟨rfl, hr, hs, ht, p, hm, hp, hz⟩ hx
              have hx := List.mem_range.mp hx
              obtain ⟨q1, q2, q3, q4⟩ := hd x hx (hne x hx)
              have d1 := s4 D T mem.length x m g (by omega) (by omega)
              have d2 := s6 (domOf D T x) m (by omega)
              have hk : (1 : Int) ≤ 50 ^ k := Int.pow_pos (by decide)
              have hz2 : p * 50 * 50 ^ k ≤ 50 ^ 5 := by rw [Int.pow_succ] at hz; rw [Int.mul_assoc, Int.mul_comm 50]; exact hz
              have hp5 : p * 50 ≤ 50 ^ 5 := by
                have : p * 50 * 1 ≤ p * 50 * 50 ^ k := Int.mul_le_mul_of_nonneg_left hk (by omega)
                omega
              have mu := mulF_int (a := p) (b := sizeD (domOf D T x)) (by omega) (by omega) m
              have hq1 : p * 1 ≤ p * sizeD (domOf D T x) := Int.mul_le_mul_of_nonneg_left q3 (by omega)
              have hq2 : p * sizeD (domOf D T x) ≤ p * 50 := Int.mul_le_mul_of_nonneg_left q4 (by omega)
              refine ⟨upd (upd ρ "x" (.int (x : Int))) "many" (.int (p * sizeD (domOf D T x))), m, fun rest => ?_, rfl, ?_, ?_, ?_, p * sizeD (domOf D T x), upd_eq _ _ _, by omega, ?_⟩
              · rw [forX]
                simp (config := { maxSteps := 3000000 }) (disch := first | assumption | decide | decide +kernel) only [sizeB, Nat.reduceAdd, Nat.reduceLeDiff, decide_true, decide_false, Bool.false_eq_true, if_false, if_true, ite_true, ite_false, reduceIte, Bool.not_true, Bool.not_false, Bool.and_true, Bool.true_and, Bool.and_self, decide_eq_true_eq, List.nil_append, List.cons_append, List.append_nil, List.singleton_append,
    defX, bindX, seqX, assignX, nameX, tupSt, asgCons, asgNil, nameSt, constX, retX, retN, exprX, brkX, tupX, lstX, consL, nilL, binX, callX, methX, subX, attrX, ifX, ifeX, notX, orX, andX, negX, cmpT, boolT, notT, andT, orT, swapX, tgtNames, subStX, newLstX, newDicX, forS, items_lst, items_tup, nilX,
    addF_int, subF_int, ltF_int, leF_int, gtF_int, geF_int, isF_bool, isF_nn, isF_in, isNotF_bool, Option.bind_some, Option.bind_none, upd_eq, upd_ne, List.length_cons, List.length_nil, List.filterMap_cons, List.filterMap_nil, List.reverse_cons, List.reverse_nil, eqF_s, eqF_sn, eqF_int, neF_int, eqF_bool, eqF_none_int, item_tup0, item_tup1, item_tup2, item_lst0, valAt_s, valAt_n, V.onInt_int, V.onBool_bool, V.onTup_tup, V.onLst_lst, V.onNone_none, onRef_ref, moL_lst, moI_dic, moS_dic, on1_one, on2_two, onCons_cons, onNil_nil, tupR, lstR, lenR, hr, hm, d1, d2, mu, inst_box]
              · rw [upd_ne (by decide), upd_ne (by decide)]; exact hr
              · rw [upd_ne (by decide), upd_ne (by decide)]; exact hs
              · rw [upd_ne (by decide), upd_ne (by decide)]; exact ht
              · have : p * sizeD (domOf D T x) * 50 ^ k ≤ p * 50 * 50 ^ k := Int.mul_le_mul_of_nonneg_right hq2 (by omega)
                omega
          obtain ⟨ρ', m', e, rfl, hr, hs, ht, p, hm, hp, hz⟩ := key
          subst e
          have hp0 : ¬ p ≤ 0 := by omega
          simp (config := { maxSteps := 3000000 }) (disch := first | assumption | decide | decide +kernel) only [sizeB, Nat.reduceAdd, Nat.reduceLeDiff, decide_true, decide_false, Bool.false_eq_true, if_false, if_true, ite_true, ite_false, reduceIte, Bool.not_true, Bool.not_false, Bool.and_true, Bool.true_and, Bool.and_self, decide_eq_true_eq, List.nil_append, List.cons_append, List.append_nil, List.singleton_append,
    defX, bindX, seqX, assignX, nameX, tupSt, asgCons, asgNil, nameSt, constX, retX, retN, exprX, brkX, tupX, lstX, consL, nilL, binX, callX, methX, subX, attrX, ifX, ifeX, notX, orX, andX, negX, cmpT, boolT, notT, andT, orT, swapX, tgtNames, subStX, newLstX, newDicX, forS, items_lst, items_tup, nilX,
    addF_int, subF_int, ltF_int, leF_int, gtF_int, geF_int, isF_bool, isF_nn, isF_in, isNotF_bool, Option.bind_some, Option.bind_none, upd_eq, upd_ne, List.length_cons, List.length_nil, List.filterMap_cons, List.filterMap_nil, List.reverse_cons, List.reverse_nil, eqF_s, eqF_sn, eqF_int, neF_int, eqF_bool, eqF_none_int, item_tup0, item_tup1, item_tup2, item_lst0, valAt_s, valAt_n, V.onInt_int, V.onBool_bool, V.onTup_tup, V.onLst_lst, V.onNone_none, onRef_ref, moL_lst, moI_dic, moS_dic, on1_one, on2_two, onCons_cons, onNil_nil, tupR, lstR, lenR, hs, ht, hm, a2, hp0, t0, in0]
          rfl
end
end Mine
-- PL1
namespace Mine
/-! ## The matcher is right: plain lists, no program -/
theorem pigeon : ∀ (l r : List Int), l.Nodup → (∀ x ∈ l, x ∈ r) → l.length ≤ r.length
  | [], r, _, _ => Nat.zero_le _
  | x :: l, r, hn, hs => by
    have hx := hs x (.head _)
    have hn' := List.nodup_cons.mp hn
    have := pigeon l (r.erase x) hn'.2 fun y hy => (List.mem_erase_of_ne (fun (e : y = x) => hn'.1 (by rw [← e]; exact hy))).mpr (hs y (.tail _ hy))
    rw [List.length_erase_of_mem hx] at this
    have : 0 < r.length := List.length_pos_of_mem hx
    rw [List.length_cons]; omega
noncomputable def lowI : List Int := [0, 1, 2, 3, 4, 5, 6, 7]
theorem mem_lowI {v : Int} (h : 0 ≤ v ∧ v < 8) : v ∈ lowI := by
  have : v = 0 ∨ v = 1 ∨ v = 2 ∨ v = 3 ∨ v = 4 ∨ v = 5 ∨ v = 6 ∨ v = 7 := by omega
  rcases this with h | h | h | h | h | h | h | h <;> subst h <;> decide
theorem low_len {l : List Int} (h : ∀ v ∈ l, 0 ≤ v ∧ v < 8) (hn : l.Nodup) : l.length ≤ 8 := pigeon l lowI hn fun v hv => mem_lowI (h v hv)
noncomputable def keysA (l : AL) : List Int := l.map (·.1)
theorem getA_nil (x : Int) : getA [] x = none := rfl
theorem getA_cons (a b x : Int) (l : AL) : getA ((a, b) :: l) x = if a = x then some b else getA l x := by
  unfold getA
  rw [List.find?_cons]
  by_cases h : a = x
  · simp [h]
  · simp [h]
theorem keysA_cons (a b : Int) (l : AL) : keysA ((a, b) :: l) = a :: keysA l := rfl
theorem keysA_append (l r : AL) : keysA (l ++ r) = keysA l ++ keysA r := by unfold keysA; rw [List.map_append]
theorem getA_isSome {l : AL} {x : Int} : (getA l x).isSome = true ↔ x ∈ keysA l := by
  induction l with
  | nil => simp [getA_nil, keysA]
  | cons p l ih =>
    obtain ⟨a, b⟩ := p
    rw [getA_cons, keysA_cons, List.mem_cons]
    by_cases h : a = x
    · rw [if_pos h]; simp [h]
    · rw [if_neg h, ih]
      constructor
      · exact .inr
      · rintro (q | q)
        · exact absurd q.symm h
        · exact q
theorem getA_mid {pre post : AL} {x h : Int} (hx : x ∉ keysA pre) : getA (pre ++ (x, h) :: post) x = some h := by
  induction pre with
  | nil => rw [List.nil_append, getA_cons, if_pos rfl]
  | cons p l ih =>
    obtain ⟨a, b⟩ := p
    rw [keysA_cons, List.mem_cons, not_or] at hx
    rw [List.cons_append, getA_cons, if_neg (fun q => hx.1 q.symm), ih hx.2]
theorem getA_append (l r : AL) (x : Int) (hx : x ∉ keysA l) : getA (l ++ r) x = getA r x := by
  induction l with
  | nil => rfl
  | cons p l ih =>
    obtain ⟨a, b⟩ := p
    rw [keysA_cons, List.mem_cons, not_or] at hx
    rw [List.cons_append, getA_cons, if_neg (fun q => hx.1 q.symm), ih hx.2]
theorem getA_left (l r : AL) (x : Int) (hx : x ∈ keysA l) : getA (l ++ r) x = getA l x := by
  induction l with
  | nil => cases hx
  | cons p l ih =>
    obtain ⟨a, b⟩ := p
    rw [List.cons_append, getA_cons, getA_cons]
    by_cases h : a = x
    · rw [if_pos h, if_pos h]
    · rw [if_neg h, if_neg h]
      rw [keysA_cons, List.mem_cons] at hx
      exact ih (hx.elim (fun q => absurd q.symm h) id)
theorem any_keys (l : AL) (x : Int) : l.any (fun p => decide (p.1 = x)) = true ↔ x ∈ keysA l := by
  unfold keysA
  rw [List.any_eq_true, List.mem_map]
  constructor
  · rintro ⟨p, hp, q⟩; exact ⟨p, hp, of_decide_eq_true q⟩
  · rintro ⟨p, hp, q⟩; exact ⟨p, hp, decide_eq_true q⟩
theorem putA_new {l : AL} {x : Int} (v : Int) (h : x ∉ keysA l) : putA l x v = l ++ [(x, v)] := by
  unfold putA
  rw [if_neg (fun q => h ((any_keys l x).mp q))]
noncomputable def overA (l : AL) (x v : Int) : AL := l.map fun p => if p.1 = x then (p.1, v) else p
theorem over_keys (l : AL) (x v : Int) : keysA (overA l x v) = keysA l := by
  unfold keysA overA
  rw [List.map_map]
  apply List.map_congr_left
  intro p _
  show (if p.1 = x then (p.1, v) else p).1 = p.1
  split <;> rfl
theorem over_get (l : AL) (x v y : Int) (h : x ∈ keysA l) : getA (overA l x v) y = if y = x then some v else getA l y := by
  have aux : ∀ l : AL, y ≠ x → getA (overA l x v) y = getA l y := by
    intro l hy
    induction l with
    | nil => rfl
    | cons p l ih =>
      obtain ⟨a, b⟩ := p
      unfold overA at ih ⊢
      rw [List.map_cons]
      show getA ((if a = x then (a, v) else (a, b)) :: _) y = _
      by_cases q : a = x
      · rw [if_pos q, getA_cons, getA_cons, if_neg (fun e => hy (by rw [← e, q])), if_neg (fun e => hy (by rw [← e, q]))]; exact ih
      · rw [if_neg q, getA_cons, getA_cons, ih]
  by_cases hy : y = x
  · rw [if_pos hy]; subst hy
    induction l with
    | nil => cases h
    | cons p l ih =>
      obtain ⟨a, b⟩ := p
      unfold overA at ih ⊢
      rw [List.map_cons]
      show getA ((if a = y then (a, v) else (a, b)) :: _) y = _
      by_cases q : a = y
      · rw [if_pos q, getA_cons, if_pos q]
      · rw [if_neg q, getA_cons, if_neg q]
        rw [keysA_cons, List.mem_cons] at h
        exact ih (h.elim (fun e => absurd e.symm q) id)
  · rw [if_neg hy]; exact aux l hy
theorem putA_old {l : AL} {x : Int} (v : Int) (h : x ∈ keysA l) : putA l x v = overA l x v := by
  unfold putA
  rw [if_pos ((any_keys l x).mpr h)]; rfl
theorem getA_put (l : AL) (x v y : Int) : getA (putA l x v) y = if y = x then some v else getA l y := by
  by_cases h : x ∈ keysA l
  · rw [putA_old v h, over_get l x v y h]
  · rw [putA_new v h]
    by_cases hy : y = x
    · rw [if_pos hy, hy, getA_mid h]
    · rw [if_neg hy]
      by_cases q : y ∈ keysA l
      · rw [getA_left l _ y q]
      · rw [getA_append l _ y q, getA_cons, if_neg (fun e => hy e.symm), getA_nil]
        cases e : getA l y with
        | none => rfl
        | some u => exact absurd (getA_isSome.mp (by rw [e]; rfl)) q
theorem keys_put (l : AL) (x v y : Int) : y ∈ keysA (putA l x v) ↔ y = x ∨ y ∈ keysA l := by
  by_cases h : x ∈ keysA l
  · rw [putA_old v h, over_keys]
    exact ⟨.inr, fun q => q.elim (fun e => e ▸ h) id⟩
  · rw [putA_new v h, keysA_append, List.mem_append]
    constructor
    · rintro (q | q)
      · exact .inr q
      · exact .inl (List.mem_singleton.mp q)
    · rintro (q | q)
      · exact .inr (List.mem_singleton.mpr q)
      · exact .inl q
theorem nodup_put (l : AL) (x v : Int) (hn : (keysA l).Nodup) : (keysA (putA l x v)).Nodup := by
  by_cases h : x ∈ keysA l
  · rw [putA_old v h, over_keys]; exact hn
  · rw [putA_new v h, keysA_append, List.nodup_append]
    refine ⟨hn, by simp [keysA], fun a ha b hb q => h ?_⟩
    have : b = x := List.mem_singleton.mp hb
    rw [← this, ← q]; exact ha
noncomputable def lotAt (L : List (List Int)) (h : Int) : List Int := L.getD h.toNat []
noncomputable def LowL (L : List (List Int)) : Prop := ∀ l ∈ L, ∀ v ∈ l, 0 ≤ v ∧ v < 8
theorem lotAt_low {L : List (List Int)} (hL : LowL L) {h v : Int} (hv : v ∈ lotAt L h) : 0 ≤ v ∧ v < 8 := by
  unfold lotAt at hv
  rw [List.getD_eq_getElem?_getD] at hv
  cases e : L[h.toNat]? with
  | none => rw [e] at hv; cases hv
  | some l => rw [e] at hv; exact hL l (List.mem_of_getElem? e) v hv
noncomputable def Tree (L : List (List Int)) (p : Int) (own came : AL) : Prop := ∀ pre v h post, came = pre ++ (v, h) :: post → v ∉ keysA pre ∧ v ∈ lotAt L h ∧ getA own v ≠ some h ∧ (h = p ∨ ∃ u ∈ keysA pre, getA own u = some h)
theorem Tree.nil {L : List (List Int)} {p : Int} {own : AL} : Tree L p own [] := fun pre v h post e => by
  have := congrArg List.length e
  rw [List.length_append, List.length_cons] at this
  simp at this
theorem Tree.pre {L : List (List Int)} {p : Int} {own came rest : AL} (T : Tree L p own (came ++ rest)) : Tree L p own came := fun pre v h post e => T pre v h (post ++ rest) (by rw [e]; simp)
theorem Tree.snoc {L : List (List Int)} {p : Int} {own came : AL} {v h : Int} (T : Tree L p own came) (h1 : v ∉ keysA came) (h2 : v ∈ lotAt L h) (h3 : getA own v ≠ some h) (h4 : h = p ∨ ∃ u ∈ keysA came, getA own u = some h) : Tree L p own (came ++ [(v, h)]) := by
  intro pre v' h' post e
  rcases List.eq_nil_or_concat post with q | ⟨post0, z, q⟩
  · subst q
    have := List.append_inj' e rfl
    obtain ⟨e1, e2⟩ := this
    simp only [List.cons.injEq, Prod.mk.injEq, and_true] at e2
    obtain ⟨rfl, rfl⟩ := e2
    subst e1
    exact ⟨h1, h2, h3, h4⟩
  · rw [List.concat_eq_append] at q
    subst q
    have e' : came ++ [(v, h)] = (pre ++ (v', h') :: post0) ++ [z] := by rw [e]; simp
    exact T pre v' h' post0 (List.append_inj' e' rfl).1
theorem Tree.congr {L : List (List Int)} {p : Int} {own own2 came : AL} (T : Tree L p own came) (H : ∀ v ∈ keysA came, getA own2 v = getA own v) : Tree L p own2 came := by
  intro pre v h post e
  obtain ⟨h1, h2, h3, h4⟩ := T pre v h post e
  have hk : ∀ u ∈ keysA pre, u ∈ keysA came := fun u hu => by rw [e, keysA_append]; exact List.mem_append_left _ hu
  have hv : v ∈ keysA came := by rw [e, keysA_append]; exact List.mem_append_right _ (.head _)
  refine ⟨h1, h2, by rw [H v hv]; exact h3, h4.imp id ?_⟩
  rintro ⟨u, hu, q⟩
  exact ⟨u, hu, by rw [H u (hk u hu)]; exact q⟩
theorem Tree.nodup {L : List (List Int)} {p : Int} {own : AL} : ∀ (n : Nat) {came : AL}, came.length = n → Tree L p own came → (keysA came).Nodup
  | 0, came, e, _ => by rw [List.length_eq_zero_iff.mp e]; exact List.nodup_nil
  | n + 1, came, e, T => by
    rcases List.eq_nil_or_concat came with q | ⟨came0, z, q⟩
    · rw [q]; exact List.nodup_nil
    · rw [List.concat_eq_append] at q
      subst q
      obtain ⟨v, h⟩ := z
      rw [List.length_append] at e
      have n0 := Tree.nodup n (by simpa using e) T.pre
      have h1 := (T came0 v h [] rfl).1
      rw [keysA_append, List.nodup_append]
      refine ⟨n0, by simp [keysA], fun a ha b hb q => h1 ?_⟩
      have : b = v := List.mem_singleton.mp hb
      rw [← this, ← q]; exact ha
theorem Tree.low {L : List (List Int)} (hL : LowL L) {p : Int} {own came : AL} (T : Tree L p own came) : ∀ v ∈ keysA came, 0 ≤ v ∧ v < 8 := by
  intro v hv
  obtain ⟨⟨v', h⟩, hp, e⟩ := List.mem_map.mp hv
  have e : v' = v := e
  subst e
  obtain ⟨pre, post, e⟩ := List.append_of_mem hp
  exact lotAt_low hL (T pre v' h post e).2.1
theorem Tree.len {L : List (List Int)} (hL : LowL L) {p : Int} {own came : AL} (T : Tree L p own came) : came.length ≤ 8 := by
  have := low_len (T.low hL) (T.nodup _ rfl)
  unfold keysA at this
  rwa [List.length_map] at this
structure PM (L : List (List Int)) (p : Int) (own : AL) (free : Option Int) : Prop where
  keys : (keysA own).Nodup
  rng : ∀ k ∈ keysA own, 0 ≤ k ∧ k < 8
  val : ∀ v q, getA own v = some q → some v ≠ free → 0 ≤ q ∧ q < p ∧ v ∈ lotAt L q
  ex : ∀ q, 0 ≤ q → q < p → ∃ v, some v ≠ free ∧ getA own v = some q
  inj : ∀ v v' q, some v ≠ free → some v' ≠ free → getA own v = some q → getA own v' = some q → v = v'
theorem PM.len {L : List (List Int)} {p : Int} {own : AL} {free : Option Int} (I : PM L p own free) : own.length ≤ 8 := by
  have := low_len I.rng I.keys
  unfold keysA at this
  rwa [List.length_map] at this
theorem head_only {u : Int} : ∀ {l : List Int}, (∀ x ∈ l, x = u) → u ∈ l → l.head? = some u
  | [], _, h => by cases h
  | x :: l, h, _ => by rw [List.head?_cons, h x (.head _)]
theorem move_ok {L : List (List Int)} (hL : LowL L) {p : Int} (hp : 0 ≤ p) : ∀ (k : Nat) (pre : AL) (free here : Int) (post own : AL), PM L p own (some free) → Tree L p own (pre ++ [(free, here)]) → (keysA (pre ++ (free, here) :: post)).Nodup → pre.length < k →
    ∃ own', moveA (pre ++ (free, here) :: post) p k own free = some own' ∧ PM L (p + 1) own' none
  | 0, pre, free, here, post, own, _, _, _, hk => by omega
  | k + 1, pre, free, here, post, own, I, T, hn, hk => by
    obtain ⟨t1, t2, t3, t4⟩ := T pre free here [] rfl
    rw [moveA, getA_mid t1, Option.bind_some]
    by_cases q : here = p
    · rw [if_pos q]
      subst q
      refine ⟨_, rfl, nodup_put _ _ _ I.keys, ?_, ?_, ?_, ?_⟩
      · intro k hk
        rcases (keys_put _ _ _ _).mp hk with e | e
        · rw [e]; exact lotAt_low hL t2
        · exact I.rng k e
      · intro v q e _
        rw [getA_put] at e
        by_cases hv : v = free
        · rw [if_pos hv] at e
          cases e
          exact ⟨hp, by omega, hv ▸ t2⟩
        · rw [if_neg hv] at e
          obtain ⟨a, b, c⟩ := I.val v q e (fun h => hv (Option.some.inj h))
          exact ⟨a, by omega, c⟩
      · intro q h0 h1
        by_cases hq : q = here
        · exact ⟨free, nofun, by rw [getA_put, if_pos rfl, hq]⟩
        · obtain ⟨v, a, b⟩ := I.ex q h0 (by omega)
          exact ⟨v, nofun, by rw [getA_put, if_neg (fun h => a (by rw [h]))]; exact b⟩
      · intro v v' q _ _ e e'
        rw [getA_put] at e e'
        by_cases hv : v = free
        · by_cases hv' : v' = free
          · rw [hv, hv']
          · rw [if_pos hv] at e
            rw [if_neg hv'] at e'
            cases e
            have := (I.val v' here e' (fun h => hv' (Option.some.inj h))).2.1
            omega
        · by_cases hv' : v' = free
          · rw [if_neg hv] at e
            rw [if_pos hv'] at e'
            cases e'
            have := (I.val v here e (fun h => hv (Option.some.inj h))).2.1
            omega
          · rw [if_neg hv] at e
            rw [if_neg hv'] at e'
            exact I.inj v v' q (fun h => hv (Option.some.inj h)) (fun h => hv' (Option.some.inj h)) e e'
    · rw [if_neg q]
      obtain ⟨u, hu, eu⟩ := t4.resolve_left q
      have huf : u ≠ free := fun e => t1 (e ▸ hu)
      have huf' : some u ≠ some free := fun h => huf (Option.some.inj h)
      have hl : (leftA (pre ++ (free, here) :: post) own here).head? = some u := by
        apply head_only
        · intro x hx
          unfold leftA at hx
          have ex := of_decide_eq_true (List.mem_filter.mp hx).2
          exact I.inj x u here (fun h => t3 (by rw [← Option.some.inj h]; exact ex)) huf' ex eu
        · unfold leftA
          refine List.mem_filter.mpr ⟨(List.mergeSort_perm _ _).mem_iff.mpr ?_, decide_eq_true eu⟩
          show u ∈ keysA _
          rw [keysA_append]; exact List.mem_append_left _ hu
      rw [hl, Option.bind_some]
      obtain ⟨⟨u', h2⟩, hp', e⟩ := List.mem_map.mp hu
      have e : u' = u := e
      subst e
      obtain ⟨pre1, post1, e⟩ := List.append_of_mem hp'
      have hc : pre ++ (free, here) :: post = pre1 ++ (u', h2) :: (post1 ++ (free, here) :: post) := by rw [e]; simp
      have ht : pre ++ [(free, here)] = (pre1 ++ [(u', h2)]) ++ (post1 ++ [(free, here)]) := by rw [e]; simp
      have hsub : ∀ v ∈ keysA (pre1 ++ [(u', h2)]), v ≠ free := by
        intro v hv q
        apply t1
        rw [← q, e]
        rw [keysA_append] at hv ⊢
        rcases List.mem_append.mp hv with z | z
        · exact List.mem_append_left _ z
        · refine List.mem_append_right _ ?_
          rw [List.mem_singleton.mp z]; exact .head _
      have I2 : PM L p (putA own free here) (some u') := by
        have hb := I.val u' here eu huf'
        refine ⟨nodup_put _ _ _ I.keys, ?_, ?_, ?_, ?_⟩
        · intro k hk
          rcases (keys_put _ _ _ _).mp hk with e | e
          · rw [e]; exact lotAt_low hL t2
          · exact I.rng k e
        · intro v q e hv
          rw [getA_put] at e
          by_cases hf : v = free
          · rw [if_pos hf] at e
            cases e
            exact ⟨hb.1, hb.2.1, hf ▸ t2⟩
          · rw [if_neg hf] at e
            exact I.val v q e (fun h => hf (Option.some.inj h))
        · intro q h0 h1
          obtain ⟨v, a, b⟩ := I.ex q h0 h1
          by_cases hv : v = u'
          · subst hv
            rw [eu] at b
            cases b
            exact ⟨free, fun h => huf (Option.some.inj h).symm, by rw [getA_put, if_pos rfl]⟩
          · exact ⟨v, fun h => hv (Option.some.inj h), by rw [getA_put, if_neg (fun h => a (by rw [h]))]; exact b⟩
        · intro v v' q hv hv' e e'
          rw [getA_put] at e e'
          by_cases hf : v = free
          · by_cases hf' : v' = free
            · rw [hf, hf']
            · rw [if_pos hf] at e
              rw [if_neg hf'] at e'
              cases e
              exact absurd (congrArg some (I.inj v' u' here (fun h => hf' (Option.some.inj h)) huf' e' eu)) hv'
          · by_cases hf' : v' = free
            · rw [if_neg hf] at e
              rw [if_pos hf'] at e'
              cases e'
              exact absurd (congrArg some (I.inj v u' here (fun h => hf (Option.some.inj h)) huf' e eu)) hv
            · rw [if_neg hf] at e
              rw [if_neg hf'] at e'
              exact I.inj v v' q (fun h => hf (Option.some.inj h)) (fun h => hf' (Option.some.inj h)) e e'
      rw [hc]
      refine move_ok hL hp k pre1 u' h2 (post1 ++ (free, here) :: post) (putA own free here) I2 ?_ (by rw [← hc]; exact hn) ?_
      · rw [ht] at T
        exact T.pre.congr fun v hv => by rw [getA_put, if_neg (hsub v hv)]
      · have := congrArg List.length e
        rw [List.length_append, List.length_cons] at this
        omega
noncomputable def Reach (p : Int) (own came : AL) (h : Int) : Prop := h = p ∨ ∃ u ∈ keysA came, getA own u = some h
theorem Reach.mono {p : Int} {own came came' : AL} {h : Int} (r : Reach p own came h) (H : ∀ u ∈ keysA came, u ∈ keysA came') : Reach p own came' h := r.imp id fun ⟨u, hu, e⟩ => ⟨u, H u hu, e⟩
theorem Reach.bound {L : List (List Int)} {p : Int} {own came : AL} {h : Int} (I : PM L p own none) (hp : 0 ≤ p) (r : Reach p own came h) : 0 ≤ h ∧ h ≤ p := by
  rcases r with q | ⟨u, _, e⟩
  · omega
  · have := I.val u h e nofun; omega
theorem scan_ok {L : List (List Int)} (hL : LowL L) {p : Int} {own : AL} (I : PM L p own none) (here : Int) : ∀ (vs : List Int) (came : AL) (q : List Int), (∀ v ∈ vs, v ∈ lotAt L here) → Tree L p own came → (∀ v ∈ keysA came, (getA own v).isSome = true) → Reach p own came here → (∀ h ∈ q, Reach p own came h) → q.length ≤ came.length →
    ∃ r, scanA own here vs came q = some r ∧
      ((r.2.2 = none ∧ Tree L p own r.1 ∧ (∀ v ∈ keysA r.1, (getA own v).isSome = true) ∧ (∀ v ∈ keysA came, v ∈ keysA r.1) ∧ (∀ v ∈ vs, v ∈ keysA r.1) ∧ (∀ h ∈ r.2.1, Reach p own r.1 h) ∧ (∀ h ∈ q, h ∈ r.2.1) ∧
          (∀ u ∈ keysA r.1, u ∈ keysA came ∨ ∀ o, getA own u = some o → o ∈ r.2.1) ∧ r.2.1.length + came.length = q.length + r.1.length) ∨
       (∃ f pre, r.2.2 = some f ∧ r.1 = pre ++ [(f, here)] ∧ Tree L p own r.1 ∧ getA own f = none))
  | [], came, q, hv, T, hs, hr, hq, hz => ⟨_, rfl, .inl ⟨rfl, T, hs, fun v h => h, (fun v h => by cases h), hq, fun h x => x, fun u h => .inl h, rfl⟩⟩
  | v :: vs, came, q, hv, T, hs, hr, hq, hz => by
    rw [scanA]
    by_cases hc : v ∈ keysA came
    · rw [if_pos (getA_isSome.mpr hc)]
      obtain ⟨r, e, d⟩ := scan_ok hL I here vs came q (fun x hx => hv x (.tail _ hx)) T hs hr hq hz
      refine ⟨r, e, d.imp ?_ id⟩
      rintro ⟨d1, d2, d3, d4, d5, d6⟩
      refine ⟨d1, d2, d3, d4, fun x hx => ?_, d6⟩
      cases hx with
      | head => exact d4 v hc
      | tail _ hx => exact d5 x hx
    · rw [if_neg (fun h => hc (getA_isSome.mp h))]
      have hcl := T.len hL
      rw [if_pos ⟨by omega, by omega⟩]
      have hv0 := hv v (.head _)
      rw [putA_new here hc]
      cases ho : getA own v with
      | none =>
        exact ⟨_, rfl, .inr ⟨v, came, rfl, rfl, T.snoc hc hv0 (by rw [ho]; nofun) hr, ho⟩⟩
      | some o =>
        have hne : getA own v ≠ some here := by
          intro q
          have hb := I.val v here q nofun
          rcases hr with e | ⟨u, hu, e⟩
          · omega
          · exact hc ((I.inj v u here nofun nofun q e) ▸ hu)
        have hk : ∀ x, x ∈ keysA (came ++ [(v, here)]) ↔ x ∈ keysA came ∨ x = v := fun x => by
          rw [keysA_append, List.mem_append]
          exact or_congr Iff.rfl List.mem_singleton
        have hm : ∀ u ∈ keysA came, u ∈ keysA (came ++ [(v, here)]) := fun u hu => (hk u).mpr (.inl hu)
        obtain ⟨r, e, d⟩ := scan_ok hL I here vs (came ++ [(v, here)]) (q ++ [o]) (fun x hx => hv x (.tail _ hx)) (T.snoc hc hv0 hne hr)
          (fun x hx => by
            rcases (hk x).mp hx with z | z
            · exact hs x z
            · rw [z, ho]; rfl)
          (hr.mono hm)
          (fun h hh => by
            rcases List.mem_append.mp hh with z | z
            · exact (hq h z).mono hm
            · exact .inr ⟨v, (hk v).mpr (.inr rfl), by rw [ho, List.mem_singleton.mp z]⟩)
          (by rw [List.length_append, List.length_append]; exact Nat.add_le_add_right hz _)
        refine ⟨r, e, d.imp ?_ id⟩
        rintro ⟨d1, d2, d3, d4, d5, d6, d7, d8, d9⟩
        refine ⟨d1, d2, d3, fun x hx => d4 x (hm x hx), fun x hx => ?_, d6, fun h hh => d7 h (List.mem_append_left _ hh), fun u hu => ?_, ?_⟩
        · cases hx with
          | head => exact d4 v ((hk v).mpr (.inr rfl))
          | tail _ hx => exact d5 x hx
        · rcases d8 u hu with z | z
          · rcases (hk u).mp z with y | y
            · exact .inl y
            · refine .inr fun o' e' => d7 o' (List.mem_append_right _ ?_)
              rw [y, ho] at e'
              cases e'
              exact .head _
          · exact .inr z
        · rw [List.length_append, List.length_append] at d9
          simp only [List.length_cons, List.length_nil] at d9
          omega
theorem itemA_at {L : List (List Int)} {h : Int} (h0 : 0 ≤ h) (h1 : h < L.length) (hz : L.length ≤ 100) : itemA L h = some (lotAt L h) := by
  unfold itemA lotAt
  have hs : smallI h = true := smallI_iff.mpr ⟨by omega, by omega⟩
  rw [if_pos hs]
  have hlt : h.toNat < L.length := by omega
  have : seqIndex? h L.length = some h.toNat := by
    unfold seqIndex?
    have hn : ¬ h < 0 := by omega
    simp only [if_neg hn]
    rw [if_pos (by simp; omega)]
  rw [this, Option.bind_some, List.getElem?_eq_getElem hlt, List.getD_eq_getElem?_getD, List.getElem?_eq_getElem hlt]
  rfl
theorem bfs_ok {L : List (List Int)} (hL : LowL L) (hz : L.length ≤ 100) {p : Int} (hp : 0 ≤ p) (hp2 : p < L.length) {own : AL} (I : PM L p own none) : ∀ (n : Nat) (came : AL) (q : List Int) (pops : Nat), Tree L p own came → (∀ v ∈ keysA came, (getA own v).isSome = true) → (∀ h ∈ q, Reach p own came h) →
    (∀ h, Reach p own came h → h ∈ q ∨ ∀ v ∈ lotAt L h, v ∈ keysA came) → q.length + pops = came.length + 1 → 12 ≤ n + pops →
    ∃ r, bfsA L own n came q none = some r ∧
      ((r.2 = none ∧ Tree L p own r.1 ∧ (∀ v ∈ keysA r.1, (getA own v).isSome = true) ∧ ∀ h, Reach p own r.1 h → ∀ v ∈ lotAt L h, v ∈ keysA r.1) ∨
       (∃ f pre here, r.2 = some f ∧ r.1 = pre ++ [(f, here)] ∧ Tree L p own r.1 ∧ getA own f = none))
  | 0, came, q, pops, T, _, _, _, he, hn => by have := T.len hL; omega
  | n + 1, came, [], pops, T, hs, hq, hcl, he, hn => ⟨(came, none), rfl, .inl ⟨rfl, T, hs, fun h r => (hcl h r).resolve_left (by simp)⟩⟩
  | n + 1, came, h :: q, pops, T, hs, hq, hcl, he, hn => by
    have hlen := T.len hL
    rw [List.length_cons] at he
    have hr := hq h (.head _)
    have hb := hr.bound I hp
    rw [bfsA, itemA_at hb.1 (by omega) hz, Option.bind_some, if_pos (by omega)]
    have hgo : q.length ≤ came.length ∨ pops = 0 := by omega
    obtain ⟨r, e, d⟩ := scan_ok hL I h (lotAt L h) came q (fun _ hx => hx) T hs hr (fun x hx => hq x (.tail _ hx)) (by omega)
    rw [e, Option.bind_some]
    obtain ⟨c1, q1, f1⟩ := r
    rcases d with ⟨d1, d2, d3, d4, d5, d6, d7, d8, d9⟩ | ⟨f, pre, d1, d2, d3, d4⟩
    · have d1 : f1 = none := d1
      subst d1
      refine bfs_ok hL hz hp hp2 I n c1 q1 (pops + 1) d2 d3 d6 ?_ (by simp only at d9; omega) (by omega)
      intro x rx
      by_cases hx : x = h
      · subst hx; exact .inr d5
      · rcases rx with z | ⟨u, hu, eu⟩
        · rcases hcl x (.inl z) with y | y
          · cases y with
            | head => exact absurd rfl hx
            | tail _ y => exact .inl (d7 x y)
          · exact .inr fun v hv => d4 v (y v hv)
        · rcases d8 u hu with z | z
          · rcases hcl x (.inr ⟨u, z, eu⟩) with y | y
            · cases y with
              | head => exact absurd rfl hx
              | tail _ y => exact .inl (d7 x y)
            · exact .inr fun v hv => d4 v (y v hv)
          · exact .inl (z x eu)
    · have d1 : f1 = some f := d1
      subst d1
      cases n with
      | zero => omega
      | succ n => exact ⟨(c1, some f), rfl, .inr ⟨f, pre, h, rfl, d2, d3, d4⟩⟩
/-! ## Hall, the easy half: what stops the search is a choice of lots with too few numbers -/
theorem choices_mem : ∀ (L : List (List Int)) (C : List (List (List Int))) (x : List (List Int)), x ∈ L.foldl chStep C ↔ ∃ d ∈ C, ∃ c, c.Sublist L ∧ x = d ++ c
  | [], C, x => by
    constructor
    · intro h; exact ⟨x, h, [], .slnil, by simp⟩
    · rintro ⟨d, hd, c, hc, e⟩
      have : c = [] := List.sublist_nil.mp hc
      subst this; rw [e, List.append_nil]; exact hd
  | l :: L, C, x => by
    rw [List.foldl_cons, choices_mem L (chStep C l) x]
    constructor
    · rintro ⟨d, hd, c, hc, e⟩
      rcases List.mem_append.mp hd with z | z
      · exact ⟨d, z, c, hc.cons l, e⟩
      · obtain ⟨d', hd', rfl⟩ := List.mem_map.mp z
        exact ⟨d', hd', l :: c, hc.cons_cons l, by rw [e]; simp⟩
    · rintro ⟨d, hd, c, hc, e⟩
      cases hc with
      | cons _ hc => exact ⟨d, List.mem_append_left _ hd, c, hc, e⟩
      | cons_cons _ hc => exact ⟨d ++ [l], List.mem_append_right _ (List.mem_map.mpr ⟨d, hd, rfl⟩), _, hc, by rw [e]; simp⟩
theorem choices_iff (L c : List (List Int)) : c ∈ choicesOf L ↔ c.Sublist L := by
  unfold choicesOf
  rw [choices_mem]
  constructor
  · rintro ⟨d, hd, c', hc, e⟩
    rw [List.mem_singleton] at hd
    subst hd; rw [e, List.nil_append]; exact hc
  · intro h; exact ⟨[], .head _, c, h, rfl⟩
theorem lots_range (L : List (List Int)) : (List.range L.length).map (fun i => lotAt L ((i : Nat) : Int)) = L := by
  apply List.ext_getElem?
  intro i
  rw [List.getElem?_map]
  by_cases h : i < L.length
  · rw [List.getElem?_range h, List.getElem?_eq_getElem h]
    unfold lotAt
    simp [List.getD_eq_getElem?_getD, h]
  · rw [List.getElem?_eq_none (by simpa using h), List.getElem?_eq_none (by omega)]; rfl
theorem tight_of {L : List (List Int)} {p : Int} (hp : 0 ≤ p) (hp2 : p < L.length) {own came : AL} (I : PM L p own none) (T : Tree L p own came) (hs : ∀ v ∈ keysA came, (getA own v).isSome = true) (hc : ∀ h, Reach p own came h → ∀ v ∈ lotAt L h, v ∈ keysA came) :
    ∃ c, c.Sublist L ∧ tight c = true := by
  have hn := T.nodup _ rfl
  let ow : Int → Int := fun v => (getA own v).getD 0
  have how : ∀ v ∈ keysA came, getA own v = some (ow v) := fun v hv => by
    have := hs v hv
    show _ = some ((getA own v).getD 0)
    cases e : getA own v with
    | none => rw [e] at this; cases this
    | some o => rfl
  let R : List Int := p :: (keysA came).map ow
  have hR : ∀ h ∈ R, Reach p own came h := by
    intro h hh
    rcases List.mem_cons.mp hh with hh | hh
    · exact .inl hh
    · obtain ⟨u, hu, e⟩ := List.mem_map.mp hh
      exact .inr ⟨u, hu, by rw [how u hu, e]⟩
  have hnR : R.Nodup := by
    rw [List.nodup_cons]
    constructor
    · intro hh
      obtain ⟨u, hu, e⟩ := List.mem_map.mp hh
      have := (I.val u (ow u) (how u hu) nofun).2.1
      omega
    · refine List.pairwise_map.mpr (List.Pairwise.imp_of_mem ?_ hn)
      intro a b ha hb hab e
      have e : ow a = ow b := e
      exact hab (I.inj a b (ow a) nofun nofun (how a ha) (by rw [how b hb, e]))
  let idx := (List.range L.length).filter fun i => decide (((i : Nat) : Int) ∈ R)
  refine ⟨idx.map fun i => lotAt L ((i : Nat) : Int), ?_, ?_⟩
  · have : (idx.map fun i => lotAt L ((i : Nat) : Int)).Sublist ((List.range L.length).map fun i => lotAt L ((i : Nat) : Int)) := List.Sublist.map _ List.filter_sublist
    rwa [lots_range] at this
  · have h1 : R.length ≤ (idx.map fun i => ((i : Nat) : Int)).length := by
      refine pigeon R _ hnR fun h hh => ?_
      have hb := (hR h hh).bound I hp
      refine List.mem_map.mpr ⟨h.toNat, List.mem_filter.mpr ⟨List.mem_range.mpr (by omega), ?_⟩, by omega⟩
      apply decide_eq_true
      rw [Int.toNat_of_nonneg hb.1]; exact hh
    rw [List.length_map] at h1
    have h2 : (dedI (idx.map fun i => lotAt L ((i : Nat) : Int)).flatten).length ≤ (keysA came).length := by
      refine pigeon _ _ (dedI_nodup _) fun v hv => ?_
      have hv := mem_dedI.mp hv
      obtain ⟨l, hl, hvl⟩ := List.mem_flatten.mp hv
      obtain ⟨i, hi, rfl⟩ := List.mem_map.mp hl
      exact hc i (hR i (of_decide_eq_true (List.mem_filter.mp hi).2)) v hvl
    unfold tight
    apply decide_eq_true
    rw [List.length_map]
    have h3 : R.length = (keysA came).length + 1 := by show (p :: _).length = _; rw [List.length_cons, List.length_map]
    omega
/-- each lot gives a number of its own -/
noncomputable def SDR (L : List (List Int)) : Prop := ∃ m : List (Int × List Int), m.map (·.2) = L ∧ (m.map (·.1)).Nodup ∧ ∀ x ∈ m, x.1 ∈ x.2
theorem sdr_loose {L c : List (List Int)} (h : SDR L) (hc : c.Sublist L) : tight c = false := by
  obtain ⟨m, e, hn, hm⟩ := h
  rw [← e] at hc
  obtain ⟨m', hs, e'⟩ := List.sublist_map_iff.mp hc
  unfold tight
  apply decide_eq_false
  have : (m'.map (·.1)).length ≤ (dedI c.flatten).length := by
    refine pigeon _ _ ((hs.map _).nodup hn) fun v hv => ?_
    obtain ⟨x, hx, rfl⟩ := List.mem_map.mp hv
    rw [mem_dedI, e', List.mem_flatten]
    exact ⟨x.2, List.mem_map.mpr ⟨x, hx, rfl⟩, hm x (hs.subset hx)⟩
  rw [List.length_map] at this
  rw [e', List.length_map] at *
  omega
theorem sdr_of {L : List (List Int)} {own : AL} (I : PM L L.length own none) : SDR L := by
  have hex : ∀ q : Nat, ∃ v, q < L.length → getA own v = some (q : Int) := fun q => by
    by_cases h : q < L.length
    · obtain ⟨v, _, e⟩ := I.ex q (by omega) (by omega)
      exact ⟨v, fun _ => e⟩
    · exact ⟨0, fun h' => absurd h' h⟩
  let g : Nat → Int := fun q => (hex q).choose
  have hg : ∀ q, q < L.length → getA own (g q) = some (q : Int) := fun q => (hex q).choose_spec
  refine ⟨(List.range L.length).map fun q => (g q, lotAt L ((q : Nat) : Int)), ?_, ?_, ?_⟩
  · rw [List.map_map]; exact lots_range L
  · rw [List.map_map]
    refine List.pairwise_map.mpr (List.Pairwise.imp_of_mem ?_ List.nodup_range)
    intro a b ha hb hab e
    have e : g a = g b := e
    have h1 := hg a (List.mem_range.mp ha)
    have h2 := hg b (List.mem_range.mp hb)
    rw [e, h2] at h1
    have := Option.some.inj h1
    exact hab (by omega)
  · intro x hx
    obtain ⟨q, hq, rfl⟩ := List.mem_map.mp hx
    exact (I.val _ _ (hg q (List.mem_range.mp hq)) nofun).2.2
theorem cd_ok {L : List (List Int)} (hL : LowL L) (hz : L.length ≤ 100) : ∀ (k p : Nat) (own : AL), p + k = L.length → PM L p own none →
    ∃ b, cdA L ((List.range' p k).map fun (i : Nat) => (i : Int)) own = some b ∧ (b = true → SDR L) ∧ (b = false → ∃ c, c.Sublist L ∧ tight c = true)
  | 0, p, own, e, I => ⟨true, rfl, fun _ => sdr_of (by rw [← e]; exact I), nofun⟩
  | k + 1, p, own, e, I => by
    have hol := I.len
    rw [List.range'_succ, List.map_cons, cdA, if_pos (by omega)]
    obtain ⟨r, e1, d⟩ := bfs_ok hL hz (p := p) (by omega) (by omega) I 64 [] [(p : Int)] 0 Tree.nil (fun v hv => by cases hv) (fun h hh => .inl (List.mem_singleton.mp hh))
      (fun h hh => by
        rcases hh with z | ⟨u, hu, _⟩
        · exact .inl (List.mem_singleton.mpr z)
        · cases hu) rfl (by omega)
    rw [e1, Option.bind_some]
    rcases d with ⟨d1, d2, d3, d4⟩ | ⟨f, pre, here, d1, d2, d3, d4⟩
    · rw [d1]
      exact ⟨false, rfl, nofun, fun _ => tight_of (by omega) (by omega) I d2 d3 d4⟩
    · rw [d1]
      have hcl := d3.len hL
      have hnn := d3.nodup _ rfl
      simp only
      rw [if_pos (by omega)]
      rw [d2] at d3 hnn ⊢
      have I2 : PM L p own (some f) := by
        refine ⟨I.keys, I.rng, fun v q e _ => I.val v q e nofun, fun q h0 h1 => ?_, fun v v' q _ _ e e' => I.inj v v' q nofun nofun e e'⟩
        obtain ⟨v, _, ev⟩ := I.ex q h0 h1
        exact ⟨v, (fun h => by rw [Option.some.inj h, d4] at ev; cases ev), ev⟩
      have hlen : pre.length < 64 := by
        have := congrArg List.length d2
        rw [List.length_append] at this
        omega
      obtain ⟨own', e3, I3⟩ := move_ok hL (p := p) (by omega) 64 pre f here [] own I2 d3 hnn hlen
      rw [e3, Option.bind_some]
      exact cd_ok hL hz k (p + 1) own' (by omega) I3
theorem can_iff (L : List (List Int)) : canA L = true ↔ ∀ c, c.Sublist L → tight c = false := by
  unfold canA
  rw [Bool.not_eq_true', List.any_eq_false]
  constructor
  · intro h c hc
    have := h c ((choices_iff L c).mpr hc)
    cases e : tight c with
    | true => exact absurd e this
    | false => rfl
  · intro h c hc q
    rw [h c ((choices_iff L c).mp hc)] at q
    cases q
theorem cd_right {L : List (List Int)} (hL : LowL L) (hz : L.length ≤ 100) : cdA L (varsI L.length) [] = some (canA L) ∧ (canA L = true ↔ SDR L) := by
  obtain ⟨b, e, h1, h2⟩ := cd_ok hL hz L.length 0 [] (by omega) ⟨List.nodup_nil, fun k h => (by cases h), fun v q e => (by cases e), fun q h0 h1 => (by omega), fun v v' q _ _ e => (by cases e)⟩
  have ev : varsI L.length = (List.range' 0 L.length).map fun (i : Nat) => (i : Int) := by unfold varsI; rw [List.range_eq_range']
  rw [ev, e]
  cases b with
  | true =>
    have hs := h1 rfl
    have hc : canA L = true := (can_iff L).mpr fun c hc => sdr_loose hs hc
    rw [hc]; exact ⟨rfl, fun _ => hs, fun _ => rfl⟩
  | false =>
    obtain ⟨c, hc, ht⟩ := h2 rfl
    have hc' : canA L = false := by
      cases q : canA L with
      | false => rfl
      | true => rw [(can_iff L).mp q c hc] at ht; cases ht
    rw [hc']
    refine ⟨rfl, nofun, fun hs => ?_⟩
    rw [sdr_loose hs hc] at ht; cases ht
/-! ## the sequence of the lots and of their numbers does not count -/
theorem perm_lift {α β : Type} (f : α → β) {L L' : List β} (h : L.Perm L') : ∀ m : List α, m.map f = L → ∃ m' : List α, m'.Perm m ∧ m'.map f = L' := by
  induction h with
  | nil => intro m e; exact ⟨m, .refl _, e⟩
  | cons x _ ih =>
    intro m e
    cases m with
    | nil => cases e
    | cons a m =>
      rw [List.map_cons, List.cons.injEq] at e
      obtain ⟨m', p, e'⟩ := ih m e.2
      exact ⟨a :: m', p.cons a, by rw [List.map_cons, e.1, e']⟩
  | swap x y l =>
    intro m e
    match m, e with
    | a :: b :: m, e =>
      rw [List.map_cons, List.map_cons, List.cons.injEq, List.cons.injEq] at e
      exact ⟨b :: a :: m, .swap a b m, by rw [List.map_cons, List.map_cons, e.1, e.2.1, e.2.2]⟩
  | trans _ _ ih1 ih2 =>
    intro m e
    obtain ⟨m1, p1, e1⟩ := ih1 m e
    obtain ⟨m2, p2, e2⟩ := ih2 m1 e1
    exact ⟨m2, p2.trans p1, e2⟩
theorem SDR.perm {L L' : List (List Int)} (h : L.Perm L') (s : SDR L) : SDR L' := by
  obtain ⟨m, e, hn, hm⟩ := s
  obtain ⟨m', p, e'⟩ := perm_lift (·.2) h m e
  exact ⟨m', e', (p.map _).nodup_iff.mpr hn, fun x hx => hm x (p.mem_iff.mp hx)⟩
theorem SDR.rev {L : List (List Int)} (s : SDR L) : SDR (L.map List.reverse) := by
  obtain ⟨m, e, hn, hm⟩ := s
  refine ⟨m.map fun x => (x.1, x.2.reverse), ?_, ?_, ?_⟩
  · rw [← e, List.map_map, List.map_map]; rfl
  · rw [List.map_map]; exact hn
  · intro x hx
    obtain ⟨y, hy, rfl⟩ := List.mem_map.mp hx
    exact List.mem_reverse.mpr (hm y hy)
noncomputable def otherL (L : List (List Int)) (t : Nat) : List (List Int) := ((L.drop t ++ L.take t).reverse).map List.reverse
theorem other_perm (L : List (List Int)) (t : Nat) : ((L.drop t ++ L.take t).reverse).Perm L := by
  refine (List.reverse_perm _).trans (List.perm_append_comm.trans ?_)
  rw [List.take_append_drop]
theorem sdr_other (L : List (List Int)) (t : Nat) : SDR (otherL L t) ↔ SDR L := by
  constructor
  · intro h
    have := h.rev
    unfold otherL at this
    rw [List.map_map] at this
    have e : ((L.drop t ++ L.take t).reverse).map (List.reverse ∘ List.reverse) = (L.drop t ++ L.take t).reverse := by
      have : (List.reverse ∘ List.reverse : List Int → List Int) = id := funext fun l => List.reverse_reverse l
      rw [this, List.map_id]
    rw [e] at this
    exact this.perm (other_perm L t)
  · intro h
    exact (h.perm (other_perm L t).symm).rev
theorem other_len (L : List (List Int)) (t : Nat) : (otherL L t).length = L.length := by
  unfold otherL; rw [List.length_map]; exact (other_perm L t).length_eq
theorem other_low {L : List (List Int)} (h : LowL L) (t : Nat) : LowL (otherL L t) := by
  intro l hl v hv
  obtain ⟨l', hl', rfl⟩ := List.mem_map.mp hl
  exact h l' ((other_perm L t).mem_iff.mp hl') v (List.mem_reverse.mp hv)
theorem can_other {L : List (List Int)} (h : LowL L) (hz : L.length ≤ 100) (t : Nat) : canA (otherL L t) = canA L := by
  have h1 := (cd_right h hz).2
  have h2 := (cd_right (other_low h t) (by rw [other_len]; exact hz)).2
  rw [sdr_other, ← h1] at h2
  exact Bool.eq_iff_iff.mpr h2
end Mine
-- PL2
namespace Mine
/-! ## What follows: plain lists, no program -/
structure GoodD (d : Dom) : Prop where
  inc : d.Pairwise fun p q => p.2 < q.1
  box : ∀ p ∈ d, 0 ≤ p.1 ∧ p.1 ≤ p.2 ∧ p.2 ≤ 7
theorem mem_rngI {a b v : Int} : v ∈ rngI a b ↔ a ≤ v ∧ v ≤ b := by
  unfold rngI
  rw [List.mem_map]
  constructor
  · rintro ⟨i, hi, rfl⟩
    have := List.mem_range.mp hi
    omega
  · intro h
    exact ⟨(v - a).toNat, List.mem_range.mpr (by omega), by omega⟩
theorem nums_cons (p : Int × Int) (d : Dom) : numsD (p :: d) = rngI p.1 p.2 ++ numsD d := rfl
theorem nums_append (d e : Dom) : numsD (d ++ e) = numsD d ++ numsD e := by unfold numsD; rw [List.flatMap_append]
theorem mem_nums {d : Dom} {v : Int} : v ∈ numsD d ↔ ∃ p ∈ d, p.1 ≤ v ∧ v ≤ p.2 := by
  unfold numsD
  rw [List.mem_flatMap]
  constructor
  · rintro ⟨p, hp, h⟩; exact ⟨p, hp, mem_rngI.mp h⟩
  · rintro ⟨p, hp, h⟩; exact ⟨p, hp, mem_rngI.mpr h⟩
theorem rngI_sorted (a b : Int) : (rngI a b).Pairwise (· < ·) := by
  unfold rngI
  refine List.pairwise_map.mpr (List.Pairwise.imp ?_ List.pairwise_lt_range)
  intro i j h; omega
theorem GoodD.tail {p : Int × Int} {d : Dom} (h : GoodD (p :: d)) : GoodD d := ⟨(List.pairwise_cons.mp h.inc).2, fun q hq => h.box q (.tail _ hq)⟩
theorem nums_sorted : ∀ {d : Dom}, GoodD d → (numsD d).Pairwise (· < ·)
  | [], _ => .nil
  | p :: d, h => by
    rw [nums_cons, List.pairwise_append]
    refine ⟨rngI_sorted _ _, nums_sorted h.tail, fun a ha b hb => ?_⟩
    have ha := mem_rngI.mp ha
    obtain ⟨q, hq, hb⟩ := mem_nums.mp hb
    have := (List.pairwise_cons.mp h.inc).1 q hq
    omega
theorem nodup_lt {l : List Int} (h : l.Pairwise (· < ·)) : l.Nodup := h.imp fun h q => by omega
theorem sorted_ext {l l' : List Int} (h : l.Pairwise (· < ·)) (h' : l'.Pairwise (· < ·)) (e : ∀ v, v ∈ l ↔ v ∈ l') : l = l' := by
  have p : l.Perm l' := (List.perm_ext_iff_of_nodup (nodup_lt h) (nodup_lt h')).mpr fun v => e v
  rw [sort_unique p (h.imp fun h => Int.le_of_lt h), ← sort_unique (List.Perm.refl l') (h'.imp fun h => Int.le_of_lt h)]
theorem upTo_good {d : Dom} (h : GoodD d) (k : Int) : GoodD (upTo d k) ∧ ∀ v, v ∈ numsD (upTo d k) ↔ v ∈ numsD d ∧ v ≤ k := by
  refine ⟨⟨?_, ?_⟩, ?_⟩
  · unfold upTo
    refine List.pairwise_map.mpr ((h.inc.filter _).imp ?_)
    intro p q hpq
    show minI p.2 k < q.1
    unfold minI
    split <;> omega
  · intro p hp
    obtain ⟨q, hq, rfl⟩ := List.mem_map.mp hp
    have hq := List.mem_filter.mp hq
    have h1 := h.box q hq.1
    have h2 := of_decide_eq_true hq.2
    show 0 ≤ q.1 ∧ q.1 ≤ minI q.2 k ∧ minI q.2 k ≤ 7
    unfold minI
    split <;> omega
  · intro v
    rw [mem_nums, mem_nums]
    constructor
    · rintro ⟨p, hp, h1, h2⟩
      obtain ⟨q, hq, rfl⟩ := List.mem_map.mp hp
      have hq := List.mem_filter.mp hq
      have h2 : v ≤ minI q.2 k := h2
      have h3 : v ≤ q.2 ∧ v ≤ k := by unfold minI at h2; split at h2 <;> omega
      exact ⟨⟨q, hq.1, h1, h3.1⟩, h3.2⟩
    · rintro ⟨⟨q, hq, h1, h2⟩, h3⟩
      refine ⟨(q.1, minI q.2 k), List.mem_map.mpr ⟨q, List.mem_filter.mpr ⟨hq, decide_eq_true (by omega)⟩, rfl⟩, h1, ?_⟩
      show v ≤ minI q.2 k
      unfold minI
      split <;> omega
theorem fromOn_good {d : Dom} (h : GoodD d) (k : Int) : GoodD (fromOn d k) ∧ ∀ v, v ∈ numsD (fromOn d k) ↔ v ∈ numsD d ∧ k ≤ v := by
  refine ⟨⟨?_, ?_⟩, ?_⟩
  · unfold fromOn
    refine List.pairwise_map.mpr ((h.inc.filter _).imp ?_)
    intro p q hpq
    show p.2 < maxI q.1 k
    unfold maxI
    split <;> omega
  · intro p hp
    obtain ⟨q, hq, rfl⟩ := List.mem_map.mp hp
    have hq := List.mem_filter.mp hq
    have h1 := h.box q hq.1
    have h2 := of_decide_eq_true hq.2
    show 0 ≤ maxI q.1 k ∧ maxI q.1 k ≤ q.2 ∧ q.2 ≤ 7
    unfold maxI
    split <;> omega
  · intro v
    rw [mem_nums, mem_nums]
    constructor
    · rintro ⟨p, hp, h1, h2⟩
      obtain ⟨q, hq, rfl⟩ := List.mem_map.mp hp
      have hq := List.mem_filter.mp hq
      have h1 : maxI q.1 k ≤ v := h1
      have h3 : q.1 ≤ v ∧ k ≤ v := by unfold maxI at h1; split at h1 <;> omega
      exact ⟨⟨q, hq.1, h3.1, h2⟩, h3.2⟩
    · rintro ⟨⟨q, hq, h1, h2⟩, h3⟩
      refine ⟨(maxI q.1 k, q.2), List.mem_map.mpr ⟨q, List.mem_filter.mpr ⟨hq, decide_eq_true (by omega)⟩, rfl⟩, ?_, h2⟩
      show maxI q.1 k ≤ v
      unfold maxI
      split <;> omega
theorem without_good {d : Dom} (h : GoodD d) (k : Int) : GoodD (without d k) ∧ ∀ v, v ∈ numsD (without d k) ↔ v ∈ numsD d ∧ v ≠ k := by
  obtain ⟨a1, a2⟩ := upTo_good h (k - 1)
  obtain ⟨b1, b2⟩ := fromOn_good h (k + 1)
  refine ⟨⟨?_, ?_⟩, ?_⟩
  · unfold without
    rw [List.pairwise_append]
    refine ⟨a1.inc, b1.inc, fun p hp q hq => ?_⟩
    have h1 := (a1.box p hp).2.1
    have h2 := (b1.box q hq).2.1
    have h3 := ((a2 p.2).mp (mem_nums.mpr ⟨p, hp, h1, Int.le_refl _⟩)).2
    have h4 := ((b2 q.1).mp (mem_nums.mpr ⟨q, hq, Int.le_refl _, h2⟩)).2
    omega
  · intro p hp
    rcases List.mem_append.mp hp with q | q
    · exact a1.box p q
    · exact b1.box p q
  · intro v
    unfold without
    rw [nums_append, List.mem_append, a2, b2]
    constructor
    · rintro (⟨x, y⟩ | ⟨x, y⟩)
      · exact ⟨x, by omega⟩
      · exact ⟨x, by omega⟩
    · rintro ⟨x, y⟩
      by_cases z : v ≤ k - 1
      · exact .inl ⟨x, z⟩
      · exact .inr ⟨x, by omega⟩
theorem meetK_good (k : Int) : ∀ {d : Dom}, GoodD d → GoodD (meetK k d) ∧ ∀ v, v ∈ numsD (meetK k d) ↔ v ∈ numsD d ∧ v = k
  | [], h => ⟨h, fun v => ⟨fun q => (by cases q), fun q => (by cases q.1)⟩⟩
  | p :: d, h => by
    obtain ⟨a1, a2⟩ := meetK_good k h.tail
    have hp := h.box p (.head _)
    have hi := (List.pairwise_cons.mp h.inc).1
    unfold meetK
    split
    · rename_i h1
      refine ⟨a1, fun v => ?_⟩
      rw [a2, nums_cons, List.mem_append, mem_rngI]
      constructor
      · rintro ⟨x, y⟩; exact ⟨.inr x, y⟩
      · rintro ⟨x | x, y⟩
        · omega
        · exact ⟨x, y⟩
    · split
      · rename_i h1 h2
        refine ⟨⟨by simp, fun q hq => ?_⟩, fun v => ?_⟩
        · have : q = (k, k) := List.mem_singleton.mp hq
          subst this
          show 0 ≤ k ∧ k ≤ k ∧ k ≤ 7
          omega
        · rw [mem_nums, nums_cons, List.mem_append, mem_rngI]
          constructor
          · rintro ⟨q, hq, x, y⟩
            have : q = (k, k) := List.mem_singleton.mp hq
            subst this
            have x : k ≤ v := x
            have y : v ≤ k := y
            exact ⟨.inl (by omega), by omega⟩
          · rintro ⟨_, rfl⟩
            exact ⟨(v, v), .head _, Int.le_refl _, Int.le_refl _⟩
      · rename_i h1 h2
        refine ⟨⟨.nil, fun q hq => by cases hq⟩, fun v => ⟨fun q => (by cases q), ?_⟩⟩
        rintro ⟨x, rfl⟩
        rw [nums_cons, List.mem_append, mem_rngI] at x
        rcases x with x | x
        · omega
        · obtain ⟨q, hq, x, y⟩ := mem_nums.mp x
          have := hi q hq
          omega
theorem struck_good {d : Dom} (h : GoodD d) (l : Lit) : GoodD (struckD l.neg d) ∧ ∀ v, v ∈ numsD (struckD l.neg d) ↔ v ∈ numsD d ∧ l.denied v = true := by
  obtain ⟨x, s, k⟩ := l
  cases s with
  | le =>
    obtain ⟨a, b⟩ := fromOn_good h (k + 1)
    refine ⟨a, fun v => (b v).trans (and_congr Iff.rfl ?_)⟩
    show k + 1 ≤ v ↔ decide (k < v) = true
    rw [decide_eq_true_iff]; omega
  | ge =>
    obtain ⟨a, b⟩ := upTo_good h (k - 1)
    refine ⟨a, fun v => (b v).trans (and_congr Iff.rfl ?_)⟩
    show v ≤ k - 1 ↔ decide (v < k) = true
    rw [decide_eq_true_iff]; omega
  | eq =>
    obtain ⟨a, b⟩ := without_good h k
    refine ⟨a, fun v => (b v).trans (and_congr Iff.rfl ?_)⟩
    show v ≠ k ↔ (!decide (v = k)) = true
    simp
  | ne =>
    obtain ⟨a, b⟩ := meetK_good k h
    refine ⟨a, fun v => (b v).trans (and_congr Iff.rfl ?_)⟩
    show v = k ↔ decide (v = k) = true
    rw [decide_eq_true_iff]
theorem rngI_snoc {a n : Int} (h : a ≤ n) : rngI a n = rngI a (n - 1) ++ [n] := by
  unfold rngI
  rw [show (n + 1 - a).toNat = (n - 1 + 1 - a).toNat + 1 by omega, List.range_succ, List.map_append]
  congr 1
  show [a + (((n - 1 + 1 - a).toNat : Nat) : Int)] = [n]
  congr 1; omega
theorem rngStep_good {d : Dom} (h : GoodD d) {n : Int} (hn : 0 ≤ n ∧ n ≤ 7) (hl : ∀ v ∈ numsD d, v < n) : GoodD (rngStep d n) ∧ numsD (rngStep d n) = numsD d ++ [n] := by
  have hlast : ∀ p ∈ d, p.2 < n := fun p hp => hl p.2 (mem_nums.mpr ⟨p, hp, (h.box p hp).2.1, Int.le_refl _⟩)
  rcases List.eq_nil_or_concat d with q | ⟨d0, p, q⟩
  · subst q
    refine ⟨⟨by simp [rngStep], fun q hq => ?_⟩, ?_⟩
    · have : q = (n, n) := List.mem_singleton.mp hq
      subst this
      show 0 ≤ n ∧ n ≤ n ∧ n ≤ 7
      omega
    · show rngI n n ++ [] = [n]
      rw [List.append_nil, rngI_snoc (Int.le_refl n)]
      have : rngI n (n - 1) = [] := by unfold rngI; rw [show (n - 1 + 1 - n).toNat = 0 by omega]; rfl
      rw [this]; rfl
  · rw [List.concat_eq_append] at q
    subst q
    obtain ⟨i1, i2, i3⟩ := List.pairwise_append.mp h.inc
    have hp := h.box p (List.mem_append_right _ (.head _))
    have hp2 := hlast p (List.mem_append_right _ (.head _))
    by_cases hq : p.2 = n - 1
    · have e1 : rngStep (d0 ++ [p]) n = d0 ++ [(p.1, n)] := by
        unfold rngStep; rw [List.getLast?_concat]; simp only [hq, if_true, List.dropLast_concat]
      rw [e1]
      refine ⟨⟨List.pairwise_append.mpr ⟨i1, by simp, fun a ha b hb => ?_⟩, fun q hq => ?_⟩, ?_⟩
      · rw [List.mem_singleton.mp hb]; exact i3 a ha p (.head _)
      · rcases List.mem_append.mp hq with z | z
        · exact h.box q (List.mem_append_left _ z)
        · rw [List.mem_singleton.mp z]
          show 0 ≤ p.1 ∧ p.1 ≤ n ∧ n ≤ 7
          omega
      · rw [nums_append, nums_append, List.append_assoc]
        congr 1
        show rngI p.1 n ++ [] = (rngI p.1 p.2 ++ []) ++ [n]
        rw [List.append_nil, List.append_nil, hq, ← rngI_snoc (by omega)]
    · have e1 : rngStep (d0 ++ [p]) n = d0 ++ [p] ++ [(n, n)] := by
        unfold rngStep; rw [List.getLast?_concat]; simp only [hq, if_false]
      rw [e1]
      refine ⟨⟨List.pairwise_append.mpr ⟨h.inc, by simp, fun a ha b hb => ?_⟩, fun q hq => ?_⟩, ?_⟩
      · rw [List.mem_singleton.mp hb]; exact hlast a ha
      · rcases List.mem_append.mp hq with z | z
        · exact h.box q z
        · rw [List.mem_singleton.mp z]
          show 0 ≤ n ∧ n ≤ n ∧ n ≤ 7
          omega
      · rw [nums_append _ [(n, n)]]
        congr 1
        show rngI n n ++ [] = [n]
        rw [List.append_nil, rngI_snoc (Int.le_refl n)]
        have : rngI n (n - 1) = [] := by unfold rngI; rw [show (n - 1 + 1 - n).toNat = 0 by omega]; rfl
        rw [this]; rfl
theorem rng_fold : ∀ (ns : List Int) (d : Dom), GoodD d → (numsD d ++ ns).Pairwise (· < ·) → (∀ v ∈ ns, 0 ≤ v ∧ v ≤ 7) → GoodD (ns.foldl rngStep d) ∧ numsD (ns.foldl rngStep d) = numsD d ++ ns
  | [], d, h, _, _ => ⟨h, by simp⟩
  | n :: ns, d, h, hs, hb => by
    obtain ⟨g, e⟩ := rngStep_good h (hb n (.head _)) fun v hv => (List.pairwise_append.mp hs).2.2 v hv n (.head _)
    obtain ⟨g2, e2⟩ := rng_fold ns (rngStep d n) g (by rw [e]; simpa using hs) fun v hv => hb v (.tail _ hv)
    exact ⟨g2, by rw [List.foldl_cons, e2, e]; simp⟩
theorem ranges_good {ns : List Int} (hs : ns.Pairwise (· < ·)) (hb : ∀ v ∈ ns, 0 ≤ v ∧ v < 8) : GoodD (rangesOf ns) ∧ numsD (rangesOf ns) = ns := by
  have e : sortI (dedI ns) = ns := by
    have p : ns.Perm (dedI ns) := (List.perm_ext_iff_of_nodup (nodup_lt hs) (dedI_nodup ns)).mpr fun v => mem_dedI.symm
    exact (sort_unique p (hs.imp fun h => Int.le_of_lt h)).symm
  unfold rangesOf
  rw [e]
  exact rng_fold ns [] ⟨.nil, fun p hp => by cases hp⟩ hs fun v hv => by have := hb v hv; omega
theorem size_nums : ∀ {d : Dom}, GoodD d → sizeD d = ((numsD d).length : Int) ∧ d.length ≤ (numsD d).length
  | [], _ => ⟨rfl, Nat.le_refl _⟩
  | p :: d, h => by
    obtain ⟨a, b⟩ := size_nums h.tail
    have hp := h.box p (.head _)
    have hl : (rngI p.1 p.2).length = (p.2 + 1 - p.1).toNat := by unfold rngI; rw [List.length_map, List.length_range]
    rw [nums_cons, List.length_append, List.length_cons, hl]
    refine ⟨?_, by omega⟩
    have : sizeD (p :: d) = (p.2 - p.1 + 1) + sizeD d := by unfold sizeD; rw [List.map_cons, List.sum_cons]
    rw [this, a]; omega
/-- the numbers that the denial leaves of a lot -/
noncomputable def keepL (ls : List Lit) (x : Nat) (lot : List Int) : List Int := lot.filter fun v => (ls.filter fun l => decide (l.x = x) && !l.denied v).isEmpty
noncomputable def leftL (L : List (List Int)) (ls : List Lit) : List (List Int) := L.zipIdx.map fun p => keepL ls p.2 p.1
theorem mem_keep {ls : List Lit} {x : Nat} {lot : List Int} {v : Int} : v ∈ keepL ls x lot ↔ v ∈ lot ∧ ∀ l ∈ ls, l.x = x → l.denied v = true := by
  unfold keepL
  rw [List.mem_filter, List.isEmpty_iff, List.filter_eq_nil_iff]
  refine and_congr Iff.rfl ⟨fun h l hl e => ?_, fun h l hl q => ?_⟩
  · have := h l hl
    cases z : l.denied v with
    | true => rfl
    | false => exact absurd (by rw [z, decide_eq_true e]; rfl) this
  · rw [Bool.and_eq_true, decide_eq_true_eq] at q
    rw [h l hl q.1] at q
    exact absurd q.2 (by decide)
theorem left_range (L : List (List Int)) (ls : List Lit) : leftL L ls = (List.range L.length).map fun x => keepL ls x (lotAt L ((x : Nat) : Int)) := by
  apply List.ext_getElem?
  intro i
  unfold leftL
  rw [List.getElem?_map, List.getElem?_map, List.getElem?_zipIdx]
  by_cases h : i < L.length
  · rw [List.getElem?_range h, List.getElem?_eq_getElem h]
    unfold lotAt
    simp [List.getD_eq_getElem?_getD, h]
  · rw [List.getElem?_eq_none (by omega), List.getElem?_eq_none (by simpa using h)]; rfl
theorem lotAt_mem {L : List (List Int)} {x : Nat} (h : x < L.length) : lotAt L ((x : Nat) : Int) ∈ L := by
  unfold lotAt
  rw [List.getD_eq_getElem?_getD, Int.toNat_natCast, List.getElem?_eq_getElem h]
  exact List.getElem_mem h
/-- what is known of the domains while the literals are denied -/
noncomputable def Den (L : List (List Int)) (D : List Dom) (T : List (Int × Dom)) (done : List Lit) : Prop :=
  ∀ x, x < L.length → GoodD (domOf D T x) ∧ ∀ v, v ∈ numsD (domOf D T x) ↔ v ∈ lotAt L ((x : Nat) : Int) ∧ ∀ l ∈ done, l.x = x → l.denied v = true
theorem den_step {L : List (List Int)} {D : List Dom} {T : List (Int × Dom)} {done : List Lit} (J : Den L D T done) {l : Lit} (hl : l.x < L.length) : Den L D (putT T l.x (struckD l.neg (domOf D T l.x))) (done ++ [l]) := by
  intro x hx
  rw [dom_put]
  obtain ⟨g, m⟩ := J x hx
  by_cases e : x = l.x
  · rw [if_pos e]
    subst e
    obtain ⟨g2, m2⟩ := struck_good g l
    refine ⟨g2, fun v => ?_⟩
    rw [m2, m]
    constructor
    · rintro ⟨⟨a, b⟩, c⟩
      refine ⟨a, fun l' hl' e => ?_⟩
      rcases List.mem_append.mp hl' with z | z
      · exact b l' z e
      · rw [List.mem_singleton.mp z]; exact c
    · rintro ⟨a, b⟩
      exact ⟨⟨a, fun l' z e => b l' (List.mem_append_left _ z) e⟩, b l (List.mem_append_right _ (.head _)) rfl⟩
  · rw [if_neg e]
    refine ⟨g, fun v => ?_⟩
    rw [m]
    refine and_congr Iff.rfl ⟨fun h l' hl' e' => ?_, fun h l' hl' e' => h l' (List.mem_append_left _ hl') e'⟩
    rcases List.mem_append.mp hl' with z | z
    · exact h l' z e'
    · rw [List.mem_singleton.mp z] at e'; exact absurd e'.symm e
theorem deny_all {L : List (List Int)} {D : List Dom} : ∀ (ls : List Lit) (T : List (Int × Dom)) (done : List Lit), Den L D T done → (∀ l ∈ ls, l.x < L.length) →
    (∃ done', Den L D (denyT D ls T).2 done') ∧ ((denyT D ls T).1 = true → Den L D (denyT D ls T).2 (done ++ ls)) ∧
    ((denyT D ls T).1 = false → ∃ x, x < L.length ∧ ∀ v ∈ lotAt L ((x : Nat) : Int), ¬ ∀ l ∈ done ++ ls, l.x = x → l.denied v = true)
  | [], T, done, J, _ => ⟨⟨done, J⟩, fun _ => by rw [List.append_nil]; exact J, nofun⟩
  | l :: ls, T, done, J, hl => by
    have J2 := den_step J (hl l (.head _))
    unfold denyT
    by_cases q : struckD l.neg (domOf D T l.x) = []
    · rw [if_pos q]
      rw [q] at J2
      refine ⟨⟨_, J2⟩, nofun, fun _ => ⟨l.x, hl l (.head _), fun v hv h => ?_⟩⟩
      have := ((J2 l.x (hl l (.head _))).2 v).mpr ⟨hv, fun l' hl' e => h l' (by
        rcases List.mem_append.mp hl' with z | z
        · exact List.mem_append_left _ z
        · rw [List.mem_singleton.mp z]; exact List.mem_append_right _ (.head _)) e⟩
      rw [dom_put, if_pos rfl] at this
      cases this
    · rw [if_neg q]
      obtain ⟨a, b, c⟩ := deny_all ls _ _ J2 fun l' h' => hl l' (.tail _ h')
      refine ⟨a, fun h => ?_, fun h => ?_⟩
      · have := b h; rwa [List.append_assoc] at this
      · have := c h; rwa [List.append_assoc] at this
theorem dom_start {L : List (List Int)} {x : Nat} (h : x < L.length) : domOf (L.map rangesOf) [] x = rangesOf (lotAt L ((x : Nat) : Int)) := by
  unfold domOf lotAt
  simp [List.getD_eq_getElem?_getD, h]
theorem dom_past {L : List (List Int)} {x : Nat} (h : ¬ x < L.length) : domOf (L.map rangesOf) [] x = [] := by
  unfold domOf
  simp [List.getD_eq_getElem?_getD, h]
structure RightS (L : List (List Int)) (ls : List Lit) : Prop where
  a : ∀ x, (domOf (L.map rangesOf) [] x).length ≤ 4
  b : ∀ x, x < L.length → domOf (L.map rangesOf) (denyT (L.map rangesOf) ls []).2 x ≠ [] → SmallD (domOf (L.map rangesOf) (denyT (L.map rangesOf) ls []).2 x) ∧ (domOf (L.map rangesOf) (denyT (L.map rangesOf) ls []).2 x).length ≤ 50 ∧
    1 ≤ sizeD (domOf (L.map rangesOf) (denyT (L.map rangesOf) ls []).2 x) ∧ sizeD (domOf (L.map rangesOf) (denyT (L.map rangesOf) ls []).2 x) ≤ 50
  c : (denyT (L.map rangesOf) ls []).1 = true → cdA (lotsOf (L.map rangesOf) (denyT (L.map rangesOf) ls []).2 L.length) (varsI L.length) [] = some (canA (leftL L ls))
  d : followsA (L.map rangesOf) ls L.length (canA (leftL L ls)) = ((leftL L ls).any (fun l => l.isEmpty) || !canA (leftL L ls))
theorem right_all {L : List (List Int)} {ls : List Lit} (hz : L.length ≤ 50) (hlow : ∀ l ∈ L, ∀ v ∈ l, 0 ≤ v ∧ v < 8) (hlen : ∀ l ∈ L, l.length ≤ 4) (hs : ∀ l ∈ L, l.Pairwise (· < ·)) (hx : ∀ l ∈ ls, l.x < L.length) : RightS L ls := by
  have hr : ∀ x, x < L.length → GoodD (rangesOf (lotAt L ((x : Nat) : Int))) ∧ numsD (rangesOf (lotAt L ((x : Nat) : Int))) = lotAt L ((x : Nat) : Int) := fun x h => ranges_good (hs _ (lotAt_mem h)) (hlow _ (lotAt_mem h))
  have J0 : Den L (L.map rangesOf) [] [] := fun x h => by
    rw [dom_start h]
    obtain ⟨g, e⟩ := hr x h
    refine ⟨g, fun v => ?_⟩
    rw [e]
    exact ⟨fun h => ⟨h, fun l hl => by cases hl⟩, fun h => h.1⟩
  obtain ⟨⟨done', Ja⟩, Jb, Jc⟩ := deny_all ls [] [] J0 hx
  rw [List.nil_append] at Jb Jc
  have hlo : LowL (leftL L ls) := by
    rw [left_range]
    intro l hl v hv
    obtain ⟨x, hx, rfl⟩ := List.mem_map.mp hl
    exact hlow _ (lotAt_mem (List.mem_range.mp hx)) v (mem_keep.mp hv).1
  have hll : (leftL L ls).length = L.length := by rw [left_range, List.length_map, List.length_range]
  generalize hT : denyT (L.map rangesOf) ls [] = R at *
  obtain ⟨r, T⟩ := R
  simp only at Ja Jb Jc
  have hempty : ∀ {d : Dom}, GoodD d → (numsD d = [] ↔ d = []) := fun {d} g => by
    constructor
    · intro e
      have := (size_nums g).2
      rw [e] at this
      exact List.length_eq_zero_iff.mp (by simpa using this)
    · intro e; rw [e]; rfl
  have hkeep : r = true → ∀ x, x < L.length → numsD (domOf (L.map rangesOf) T x) = keepL ls x (lotAt L ((x : Nat) : Int)) := fun hr' x h => by
    obtain ⟨g, m⟩ := Jb hr' x h
    refine sorted_ext (nums_sorted g) ((hs _ (lotAt_mem h)).filter _) fun v => ?_
    rw [m]; exact mem_keep.symm
  refine ⟨fun x => ?_, fun x h hne => ?_, fun h => ?_, ?_⟩
  · by_cases h : x < L.length
    · rw [dom_start h]
      have := (size_nums (hr x h).1).2
      rw [(hr x h).2] at this
      have := hlen _ (lotAt_mem h)
      omega
    · rw [dom_past h]; exact Nat.zero_le _
  · rw [hT] at hne ⊢
    obtain ⟨g, m⟩ := Ja x h
    obtain ⟨e1, e2⟩ := size_nums g
    have h4 : (numsD (domOf (L.map rangesOf) T x)).length ≤ 4 := Nat.le_trans (pigeon _ _ (nodup_lt (nums_sorted g)) fun v hv => ((m v).mp hv).1) (hlen _ (lotAt_mem h))
    have hne : domOf (L.map rangesOf) T x ≠ [] := hne
    have h1 : 1 ≤ (domOf (L.map rangesOf) T x).length := by
      have := List.length_pos_iff.mpr hne
      omega
    refine ⟨fun p hp => ?_, by show (domOf (L.map rangesOf) T x).length ≤ 50; omega, by show 1 ≤ sizeD (domOf (L.map rangesOf) T x); omega, by show sizeD (domOf (L.map rangesOf) T x) ≤ 50; omega⟩
    have := g.box p hp
    exact ⟨by omega, by omega, by omega, by omega, by omega⟩
  · rw [hT] at h ⊢
    have e : lotsOf (L.map rangesOf) T L.length = leftL L ls := by
      rw [left_range]
      unfold lotsOf
      exact List.map_congr_left fun x hx => hkeep h x (List.mem_range.mp hx)
    show cdA (lotsOf (L.map rangesOf) T L.length) _ _ = _
    rw [e, ← hll]
    exact (cd_right hlo (by omega)).1
  · unfold followsA
    rw [hT]
    cases r with
    | false =>
      obtain ⟨x, h, hv⟩ := Jc rfl
      have : (leftL L ls).any (fun l => l.isEmpty) = true := by
        rw [left_range, List.any_map, List.any_eq_true]
        refine ⟨x, List.mem_range.mpr h, ?_⟩
        show (keepL ls x _).isEmpty = true
        rw [List.isEmpty_iff]
        apply List.eq_nil_iff_forall_not_mem.mpr
        intro v hv'
        obtain ⟨a, b⟩ := mem_keep.mp hv'
        exact hv v a b
      rw [this]; rfl
    | true =>
      show (false || _ || _) = _
      rw [Bool.false_or]
      congr 1
      rw [left_range, List.any_map, List.any_map, Bool.eq_iff_iff, List.any_eq_true, List.any_eq_true]
      have key : ∀ x, x < L.length → ((domOf (L.map rangesOf) T x).isEmpty = true ↔ (keepL ls x (lotAt L ((x : Nat) : Int))).isEmpty = true) := fun x h => by
        rw [List.isEmpty_iff, List.isEmpty_iff, ← hkeep rfl x h]
        exact (hempty (Jb rfl x h).1).symm
      constructor
      · rintro ⟨x, hx, h⟩; exact ⟨x, hx, (key x (List.mem_range.mp hx)).mp h⟩
      · rintro ⟨x, hx, h⟩; exact ⟨x, hx, (key x (List.mem_range.mp hx)).mpr h⟩
end Mine
-- S16
namespace Mine
/-! ## lots drawn -/
theorem pick_from' (l : List V) (a : Nat) : pickV l (some (a : Int)) none none = l.drop a := by
  by_cases h : a ≤ l.length
  · exact pick_from l a h
  · have e : pickV l (some (a : Int)) none none = pickV l (some (l.length : Int)) none none := by
      unfold pickV
      have : sliceBounds (some (a : Int)) none none l.length = sliceBounds (some (l.length : Int)) none none l.length := by
        unfold sliceBounds
        have h0 : ¬ ((a : Int) < 0) := by omega
        have h1 : ¬ ((l.length : Int) < 0) := by omega
        simp only [Option.getD_none, h0, h1, if_false]
        simp; omega
      rw [this]
    rw [e, pick_from l l.length (Nat.le_refl _), List.drop_length, List.drop_eq_nil_of_le (by omega)]
theorem pick_to' (l : List V) (a : Nat) : pickV l none (some (a : Int)) none = l.take a := by
  by_cases h : a ≤ l.length
  · exact pick_to l a h
  · have e : pickV l none (some (a : Int)) none = pickV l none (some (l.length : Int)) none := by
      unfold pickV
      have : sliceBounds none (some (a : Int)) none l.length = sliceBounds none (some (l.length : Int)) none l.length := by
        unfold sliceBounds
        have h0 : ¬ ((a : Int) < 0) := by omega
        have h1 : ¬ ((l.length : Int) < 0) := by omega
        simp only [Option.getD_none, h0, h1, if_false]
        simp; omega
      rw [this]
    rw [e, pick_to l l.length (Nat.le_refl _), List.take_length, List.take_of_length_le (by omega)]
theorem drawn_bound (cells : List Int) (t : Nat) {many : Int} (h : 0 < many) : 0 ≤ drawn cells t many ∧ drawn cells t many < many := by
  unfold drawn
  split
  · exact ⟨Int.fmod_nonneg_of_pos _ h, Int.fmod_lt_of_pos _ h⟩
  · exact ⟨Int.fmod_nonneg_of_pos _ h, Int.fmod_lt_of_pos _ h⟩
noncomputable def drawsA (cells : List Int) (t n : Nat) (many : Int) : List Int := (List.range' t n).map fun i => drawn cells i many
theorem drawsA_len (cells : List Int) (t n : Nat) (many : Int) : (drawsA cells t n many).length = n := by unfold drawsA; rw [List.length_map, List.length_range']
theorem drawsA_bound (cells : List Int) (t n : Nat) {many : Int} (h : 0 < many) : ∀ v ∈ drawsA cells t n many, 0 ≤ v ∧ v < many := by
  intro v hv
  obtain ⟨i, _, rfl⟩ := List.mem_map.mp hv
  exact drawn_bound cells i h
/-- a comprehension that draws one number a turn -/
theorem loopB_draw {a : AF} {t : TF} {b : CB} (P : Rho → Prop) (M : Nat → List MO) (h : Nat → V) (Z B : Nat) : ∀ (items : List V) (i : Nat) (ρ : Rho) (acc : List V), P ρ → acc.length + items.length ≤ Z → i + items.length ≤ B →
    (∀ (x : V) (i : Nat) (ρ : Rho) (acc : List V), P ρ → i < B → acc.length ≤ Z → ∃ ρ1, (∀ rest, loopB a t b (x :: rest) ρ (M i) acc = loopB a t b rest ρ1 (M (i + 1)) (acc ++ [h i])) ∧ P ρ1) →
    ∃ ρ', loopB a t b items ρ (M i) acc = some (ρ', M (i + items.length), acc ++ (List.range' i items.length).map h) ∧ P ρ'
  | [], i, ρ, acc, hP, _, _, _ => ⟨ρ, by simp [loopB], hP⟩
  | x :: items, i, ρ, acc, hP, hz, hB, H => by
    rw [List.length_cons] at hz hB
    obtain ⟨ρ1, e1, h1⟩ := H x i ρ acc hP (by omega) (by omega)
    obtain ⟨ρ', e, h'⟩ := loopB_draw P M h Z B items (i + 1) ρ1 (acc ++ [h i]) h1 (by rw [List.length_append]; simp; omega) (by omega) H
    refine ⟨ρ', ?_, h'⟩
    rw [e1, e, List.length_cons, List.range'_succ, List.map_cons, List.append_assoc, List.singleton_append, show i + (items.length + 1) = i + 1 + items.length by omega]
theorem items_range {n : Nat} (h : n ≤ 1000) : itemsOf (.rng 0 (n : Int)) = some ((varsI n).map .int) := by
  have hv : rngInts 0 n = varsV n := rngInts0 n
  have s1 : smallI 0 = true := rfl
  have s2 : smallI (n : Int) = true := by rw [smallI_iff]; omega
  have : rngInts 0 ((n : Int) - 0).toNat = varsV n := by rw [← hv]; congr 1
  simp only [itemsOf, s1, s2, Bool.and_self, if_true]
  exact congrArg some this
theorem items_rangeI {i : Int} (h0 : 0 ≤ i) (h : i ≤ 1000) : itemsOf (.rng 0 i) = some ((varsI i.toNat).map .int) := by
  have := items_range (n := i.toNat) (by omega)
  rwa [Int.toNat_of_nonneg h0] at this
noncomputable def sizesL : List Int := [2, 2, 3, 1, 4, 2, 0]
noncomputable def szAt (i : Int) : Int := sizesL.getD i.toNat 0
theorem szAt_bound (i : Int) : 0 ≤ szAt i ∧ szAt i ≤ 4 := by
  unfold szAt
  by_cases h : i.toNat < 7
  · have : i.toNat = 0 ∨ i.toNat = 1 ∨ i.toNat = 2 ∨ i.toNat = 3 ∨ i.toNat = 4 ∨ i.toNat = 5 ∨ i.toNat = 6 := by omega
    rcases this with e | e | e | e | e | e | e <;> rw [e] <;> decide
  · rw [List.getD_eq_getElem?_getD, List.getElem?_eq_none (by show 7 ≤ i.toNat; omega)]; decide
theorem sz_item {i : Int} (h : 0 ≤ i ∧ i < 7) (m : List MO) : itemF (.tup [.int 2, .int 2, .int 3, .int 1, .int 4, .int 2, .int 0]) (.int i) m = some (.int (szAt i)) := by
  have : i = 0 ∨ i = 1 ∨ i = 2 ∨ i = 3 ∨ i = 4 ∨ i = 5 ∨ i = 6 := by omega
  rcases this with e | e | e | e | e | e | e <;> subst e <;> rfl
/-- one lot more -/
noncomputable def lotStep (cells : List Int) (σ : List (List Int) × Nat) (_ : Int) : List (List Int) × Nat :=
  (σ.1 ++ [drawsA cells (σ.2 + 1) (szAt (drawn cells σ.2 7)).toNat 7], σ.2 + 1 + (szAt (drawn cells σ.2 7)).toNat)
theorem neF_lots (L : List (List Int)) (m : List MO) : neF (lotsV L) (lotsV L) m = some (.bool false) := by
  have hd : ∀ L : List (List Int), toDs (L.map lotV) = some (L.map fun l => PyData.list (l.map PyData.int)) := fun L => by
    induction L with
    | nil => rw [List.map_nil, toDs]; rfl
    | cons l L ih => rw [List.map_cons, toDs, ih, lotV, toD, toDs_ints]; rfl
  have dp : ∀ l : List Int, PyData.depthAll (l.map PyData.int) ≤ 1 := fun l => by
    induction l with
    | nil => simp [PyData.depthAll]
    | cons a l ih => rw [List.map_cons, PyData.depthAll]; simp [PyData.depth]; omega
  have dp2 : ∀ L : List (List Int), PyData.depthAll (L.map fun l => PyData.list (l.map PyData.int)) ≤ 2 := fun L => by
    induction L with
    | nil => simp [PyData.depthAll]
    | cons l L ih => have := dp l; rw [List.map_cons, PyData.depthAll]; simp [PyData.depth]; omega
  have ly : ∀ L : List (List Int), PyData.canLayAll0 (L.map fun l => PyData.list (l.map PyData.int)) = true := fun L => by
    induction L with
    | nil => simp [PyData.canLayAll0]
    | cons l L ih => rw [List.map_cons, PyData.canLayAll0, ih]; simp [PyData.canLay0, layAll_ints]
  have eq1 : ∀ l : List Int, PyData.eqvAll (l.map PyData.int) (l.map PyData.int) = true := fun l => by
    induction l with
    | nil => simp [PyData.eqvAll]
    | cons a l ih => rw [List.map_cons]; simp [PyData.eqvAll, PyData.eqv, ih]
  have eq2 : ∀ L : List (List Int), PyData.eqvAll (L.map fun l => PyData.list (l.map PyData.int)) (L.map fun l => PyData.list (l.map PyData.int)) = true := fun L => by
    induction L with
    | nil => simp [PyData.eqvAll]
    | cons l L ih => rw [List.map_cons]; simp [PyData.eqvAll, PyData.eqv, ih, eq1]
  have h1 : dOf m (lotsV L) = some (.list (L.map fun l => PyData.list (l.map PyData.int))) := by simp [dOf, lstOf, lotsV, hd]
  have s1 : SeqAt.shaped (.list (L.map fun l => PyData.list (l.map PyData.int))) = true := by
    have := dp2 L
    simp [SeqAt.shaped, PyData.canLay0, ly, PyData.depth]; omega
  simp only [neF, eqvF, h1, Option.bind_some, s1, Bool.and_self, if_true, PyData.eqv, eq2]
  rfl
theorem clean_lots (L : List (List Int)) : clean 0 (lotsV L) = true := by
  unfold lotsV
  rw [clean]
  induction L with
  | nil => rw [List.map_nil, cleanL]
  | cons l L ih => rw [List.map_cons, cleanL, ih, clean_lot]; rfl
theorem clean_bin (cells : List Int) (t : Nat) : cleanO 0 (binO cells t) = true := by
  show cleanL 0 [lotV cells, .int t] = true
  rw [cleanL, clean_lot, cleanL, cleanL]; rfl
/-- the lots of a round -/
structure LotsI (σ : List (List Int) × Nat) (t k : Nat) : Prop where
  len : σ.1.length + k ≤ 6
  lot : ∀ l ∈ σ.1, l.length ≤ 4
  low : ∀ l ∈ σ.1, ∀ v ∈ l, 0 ≤ v ∧ v < 8
  turn : σ.2 + 5 * k ≤ t + 31
  up : t ≤ σ.2
theorem LotsI.step {cells : List Int} {σ : List (List Int) × Nat} {t k : Nat} (I : LotsI σ t (k + 1)) (x : Int) : LotsI (lotStep cells σ x) t k := by
  have hs := szAt_bound (drawn cells σ.2 7)
  have ht := I.turn
  have hl := I.len
  have hu := I.up
  refine ⟨?_, ?_, ?_, ?_, ?_⟩
  · show (σ.1 ++ [_]).length + k ≤ 6
    rw [List.length_append, List.length_singleton]; omega
  · intro l hl
    rcases List.mem_append.mp hl with q | q
    · exact I.lot l q
    · rw [List.mem_singleton.mp q, drawsA_len]; omega
  · intro l hl v hv
    rcases List.mem_append.mp hl with q | q
    · exact I.low l q v hv
    · rw [List.mem_singleton.mp q] at hv
      have := drawsA_bound cells _ _ (by decide) v hv
      omega
  · show σ.2 + 1 + _ + 5 * k ≤ t + 31
    omega
  · show t ≤ σ.2 + 1 + _
    omega
section
variable {w : World} {H : Heap} {mg mb : Str → Option Value}
abbrev ScoopS (f : CF) : Prop := ∀ (mem : List MO) (k : Nat) (cells : List Int) (t : Nat) (many : Int), mem[k]? = some (binO cells t) → 0 < many → many ≤ 100 → t ≤ 1000 → cells.length ≤ 1000 →
    f [.ref k, .int many] mem = some (.int (drawn cells t many), mem.set k (binO cells (t + 1)))
abbrev LawCanS (f : CF) : Prop := ∀ L mem, L.length ≤ 7 → (∀ l ∈ L, l.length ≤ 10) → f [lotsV L] mem = some (.bool (canA L), mem)
abbrev NewJudgeS (f : CF) : Prop := ∀ D k mem, f [D, k] mem = some (judgeV D k, mem)
theorem law_lots_right_ok (ok : (cx w H mg mb).Ok) {f1 f2 f3 f4 : CF} (h1 : CallOK (cx w H mg mb) 1 (.ref 380) f1) (s1 : ScoopS f1) (h2 : CallOK (cx w H mg mb) 1 (.ref 385) f2) (s2 : LawCanS f2) (h3 : CallOK (cx w H mg mb) 2 (.ref 369) f3) (s3 : NewJudgeS f3)
    (h4 : CallOK (cx w H mg mb) 2 (.ref 356) f4) (s4 : CanS f4) :
    ∃ f, CallOK (cx w H mg mb) 3 (.ref 404) f ∧ ∀ cells t, cells.length ≤ 1000 → t ≤ 900 → ∃ t', t' ≤ t + 40 ∧ f [.ref 0] [binO cells t] = some (.bool true, [binO cells t']) := by
  refine' ⟨_, CallOK.trim (CallOK.def2 (names := ["bin_of"]) ok rfl rfl ?d rfl rfl rfl rfl fun L => ?b), ?s⟩
  case d => (intro ws h; refine len1 h ?_; intros; rfl)
  case b => exact (ExOK.cons (StOK.assign (EvOK.newLst ok) (AsgOK.local rfl) rfl rfl rfl) (ExOK.cons (StOK.for (EvOK.call (bi_range ok rfl) (EvsOK.cons (EvOK.call (loadGlobal' ok rfl rfl rfl) (EvsOK.cons (loadCell rfl rfl) (EvsOK.cons EvOK.int EvsOK.nil rfl) rfl) rfl (KeepOK.fn ok rfl) (CallOK.up h1 (by decide)) rfl) EvsOK.nil rfl) rfl keepT rangeOK rfl) (AsgOK.local rfl) (ExOK.cons (StOK.expr (EvOK.meth (loadLocal rfl rfl) (EvsOK.cons (EvOK.comp rfl (EvOK.call (bi_range ok rfl) (EvsOK.cons (EvOK.sub (EvOK.tup (EvsOK.cons EvOK.int (EvsOK.cons EvOK.int (EvsOK.cons EvOK.int (EvsOK.cons EvOK.int (EvsOK.cons EvOK.int (EvsOK.cons EvOK.int (EvsOK.cons EvOK.int EvsOK.nil rfl) rfl) rfl) rfl) rfl) rfl) rfl)) (EvOK.call (loadGlobal' ok rfl rfl rfl) (EvsOK.cons (loadCell rfl rfl) (EvsOK.cons EvOK.int EvsOK.nil rfl) rfl) rfl (KeepOK.fn ok rfl) (CallOK.up h1 (by decide)) rfl) (fun _ _ => rfl)) EvsOK.nil rfl) rfl keepT rangeOK rfl) (fun _ => rfl) (CompSt.of rfl rfl rfl rfl rfl rfl (fun _ => rfl) (fun _ => rfl) rfl rfl) (fun _ => (LpOK.mk (fun _ _ => (turn1 _ _ _ _ _ _ _ _ _)) (AsgOK.local rfl) TsOK.nil (InOK.emit (EvOK.call (loadGlobal' ok rfl rfl rfl) (EvsOK.cons (loadCell rfl rfl) (EvsOK.cons EvOK.int EvsOK.nil rfl) rfl) rfl (KeepOK.fn ok rfl) (CallOK.up h1 (by decide)) rfl))))) EvsOK.nil rfl) rfl (MethOK.list PySem.F.slot_list_append rfl) keepB appendOK rfl rfl rfl) rfl rfl) ExOK.nil) (fun _ => rfl)) (ExOK.freeze "lots" (ExOK.cons (StOK.swap2 (EvOK.tup (EvsOK.cons (EvOK.call (loadGlobal' ok rfl rfl rfl) (EvsOK.cons (EvOK.lst EvsOK.nil) (EvsOK.cons EvOK.int EvsOK.nil rfl) rfl) rfl (KeepOK.fn ok rfl) (CallOK.up h3 (by decide)) rfl) (EvsOK.cons (EvOK.comp rfl (loadLocal rfl rfl) (fun _ => rfl) (CompSt.of rfl rfl rfl rfl rfl rfl (fun _ => rfl) (fun _ => rfl) rfl rfl) (fun _ => (LpOK.mk (fun _ _ => (turn1 _ _ _ _ _ _ _ _ _)) (AsgOK.local rfl) TsOK.nil (InOK.emit (EvOK.call (bi_list ok rfl) (EvsOK.cons (loadLocal rfl rfl) EvsOK.nil rfl) rfl keepT listCallOK rfl))))) (EvsOK.cons (EvOK.call (loadGlobal' ok rfl rfl rfl) (EvsOK.cons (loadLocal rfl rfl) EvsOK.nil rfl) rfl (KeepOK.fn ok rfl) (CallOK.up h2 (by decide)) rfl) EvsOK.nil rfl) rfl) rfl)) rfl rfl rfl) (ExOK.cons (StOK.ite (TeOK.or (TeOK.cmp (EvOK.meth (loadLocal rfl rfl) (EvsOK.cons (loadLocal rfl rfl) EvsOK.nil rfl) rfl (MethOK.inst (C := 369) ok rfl rfl rfl) (KeepOK.fn ok rfl) (CallOK.up h4 (by decide)) rfl rfl rfl) (loadLocal rfl rfl) isNotOK rfl) (TeOK.cmp (loadLocal rfl rfl) (loadLocal rfl rfl) neOK rfl)) (ExOK.cons (StOK.ret EvOK.bool) ExOK.nil) ExOK.nil) (ExOK.cons (StOK.assign (EvOK.call (loadGlobal' ok rfl rfl rfl) (EvsOK.cons (loadCell rfl rfl) (EvsOK.cons EvOK.int EvsOK.nil rfl) rfl) rfl (KeepOK.fn ok rfl) (CallOK.up h1 (by decide)) rfl) (AsgOK.local rfl) rfl rfl rfl) (ExOK.cons (StOK.assignComp rfl (EvOK.slice (EvOK.bin (EvOK.slice (loadLocal rfl rfl) (partSome (loadLocal rfl rfl)) partNone partNone (fun _ _ => ⟨_, rfl⟩)) (EvOK.slice (loadLocal rfl rfl) partNone (partSome (loadLocal rfl rfl)) partNone (fun _ _ => ⟨_, rfl⟩)) addOK) partNone partNone (partSome (EvOK.neg EvOK.int)) (fun _ _ => ⟨_, rfl⟩)) (fun _ => rfl) (CompSt.of rfl rfl rfl rfl rfl rfl (fun _ => rfl) (fun _ => rfl) rfl rfl) (fun _ => (LpOK.mk (fun _ _ => (turn1 _ _ _ _ _ _ _ _ _)) (AsgOK.local rfl) TsOK.nil (InOK.emit (EvOK.slice (loadLocal rfl rfl) partNone partNone (partSome (EvOK.neg EvOK.int)) (fun _ _ => ⟨_, rfl⟩))))) rfl (AsgOK.local rfl)) (ExOK.cons (StOK.ret (EvOK.cmp (EvOK.meth (loadLocal rfl rfl) (EvsOK.cons (loadLocal rfl rfl) EvsOK.nil rfl) rfl (MethOK.inst (C := 369) ok rfl rfl rfl) (KeepOK.fn ok rfl) (CallOK.up h4 (by decide)) rfl rfl rfl) (loadLocal rfl rfl) isOK rfl)) ExOK.nil))))))))
  case s =>
    intro cells t hc ht
    have sc : ∀ t o many, t ≤ 1000 → 0 < many → many ≤ 100 → f1 [.ref 0, .int many] (binO cells t :: o) = some (.int (drawn cells t many), binO cells (t + 1) :: o) := fun t o many h1 h2 h3 => s1 (binO cells t :: o) 0 cells t many rfl h2 h3 h1 hc
    suffices hs : ∃ t' j, t' ≤ t + 40 ∧ defX _ _ _ _ = some (.bool true, [binO cells t'] ++ j) by
      obtain ⟨t', j, ht', e⟩ := hs
      refine ⟨t', ht', trimC_of e rfl rfl ?_⟩
      show [binO cells t'].all (cleanO 0) = true
      rw [List.all_cons, clean_bin]; rfl
    have c1 := sc t [.lst []] 7 (by omega) (by decide) (by decide)
    have b1 := drawn_bound cells t (many := 7) (by decide)
    have r1 : ∀ m, rangeF [.int (drawn cells t 7)] m = some (.rng 0 (drawn cells t 7), m) := fun m => rfl
    have i1 := items_rangeI b1.1 (by omega)
    simp (config := { maxSteps := 3000000 }) (disch := first | assumption | decide | decide +kernel) only [sizeB, Nat.reduceAdd, Nat.reduceLeDiff, decide_true, decide_false, Bool.false_eq_true, if_false, if_true, ite_true, ite_false, reduceIte, Bool.not_true, Bool.not_false, Bool.and_true, Bool.true_and, Bool.and_self, decide_eq_true_eq, List.nil_append, List.cons_append, List.append_nil, List.singleton_append,
    defX, bindX, seqX, assignX, nameX, tupSt, asgCons, asgNil, nameSt, constX, retX, retN, exprX, brkX, tupX, lstX, consL, nilL, binX, callX, methX, subX, attrX, ifX, ifeX, notX, orX, andX, negX, cmpT, boolT, notT, andT, orT, swapX, tgtNames, subStX, newLstX, newDicX, forS, items_lst, items_tup, nilX,
    addF_int, subF_int, ltF_int, leF_int, gtF_int, geF_int, isF_bool, isF_nn, isF_in, isNotF_bool, Option.bind_some, Option.bind_none, upd_eq, upd_ne, List.length_cons, List.length_nil, List.filterMap_cons, List.filterMap_nil, List.reverse_cons, List.reverse_nil, eqF_s, eqF_sn, eqF_int, neF_int, eqF_bool, eqF_none_int, item_tup0, item_tup1, item_tup2, item_lst0, valAt_s, valAt_n, V.onInt_int, V.onBool_bool, V.onTup_tup, V.onLst_lst, V.onNone_none, onRef_ref, moL_lst, moI_dic, moS_dic, on1_one, on2_two, onCons_cons, onNil_nil, tupR, lstR, lenR, c1, r1, i1]
    generalize hρ : upd _ "lots" _ = ρ0
    generalize hW : forX _ _ _ ρ0 _ = W
    let R : Nat → (List (List Int) × Nat) → Rho → List MO → Prop := fun k σ ρ m => m = [binO cells σ.2, .lst (σ.1.map lotV)] ∧ ρ "lots" = some (.ref 1) ∧ ρ "bin_of" = some (.ref 0) ∧ LotsI σ t k
    have key : ∃ ρ' m', W = some (.next, ρ', m') ∧ R 0 ((varsI (drawn cells t 7).toNat).foldl (lotStep cells) ([], t + 1)) ρ' m' := by
      rw [← hW]
      refine forX_fold R (lotStep cells) V.int (varsI (drawn cells t 7).toNat) ([], t + 1) ρ0 _ ⟨rfl, by rw [← hρ]; rfl, by rw [← hρ]; rfl, ?_⟩ ?_
      · rw [varsI_len]
        exact ⟨by simp; omega, fun l h => (by cases h), fun l h => (by cases h), by simp; omega, by simp⟩
      · rintro k ⟨L, u⟩ x ρ m ⟨rfl, hr, hb, I⟩ _
        have iT := I.turn
        have iL := I.len
        have iU := I.up
        simp only at iT iL iU hr hb ⊢
        have hz2 : (L.map lotV).length ≤ 5000 := by rw [List.length_map]; omega
        have c2 := sc u [.lst (L.map lotV)] 7 (by omega) (by decide) (by decide)
        have b2 := drawn_bound cells u (many := 7) (by decide)
        have si := sz_item b2
        have zb := szAt_bound (drawn cells u 7)
        have hstep : lotStep cells (L, u) x = (L ++ [drawsA cells (u + 1) (szAt (drawn cells u 7)).toNat 7], u + 1 + (szAt (drawn cells u 7)).toNat) := rfl
        have hI := I.step (cells := cells) x
        rw [hstep] at hI ⊢
        generalize szAt (drawn cells u 7) = z at *
        have r2 : ∀ m, rangeF [.int z] m = some (.rng 0 z, m) := fun m => rfl
        have i2 := items_rangeI zb.1 (by omega)
        have ap : ∀ v u', appendF [.ref 1, v] [binO cells u', .lst (L.map lotV)] = some (.none, [binO cells u', .lst (L.map lotV ++ [v])]) := fun v u' => append_ref (k := 1) rfl hz2 v
        have il : ∀ u', isLst (.ref 1) [binO cells u', .lst (L.map lotV)] = true := fun u' => rfl
        refine ⟨upd ρ "lap" (.int x), [binO cells (u + 1 + z.toNat), .lst ((L ++ [drawsA cells (u + 1) z.toNat 7]).map lotV)], fun rest => ?_, rfl, by rw [upd_ne (by decide)]; exact hr, by rw [upd_ne (by decide)]; exact hb, hI⟩
        rw [forX]
        simp (config := { maxSteps := 3000000 }) (disch := first | assumption | decide | decide +kernel) only [sizeB, Nat.reduceAdd, Nat.reduceLeDiff, decide_true, decide_false, Bool.false_eq_true, if_false, if_true, ite_true, ite_false, reduceIte, Bool.not_true, Bool.not_false, Bool.and_true, Bool.true_and, Bool.and_self, decide_eq_true_eq, List.nil_append, List.cons_append, List.append_nil, List.singleton_append,
    defX, bindX, seqX, assignX, nameX, tupSt, asgCons, asgNil, nameSt, constX, retX, retN, exprX, brkX, tupX, lstX, consL, nilL, binX, callX, methX, subX, attrX, ifX, ifeX, notX, orX, andX, negX, cmpT, boolT, notT, andT, orT, swapX, tgtNames, subStX, newLstX, newDicX, forS, items_lst, items_tup, nilX,
    addF_int, subF_int, ltF_int, leF_int, gtF_int, geF_int, isF_bool, isF_nn, isF_in, isNotF_bool, Option.bind_some, Option.bind_none, upd_eq, upd_ne, List.length_cons, List.length_nil, List.filterMap_cons, List.filterMap_nil, List.reverse_cons, List.reverse_nil, eqF_s, eqF_sn, eqF_int, neF_int, eqF_bool, eqF_none_int, item_tup0, item_tup1, item_tup2, item_lst0, valAt_s, valAt_n, V.onInt_int, V.onBool_bool, V.onTup_tup, V.onLst_lst, V.onNone_none, onRef_ref, moL_lst, moI_dic, moS_dic, on1_one, on2_two, onCons_cons, onNil_nil, tupR, lstR, lenR, hr, hb, c2, si, r2, i2, compX, il]
        generalize hρ2 : capX _ _ = ρ2
        have h2 : ρ2 "bin_of" = some (.ref 0) := by rw [← hρ2]; exact (if_pos (by decide)).trans ((upd_ne (by decide)).trans hb)
        generalize hW2 : loopB _ _ _ _ ρ2 _ _ = W2
        have key2 : ∃ ρ', W2 = some (ρ', [binO cells (u + 1 + z.toNat), .lst (L.map lotV)], (drawsA cells (u + 1) z.toNat 7).map .int) ∧ ρ' "bin_of" = some (.ref 0) := by
          rw [← hW2]
          have := loopB_draw (a := nameSt "k") (t := trueT) (b := emitB (callX f1 (consL (nameX "bin_of") (consL (constX (V.int 7)) nilL)))) (fun ρ => ρ "bin_of" = some (.ref 0)) (fun i => [binO cells i, .lst (L.map lotV)]) (fun i => .int (drawn cells i 7)) 1000 1000 ((varsI z.toNat).map .int) (u + 1) ρ2 [] h2 (by rw [List.length_map, varsI_len]; simp; omega) (by rw [List.length_map, varsI_len]; omega) ?_
          · rw [List.length_map, varsI_len, List.nil_append] at this
            have e : (drawsA cells (u + 1) z.toNat 7).map V.int = (List.range' (u + 1) z.toNat).map fun i => V.int (drawn cells i 7) := by unfold drawsA; rw [List.map_map]; rfl
            rw [e]; exact this
          · intro x i ρ acc hr hi hz
            have hz1 : acc.length ≤ 100000 := by omega
            have c3 := sc i [.lst (L.map lotV)] 7 (by omega) (by decide) (by decide)
            refine ⟨upd ρ "k" x, fun rest => ?_, by rw [upd_ne (by decide)]; exact hr⟩
            rw [loopB]
            simp (config := { maxSteps := 3000000 }) (disch := first | assumption | decide | decide +kernel) only [sizeB, Nat.reduceAdd, Nat.reduceLeDiff, decide_true, decide_false, Bool.false_eq_true, if_false, if_true, ite_true, ite_false, reduceIte, Bool.not_true, Bool.not_false, Bool.and_true, Bool.true_and, Bool.and_self, decide_eq_true_eq, List.nil_append, List.cons_append, List.append_nil, List.singleton_append,
    defX, bindX, seqX, assignX, nameX, tupSt, asgCons, asgNil, nameSt, constX, retX, retN, exprX, brkX, tupX, lstX, consL, nilL, binX, callX, methX, subX, attrX, ifX, ifeX, notX, orX, andX, negX, cmpT, boolT, notT, andT, orT, swapX, tgtNames, subStX, newLstX, newDicX, forS, items_lst, items_tup, nilX,
    addF_int, subF_int, ltF_int, leF_int, gtF_int, geF_int, isF_bool, isF_nn, isF_in, isNotF_bool, Option.bind_some, Option.bind_none, upd_eq, upd_ne, List.length_cons, List.length_nil, List.filterMap_cons, List.filterMap_nil, List.reverse_cons, List.reverse_nil, eqF_s, eqF_sn, eqF_int, neF_int, eqF_bool, eqF_none_int, item_tup0, item_tup1, item_tup2, item_lst0, valAt_s, valAt_n, V.onInt_int, V.onBool_bool, V.onTup_tup, V.onLst_lst, V.onNone_none, onRef_ref, moL_lst, moI_dic, moS_dic, on1_one, on2_two, onCons_cons, onNil_nil, tupR, lstR, lenR, hr, c3, emitB, trueT, hz1]
        obtain ⟨ρ', e, _⟩ := key2
        subst e
        have el : V.lst ((drawsA cells (u + 1) z.toNat 7).map .int) = lotV (drawsA cells (u + 1) z.toNat 7) := rfl
        simp (config := { maxSteps := 3000000 }) (disch := first | assumption | decide | decide +kernel) only [sizeB, Nat.reduceAdd, Nat.reduceLeDiff, decide_true, decide_false, Bool.false_eq_true, if_false, if_true, ite_true, ite_false, reduceIte, Bool.not_true, Bool.not_false, Bool.and_true, Bool.true_and, Bool.and_self, decide_eq_true_eq, List.nil_append, List.cons_append, List.append_nil, List.singleton_append,
    defX, bindX, seqX, assignX, nameX, tupSt, asgCons, asgNil, nameSt, constX, retX, retN, exprX, brkX, tupX, lstX, consL, nilL, binX, callX, methX, subX, attrX, ifX, ifeX, notX, orX, andX, negX, cmpT, boolT, notT, andT, orT, swapX, tgtNames, subStX, newLstX, newDicX, forS, items_lst, items_tup, nilX,
    addF_int, subF_int, ltF_int, leF_int, gtF_int, geF_int, isF_bool, isF_nn, isF_in, isNotF_bool, Option.bind_some, Option.bind_none, upd_eq, upd_ne, List.length_cons, List.length_nil, List.filterMap_cons, List.filterMap_nil, List.reverse_cons, List.reverse_nil, eqF_s, eqF_sn, eqF_int, neF_int, eqF_bool, eqF_none_int, item_tup0, item_tup1, item_tup2, item_lst0, valAt_s, valAt_n, V.onInt_int, V.onBool_bool, V.onTup_tup, V.onLst_lst, V.onNone_none, onRef_ref, moL_lst, moI_dic, moS_dic, on1_one, on2_two, onCons_cons, onNil_nil, tupR, lstR, lenR, hr, ap, il, el]
        rw [List.map_append]; rfl
    obtain ⟨ρ', m', e, rfl, hr, hb, I⟩ := key
    subst e
    generalize (varsI (drawn cells t 7).toNat).foldl (lotStep cells) ([], t + 1) = σ at *
    obtain ⟨L, u⟩ := σ
    have iT := I.turn
    have iL := I.len
    have iU := I.up
    have hlot := I.lot
    have hlow := I.low
    simp only at iT iL iU hlot hlow
    have g : [binO cells u, MO.lst (L.map lotV)][1]? = some (.lst (L.map lotV)) := rfl
    have st : [binO cells u, MO.lst (L.map lotV)].set 1 .dead = [binO cells u, .dead] := rfl
    simp (config := { maxSteps := 3000000 }) (disch := first | assumption | decide | decide +kernel) only [sizeB, Nat.reduceAdd, Nat.reduceLeDiff, decide_true, decide_false, Bool.false_eq_true, if_false, if_true, ite_true, ite_false, reduceIte, Bool.not_true, Bool.not_false, Bool.and_true, Bool.true_and, Bool.and_self, decide_eq_true_eq, List.nil_append, List.cons_append, List.append_nil, List.singleton_append,
    defX, bindX, seqX, assignX, nameX, tupSt, asgCons, asgNil, nameSt, constX, retX, retN, exprX, brkX, tupX, lstX, consL, nilL, binX, callX, methX, subX, attrX, ifX, ifeX, notX, orX, andX, negX, cmpT, boolT, notT, andT, orT, swapX, tgtNames, subStX, newLstX, newDicX, forS, items_lst, items_tup, nilX,
    addF_int, subF_int, ltF_int, leF_int, gtF_int, geF_int, isF_bool, isF_nn, isF_in, isNotF_bool, Option.bind_some, Option.bind_none, upd_eq, upd_ne, List.length_cons, List.length_nil, List.filterMap_cons, List.filterMap_nil, List.reverse_cons, List.reverse_nil, eqF_s, eqF_sn, eqF_int, neF_int, eqF_bool, eqF_none_int, item_tup0, item_tup1, item_tup2, item_lst0, valAt_s, valAt_n, V.onInt_int, V.onBool_bool, V.onTup_tup, V.onLst_lst, V.onNone_none, onRef_ref, moL_lst, moI_dic, moS_dic, on1_one, on2_two, onCons_cons, onNil_nil, tupR, lstR, lenR, hr, frzX, g, st, s3, compX]
    clear hW
    generalize hρ2 : capX _ _ = ρ2
    generalize hW : loopB _ _ _ _ ρ2 _ _ = W
    have key : ∃ ρ', W = some (ρ', [binO cells u, .dead], L.map lotV) ∧ True := by
      rw [← hW]
      refine loopB_map (fun _ => True) [binO cells u, .dead] lotV lotV 1000 L ρ2 trivial (by omega) ?_
      intro l ρ acc _ hl hz
      have hl4 := hlot l hl
      have hz1 : acc.length ≤ 100000 := by omega
      have lc : ∀ m, listCallF [lotV l] m = some (lotV l, m) := fun m => by
        have : (l.map V.int).length ≤ sizeB := by rw [List.length_map]; exact Nat.le_trans hl4 (by decide)
        exact if_pos this
      refine ⟨upd ρ "lot" (lotV l), fun rest => ?_, trivial⟩
      rw [loopB]
      simp (config := { maxSteps := 3000000 }) (disch := first | assumption | decide | decide +kernel) only [sizeB, Nat.reduceAdd, Nat.reduceLeDiff, decide_true, decide_false, Bool.false_eq_true, if_false, if_true, ite_true, ite_false, reduceIte, Bool.not_true, Bool.not_false, Bool.and_true, Bool.true_and, Bool.and_self, decide_eq_true_eq, List.nil_append, List.cons_append, List.append_nil, List.singleton_append,
    defX, bindX, seqX, assignX, nameX, tupSt, asgCons, asgNil, nameSt, constX, retX, retN, exprX, brkX, tupX, lstX, consL, nilL, binX, callX, methX, subX, attrX, ifX, ifeX, notX, orX, andX, negX, cmpT, boolT, notT, andT, orT, swapX, tgtNames, subStX, newLstX, newDicX, forS, items_lst, items_tup, nilX,
    addF_int, subF_int, ltF_int, leF_int, gtF_int, geF_int, isF_bool, isF_nn, isF_in, isNotF_bool, Option.bind_some, Option.bind_none, upd_eq, upd_ne, List.length_cons, List.length_nil, List.filterMap_cons, List.filterMap_nil, List.reverse_cons, List.reverse_nil, eqF_s, eqF_sn, eqF_int, neF_int, eqF_bool, eqF_none_int, item_tup0, item_tup1, item_tup2, item_lst0, valAt_s, valAt_n, V.onInt_int, V.onBool_bool, V.onTup_tup, V.onLst_lst, V.onNone_none, onRef_ref, moL_lst, moI_dic, moS_dic, on1_one, on2_two, onCons_cons, onNil_nil, tupR, lstR, lenR, lc, emitB, trueT, hz1]
    obtain ⟨ρ3, e, _⟩ := key
    subst e
    have lowL : LowL L := hlow
    have e2 : ∀ m, f2 [.lst (L.map lotV)] m = some (.bool (canA L), m) := fun m => s2 L m (by omega) fun l hl => by have := hlot l hl; omega
    have cr := cd_right lowL (by omega)
    have hFM : FlatM [binO cells u, .dead] := by
      show [binO cells u, .dead].all (cleanO 0) = true
      rw [List.all_cons, clean_bin]; rfl
    have e4 : f4 [judgeV (.lst []) (.int 0), .lst (L.map lotV)] [binO cells u, .dead] = some (.bool (canA L), [binO cells u, .dead]) := s4 (.lst []) (.int 0) L (canA L) _ (by omega) cr.1 hFM
    have hnn : (canA L != canA L) = false := by cases canA L <;> rfl
    have hne : ∀ m, neF (.lst (L.map lotV)) (.lst (L.map lotV)) m = some (.bool false) := fun m => neF_lots L m
    have c5 := sc u [.dead] 5 (by omega) (by decide) (by decide)
    have b5 := drawn_bound cells u (many := 5) (by decide)
    generalize drawn cells u 5 = d at *
    have hd : ((d.toNat : Nat) : Int) = d := Int.toNat_of_nonneg b5.1
    have pk1 : pickV (L.map lotV) (some d) none none = (L.drop d.toNat).map lotV := by rw [← hd, pick_from', List.map_drop, hd]
    have pk2 : pickV (L.map lotV) none (some d) none = (L.take d.toNat).map lotV := by rw [← hd, pick_to', List.map_take, hd]
    have had : ∀ m, addF (.lst ((L.drop d.toNat).map lotV)) (.lst ((L.take d.toNat).map lotV)) m = some (.lst ((L.drop d.toNat ++ L.take d.toNat).map lotV)) := fun m => by
      rw [addF_lst (by simp; omega), List.map_append]
    have pk3 : pickV ((L.drop d.toNat ++ L.take d.toNat).map lotV) none none (some (-1)) = ((L.drop d.toNat ++ L.take d.toNat).reverse).map lotV := by rw [pick_rev, List.map_reverse]
    have hz3 : (L.map lotV).length ≤ 100000 := by rw [List.length_map]; omega
    have hz4 : ((L.drop d.toNat ++ L.take d.toNat).map lotV).length ≤ 100000 := by simp; omega
    have q1 : ((none : Option Int) ≠ some 0) = True := by simp
    have q2 : ((some (-1) : Option Int) ≠ some 0) = True := by simp
    simp (config := { maxSteps := 3000000 }) (disch := first | assumption | decide | decide +kernel) only [sizeB, Nat.reduceAdd, Nat.reduceLeDiff, decide_true, decide_false, Bool.false_eq_true, if_false, if_true, ite_true, ite_false, reduceIte, Bool.not_true, Bool.not_false, Bool.and_true, Bool.true_and, Bool.and_self, decide_eq_true_eq, List.nil_append, List.cons_append, List.append_nil, List.singleton_append,
    defX, bindX, seqX, assignX, nameX, tupSt, asgCons, asgNil, nameSt, constX, retX, retN, exprX, brkX, tupX, lstX, consL, nilL, binX, callX, methX, subX, attrX, ifX, ifeX, notX, orX, andX, negX, cmpT, boolT, notT, andT, orT, swapX, tgtNames, subStX, newLstX, newDicX, forS, items_lst, items_tup, nilX,
    addF_int, subF_int, ltF_int, leF_int, gtF_int, geF_int, isF_bool, isF_nn, isF_in, isNotF_bool, Option.bind_some, Option.bind_none, upd_eq, upd_ne, List.length_cons, List.length_nil, List.filterMap_cons, List.filterMap_nil, List.reverse_cons, List.reverse_nil, eqF_s, eqF_sn, eqF_int, neF_int, eqF_bool, eqF_none_int, item_tup0, item_tup1, item_tup2, item_lst0, valAt_s, valAt_n, V.onInt_int, V.onBool_bool, V.onTup_tup, V.onLst_lst, V.onNone_none, onRef_ref, moL_lst, moI_dic, moS_dic, on1_one, on2_two, onCons_cons, onNil_nil, tupR, lstR, lenR, hb, e2, e4, inst_judge, hnn, hne, c5, compX, sliceX, partX, pk1, pk2, pk3, had, hz3, hz4, q1, q2, and_true]
    clear hW
    generalize hρ2 : capX _ _ = ρ2
    generalize hW : loopB _ _ _ _ ρ2 _ _ = W
    have key : ∃ ρ', W = some (ρ', [binO cells (u + 1), .dead], (L.drop d.toNat ++ L.take d.toNat).reverse.map fun l => lotV l.reverse) ∧ True := by
      rw [← hW]
      refine loopB_map (fun _ => True) [binO cells (u + 1), .dead] lotV (fun l => lotV l.reverse) 1000 (L.drop d.toNat ++ L.take d.toNat).reverse ρ2 trivial (by simp; omega) ?_
      intro l ρ acc _ hl hz
      have hl4 := hlot l ((other_perm L d.toNat).mem_iff.mp hl)
      have hz1 : acc.length ≤ 100000 := by omega
      have hz5 : (l.map V.int).length ≤ 100000 := by rw [List.length_map]; omega
      have pk : pickV (l.map V.int) none none (some (-1)) = l.reverse.map V.int := by rw [pick_rev, List.map_reverse]
      refine ⟨upd ρ "lot" (lotV l), fun rest => ?_, trivial⟩
      rw [loopB]
      simp (config := { maxSteps := 3000000 }) (disch := first | assumption | decide | decide +kernel) only [sizeB, Nat.reduceAdd, Nat.reduceLeDiff, decide_true, decide_false, Bool.false_eq_true, if_false, if_true, ite_true, ite_false, reduceIte, Bool.not_true, Bool.not_false, Bool.and_true, Bool.true_and, Bool.and_self, decide_eq_true_eq, List.nil_append, List.cons_append, List.append_nil, List.singleton_append,
    defX, bindX, seqX, assignX, nameX, tupSt, asgCons, asgNil, nameSt, constX, retX, retN, exprX, brkX, tupX, lstX, consL, nilL, binX, callX, methX, subX, attrX, ifX, ifeX, notX, orX, andX, negX, cmpT, boolT, notT, andT, orT, swapX, tgtNames, subStX, newLstX, newDicX, forS, items_lst, items_tup, nilX,
    addF_int, subF_int, ltF_int, leF_int, gtF_int, geF_int, isF_bool, isF_nn, isF_in, isNotF_bool, Option.bind_some, Option.bind_none, upd_eq, upd_ne, List.length_cons, List.length_nil, List.filterMap_cons, List.filterMap_nil, List.reverse_cons, List.reverse_nil, eqF_s, eqF_sn, eqF_int, neF_int, eqF_bool, eqF_none_int, item_tup0, item_tup1, item_tup2, item_lst0, valAt_s, valAt_n, V.onInt_int, V.onBool_bool, V.onTup_tup, V.onLst_lst, V.onNone_none, onRef_ref, moL_lst, moI_dic, moS_dic, on1_one, on2_two, onCons_cons, onNil_nil, tupR, lstR, lenR, emitB, trueT, hz1, lotV, sliceX, partX, pk, hz5, q2, and_true]
    obtain ⟨ρ4, e, _⟩ := key
    subst e
    have el : V.lst ((L.drop d.toNat ++ L.take d.toNat).reverse.map fun l => lotV l.reverse) = lotsV (otherL L d.toNat) := by
      unfold lotsV otherL; rw [List.map_map]; rfl
    have lowO := other_low lowL d.toNat
    have cr2 := cd_right lowO (by rw [other_len]; omega)
    have hFM2 : FlatM [binO cells (u + 1), .dead] := by
      show [binO cells (u + 1), .dead].all (cleanO 0) = true
      rw [List.all_cons, clean_bin]; rfl
    have e6 : f4 [judgeV (.lst []) (.int 0), lotsV (otherL L d.toNat)] [binO cells (u + 1), .dead] = some (.bool (canA (otherL L d.toNat)), [binO cells (u + 1), .dead]) := s4 (.lst []) (.int 0) _ _ _ (by rw [other_len]; omega) cr2.1 hFM2
    rw [can_other lowL (by omega)] at e6
    have hnn2 : (canA L == canA L) = true := by cases canA L <;> rfl
    simp (config := { maxSteps := 3000000 }) (disch := first | assumption | decide | decide +kernel) only [sizeB, Nat.reduceAdd, Nat.reduceLeDiff, decide_true, decide_false, Bool.false_eq_true, if_false, if_true, ite_true, ite_false, reduceIte, Bool.not_true, Bool.not_false, Bool.and_true, Bool.true_and, Bool.and_self, decide_eq_true_eq, List.nil_append, List.cons_append, List.append_nil, List.singleton_append,
    defX, bindX, seqX, assignX, nameX, tupSt, asgCons, asgNil, nameSt, constX, retX, retN, exprX, brkX, tupX, lstX, consL, nilL, binX, callX, methX, subX, attrX, ifX, ifeX, notX, orX, andX, negX, cmpT, boolT, notT, andT, orT, swapX, tgtNames, subStX, newLstX, newDicX, forS, items_lst, items_tup, nilX,
    addF_int, subF_int, ltF_int, leF_int, gtF_int, geF_int, isF_bool, isF_nn, isF_in, isNotF_bool, Option.bind_some, Option.bind_none, upd_eq, upd_ne, List.length_cons, List.length_nil, List.filterMap_cons, List.filterMap_nil, List.reverse_cons, List.reverse_nil, eqF_s, eqF_sn, eqF_int, neF_int, eqF_bool, eqF_none_int, item_tup0, item_tup1, item_tup2, item_lst0, valAt_s, valAt_n, V.onInt_int, V.onBool_bool, V.onTup_tup, V.onLst_lst, V.onNone_none, onRef_ref, moL_lst, moI_dic, moS_dic, on1_one, on2_two, onCons_cons, onNil_nil, tupR, lstR, lenR, hb, el, e6, inst_judge, hnn2]
    exact ⟨u + 1, [.dead], by omega, rfl⟩
end
end Mine
-- S17
namespace Mine
/-! ## what follows, drawn -/
noncomputable def lotF (cells : List Int) (u : Nat) : List Int := sortI (dedI (drawsA cells (u + 1) (1 + drawn cells u 4).toNat 6))
noncomputable def fstStep (cells : List Int) (σ : List (List Int) × Nat) (_ : Int) : List (List Int) × Nat := (σ.1 ++ [lotF cells σ.2], σ.2 + 1 + (1 + drawn cells σ.2 4).toNat)
theorem sort_mem {l : List Int} {v : Int} : v ∈ sortI l ↔ v ∈ l := (List.mergeSort_perm l _).mem_iff
theorem sort_lt {l : List Int} (h : l.Nodup) : (sortI l).Pairwise (· < ·) := by
  have h1 : (sortI l).Pairwise (· ≤ ·) := by
    have := List.pairwise_mergeSort (le := fun a b : Int => decide (a ≤ b)) (fun a b c h1 h2 => decide_eq_true (Int.le_trans (of_decide_eq_true h1) (of_decide_eq_true h2))) (fun a b => by
      rcases Int.le_total a b with h | h
      · simp [h]
      · simp [h]) l
    exact this.imp fun h => of_decide_eq_true h
  have h2 : (sortI l).Nodup := (List.mergeSort_perm l _).nodup_iff.mpr h
  exact (h1.and h2).imp fun h => by omega
theorem lotF_len (cells : List Int) (u : Nat) : (lotF cells u).length ≤ 4 := by
  have b := drawn_bound cells u (many := 4) (by decide)
  unfold lotF
  rw [sortI_len]
  refine Nat.le_trans (dedI_len_le _) ?_
  rw [drawsA_len]; omega
theorem lotF_low (cells : List Int) (u : Nat) : ∀ v ∈ lotF cells u, 0 ≤ v ∧ v < 8 := by
  intro v hv
  have := drawsA_bound cells _ _ (by decide) v (mem_dedI.mp (sort_mem.mp hv))
  omega
theorem lotF_sorted (cells : List Int) (u : Nat) : (lotF cells u).Pairwise (· < ·) := sort_lt (dedI_nodup _)
theorem small_draws (cells : List Int) (u : Nat) : smallL (dedI (drawsA cells (u + 1) (1 + drawn cells u 4).toNat 6)) = true := by
  have b := drawn_bound cells u (many := 4) (by decide)
  unfold smallL
  rw [Bool.and_eq_true]
  constructor
  · rw [List.all_eq_true]
    intro v hv
    have := drawsA_bound cells _ _ (by decide) v (mem_dedI.mp hv)
    rw [Bool.and_eq_true]
    exact ⟨decide_eq_true (by omega), decide_eq_true (by omega)⟩
  · apply decide_eq_true
    refine Nat.le_trans (dedI_len_le _) ?_
    rw [drawsA_len]; omega
structure FstI (σ : List (List Int) × Nat) (n t k : Nat) : Prop where
  len : σ.1.length + k = n
  lot : ∀ l ∈ σ.1, l.length ≤ 4
  low : ∀ l ∈ σ.1, ∀ v ∈ l, 0 ≤ v ∧ v < 8
  inc : ∀ l ∈ σ.1, l.Pairwise (· < ·)
  turn : σ.2 + 5 * k ≤ t + 26
theorem FstI.step {cells : List Int} {σ : List (List Int) × Nat} {n t k : Nat} (I : FstI σ n t (k + 1)) (x : Int) : FstI (fstStep cells σ x) n t k := by
  have b := drawn_bound cells σ.2 (many := 4) (by decide)
  have ht := I.turn
  have hl := I.len
  refine ⟨?_, ?_, ?_, ?_, ?_⟩
  · show (σ.1 ++ [_]).length + k = n
    rw [List.length_append, List.length_singleton]; omega
  · intro l hl
    rcases List.mem_append.mp hl with q | q
    · exact I.lot l q
    · rw [List.mem_singleton.mp q]; exact lotF_len cells _
  · intro l hl
    rcases List.mem_append.mp hl with q | q
    · exact I.low l q
    · rw [List.mem_singleton.mp q]; exact lotF_low cells _
  · intro l hl
    rcases List.mem_append.mp hl with q | q
    · exact I.inc l q
    · rw [List.mem_singleton.mp q]; exact lotF_sorted cells _
  · show σ.2 + 1 + _ + 5 * k ≤ t + 26
    omega
noncomputable def sgOf (i : Int) : Sg := if i = 0 then .le else if i = 1 then .ge else if i = 2 then .eq else .ne
theorem sg_item {i : Int} (h : 0 ≤ i ∧ i < 4) (m : List MO) : itemF (.tup [.str "<=", .str ">=", .str "=", .str "!="]) (.int i) m = some (.str (sgOf i).str) := by
  have : i = 0 ∨ i = 1 ∨ i = 2 ∨ i = 3 := by omega
  rcases this with e | e | e | e <;> subst e <;> rfl
noncomputable def litA (cells : List Int) (u n : Nat) : Lit := ⟨(drawn cells u n).toNat, sgOf (drawn cells (u + 1) 4), drawn cells (u + 2) 6⟩
noncomputable def litStep (cells : List Int) (n : Nat) (σ : List Lit × Nat) (_ : Int) : List Lit × Nat := (σ.1 ++ [litA cells σ.2 n], σ.2 + 3)
structure LitI (σ : List Lit × Nat) (n u k : Nat) : Prop where
  len : σ.1.length + k ≤ 2
  x : ∀ l ∈ σ.1, l.x < n
  turn : σ.2 + 3 * k ≤ u + 7
theorem LitI.step {cells : List Int} {σ : List Lit × Nat} {n u k : Nat} (hn : 0 < n) (I : LitI σ n u (k + 1)) (x : Int) : LitI (litStep cells n σ x) n u k := by
  have ht := I.turn
  have hl := I.len
  refine ⟨?_, ?_, ?_⟩
  · show (σ.1 ++ [_]).length + k ≤ 2
    rw [List.length_append, List.length_singleton]; omega
  · intro l hl
    rcases List.mem_append.mp hl with q | q
    · exact I.x l q
    · rw [List.mem_singleton.mp q]
      have b := drawn_bound cells σ.2 (many := (n : Int)) (by omega)
      show (drawn cells σ.2 n).toNat < n
      omega
  · show σ.2 + 3 + 3 * k ≤ u + 7
    omega
theorem numFrom_zip : ∀ (L : List (List Int)) (i : Nat), numFrom i (L.map lotV) = (L.zipIdx i).map fun p => V.tup [.int (p.2 : Nat), lotV p.1]
  | [], i => rfl
  | l :: L, i => by rw [List.map_cons, numFrom, numFrom_zip L (i + 1), List.zipIdx_cons, List.map_cons]
noncomputable def litD (l : Lit) : PyData := .tuple [.int l.x, .str l.s.str, .int l.k]
theorem eq_lits (ls : List Lit) (m : List MO) : eqF (.lst (ls.map litV)) (.lst []) m = some (.bool ls.isEmpty) := by
  have hd : ∀ ls : List Lit, toDs (ls.map litV) = some (ls.map litD) := fun ls => by
    induction ls with
    | nil => rw [List.map_nil, toDs]; rfl
    | cons l ls ih => rw [List.map_cons, toDs, ih, litV, toD, toDs, toDs, toDs, toD, toD, toD, toDs]; rfl
  have ho : ∀ l : Lit, PyData.strOk l.s.str = true := fun l => by cases l.s <;> decide +kernel
  have ly : ∀ ls : List Lit, PyData.canLayAll0 (ls.map litD) = true := fun ls => by
    induction ls with
    | nil => simp [PyData.canLayAll0]
    | cons l ls ih => rw [List.map_cons, PyData.canLayAll0, ih]; simp [litD, PyData.canLay0, PyData.canLayAll0, ho]
  have dp : ∀ ls : List Lit, PyData.depthAll (ls.map litD) ≤ 2 := fun ls => by
    induction ls with
    | nil => simp [PyData.depthAll]
    | cons l ls ih =>
      rw [List.map_cons, PyData.depthAll]
      have e : (litD l).depth ≤ 1 := by unfold litD; simp [PyData.depth, PyData.depthAll]
      omega
  have h1 : dOf m (.lst (ls.map litV)) = some (.list (ls.map litD)) := by simp [dOf, lstOf, hd]
  have h2 : dOf m (.lst []) = some (.list []) := by simp [dOf, lstOf, toDs]
  have s1 : SeqAt.shaped (.list (ls.map litD)) = true := by
    have := dp ls
    simp [SeqAt.shaped, PyData.canLay0, ly, PyData.depth]; omega
  have s2 : SeqAt.shaped (.list []) = true := by simp [SeqAt.shaped, PyData.canLay0, PyData.canLayAll0, PyData.depth, PyData.depthAll]
  simp only [eqF, eqvF, h1, h2, Option.bind_some, s1, s2, Bool.and_self, if_true, PyData.eqv]
  cases ls <;> simp [PyData.eqvAll]
theorem in_lots (L : List (List Int)) (m : List MO) : inF false (.lst []) (.lst (L.map lotV)) m = some (.bool (L.any fun l => l.isEmpty)) := by
  have hd : ∀ L : List (List Int), toDs (L.map lotV) = some (L.map fun l => PyData.list (l.map PyData.int)) := fun L => by
    induction L with
    | nil => rw [List.map_nil, toDs]; rfl
    | cons l L ih => rw [List.map_cons, toDs, ih, lotV, toD, toDs_ints]; rfl
  have ly : ∀ L : List (List Int), PyData.canLayAll0 (L.map fun l => PyData.list (l.map PyData.int)) = true := fun L => by
    induction L with
    | nil => simp [PyData.canLayAll0]
    | cons l L ih => rw [List.map_cons, PyData.canLayAll0, ih]; simp [PyData.canLay0, layAll_ints]
  have h2 : dOf m (.lst []) = some (.list []) := by simp [dOf, lstOf, toDs]
  have s2 : SeqAt.shaped (.list []) = true := by simp [SeqAt.shaped, PyData.canLay0, PyData.canLayAll0, PyData.depth, PyData.depthAll]
  show inSeq false (.lst []) (L.map lotV) m = _
  simp only [inSeq, h2, hd, Option.bind_some, s2, ly, Bool.and_self, if_true, Bool.false_bne, List.any_map]
  congr 3
  funext l
  cases l <;> simp [PyData.eqv, PyData.eqvAll]
section
variable {w : World} {H : Heap} {mg mb : Str → Option Value}
abbrev RangesS (f : CF) : Prop := ∀ ns mem, ns.length ≤ 100 → smallL (dedI ns) = true → FlatM mem → f [lotV ns] mem = some (domV (rangesOf ns), mem)
abbrev DeniedS (f : CF) : Prop := ∀ l n mem, f [litV l, .int n] mem = some (.bool (l.denied n), mem)
abbrev FollowsS (f : CF) : Prop := ∀ D ls n b b0 mem, FlatM mem → n ≤ D.length → n ≤ 5 → D.length ≤ 1000 → ls.length ≤ 900 → (∀ l ∈ ls, l.x < D.length) → (∀ x, (domOf D [] x).length ≤ b0) → (b0 + 1) * 2 ^ ls.length ≤ 51 →
      (∀ x, x < n → domOf D (denyT D ls []).2 x ≠ [] → SmallD (domOf D (denyT D ls []).2 x) ∧ (domOf D (denyT D ls []).2 x).length ≤ 50 ∧ 1 ≤ sizeD (domOf D (denyT D ls []).2 x) ∧ sizeD (domOf D (denyT D ls []).2 x) ≤ 50) →
      ((denyT D ls []).1 = true → cdA (lotsOf D (denyT D ls []).2 n) (varsI n) [] = some b) →
      f [judgeV (domsV D) (.int 0), toldV n, .tup (ls.map litV)] mem = some (.bool (followsA D ls n b), mem)
theorem law_follows_right_ok (ok : (cx w H mg mb).Ok) {f1 f2 f3 f4 f5 f6 : CF} (h1 : CallOK (cx w H mg mb) 1 (.ref 380) f1) (s1 : ScoopS f1) (h2 : CallOK (cx w H mg mb) 1 (.ref 385) f2) (s2 : LawCanS f2) (h3 : CallOK (cx w H mg mb) 1 (.ref 392) f3) (s3 : RangesS f3)
    (h4 : CallOK (cx w H mg mb) 1 (.ref 399) f4) (s4 : DeniedS f4) (h5 : CallOK (cx w H mg mb) 2 (.ref 369) f5) (s5 : NewJudgeS f5) (h6 : CallOK (cx w H mg mb) 6 (.ref 332) f6) (s6 : FollowsS f6) :
    ∃ f, CallOK (cx w H mg mb) 7 (.ref 409) f ∧ ∀ cells t, cells.length ≤ 1000 → t ≤ 900 → ∃ t', t' ≤ t + 40 ∧ f [.ref 0] [binO cells t] = some (.bool true, [binO cells t']) := by
  refine' ⟨_, CallOK.trim (CallOK.def2 (names := ["bin_of"]) ok rfl rfl ?d rfl rfl rfl rfl fun L => ?b), ?s⟩
  case d => (intro ws h; refine len1 h ?_; intros; rfl)
  case b => exact (ExOK.cons (StOK.assign (EvOK.newLst ok) (AsgOK.local rfl) rfl rfl rfl) (ExOK.cons (StOK.for (EvOK.call (bi_range ok rfl) (EvsOK.cons (EvOK.bin EvOK.int (EvOK.call (loadGlobal' ok rfl rfl rfl) (EvsOK.cons (loadCell rfl rfl) (EvsOK.cons EvOK.int EvsOK.nil rfl) rfl) rfl (KeepOK.fn ok rfl) (CallOK.up h1 (by decide)) rfl) addOK) EvsOK.nil rfl) rfl keepT rangeOK rfl) (AsgOK.local rfl) (ExOK.cons (StOK.expr (EvOK.meth (loadLocal rfl rfl) (EvsOK.cons (EvOK.call (bi_sorted ok rfl) (EvsOK.cons (EvOK.call (bi_set ok rfl) (EvsOK.cons (EvOK.comp rfl (EvOK.call (bi_range ok rfl) (EvsOK.cons (EvOK.bin EvOK.int (EvOK.call (loadGlobal' ok rfl rfl rfl) (EvsOK.cons (loadCell rfl rfl) (EvsOK.cons EvOK.int EvsOK.nil rfl) rfl) rfl (KeepOK.fn ok rfl) (CallOK.up h1 (by decide)) rfl) addOK) EvsOK.nil rfl) rfl keepT rangeOK rfl) (fun _ => rfl) (CompSt.of rfl rfl rfl rfl rfl rfl (fun _ => rfl) (fun _ => rfl) rfl rfl) (fun _ => (LpOK.mk (fun _ _ => (turn1 _ _ _ _ _ _ _ _ _)) (AsgOK.local rfl) TsOK.nil (InOK.emit (EvOK.call (loadGlobal' ok rfl rfl rfl) (EvsOK.cons (loadCell rfl rfl) (EvsOK.cons EvOK.int EvsOK.nil rfl) rfl) rfl (KeepOK.fn ok rfl) (CallOK.up h1 (by decide)) rfl))))) EvsOK.nil rfl) rfl keepT setOK rfl) EvsOK.nil rfl) rfl keepB sortedOK rfl) EvsOK.nil rfl) rfl (MethOK.list PySem.F.slot_list_append rfl) keepB appendOK rfl rfl rfl) rfl rfl) ExOK.nil) (fun _ => rfl)) (ExOK.freeze "lots" (ExOK.cons (StOK.assign (EvOK.newLst ok) (AsgOK.cell rfl rfl (List.Mem.tail _ (List.Mem.head _))) rfl rfl rfl) (ExOK.cons (StOK.for (EvOK.call (bi_range ok rfl) (EvsOK.cons (EvOK.call (loadGlobal' ok rfl rfl rfl) (EvsOK.cons (loadCell rfl rfl) (EvsOK.cons EvOK.int EvsOK.nil rfl) rfl) rfl (KeepOK.fn ok rfl) (CallOK.up h1 (by decide)) rfl) EvsOK.nil rfl) rfl keepT rangeOK rfl) (AsgOK.local rfl) (ExOK.cons (StOK.expr (EvOK.meth (loadCell rfl rfl) (EvsOK.cons (EvOK.tup (EvsOK.cons (EvOK.call (loadGlobal' ok rfl rfl rfl) (EvsOK.cons (loadCell rfl rfl) (EvsOK.cons (EvOK.call (bi_len ok rfl) (EvsOK.cons (loadLocal rfl rfl) EvsOK.nil rfl) rfl keepB lenOK rfl) EvsOK.nil rfl) rfl) rfl (KeepOK.fn ok rfl) (CallOK.up h1 (by decide)) rfl) (EvsOK.cons (EvOK.sub (EvOK.tup (EvsOK.cons EvOK.str (EvsOK.cons EvOK.str (EvsOK.cons EvOK.str (EvsOK.cons EvOK.str EvsOK.nil rfl) rfl) rfl) rfl)) (EvOK.call (loadGlobal' ok rfl rfl rfl) (EvsOK.cons (loadCell rfl rfl) (EvsOK.cons EvOK.int EvsOK.nil rfl) rfl) rfl (KeepOK.fn ok rfl) (CallOK.up h1 (by decide)) rfl) (fun _ _ => rfl)) (EvsOK.cons (EvOK.call (loadGlobal' ok rfl rfl rfl) (EvsOK.cons (loadCell rfl rfl) (EvsOK.cons EvOK.int EvsOK.nil rfl) rfl) rfl (KeepOK.fn ok rfl) (CallOK.up h1 (by decide)) rfl) EvsOK.nil rfl) rfl) rfl)) EvsOK.nil rfl) rfl (MethOK.list PySem.F.slot_list_append rfl) keepB appendOK rfl rfl rfl) rfl rfl) ExOK.nil) (fun _ => rfl)) (ExOK.freeze "clause" (ExOK.cons (StOK.assign (EvOK.newLst ok) (AsgOK.local rfl) rfl rfl rfl) (ExOK.cons (StOK.forEnum (bi_enumerate ok rfl) (loadLocal rfl rfl) (AsgOK.tup (k := 2) (AsgsOK.cons (AsgOK.cell rfl rfl (List.Mem.tail _ (List.Mem.tail _ (List.Mem.head _)))) (AsgsOK.cons (AsgOK.local rfl) AsgsOK.nil)) rfl rfl) (ExOK.cons (StOK.expr (EvOK.meth (loadLocal rfl rfl) (EvsOK.cons (EvOK.comp rfl (loadLocal rfl rfl) (fun _ => rfl) (CompSt.of rfl rfl rfl rfl rfl rfl (fun _ => rfl) (fun _ => rfl) rfl rfl) (fun _ => (LpOK.mk (fun _ _ => (turn1 _ _ _ _ _ _ _ _ _)) (AsgOK.cell rfl rfl (List.Mem.head _)) (TsOK.one (TeOK.cmp (EvOK.comp rfl (loadCell rfl rfl) (fun _ => rfl) (CompSt.of rfl rfl rfl rfl rfl rfl (fun _ => rfl) (fun _ => rfl) rfl rfl) (fun _ => (LpOK.mk (fun _ _ => (turn1 _ _ _ _ _ _ _ _ _)) (AsgOK.local rfl) (TsOK.one (TeOK.and (TeOK.cmp (EvOK.sub (loadLocal rfl rfl) EvOK.int (fun _ _ => rfl)) (loadCell rfl rfl) eqOK rfl) (TeOK.not (TeOK.ofEv (EvOK.call (loadGlobal' ok rfl rfl rfl) (EvsOK.cons (loadLocal rfl rfl) (EvsOK.cons (loadCell rfl rfl) EvsOK.nil rfl) rfl) rfl (KeepOK.fn ok rfl) (CallOK.up h4 (by decide)) rfl) (fun _ => rfl))))) (InOK.emit (loadLocal rfl rfl))))) (EvOK.lst EvsOK.nil) eqOK rfl)) (InOK.emit (loadCell rfl rfl))))) EvsOK.nil rfl) rfl (MethOK.list PySem.F.slot_list_append rfl) keepB appendOK rfl rfl rfl) rfl rfl) ExOK.nil) (fun _ => rfl) rfl rfl rfl) (ExOK.freeze "left" (ExOK.cons (StOK.assign (EvOK.or (EvOK.cmp (EvOK.lst EvsOK.nil) (loadLocal rfl rfl) inOK rfl) (EvOK.not (EvOK.call (loadGlobal' ok rfl rfl rfl) (EvsOK.cons (loadLocal rfl rfl) EvsOK.nil rfl) rfl (KeepOK.fn ok rfl) (CallOK.up h2 (by decide)) rfl))) (AsgOK.local rfl) rfl rfl rfl) (ExOK.cons (StOK.swap2 (EvOK.tup (EvsOK.cons (EvOK.call (loadGlobal' ok rfl rfl rfl) (EvsOK.cons (EvOK.comp rfl (loadLocal rfl rfl) (fun _ => rfl) (CompSt.of rfl rfl rfl rfl rfl rfl (fun _ => rfl) (fun _ => rfl) rfl rfl) (fun _ => (LpOK.mk (fun _ _ => (turn1 _ _ _ _ _ _ _ _ _)) (AsgOK.local rfl) TsOK.nil (InOK.emit (EvOK.call (loadGlobal' ok rfl rfl rfl) (EvsOK.cons (loadLocal rfl rfl) EvsOK.nil rfl) rfl (KeepOK.fn ok rfl) (CallOK.up h3 (by decide)) rfl))))) (EvsOK.cons EvOK.int EvsOK.nil rfl) rfl) rfl (KeepOK.fn ok rfl) (CallOK.up h5 (by decide)) rfl) (EvsOK.cons (EvOK.tup (EvsOK.cons EvOK.str (EvsOK.cons (EvOK.call (bi_tuple ok rfl) (EvsOK.cons (EvOK.call (bi_range ok rfl) (EvsOK.cons (EvOK.call (bi_len ok rfl) (EvsOK.cons (loadLocal rfl rfl) EvsOK.nil rfl) rfl keepB lenOK rfl) EvsOK.nil rfl) rfl keepT rangeOK rfl) EvsOK.nil rfl) rfl keepT tupOK rfl) EvsOK.nil rfl) rfl)) EvsOK.nil rfl) rfl)) rfl rfl rfl) (ExOK.cons (StOK.ret (EvOK.cmp (EvOK.meth (loadLocal rfl rfl) (EvsOK.cons (loadLocal rfl rfl) (EvsOK.cons (EvOK.call (bi_tuple ok rfl) (EvsOK.cons (loadCell rfl rfl) EvsOK.nil rfl) rfl keepT tupOK rfl) EvsOK.nil rfl) rfl) rfl (MethOK.inst (C := 369) ok rfl rfl rfl) (KeepOK.fn ok rfl) (CallOK.up h6 (by decide)) rfl rfl rfl) (loadLocal rfl rfl) isOK rfl)) ExOK.nil))))))))))))
  case s =>
    intro cells t hc ht
    have sc : ∀ t o many, t ≤ 1000 → 0 < many → many ≤ 100 → f1 [.ref 0, .int many] (binO cells t :: o) = some (.int (drawn cells t many), binO cells (t + 1) :: o) := fun t o many h1 h2 h3 => s1 (binO cells t :: o) 0 cells t many rfl h2 h3 h1 hc
    suffices hs : ∃ t' j, t' ≤ t + 40 ∧ defX _ _ _ _ = some (.bool true, [binO cells t'] ++ j) by
      obtain ⟨t', j, ht', e⟩ := hs
      refine ⟨t', ht', trimC_of e rfl rfl ?_⟩
      show [binO cells t'].all (cleanO 0) = true
      rw [List.all_cons, clean_bin]; rfl
    have c1 := sc t [.lst []] 5 (by omega) (by decide) (by decide)
    have b1 := drawn_bound cells t (many := 5) (by decide)
    have r1 : ∀ m, rangeF [.int (1 + drawn cells t 5)] m = some (.rng 0 (1 + drawn cells t 5), m) := fun m => rfl
    have i1 := items_rangeI (i := 1 + drawn cells t 5) (by omega) (by omega)
    simp (config := { maxSteps := 3000000 }) (disch := first | assumption | decide | decide +kernel) only [sizeB, Nat.reduceAdd, Nat.reduceLeDiff, decide_true, decide_false, Bool.false_eq_true, if_false, if_true, ite_true, ite_false, reduceIte, Bool.not_true, Bool.not_false, Bool.and_true, Bool.true_and, Bool.and_self, decide_eq_true_eq, List.nil_append, List.cons_append, List.append_nil, List.singleton_append,
    defX, bindX, seqX, assignX, nameX, tupSt, asgCons, asgNil, nameSt, constX, retX, retN, exprX, brkX, tupX, lstX, consL, nilL, binX, callX, methX, subX, attrX, ifX, ifeX, notX, orX, andX, negX, cmpT, boolT, notT, andT, orT, swapX, tgtNames, subStX, newLstX, newDicX, forS, items_lst, items_tup, nilX,
    addF_int, subF_int, ltF_int, leF_int, gtF_int, geF_int, isF_bool, isF_nn, isF_in, isNotF_bool, Option.bind_some, Option.bind_none, upd_eq, upd_ne, List.length_cons, List.length_nil, List.filterMap_cons, List.filterMap_nil, List.reverse_cons, List.reverse_nil, eqF_s, eqF_sn, eqF_int, neF_int, eqF_bool, eqF_none_int, item_tup0, item_tup1, item_tup2, item_lst0, valAt_s, valAt_n, V.onInt_int, V.onBool_bool, V.onTup_tup, V.onLst_lst, V.onNone_none, onRef_ref, moL_lst, moI_dic, moS_dic, on1_one, on2_two, onCons_cons, onNil_nil, tupR, lstR, lenR, c1, r1, i1]
    generalize hρ : upd _ "lots" _ = ρ0
    generalize hW : forX _ _ _ ρ0 _ = W
    have hn1 : 1 ≤ (1 + drawn cells t 5).toNat ∧ (1 + drawn cells t 5).toNat ≤ 5 := by omega
    generalize (1 + drawn cells t 5).toNat = n at *
    let R : Nat → (List (List Int) × Nat) → Rho → List MO → Prop := fun k σ ρ m => m = [binO cells σ.2, .lst (σ.1.map lotV)] ∧ ρ "lots" = some (.ref 1) ∧ ρ "bin_of" = some (.ref 0) ∧ FstI σ n t k
    have key : ∃ ρ' m', W = some (.next, ρ', m') ∧ R 0 ((varsI n).foldl (fstStep cells) ([], t + 1)) ρ' m' := by
      rw [← hW]
      refine forX_fold R (fstStep cells) V.int (varsI n) ([], t + 1) ρ0 _ ⟨rfl, by rw [← hρ]; rfl, by rw [← hρ]; rfl, ?_⟩ ?_
      · rw [varsI_len]
        exact ⟨by simp, fun l h => (by cases h), fun l h => (by cases h), fun l h => (by cases h), by simp; omega⟩
      · rintro k ⟨L, u⟩ x ρ m ⟨rfl, hr, hb, I⟩ _
        have iT := I.turn
        have iL := I.len
        simp only at iT iL hr hb ⊢
        have hz2 : (L.map lotV).length ≤ 5000 := by rw [List.length_map]; omega
        have c2 := sc u [.lst (L.map lotV)] 4 (by omega) (by decide) (by decide)
        have b2 := drawn_bound cells u (many := 4) (by decide)
        have hstep : fstStep cells (L, u) x = (L ++ [sortI (dedI (drawsA cells (u + 1) (1 + drawn cells u 4).toNat 6))], u + 1 + (1 + drawn cells u 4).toNat) := rfl
        have hI := I.step (cells := cells) x
        have sd := small_draws cells u
        rw [hstep] at hI ⊢
        have r2 : ∀ m, rangeF [.int (1 + drawn cells u 4)] m = some (.rng 0 (1 + drawn cells u 4), m) := fun m => rfl
        have i2 := items_rangeI (i := 1 + drawn cells u 4) (by omega) (by omega)
        have ap : ∀ v u', appendF [.ref 1, v] [binO cells u', .lst (L.map lotV)] = some (.none, [binO cells u', .lst (L.map lotV ++ [v])]) := fun v u' => append_ref (k := 1) rfl hz2 v
        have il : ∀ u', isLst (.ref 1) [binO cells u', .lst (L.map lotV)] = true := fun u' => rfl
        refine ⟨upd ρ "lap" (.int x), [binO cells (u + 1 + (1 + drawn cells u 4).toNat), .lst ((L ++ [sortI (dedI (drawsA cells (u + 1) (1 + drawn cells u 4).toNat 6))]).map lotV)], fun rest => ?_, rfl, by rw [upd_ne (by decide)]; exact hr, by rw [upd_ne (by decide)]; exact hb, hI⟩
        rw [forX]
        simp (config := { maxSteps := 3000000 }) (disch := first | assumption | decide | decide +kernel) only [sizeB, Nat.reduceAdd, Nat.reduceLeDiff, decide_true, decide_false, Bool.false_eq_true, if_false, if_true, ite_true, ite_false, reduceIte, Bool.not_true, Bool.not_false, Bool.and_true, Bool.true_and, Bool.and_self, decide_eq_true_eq, List.nil_append, List.cons_append, List.append_nil, List.singleton_append,
    defX, bindX, seqX, assignX, nameX, tupSt, asgCons, asgNil, nameSt, constX, retX, retN, exprX, brkX, tupX, lstX, consL, nilL, binX, callX, methX, subX, attrX, ifX, ifeX, notX, orX, andX, negX, cmpT, boolT, notT, andT, orT, swapX, tgtNames, subStX, newLstX, newDicX, forS, items_lst, items_tup, nilX,
    addF_int, subF_int, ltF_int, leF_int, gtF_int, geF_int, isF_bool, isF_nn, isF_in, isNotF_bool, Option.bind_some, Option.bind_none, upd_eq, upd_ne, List.length_cons, List.length_nil, List.filterMap_cons, List.filterMap_nil, List.reverse_cons, List.reverse_nil, eqF_s, eqF_sn, eqF_int, neF_int, eqF_bool, eqF_none_int, item_tup0, item_tup1, item_tup2, item_lst0, valAt_s, valAt_n, V.onInt_int, V.onBool_bool, V.onTup_tup, V.onLst_lst, V.onNone_none, onRef_ref, moL_lst, moI_dic, moS_dic, on1_one, on2_two, onCons_cons, onNil_nil, tupR, lstR, lenR, hr, hb, c2, r2, i2, compX, il]
        have hz4 : (1 + drawn cells u 4).toNat ≤ 4 := by omega
        generalize (1 + drawn cells u 4).toNat = z at *
        generalize hρ2 : capX _ _ = ρ2
        have h2 : ρ2 "bin_of" = some (.ref 0) := by rw [← hρ2]; exact (if_pos (by decide)).trans ((upd_ne (by decide)).trans hb)
        generalize hW2 : loopB _ _ _ _ ρ2 _ _ = W2
        have key2 : ∃ ρ', W2 = some (ρ', [binO cells (u + 1 + z), .lst (L.map lotV)], (drawsA cells (u + 1) z 6).map .int) ∧ ρ' "bin_of" = some (.ref 0) := by
          rw [← hW2]
          have := loopB_draw (a := nameSt "k") (t := trueT) (b := emitB (callX f1 (consL (nameX "bin_of") (consL (constX (V.int 6)) nilL)))) (fun ρ => ρ "bin_of" = some (.ref 0)) (fun i => [binO cells i, .lst (L.map lotV)]) (fun i => .int (drawn cells i 6)) 1000 1000 ((varsI z).map .int) (u + 1) ρ2 [] h2 (by rw [List.length_map, varsI_len]; simp; omega) (by rw [List.length_map, varsI_len]; omega) ?_
          · rw [List.length_map, varsI_len, List.nil_append] at this
            have e : (drawsA cells (u + 1) z 6).map V.int = (List.range' (u + 1) z).map fun i => V.int (drawn cells i 6) := by unfold drawsA; rw [List.map_map]; rfl
            rw [e]; exact this
          · intro x i ρ acc hr hi hz
            have hz1 : acc.length ≤ 100000 := by omega
            have c3 := sc i [.lst (L.map lotV)] 6 (by omega) (by decide) (by decide)
            refine ⟨upd ρ "k" x, fun rest => ?_, by rw [upd_ne (by decide)]; exact hr⟩
            rw [loopB]
            simp (config := { maxSteps := 3000000 }) (disch := first | assumption | decide | decide +kernel) only [sizeB, Nat.reduceAdd, Nat.reduceLeDiff, decide_true, decide_false, Bool.false_eq_true, if_false, if_true, ite_true, ite_false, reduceIte, Bool.not_true, Bool.not_false, Bool.and_true, Bool.true_and, Bool.and_self, decide_eq_true_eq, List.nil_append, List.cons_append, List.append_nil, List.singleton_append,
    defX, bindX, seqX, assignX, nameX, tupSt, asgCons, asgNil, nameSt, constX, retX, retN, exprX, brkX, tupX, lstX, consL, nilL, binX, callX, methX, subX, attrX, ifX, ifeX, notX, orX, andX, negX, cmpT, boolT, notT, andT, orT, swapX, tgtNames, subStX, newLstX, newDicX, forS, items_lst, items_tup, nilX,
    addF_int, subF_int, ltF_int, leF_int, gtF_int, geF_int, isF_bool, isF_nn, isF_in, isNotF_bool, Option.bind_some, Option.bind_none, upd_eq, upd_ne, List.length_cons, List.length_nil, List.filterMap_cons, List.filterMap_nil, List.reverse_cons, List.reverse_nil, eqF_s, eqF_sn, eqF_int, neF_int, eqF_bool, eqF_none_int, item_tup0, item_tup1, item_tup2, item_lst0, valAt_s, valAt_n, V.onInt_int, V.onBool_bool, V.onTup_tup, V.onLst_lst, V.onNone_none, onRef_ref, moL_lst, moI_dic, moS_dic, on1_one, on2_two, onCons_cons, onNil_nil, tupR, lstR, lenR, hr, c3, emitB, trueT, hz1]
        obtain ⟨ρ', e, _⟩ := key2
        subst e
        have e6 := fun m => set_ints (c := cx w H mg mb) (ns := drawsA cells (u + 1) z 6) (by rw [drawsA_len]; omega) m
        have e7 := fun m => sorted_set (c := cx w H mg mb) sd m
        have e9 : (cx w H mg mb).w = w := rfl
        rw [e9] at e6 e7
        simp (config := { maxSteps := 3000000 }) (disch := first | assumption | decide | decide +kernel) only [sizeB, Nat.reduceAdd, Nat.reduceLeDiff, decide_true, decide_false, Bool.false_eq_true, if_false, if_true, ite_true, ite_false, reduceIte, Bool.not_true, Bool.not_false, Bool.and_true, Bool.true_and, Bool.and_self, decide_eq_true_eq, List.nil_append, List.cons_append, List.append_nil, List.singleton_append,
    defX, bindX, seqX, assignX, nameX, tupSt, asgCons, asgNil, nameSt, constX, retX, retN, exprX, brkX, tupX, lstX, consL, nilL, binX, callX, methX, subX, attrX, ifX, ifeX, notX, orX, andX, negX, cmpT, boolT, notT, andT, orT, swapX, tgtNames, subStX, newLstX, newDicX, forS, items_lst, items_tup, nilX,
    addF_int, subF_int, ltF_int, leF_int, gtF_int, geF_int, isF_bool, isF_nn, isF_in, isNotF_bool, Option.bind_some, Option.bind_none, upd_eq, upd_ne, List.length_cons, List.length_nil, List.filterMap_cons, List.filterMap_nil, List.reverse_cons, List.reverse_nil, eqF_s, eqF_sn, eqF_int, neF_int, eqF_bool, eqF_none_int, item_tup0, item_tup1, item_tup2, item_lst0, valAt_s, valAt_n, V.onInt_int, V.onBool_bool, V.onTup_tup, V.onLst_lst, V.onNone_none, onRef_ref, moL_lst, moI_dic, moS_dic, on1_one, on2_two, onCons_cons, onNil_nil, tupR, lstR, lenR, hr, ap, il, e6, e7]
        rw [List.map_append]; rfl
    obtain ⟨ρ', m', e, rfl, hr, hb, I⟩ := key
    subst e
    generalize (varsI n).foldl (fstStep cells) ([], t + 1) = σ at *
    obtain ⟨L, u⟩ := σ
    have iT := I.turn
    have iL := I.len
    have hlot := I.lot
    have hlow := I.low
    have hinc := I.inc
    simp only at iT iL hlot hlow hinc
    have iL : L.length = n := iL
    clear hW hρ i1 I R
    have g : [binO cells u, MO.lst (L.map lotV)][1]? = some (.lst (L.map lotV)) := rfl
    have st : [binO cells u, MO.lst (L.map lotV)].set 1 .dead = [binO cells u, .dead] := rfl
    have c2 := sc u [.dead, .lst []] 3 (by omega) (by decide) (by decide)
    have b2 := drawn_bound cells u (many := 3) (by decide)
    have r2 : ∀ m, rangeF [.int (drawn cells u 3)] m = some (.rng 0 (drawn cells u 3), m) := fun m => rfl
    have i2 := items_rangeI (i := drawn cells u 3) (by omega) (by omega)
    simp (config := { maxSteps := 3000000 }) (disch := first | assumption | decide | decide +kernel) only [sizeB, Nat.reduceAdd, Nat.reduceLeDiff, decide_true, decide_false, Bool.false_eq_true, if_false, if_true, ite_true, ite_false, reduceIte, Bool.not_true, Bool.not_false, Bool.and_true, Bool.true_and, Bool.and_self, decide_eq_true_eq, List.nil_append, List.cons_append, List.append_nil, List.singleton_append,
    defX, bindX, seqX, assignX, nameX, tupSt, asgCons, asgNil, nameSt, constX, retX, retN, exprX, brkX, tupX, lstX, consL, nilL, binX, callX, methX, subX, attrX, ifX, ifeX, notX, orX, andX, negX, cmpT, boolT, notT, andT, orT, swapX, tgtNames, subStX, newLstX, newDicX, forS, items_lst, items_tup, nilX,
    addF_int, subF_int, ltF_int, leF_int, gtF_int, geF_int, isF_bool, isF_nn, isF_in, isNotF_bool, Option.bind_some, Option.bind_none, upd_eq, upd_ne, List.length_cons, List.length_nil, List.filterMap_cons, List.filterMap_nil, List.reverse_cons, List.reverse_nil, eqF_s, eqF_sn, eqF_int, neF_int, eqF_bool, eqF_none_int, item_tup0, item_tup1, item_tup2, item_lst0, valAt_s, valAt_n, V.onInt_int, V.onBool_bool, V.onTup_tup, V.onLst_lst, V.onNone_none, onRef_ref, moL_lst, moI_dic, moS_dic, on1_one, on2_two, onCons_cons, onNil_nil, tupR, lstR, lenR, hr, hb, frzX, g, st, c2, r2, i2]
    generalize hρ : upd _ "clause" _ = ρ0
    have hl0 : ρ0 "lots" = some (.lst (L.map lotV)) := by rw [← hρ]; rfl
    have hb0 : ρ0 "bin_of" = some (.ref 0) := by rw [← hρ, upd_ne (by decide), upd_ne (by decide)]; exact hb
    have hk0 : ρ0 "clause" = some (.ref 2) := by rw [← hρ]; rfl
    clear hρ hr hb
    generalize hW : forX _ _ _ ρ0 _ = W
    let R : Nat → (List Lit × Nat) → Rho → List MO → Prop := fun k σ ρ m => m = [binO cells σ.2, .dead, .lst (σ.1.map litV)] ∧ ρ "lots" = some (.lst (L.map lotV)) ∧ ρ "bin_of" = some (.ref 0) ∧ ρ "clause" = some (.ref 2) ∧ LitI σ n u k
    have key : ∃ ρ' m', W = some (.next, ρ', m') ∧ R 0 ((varsI (drawn cells u 3).toNat).foldl (litStep cells n) ([], u + 1)) ρ' m' := by
      rw [← hW]
      refine forX_fold R (litStep cells n) V.int (varsI (drawn cells u 3).toNat) ([], u + 1) ρ0 _ ⟨rfl, hl0, hb0, hk0, ?_⟩ ?_
      · rw [varsI_len]
        exact ⟨by simp; omega, fun l h => (by cases h), by simp; omega⟩
      · rintro k ⟨ls, v⟩ x ρ m ⟨rfl, hl, hb, hk, I⟩ _
        have iT2 := I.turn
        have iL2 := I.len
        simp only at iT2 iL2 hl hb hk ⊢
        have hz2 : (ls.map litV).length ≤ 5000 := by rw [List.length_map]; omega
        have c3 := sc v [.dead, .lst (ls.map litV)] n (by omega) (by omega) (by omega)
        have c4 := sc (v + 1) [.dead, .lst (ls.map litV)] 4 (by omega) (by decide) (by decide)
        have c5 := sc (v + 2) [.dead, .lst (ls.map litV)] 6 (by omega) (by decide) (by decide)
        have b3 := drawn_bound cells v (many := (n : Int)) (by omega)
        have b4 := drawn_bound cells (v + 1) (many := 4) (by decide)
        have si := sg_item b4
        have ll : ∀ m, lenF [.lst (L.map lotV)] m = some (.int n, m) := fun m => by rw [len_lst (by rw [List.length_map]; omega), List.length_map, iL]
        have el : V.tup [.int (drawn cells v n), .str (sgOf (drawn cells (v + 1) 4)).str, .int (drawn cells (v + 2) 6)] = litV (litA cells v n) := by
          show _ = V.tup [.int (((drawn cells v n).toNat : Nat) : Int), _, _]
          rw [Int.toNat_of_nonneg b3.1]; rfl
        have ap : ∀ x u', appendF [.ref 2, x] [binO cells u', .dead, .lst (ls.map litV)] = some (.none, [binO cells u', .dead, .lst (ls.map litV ++ [x])]) := fun x u' => append_ref (k := 2) rfl hz2 x
        have il : ∀ u', isLst (.ref 2) [binO cells u', .dead, .lst (ls.map litV)] = true := fun u' => rfl
        refine ⟨upd ρ "lap" (.int x), [binO cells (v + 3), .dead, .lst ((ls ++ [litA cells v n]).map litV)], fun rest => ?_, rfl, by rw [upd_ne (by decide)]; exact hl, by rw [upd_ne (by decide)]; exact hb, by rw [upd_ne (by decide)]; exact hk, I.step (by omega) x⟩
        rw [forX]
        simp (config := { maxSteps := 3000000 }) (disch := first | assumption | decide | decide +kernel) only [sizeB, Nat.reduceAdd, Nat.reduceLeDiff, decide_true, decide_false, Bool.false_eq_true, if_false, if_true, ite_true, ite_false, reduceIte, Bool.not_true, Bool.not_false, Bool.and_true, Bool.true_and, Bool.and_self, decide_eq_true_eq, List.nil_append, List.cons_append, List.append_nil, List.singleton_append,
    defX, bindX, seqX, assignX, nameX, tupSt, asgCons, asgNil, nameSt, constX, retX, retN, exprX, brkX, tupX, lstX, consL, nilL, binX, callX, methX, subX, attrX, ifX, ifeX, notX, orX, andX, negX, cmpT, boolT, notT, andT, orT, swapX, tgtNames, subStX, newLstX, newDicX, forS, items_lst, items_tup, nilX,
    addF_int, subF_int, ltF_int, leF_int, gtF_int, geF_int, isF_bool, isF_nn, isF_in, isNotF_bool, Option.bind_some, Option.bind_none, upd_eq, upd_ne, List.length_cons, List.length_nil, List.filterMap_cons, List.filterMap_nil, List.reverse_cons, List.reverse_nil, eqF_s, eqF_sn, eqF_int, neF_int, eqF_bool, eqF_none_int, item_tup0, item_tup1, item_tup2, item_lst0, valAt_s, valAt_n, V.onInt_int, V.onBool_bool, V.onTup_tup, V.onLst_lst, V.onNone_none, onRef_ref, moL_lst, moI_dic, moS_dic, on1_one, on2_two, onCons_cons, onNil_nil, tupR, lstR, lenR, hl, hb, hk, ll, c3, c4, c5, si, el, ap, il]
        rw [List.map_append]; rfl
    obtain ⟨ρ1, m', e, rfl, hl, hb, hk, I⟩ := key
    subst e
    generalize (varsI (drawn cells u 3).toNat).foldl (litStep cells n) ([], u + 1) = σ at *
    obtain ⟨ls, v⟩ := σ
    have iT2 := I.turn
    have iL2 := I.len
    have hx := I.x
    simp only at iT2 iL2 hx
    clear hW hl0 hb0 hk0 i2 I R
    have g : [binO cells v, MO.dead, MO.lst (ls.map litV)][2]? = some (.lst (ls.map litV)) := rfl
    have st : [binO cells v, MO.dead, MO.lst (ls.map litV)].set 2 .dead = [binO cells v, .dead, .dead] := rfl
    have nf : numFrom 0 (L.map lotV) = L.zipIdx.map fun p => V.tup [.int (p.2 : Nat), lotV p.1] := numFrom_zip L 0
    simp (config := { maxSteps := 3000000 }) (disch := first | assumption | decide | decide +kernel) only [sizeB, Nat.reduceAdd, Nat.reduceLeDiff, decide_true, decide_false, Bool.false_eq_true, if_false, if_true, ite_true, ite_false, reduceIte, Bool.not_true, Bool.not_false, Bool.and_true, Bool.true_and, Bool.and_self, decide_eq_true_eq, List.nil_append, List.cons_append, List.append_nil, List.singleton_append,
    defX, bindX, seqX, assignX, nameX, tupSt, asgCons, asgNil, nameSt, constX, retX, retN, exprX, brkX, tupX, lstX, consL, nilL, binX, callX, methX, subX, attrX, ifX, ifeX, notX, orX, andX, negX, cmpT, boolT, notT, andT, orT, swapX, tgtNames, subStX, newLstX, newDicX, forS, items_lst, items_tup, nilX,
    addF_int, subF_int, ltF_int, leF_int, gtF_int, geF_int, isF_bool, isF_nn, isF_in, isNotF_bool, Option.bind_some, Option.bind_none, upd_eq, upd_ne, List.length_cons, List.length_nil, List.filterMap_cons, List.filterMap_nil, List.reverse_cons, List.reverse_nil, eqF_s, eqF_sn, eqF_int, neF_int, eqF_bool, eqF_none_int, item_tup0, item_tup1, item_tup2, item_lst0, valAt_s, valAt_n, V.onInt_int, V.onBool_bool, V.onTup_tup, V.onLst_lst, V.onNone_none, onRef_ref, moL_lst, moI_dic, moS_dic, on1_one, on2_two, onCons_cons, onNil_nil, tupR, lstR, lenR, hl, hb, hk, frzX, g, st, enumS, nf]
    generalize hρ : upd _ "left" _ = ρ0
    have hc0 : ρ0 "clause" = some (.lst (ls.map litV)) := by rw [← hρ]; rfl
    have hl0 : ρ0 "lots" = some (.lst (L.map lotV)) := by rw [← hρ, upd_ne (by decide), upd_ne (by decide)]; exact hl
    have hf0 : ρ0 "left" = some (.ref 3) := by rw [← hρ]; rfl
    clear hρ hl hb hk
    generalize hW : forX _ _ _ ρ0 _ = W
    let R : Nat → (List (List Int)) → Rho → List MO → Prop := fun k lf ρ m => m = [binO cells v, .dead, .dead, .lst (lf.map lotV)] ∧ ρ "clause" = some (.lst (ls.map litV)) ∧ ρ "lots" = some (.lst (L.map lotV)) ∧ ρ "left" = some (.ref 3) ∧ lf.length + k ≤ 5
    have hfold : L.zipIdx.foldl (fun lf p => lf ++ [keepL ls p.2 p.1]) [] = leftL L ls := by
      unfold leftL
      have : ∀ (Z : List (List Int × Nat)) (a : List (List Int)), Z.foldl (fun lf p => lf ++ [keepL ls p.2 p.1]) a = a ++ Z.map fun p => keepL ls p.2 p.1 := by
        intro Z
        induction Z with
        | nil => intro a; simp
        | cons p Z ih => intro a; rw [List.foldl_cons, ih, List.map_cons]; simp
      rw [this, List.nil_append]
    have key : ∃ ρ' m', W = some (.next, ρ', m') ∧ R 0 (leftL L ls) ρ' m' := by
      rw [← hW, ← hfold]
      refine forX_fold R (fun lf p => lf ++ [keepL ls p.2 p.1]) (fun p : List Int × Nat => V.tup [.int (p.2 : Nat), lotV p.1]) L.zipIdx [] ρ0 _ ⟨rfl, hc0, hl0, hf0, by simp; omega⟩ ?_
      rintro k lf ⟨lot, x⟩ ρ m ⟨rfl, hc, hl, hf, hz⟩ hp
      have hlot4 : lot.length ≤ 4 := hlot lot (List.fst_mem_of_mem_zipIdx hp)
      have hz2 : (lf.map lotV).length ≤ 5000 := by rw [List.length_map]; omega
      have ap : ∀ x u', appendF [.ref 3, x] [binO cells u', .dead, .dead, .lst (lf.map lotV)] = some (.none, [binO cells u', .dead, .dead, .lst (lf.map lotV ++ [x])]) := fun x u' => append_ref (k := 3) rfl hz2 x
      have il : ∀ u', isLst (.ref 3) [binO cells u', .dead, .dead, .lst (lf.map lotV)] = true := fun u' => rfl
      have hi : itemsOf (lotV lot) = some (lot.map .int) := rfl
      refine ⟨upd (upd ρ "x" (.int (x : Nat))) "lot" (lotV lot), [binO cells v, .dead, .dead, .lst ((lf ++ [keepL ls x lot]).map lotV)], fun rest => ?_, rfl, by rw [upd_ne (by decide), upd_ne (by decide)]; exact hc, by rw [upd_ne (by decide), upd_ne (by decide)]; exact hl, by rw [upd_ne (by decide), upd_ne (by decide)]; exact hf, by rw [List.length_append, List.length_singleton]; omega⟩
      rw [forX]
      simp (config := { maxSteps := 3000000 }) (disch := first | assumption | decide | decide +kernel) only [sizeB, Nat.reduceAdd, Nat.reduceLeDiff, decide_true, decide_false, Bool.false_eq_true, if_false, if_true, ite_true, ite_false, reduceIte, Bool.not_true, Bool.not_false, Bool.and_true, Bool.true_and, Bool.and_self, decide_eq_true_eq, List.nil_append, List.cons_append, List.append_nil, List.singleton_append,
    defX, bindX, seqX, assignX, nameX, tupSt, asgCons, asgNil, nameSt, constX, retX, retN, exprX, brkX, tupX, lstX, consL, nilL, binX, callX, methX, subX, attrX, ifX, ifeX, notX, orX, andX, negX, cmpT, boolT, notT, andT, orT, swapX, tgtNames, subStX, newLstX, newDicX, forS, items_lst, items_tup, nilX,
    addF_int, subF_int, ltF_int, leF_int, gtF_int, geF_int, isF_bool, isF_nn, isF_in, isNotF_bool, Option.bind_some, Option.bind_none, upd_eq, upd_ne, List.length_cons, List.length_nil, List.filterMap_cons, List.filterMap_nil, List.reverse_cons, List.reverse_nil, eqF_s, eqF_sn, eqF_int, neF_int, eqF_bool, eqF_none_int, item_tup0, item_tup1, item_tup2, item_lst0, valAt_s, valAt_n, V.onInt_int, V.onBool_bool, V.onTup_tup, V.onLst_lst, V.onNone_none, onRef_ref, moL_lst, moI_dic, moS_dic, on1_one, on2_two, onCons_cons, onNil_nil, tupR, lstR, lenR, hc, hf, compX, il, hi]
      generalize hρ2 : capX _ _ = ρ2
      have hc2 : ρ2 "clause" = some (.lst (ls.map litV)) := by rw [← hρ2]; exact (if_pos (by decide)).trans ((upd_ne (by decide)).trans ((upd_ne (by decide)).trans hc))
      have hx2 : ρ2 "x" = some (.int (x : Nat)) := by rw [← hρ2]; rfl
      clear hρ2
      generalize hm : [binO cells v, MO.dead, MO.dead, MO.lst (lf.map lotV)] = m0
      generalize hW2 : loopB _ _ _ _ ρ2 _ _ = W2
      have key2 : ∃ ρ', W2 = some (ρ', m0, (keepL ls x lot).map .int) ∧ (ρ' "clause" = some (.lst (ls.map litV)) ∧ ρ' "x" = some (.int (x : Nat))) := by
        rw [← hW2]
        have ek : (keepL ls x lot).map V.int = [] ++ lot.flatMap (fun v => if (ls.filter fun l => decide (l.x = x) && !l.denied v).isEmpty = true then [V.int v] else []) := by rw [filter_flat (fun v => (ls.filter fun l => decide (l.x = x) && !l.denied v).isEmpty) V.int, List.nil_append]; rfl
        rw [ek]
        refine loopB_flat (fun ρ => ρ "clause" = some (.lst (ls.map litV)) ∧ ρ "x" = some (.int (x : Nat))) m0 V.int _ 1000 1 lot ρ2 [] ⟨hc2, hx2⟩ (fun v _ => by split <;> simp) (by simp; omega) ?_
        · rintro num ρ acc ⟨hc, hx⟩ hnum hz
          have hz1 : acc.length ≤ 100000 := by omega
          refine ⟨upd ρ "number" (.int num), fun rest => ?_, by rw [upd_ne (by decide)]; exact hc, by rw [upd_ne (by decide)]; exact hx⟩
          rw [loopB]
          simp (config := { maxSteps := 3000000 }) (disch := first | assumption | decide | decide +kernel) only [sizeB, Nat.reduceAdd, Nat.reduceLeDiff, decide_true, decide_false, Bool.false_eq_true, if_false, if_true, ite_true, ite_false, reduceIte, Bool.not_true, Bool.not_false, Bool.and_true, Bool.true_and, Bool.and_self, decide_eq_true_eq, List.nil_append, List.cons_append, List.append_nil, List.singleton_append,
    defX, bindX, seqX, assignX, nameX, tupSt, asgCons, asgNil, nameSt, constX, retX, retN, exprX, brkX, tupX, lstX, consL, nilL, binX, callX, methX, subX, attrX, ifX, ifeX, notX, orX, andX, negX, cmpT, boolT, notT, andT, orT, swapX, tgtNames, subStX, newLstX, newDicX, forS, items_lst, items_tup, nilX,
    addF_int, subF_int, ltF_int, leF_int, gtF_int, geF_int, isF_bool, isF_nn, isF_in, isNotF_bool, Option.bind_some, Option.bind_none, upd_eq, upd_ne, List.length_cons, List.length_nil, List.filterMap_cons, List.filterMap_nil, List.reverse_cons, List.reverse_nil, eqF_s, eqF_sn, eqF_int, neF_int, eqF_bool, eqF_none_int, item_tup0, item_tup1, item_tup2, item_lst0, valAt_s, valAt_n, V.onInt_int, V.onBool_bool, V.onTup_tup, V.onLst_lst, V.onNone_none, onRef_ref, moL_lst, moI_dic, moS_dic, on1_one, on2_two, onCons_cons, onNil_nil, tupR, lstR, lenR, hc, compX]
          generalize hρ3 : capX _ _ = ρ3
          have hx3 : ρ3 "x" = some (.int (x : Nat)) := by rw [← hρ3]; exact (if_pos (by decide)).trans ((upd_ne (by decide)).trans hx)
          have hn3 : ρ3 "number" = some (.int num) := by rw [← hρ3]; rfl
          clear hρ3
          generalize hW3 : loopB _ _ _ (ls.map litV) ρ3 _ _ = W3
          have key3 : ∃ ρ', W3 = some (ρ', m0, (ls.filter fun l => decide (l.x = x) && !l.denied num).map litV) ∧ (ρ' "x" = some (.int (x : Nat)) ∧ ρ' "number" = some (.int num)) := by
            rw [← hW3]
            have ek : (ls.filter fun l => decide (l.x = x) && !l.denied num).map litV = [] ++ ls.flatMap (fun l => if (decide (l.x = x) && !l.denied num) = true then [litV l] else []) := by rw [filter_flat (fun l => decide (l.x = x) && !l.denied num) litV, List.nil_append]
            rw [ek]
            refine loopB_flat (fun ρ => ρ "x" = some (.int (x : Nat)) ∧ ρ "number" = some (.int num)) m0 litV _ 1000 1 ls ρ3 [] ⟨hx3, hn3⟩ (fun v _ => by split <;> simp) (by simp; omega) ?_
            · rintro l ρ acc ⟨hx, hn⟩ hl hz
              have hz1 : acc.length ≤ 100000 := by omega
              have d4 := s4 l num
              have il0 : ∀ m, itemF (litV l) (.int 0) m = some (.int (l.x : Int)) := fun m => item_tup0 _ _ m
              refine ⟨upd ρ "one" (litV l), fun rest => ?_, by rw [upd_ne (by decide)]; exact hx, by rw [upd_ne (by decide)]; exact hn⟩
              rw [loopB]
              by_cases q : l.x = x
              · have q' : ((l.x : Int) = (x : Int)) := by omega
                cases hd : l.denied num with
                | true =>
                  rw [hd] at d4
                  have e0 : (decide (l.x = x) && !true) = false := by simp
                  rw [e0]
                  simp (config := { maxSteps := 3000000 }) (disch := first | assumption | decide | decide +kernel) only [sizeB, Nat.reduceAdd, Nat.reduceLeDiff, decide_true, decide_false, Bool.false_eq_true, if_false, if_true, ite_true, ite_false, reduceIte, Bool.not_true, Bool.not_false, Bool.and_true, Bool.true_and, Bool.and_self, decide_eq_true_eq, List.nil_append, List.cons_append, List.append_nil, List.singleton_append,
    defX, bindX, seqX, assignX, nameX, tupSt, asgCons, asgNil, nameSt, constX, retX, retN, exprX, brkX, tupX, lstX, consL, nilL, binX, callX, methX, subX, attrX, ifX, ifeX, notX, orX, andX, negX, cmpT, boolT, notT, andT, orT, swapX, tgtNames, subStX, newLstX, newDicX, forS, items_lst, items_tup, nilX,
    addF_int, subF_int, ltF_int, leF_int, gtF_int, geF_int, isF_bool, isF_nn, isF_in, isNotF_bool, Option.bind_some, Option.bind_none, upd_eq, upd_ne, List.length_cons, List.length_nil, List.filterMap_cons, List.filterMap_nil, List.reverse_cons, List.reverse_nil, eqF_s, eqF_sn, eqF_int, neF_int, eqF_bool, eqF_none_int, item_tup0, item_tup1, item_tup2, item_lst0, valAt_s, valAt_n, V.onInt_int, V.onBool_bool, V.onTup_tup, V.onLst_lst, V.onNone_none, onRef_ref, moL_lst, moI_dic, moS_dic, on1_one, on2_two, onCons_cons, onNil_nil, tupR, lstR, lenR, hx, hn, d4, il0, q', eq_self, emitB, hz1]
                | false =>
                  rw [hd] at d4
                  have e0 : (decide (l.x = x) && !false) = true := by simp [q]
                  rw [e0]
                  simp (config := { maxSteps := 3000000 }) (disch := first | assumption | decide | decide +kernel) only [sizeB, Nat.reduceAdd, Nat.reduceLeDiff, decide_true, decide_false, Bool.false_eq_true, if_false, if_true, ite_true, ite_false, reduceIte, Bool.not_true, Bool.not_false, Bool.and_true, Bool.true_and, Bool.and_self, decide_eq_true_eq, List.nil_append, List.cons_append, List.append_nil, List.singleton_append,
    defX, bindX, seqX, assignX, nameX, tupSt, asgCons, asgNil, nameSt, constX, retX, retN, exprX, brkX, tupX, lstX, consL, nilL, binX, callX, methX, subX, attrX, ifX, ifeX, notX, orX, andX, negX, cmpT, boolT, notT, andT, orT, swapX, tgtNames, subStX, newLstX, newDicX, forS, items_lst, items_tup, nilX,
    addF_int, subF_int, ltF_int, leF_int, gtF_int, geF_int, isF_bool, isF_nn, isF_in, isNotF_bool, Option.bind_some, Option.bind_none, upd_eq, upd_ne, List.length_cons, List.length_nil, List.filterMap_cons, List.filterMap_nil, List.reverse_cons, List.reverse_nil, eqF_s, eqF_sn, eqF_int, neF_int, eqF_bool, eqF_none_int, item_tup0, item_tup1, item_tup2, item_lst0, valAt_s, valAt_n, V.onInt_int, V.onBool_bool, V.onTup_tup, V.onLst_lst, V.onNone_none, onRef_ref, moL_lst, moI_dic, moS_dic, on1_one, on2_two, onCons_cons, onNil_nil, tupR, lstR, lenR, hx, hn, d4, il0, q', eq_self, emitB, hz1]
              · have q' : ¬ ((l.x : Int) = (x : Int)) := by omega
                have e0 : (decide (l.x = x) && !l.denied num) = false := by simp [q]
                rw [e0]
                simp (config := { maxSteps := 3000000 }) (disch := first | assumption | decide | decide +kernel) only [sizeB, Nat.reduceAdd, Nat.reduceLeDiff, decide_true, decide_false, Bool.false_eq_true, if_false, if_true, ite_true, ite_false, reduceIte, Bool.not_true, Bool.not_false, Bool.and_true, Bool.true_and, Bool.and_self, decide_eq_true_eq, List.nil_append, List.cons_append, List.append_nil, List.singleton_append,
    defX, bindX, seqX, assignX, nameX, tupSt, asgCons, asgNil, nameSt, constX, retX, retN, exprX, brkX, tupX, lstX, consL, nilL, binX, callX, methX, subX, attrX, ifX, ifeX, notX, orX, andX, negX, cmpT, boolT, notT, andT, orT, swapX, tgtNames, subStX, newLstX, newDicX, forS, items_lst, items_tup, nilX,
    addF_int, subF_int, ltF_int, leF_int, gtF_int, geF_int, isF_bool, isF_nn, isF_in, isNotF_bool, Option.bind_some, Option.bind_none, upd_eq, upd_ne, List.length_cons, List.length_nil, List.filterMap_cons, List.filterMap_nil, List.reverse_cons, List.reverse_nil, eqF_s, eqF_sn, eqF_int, neF_int, eqF_bool, eqF_none_int, item_tup0, item_tup1, item_tup2, item_lst0, valAt_s, valAt_n, V.onInt_int, V.onBool_bool, V.onTup_tup, V.onLst_lst, V.onNone_none, onRef_ref, moL_lst, moI_dic, moS_dic, on1_one, on2_two, onCons_cons, onNil_nil, tupR, lstR, lenR, hx, hn, d4, il0, q', emitB, hz1]
          obtain ⟨ρ4, e, _⟩ := key3
          subst e
          have eq := eq_lits (ls.filter fun l => decide (l.x = x) && !l.denied num) m0
          cases hk : (ls.filter fun l => decide (l.x = x) && !l.denied num).isEmpty with
          | true =>
            rw [hk] at eq
            simp (config := { maxSteps := 3000000 }) (disch := first | assumption | decide | decide +kernel) only [sizeB, Nat.reduceAdd, Nat.reduceLeDiff, decide_true, decide_false, Bool.false_eq_true, if_false, if_true, ite_true, ite_false, reduceIte, Bool.not_true, Bool.not_false, Bool.and_true, Bool.true_and, Bool.and_self, decide_eq_true_eq, List.nil_append, List.cons_append, List.append_nil, List.singleton_append,
    defX, bindX, seqX, assignX, nameX, tupSt, asgCons, asgNil, nameSt, constX, retX, retN, exprX, brkX, tupX, lstX, consL, nilL, binX, callX, methX, subX, attrX, ifX, ifeX, notX, orX, andX, negX, cmpT, boolT, notT, andT, orT, swapX, tgtNames, subStX, newLstX, newDicX, forS, items_lst, items_tup, nilX,
    addF_int, subF_int, ltF_int, leF_int, gtF_int, geF_int, isF_bool, isF_nn, isF_in, isNotF_bool, Option.bind_some, Option.bind_none, upd_eq, upd_ne, List.length_cons, List.length_nil, List.filterMap_cons, List.filterMap_nil, List.reverse_cons, List.reverse_nil, eqF_s, eqF_sn, eqF_int, neF_int, eqF_bool, eqF_none_int, item_tup0, item_tup1, item_tup2, item_lst0, valAt_s, valAt_n, V.onInt_int, V.onBool_bool, V.onTup_tup, V.onLst_lst, V.onNone_none, onRef_ref, moL_lst, moI_dic, moS_dic, on1_one, on2_two, onCons_cons, onNil_nil, tupR, lstR, lenR, eq, emitB, hz1]
          | false =>
            rw [hk] at eq
            simp (config := { maxSteps := 3000000 }) (disch := first | assumption | decide | decide +kernel) only [sizeB, Nat.reduceAdd, Nat.reduceLeDiff, decide_true, decide_false, Bool.false_eq_true, if_false, if_true, ite_true, ite_false, reduceIte, Bool.not_true, Bool.not_false, Bool.and_true, Bool.true_and, Bool.and_self, decide_eq_true_eq, List.nil_append, List.cons_append, List.append_nil, List.singleton_append,
    defX, bindX, seqX, assignX, nameX, tupSt, asgCons, asgNil, nameSt, constX, retX, retN, exprX, brkX, tupX, lstX, consL, nilL, binX, callX, methX, subX, attrX, ifX, ifeX, notX, orX, andX, negX, cmpT, boolT, notT, andT, orT, swapX, tgtNames, subStX, newLstX, newDicX, forS, items_lst, items_tup, nilX,
    addF_int, subF_int, ltF_int, leF_int, gtF_int, geF_int, isF_bool, isF_nn, isF_in, isNotF_bool, Option.bind_some, Option.bind_none, upd_eq, upd_ne, List.length_cons, List.length_nil, List.filterMap_cons, List.filterMap_nil, List.reverse_cons, List.reverse_nil, eqF_s, eqF_sn, eqF_int, neF_int, eqF_bool, eqF_none_int, item_tup0, item_tup1, item_tup2, item_lst0, valAt_s, valAt_n, V.onInt_int, V.onBool_bool, V.onTup_tup, V.onLst_lst, V.onNone_none, onRef_ref, moL_lst, moI_dic, moS_dic, on1_one, on2_two, onCons_cons, onNil_nil, tupR, lstR, lenR, eq, emitB, hz1]
      obtain ⟨ρ3, e, _⟩ := key2
      subst e
      subst hm
      have el : V.lst ((keepL ls x lot).map .int) = lotV (keepL ls x lot) := rfl
      simp (config := { maxSteps := 3000000 }) (disch := first | assumption | decide | decide +kernel) only [sizeB, Nat.reduceAdd, Nat.reduceLeDiff, decide_true, decide_false, Bool.false_eq_true, if_false, if_true, ite_true, ite_false, reduceIte, Bool.not_true, Bool.not_false, Bool.and_true, Bool.true_and, Bool.and_self, decide_eq_true_eq, List.nil_append, List.cons_append, List.append_nil, List.singleton_append,
    defX, bindX, seqX, assignX, nameX, tupSt, asgCons, asgNil, nameSt, constX, retX, retN, exprX, brkX, tupX, lstX, consL, nilL, binX, callX, methX, subX, attrX, ifX, ifeX, notX, orX, andX, negX, cmpT, boolT, notT, andT, orT, swapX, tgtNames, subStX, newLstX, newDicX, forS, items_lst, items_tup, nilX,
    addF_int, subF_int, ltF_int, leF_int, gtF_int, geF_int, isF_bool, isF_nn, isF_in, isNotF_bool, Option.bind_some, Option.bind_none, upd_eq, upd_ne, List.length_cons, List.length_nil, List.filterMap_cons, List.filterMap_nil, List.reverse_cons, List.reverse_nil, eqF_s, eqF_sn, eqF_int, neF_int, eqF_bool, eqF_none_int, item_tup0, item_tup1, item_tup2, item_lst0, valAt_s, valAt_n, V.onInt_int, V.onBool_bool, V.onTup_tup, V.onLst_lst, V.onNone_none, onRef_ref, moL_lst, moI_dic, moS_dic, on1_one, on2_two, onCons_cons, onNil_nil, tupR, lstR, lenR, ap, el]
      rw [List.map_append]; rfl
    obtain ⟨ρ2, m', e, rfl, hc, hl, hf, hz⟩ := key
    subst e
    clear hW hfold R
    have RA := right_all (L := L) (ls := ls) (by omega) hlow hlot hinc (by rw [iL]; exact hx)
    have hll : (leftL L ls).length = n := by rw [left_range, List.length_map, List.length_range, iL]
    have hlf : ∀ l ∈ leftL L ls, l.length ≤ 10 := by
      rw [left_range]
      intro l hl
      obtain ⟨x, hx, rfl⟩ := List.mem_map.mp hl
      have h1 := hlot _ (lotAt_mem (List.mem_range.mp hx))
      have h2 : (keepL ls x (lotAt L ((x : Nat) : Int))).length ≤ (lotAt L ((x : Nat) : Int)).length := List.length_filter_le _ _
      omega
    have rd := RA.d
    have e2 : ∀ m, f2 [.lst ((leftL L ls).map lotV)] m = some (.bool (canA (leftL L ls)), m) := fun m => s2 (leftL L ls) m (by omega) hlf
    have e3 := in_lots (leftL L ls)
    have rc := RA.c
    rw [iL] at rc rd
    have hFM : FlatM [binO cells v, .dead, .dead, .dead] := by
      show [binO cells v, .dead, .dead, .dead].all (cleanO 0) = true
      rw [List.all_cons, clean_bin]; rfl
    have hD : (L.map rangesOf).length = n := by rw [List.length_map, iL]
    have hp2 : (4 + 1) * 2 ^ ls.length ≤ 51 := by
      have : 2 ^ ls.length ≤ 2 ^ 2 := Nat.pow_le_pow_right (by decide) (by omega)
      omega
    have e6 := s6 (L.map rangesOf) ls n (canA (leftL L ls)) 4 [binO cells v, .dead, .dead, .dead] hFM (by omega) hn1.2 (by omega) (by omega) (by rw [hD]; exact hx) RA.a hp2 (fun x h => RA.b x (by omega)) rc
    rw [rd] at e6
    clear rd rc RA
    generalize leftL L ls = left at *
    generalize canA left = can at *
    have g : [binO cells v, MO.dead, MO.dead, MO.lst (left.map lotV)][3]? = some (.lst (left.map lotV)) := rfl
    have st : [binO cells v, MO.dead, MO.dead, MO.lst (left.map lotV)].set 3 .dead = [binO cells v, .dead, .dead, .dead] := rfl
    have key4 : ∀ ρ4, ∃ ρ', loopB (nameSt "lot") trueT (emitB (callX f3 (consL (nameX "lot") nilL))) (L.map lotV) ρ4 [binO cells v, .dead, .dead, .dead] [] = some (ρ', [binO cells v, .dead, .dead, .dead], L.map fun l => domV (rangesOf l)) ∧ True := fun ρ4 => by
      refine loopB_map (fun _ => True) [binO cells v, .dead, .dead, .dead] lotV (fun l => domV (rangesOf l)) 1000 L ρ4 trivial (by omega) ?_
      intro l ρ acc _ hl hz
      have hl4 := hlot l hl
      have hz1 : acc.length ≤ 100000 := by omega
      have sm : smallL (dedI l) = true := by
        unfold smallL
        rw [Bool.and_eq_true]
        constructor
        · rw [List.all_eq_true]
          intro u hu
          have := hlow l hl u (mem_dedI.mp hu)
          rw [Bool.and_eq_true]
          exact ⟨decide_eq_true (by omega), decide_eq_true (by omega)⟩
        · exact decide_eq_true (Nat.le_trans (dedI_len_le l) hl4)
      have d3 := s3 l [binO cells v, .dead, .dead, .dead] (by omega) sm hFM
      refine ⟨upd ρ "lot" (lotV l), fun rest => ?_, trivial⟩
      rw [loopB]
      simp (config := { maxSteps := 3000000 }) (disch := first | assumption | decide | decide +kernel) only [sizeB, Nat.reduceAdd, Nat.reduceLeDiff, decide_true, decide_false, Bool.false_eq_true, if_false, if_true, ite_true, ite_false, reduceIte, Bool.not_true, Bool.not_false, Bool.and_true, Bool.true_and, Bool.and_self, decide_eq_true_eq, List.nil_append, List.cons_append, List.append_nil, List.singleton_append,
    defX, bindX, seqX, assignX, nameX, tupSt, asgCons, asgNil, nameSt, constX, retX, retN, exprX, brkX, tupX, lstX, consL, nilL, binX, callX, methX, subX, attrX, ifX, ifeX, notX, orX, andX, negX, cmpT, boolT, notT, andT, orT, swapX, tgtNames, subStX, newLstX, newDicX, forS, items_lst, items_tup, nilX,
    addF_int, subF_int, ltF_int, leF_int, gtF_int, geF_int, isF_bool, isF_nn, isF_in, isNotF_bool, Option.bind_some, Option.bind_none, upd_eq, upd_ne, List.length_cons, List.length_nil, List.filterMap_cons, List.filterMap_nil, List.reverse_cons, List.reverse_nil, eqF_s, eqF_sn, eqF_int, neF_int, eqF_bool, eqF_none_int, item_tup0, item_tup1, item_tup2, item_lst0, valAt_s, valAt_n, V.onInt_int, V.onBool_bool, V.onTup_tup, V.onLst_lst, V.onNone_none, onRef_ref, moL_lst, moI_dic, moS_dic, on1_one, on2_two, onCons_cons, onNil_nil, tupR, lstR, lenR, d3, emitB, trueT, hz1]
    have ed : V.lst (L.map fun l => domV (rangesOf l)) = domsV (L.map rangesOf) := by unfold domsV; rw [List.map_map]; rfl
    have ll : ∀ m, lenF [.lst (L.map lotV)] m = some (.int n, m) := fun m => by rw [len_lst (by rw [List.length_map]; omega), List.length_map, iL]
    have rr : ∀ m, rangeF [.int (n : Int)] m = some (.rng 0 (n : Int), m) := fun m => rfl
    have tt : ∀ m, tupF [.rng 0 (n : Int)] m = some (.tup (varsV n), m) := fun m => by
      have s1 : smallI 0 = true := rfl
      have s2 : smallI (n : Int) = true := by rw [smallI_iff]; omega
      have s3 : decide (((n : Int) - 0).toNat ≤ 1000) = true := decide_eq_true (by omega)
      have e : rngInts 0 ((n : Int) - 0).toNat = varsV n := by rw [← rngInts0]; congr 1
      show (if (smallI 0 && smallI (n : Int) && decide (((n : Int) - 0).toNat ≤ 1000)) = true then some (V.tup (rngInts 0 ((n : Int) - 0).toNat), m) else none) = _
      rw [if_pos (by rw [s1, s2, s3]; rfl), e]
    have tl : ∀ m, tupF [.lst (ls.map litV)] m = some (.tup (ls.map litV), m) := fun m => by
      have : (ls.map litV).length ≤ sizeB := by rw [List.length_map]; exact Nat.le_trans (by omega : ls.length ≤ 2) (by decide)
      exact if_pos this
    have et : V.tup [.str "all_different", .tup (varsV n)] = toldV n := rfl
    cases ha : left.any (fun l => l.isEmpty) with
    | true =>
      rw [ha] at e3 e6
      have e6' : f6 [judgeV (domsV (L.map rangesOf)) (.int 0), toldV n, .tup (ls.map litV)] [binO cells v, .dead, .dead, .dead] = some (.bool true, [binO cells v, .dead, .dead, .dead]) := e6
      have bb : (true == true) = true := rfl
      simp (config := { maxSteps := 3000000 }) (disch := first | assumption | decide | decide +kernel) only [sizeB, Nat.reduceAdd, Nat.reduceLeDiff, decide_true, decide_false, Bool.false_eq_true, if_false, if_true, ite_true, ite_false, reduceIte, Bool.not_true, Bool.not_false, Bool.and_true, Bool.true_and, Bool.and_self, decide_eq_true_eq, List.nil_append, List.cons_append, List.append_nil, List.singleton_append,
    defX, bindX, seqX, assignX, nameX, tupSt, asgCons, asgNil, nameSt, constX, retX, retN, exprX, brkX, tupX, lstX, consL, nilL, binX, callX, methX, subX, attrX, ifX, ifeX, notX, orX, andX, negX, cmpT, boolT, notT, andT, orT, swapX, tgtNames, subStX, newLstX, newDicX, forS, items_lst, items_tup, nilX,
    addF_int, subF_int, ltF_int, leF_int, gtF_int, geF_int, isF_bool, isF_nn, isF_in, isNotF_bool, Option.bind_some, Option.bind_none, upd_eq, upd_ne, List.length_cons, List.length_nil, List.filterMap_cons, List.filterMap_nil, List.reverse_cons, List.reverse_nil, eqF_s, eqF_sn, eqF_int, neF_int, eqF_bool, eqF_none_int, item_tup0, item_tup1, item_tup2, item_lst0, valAt_s, valAt_n, V.onInt_int, V.onBool_bool, V.onTup_tup, V.onLst_lst, V.onNone_none, onRef_ref, moL_lst, moI_dic, moS_dic, on1_one, on2_two, onCons_cons, onNil_nil, tupR, lstR, lenR, hl, hf, hc, frzX, g, st, e3, e2, s5, compX]
      generalize capX _ _ = ρ4
      obtain ⟨ρ5, e5, _⟩ := key4 ρ4
      simp (config := { maxSteps := 3000000 }) (disch := first | assumption | decide | decide +kernel) only [sizeB, Nat.reduceAdd, Nat.reduceLeDiff, decide_true, decide_false, Bool.false_eq_true, if_false, if_true, ite_true, ite_false, reduceIte, Bool.not_true, Bool.not_false, Bool.and_true, Bool.true_and, Bool.and_self, decide_eq_true_eq, List.nil_append, List.cons_append, List.append_nil, List.singleton_append,
    defX, bindX, seqX, assignX, nameX, tupSt, asgCons, asgNil, nameSt, constX, retX, retN, exprX, brkX, tupX, lstX, consL, nilL, binX, callX, methX, subX, attrX, ifX, ifeX, notX, orX, andX, negX, cmpT, boolT, notT, andT, orT, swapX, tgtNames, subStX, newLstX, newDicX, forS, items_lst, items_tup, nilX,
    addF_int, subF_int, ltF_int, leF_int, gtF_int, geF_int, isF_bool, isF_nn, isF_in, isNotF_bool, Option.bind_some, Option.bind_none, upd_eq, upd_ne, List.length_cons, List.length_nil, List.filterMap_cons, List.filterMap_nil, List.reverse_cons, List.reverse_nil, eqF_s, eqF_sn, eqF_int, neF_int, eqF_bool, eqF_none_int, item_tup0, item_tup1, item_tup2, item_lst0, valAt_s, valAt_n, V.onInt_int, V.onBool_bool, V.onTup_tup, V.onLst_lst, V.onNone_none, onRef_ref, moL_lst, moI_dic, moS_dic, on1_one, on2_two, onCons_cons, onNil_nil, tupR, lstR, lenR, hc, e5, s5, ed, ll, rr, tt, tl, et, e6', inst_judge, bb]
      exact ⟨v, [.dead, .dead, .dead], by omega, rfl⟩
    | false =>
      rw [ha] at e3 e6
      have e6' : f6 [judgeV (domsV (L.map rangesOf)) (.int 0), toldV n, .tup (ls.map litV)] [binO cells v, .dead, .dead, .dead] = some (.bool (!can), [binO cells v, .dead, .dead, .dead]) := e6
      have bb : ((!can) == !can) = true := by cases can <;> rfl
      simp (config := { maxSteps := 3000000 }) (disch := first | assumption | decide | decide +kernel) only [sizeB, Nat.reduceAdd, Nat.reduceLeDiff, decide_true, decide_false, Bool.false_eq_true, if_false, if_true, ite_true, ite_false, reduceIte, Bool.not_true, Bool.not_false, Bool.and_true, Bool.true_and, Bool.and_self, decide_eq_true_eq, List.nil_append, List.cons_append, List.append_nil, List.singleton_append,
    defX, bindX, seqX, assignX, nameX, tupSt, asgCons, asgNil, nameSt, constX, retX, retN, exprX, brkX, tupX, lstX, consL, nilL, binX, callX, methX, subX, attrX, ifX, ifeX, notX, orX, andX, negX, cmpT, boolT, notT, andT, orT, swapX, tgtNames, subStX, newLstX, newDicX, forS, items_lst, items_tup, nilX,
    addF_int, subF_int, ltF_int, leF_int, gtF_int, geF_int, isF_bool, isF_nn, isF_in, isNotF_bool, Option.bind_some, Option.bind_none, upd_eq, upd_ne, List.length_cons, List.length_nil, List.filterMap_cons, List.filterMap_nil, List.reverse_cons, List.reverse_nil, eqF_s, eqF_sn, eqF_int, neF_int, eqF_bool, eqF_none_int, item_tup0, item_tup1, item_tup2, item_lst0, valAt_s, valAt_n, V.onInt_int, V.onBool_bool, V.onTup_tup, V.onLst_lst, V.onNone_none, onRef_ref, moL_lst, moI_dic, moS_dic, on1_one, on2_two, onCons_cons, onNil_nil, tupR, lstR, lenR, hl, hf, hc, frzX, g, st, e3, e2, s5, compX]
      generalize capX _ _ = ρ4
      obtain ⟨ρ5, e5, _⟩ := key4 ρ4
      simp (config := { maxSteps := 3000000 }) (disch := first | assumption | decide | decide +kernel) only [sizeB, Nat.reduceAdd, Nat.reduceLeDiff, decide_true, decide_false, Bool.false_eq_true, if_false, if_true, ite_true, ite_false, reduceIte, Bool.not_true, Bool.not_false, Bool.and_true, Bool.true_and, Bool.and_self, decide_eq_true_eq, List.nil_append, List.cons_append, List.append_nil, List.singleton_append,
    defX, bindX, seqX, assignX, nameX, tupSt, asgCons, asgNil, nameSt, constX, retX, retN, exprX, brkX, tupX, lstX, consL, nilL, binX, callX, methX, subX, attrX, ifX, ifeX, notX, orX, andX, negX, cmpT, boolT, notT, andT, orT, swapX, tgtNames, subStX, newLstX, newDicX, forS, items_lst, items_tup, nilX,
    addF_int, subF_int, ltF_int, leF_int, gtF_int, geF_int, isF_bool, isF_nn, isF_in, isNotF_bool, Option.bind_some, Option.bind_none, upd_eq, upd_ne, List.length_cons, List.length_nil, List.filterMap_cons, List.filterMap_nil, List.reverse_cons, List.reverse_nil, eqF_s, eqF_sn, eqF_int, neF_int, eqF_bool, eqF_none_int, item_tup0, item_tup1, item_tup2, item_lst0, valAt_s, valAt_n, V.onInt_int, V.onBool_bool, V.onTup_tup, V.onLst_lst, V.onNone_none, onRef_ref, moL_lst, moI_dic, moS_dic, on1_one, on2_two, onCons_cons, onNil_nil, tupR, lstR, lenR, hc, e5, s5, ed, ll, rr, tt, tl, et, e6', inst_judge, bb]
      exact ⟨v, [.dead, .dead, .dead], by omega, rfl⟩
end
end Mine
-- S18
namespace Mine
theorem ints_rel {g : G} {φ : List Addr} : ∀ {vs : List Value} {ns : List Int}, IntsAre vs ns → VRels g φ vs (ns.map .int)
  | _, _, .nil => .nil
  | _, _, .cons n t r => .cons (.int n t) (ints_rel r)
section
variable {w : World} {H : Heap} {mg mb : Str → Option Value}
abbrev LotsRS (f : CF) : Prop := ∀ cells t, cells.length ≤ 1000 → t ≤ 900 → ∃ t', t' ≤ t + 40 ∧ f [.ref 0] [binO cells t] = some (.bool true, [binO cells t'])
theorem all_fns (ok : (cx w H mg mb).Ok) : ∃ f1 f2, CallOK (cx w H mg mb) 3 (.ref 404) f1 ∧ LotsRS f1 ∧ CallOK (cx w H mg mb) 7 (.ref 409) f2 ∧ LotsRS f2 := by
  obtain ⟨_, hneg, sneg⟩ := negation_ok ok
  obtain ⟨_, hden, sden⟩ := law_is_denied_ok ok
  obtain ⟨_, hsc, ssc⟩ := law_scoop_ok ok
  obtain ⟨_, hup, sup⟩ := up_to_ok ok
  obtain ⟨_, hfr, sfr⟩ := from_on_ok ok
  obtain ⟨_, hwi, swi⟩ := without_ok ok hup sup hfr sfr
  obtain ⟨_, hsz, ssz⟩ := size_ok ok
  obtain ⟨_, hva, sva⟩ := values_ok ok
  obtain ⟨_, hme, sme⟩ := meet_ok ok
  obtain ⟨_, hst, sst⟩ := struck_ok ok hup sup hfr sfr hwi swi hme sme
  obtain ⟨_, hli, sli⟩ := listed_vars_ok ok
  obtain ⟨_, hvo, svo⟩ := vars_of_ok ok hli sli
  obtain ⟨_, hbn, sbn⟩ := box_new_ok ok
  obtain ⟨_, hjn, sjn⟩ := judge_new_ok ok
  obtain ⟨_, hdo, sdo⟩ := domain_ok ok
  obtain ⟨_, hsa, ssa⟩ := say_ok ok hst sst hdo sdo
  obtain ⟨_, hde, sde⟩ := deny_ok ok hneg sneg hsa ssa
  obtain ⟨_, hlc, slc⟩ := law_can_ok ok
  obtain ⟨_, hlr, slr⟩ := law_ranges_ok ok
  obtain ⟨_, hmo, smo⟩ := move_on_ok ok
  obtain ⟨_, hcd, scd⟩ := can_differ_ok ok hmo smo
  obtain ⟨_, hir, sir⟩ := is_refuted_ok ok hdo sdo hva sva hcd scd
  obtain ⟨_, hfo, sfo⟩ := follows_ok ok hbn sbn hde sde hvo svo hdo sdo hir sir hsz ssz
  obtain ⟨f1, h1, s1⟩ := law_lots_right_ok ok hsc ssc hlc slc hjn sjn hcd scd
  obtain ⟨f2, h2, s2⟩ := law_follows_right_ok ok hsc ssc hlc slc hlr slr hden sden hjn sjn hfo sfo
  exact ⟨f1, f2, h1, s1, h2, s2⟩
end
theorem law_end {w : World} {s₁ s : Shared} {mg mb : Str → Option Value} {name : Str} {scope : Scope} {L fa la : Addr} {cd : Value} {body : List Stmt} {F : SF} {A : Around} {vs : List Value} {ns : List Int} {m : Str → Option Value} {Q : Flow → Shared → Prop} {E : Value → Shared → Prop}
    (hL : s₁.heap.IsList la vs.toArray) (hI : IntsAre vs ns) (F1 : Fr s₁.heap L s.heap m) (hm : m "script" = some (.ref la)) (hA : AOk 8 A) (hk : (envOf name scope L fa cd).kindOf "script" = some .local) (hfn : scope.kind = .function)
    (hE : ExOK (cx w s₁.heap mg mb) 8 ⟨envOf name scope L fa cd, []⟩ body F) (hF : ∃ ρ' m', F (upd (fun _ => none) "script" (lotV ns)) [] = some (.ret (.bool true), ρ', m'))
    (hQ : ∀ h' tk m', Fr s₁.heap L h' m' → Q (.ret (.bool true)) { s with heap := h', toks := tk }) : wpAny (model Challenge.rw_pc0052_01.row.prog w) A (execs body (envOf name scope L fa cd)) Q E s := by
  obtain ⟨ρ', m', e⟩ := hF
  have gL : s₁.heap.get? L = none := get_ge F1.above
  have R : Rel (cx w s₁.heap mg mb) ⟨envOf name scope L fa cd, []⟩ s₁.heap.get? [] (upd (fun _ => none) "script" (lotV ns)) [] s.heap := by
    refine ⟨⟨hfn, rfl, rfl⟩, ⟨fun a o e => e, F1.keep, rfl, List.nodup_nil, fun a h => (by cases h), fun a h => (by cases h), fun k o a e => (by simp at e)⟩, ?_⟩
    refine ⟨⟨m, F1.ns, fun x v hk hv => ?_⟩, fun x v hk' hv => ?_, gL, ?_, fun x c h => (by cases h), fun c h => (by cases h), fun c h => (by cases h), fun x y c h => (by cases h), fun h => by cases h⟩
    · unfold upd at hv
      by_cases q : x = "script"
      · rw [if_pos q] at hv
        cases hv
        obtain ⟨o, e1, e2, e3⟩ := hL
        exact ⟨_, by rw [q]; exact hm, .lst e1 ⟨e2, e3⟩ (ints_rel hI)⟩
      · rw [if_neg q] at hv; cases hv
    · unfold upd at hv
      by_cases q : x = "script"
      · subst q
        have hk' : (envOf name scope L fa cd).kindOf "script" = some .cell ∨ (envOf name scope L fa cd).kindOf "script" = some .free := hk'
        rw [hk] at hk'
        rcases hk' with z | z <;> cases z
      · rw [if_neg q] at hv; cases hv
    · rintro ⟨k, o, e1, _⟩
      simp at e1
  refine wpAny_mono (hE _ [] _ ρ' m' e A s₁.heap.get? [] s Q hA R ?_) (fun _ _ h => h) (fun _ _ x => x.elim)
  intro g' φ' h' tk wf T R' fr
  cases fr with
  | ret r =>
    cases r
    obtain ⟨m2, e2, _⟩ := R'.e.loc
    exact hQ h' tk m2 ⟨e2, fun b o e => R'.m.keep b o (R'.m.top b o e), F1.above⟩
noncomputable def cellsOf (ns : List Int) : List Int := (ns.take 60).map fun c => c.fmod 1000003
end Mine
-- S19
namespace Mine
theorem body_ok {w : World} {H : Heap} {mg mb : Str → Option Value} (ok : (cx w H mg mb).Ok) (L fa : Addr) (cd : Value) : ∃ F, ExOK (cx w H mg mb) 8 ⟨envOf "law" (fS (T 49)) L fa cd, []⟩ (fB (T 49)) F ∧
    ∀ ns : List Int, ns.length ≤ 63 → ∃ ρ' m', F (upd (fun _ => none) "script" (lotV ns)) [] = some (.ret (.bool true), ρ', m') := by
  obtain ⟨f1, f2, h1, s1, h2, s2⟩ := all_fns ok
  refine' ⟨_, ?hE, ?hF⟩
  case hE =>
    refine' ExOK.cons ?a0 ?b0
    case a0 => exact (StOK.assign (evDic2 ok (EvOK.comp rfl (EvOK.slice (loadLocal rfl rfl) partNone (partSome EvOK.int) partNone (fun _ _ => ⟨_, rfl⟩)) (fun _ => rfl) (CompSt.of rfl rfl rfl rfl rfl rfl (fun _ => rfl) (fun _ => rfl) rfl rfl) (fun _ => (LpOK.mk (fun _ _ => (turn1 _ _ _ _ _ _ _ _ _)) (AsgOK.local rfl) TsOK.nil (InOK.emit (EvOK.bin (EvOK.call (bi_int ok rfl) (EvsOK.cons (loadLocal rfl rfl) EvsOK.nil rfl) rfl keepT intCallOK rfl) EvOK.int fmodOK))))) EvOK.int (by decide)) (AsgOK.local rfl) rfl rfl rfl)
    case b0 => exact (ExOK.cons (StOK.for (EvOK.call (bi_range ok rfl) (EvsOK.cons EvOK.int EvsOK.nil rfl) rfl keepT rangeOK rfl) (AsgOK.local rfl) (ExOK.cons (StOK.ite (TeOK.not (TeOK.ofEv (EvOK.call (loadGlobal' ok rfl rfl rfl) (EvsOK.cons (loadLocal rfl rfl) EvsOK.nil rfl) rfl (KeepOK.fn ok rfl) (CallOK.up h1 (by decide)) rfl) (fun _ => rfl))) (ExOK.cons (StOK.ret EvOK.bool) ExOK.nil) ExOK.nil) ExOK.nil) (fun _ => rfl)) (ExOK.cons (StOK.ret (EvOK.and (EvOK.call (loadGlobal' ok rfl rfl rfl) (EvsOK.cons (loadLocal rfl rfl) EvsOK.nil rfl) rfl (KeepOK.fn ok rfl) (CallOK.up h2 (by decide)) rfl) (EvOK.call (loadGlobal' ok rfl rfl rfl) (EvsOK.cons (loadLocal rfl rfl) EvsOK.nil rfl) rfl (KeepOK.fn ok rfl) (CallOK.up h2 (by decide)) rfl))) ExOK.nil))
  case hF =>
    intro ns hlen
    have hsl : (ns.map V.int).length ≤ 100000 := by rw [List.length_map]; exact Nat.le_trans hlen (by decide)
    have pk : pickV (ns.map V.int) none (some (60 : Int)) none = (ns.take 60).map .int := by rw [show (60 : Int) = ((60 : Nat) : Int) from rfl, pick_to', List.map_take]
    have hst : ∀ ρ m, (partX (some (constX (V.int 60))) ρ m) = some (some 60, m) := fun _ _ => rfl
    simp (config := { maxSteps := 3000000 }) (disch := first | assumption | decide | decide +kernel) only [sizeB, Nat.reduceAdd, Nat.reduceLeDiff, decide_true, decide_false, Bool.false_eq_true, if_false, if_true, ite_true, ite_false, reduceIte, Bool.not_true, Bool.not_false, Bool.and_true, Bool.true_and, Bool.and_self, decide_eq_true_eq, List.nil_append, List.cons_append, List.append_nil, List.singleton_append,
    defX, bindX, seqX, assignX, nameX, tupSt, asgCons, asgNil, nameSt, constX, retX, retN, exprX, brkX, tupX, lstX, consL, nilL, binX, callX, methX, subX, attrX, ifX, ifeX, notX, orX, andX, negX, cmpT, boolT, notT, andT, orT, swapX, tgtNames, subStX, newLstX, newDicX, forS, items_lst, items_tup, nilX,
    addF_int, subF_int, ltF_int, leF_int, gtF_int, geF_int, isF_bool, isF_nn, isF_in, isNotF_bool, Option.bind_some, Option.bind_none, upd_eq, upd_ne, List.length_cons, List.length_nil, List.filterMap_cons, List.filterMap_nil, List.reverse_cons, List.reverse_nil, eqF_s, eqF_sn, eqF_int, neF_int, eqF_bool, eqF_none_int, item_tup0, item_tup1, item_tup2, item_lst0, valAt_s, valAt_n, V.onInt_int, V.onBool_bool, V.onTup_tup, V.onLst_lst, V.onNone_none, onRef_ref, moL_lst, moI_dic, moS_dic, on1_one, on2_two, onCons_cons, onNil_nil, tupR, lstR, lenR, compX, dic2X, sliceX, partX, hsl, pk, lotV, ne_eq, not_false_eq_true, and_self, reduceCtorEq]
    generalize hρ2 : capX _ _ = ρ2
    generalize hW : loopB _ _ _ _ ρ2 _ _ = W
    have key : ∃ ρ', W = some (ρ', [], (cellsOf ns).map .int) ∧ True := by
      rw [← hW]
      have e : (cellsOf ns).map V.int = (ns.take 60).map fun c => V.int (c.fmod 1000003) := by unfold cellsOf; rw [List.map_map]; rfl
      rw [e]
      refine loopB_map (fun _ => True) [] V.int (fun c => V.int (c.fmod 1000003)) 1000 (ns.take 60) ρ2 trivial (by rw [List.length_take]; omega) ?_
      intro l ρ acc _ hl hz
      have hz1 : acc.length ≤ 100000 := by omega
      have ic : ∀ m, intCallF [V.int l] m = some (.int l, m) := fun m => rfl
      have fm := fmodF_int (a := l) (b := 1000003) (by decide)
      refine ⟨upd ρ "cell" (.int l), fun rest => ?_, trivial⟩
      rw [loopB]
      simp (config := { maxSteps := 3000000 }) (disch := first | assumption | decide | decide +kernel) only [sizeB, Nat.reduceAdd, Nat.reduceLeDiff, decide_true, decide_false, Bool.false_eq_true, if_false, if_true, ite_true, ite_false, reduceIte, Bool.not_true, Bool.not_false, Bool.and_true, Bool.true_and, Bool.and_self, decide_eq_true_eq, List.nil_append, List.cons_append, List.append_nil, List.singleton_append,
    defX, bindX, seqX, assignX, nameX, tupSt, asgCons, asgNil, nameSt, constX, retX, retN, exprX, brkX, tupX, lstX, consL, nilL, binX, callX, methX, subX, attrX, ifX, ifeX, notX, orX, andX, negX, cmpT, boolT, notT, andT, orT, swapX, tgtNames, subStX, newLstX, newDicX, forS, items_lst, items_tup, nilX,
    addF_int, subF_int, ltF_int, leF_int, gtF_int, geF_int, isF_bool, isF_nn, isF_in, isNotF_bool, Option.bind_some, Option.bind_none, upd_eq, upd_ne, List.length_cons, List.length_nil, List.filterMap_cons, List.filterMap_nil, List.reverse_cons, List.reverse_nil, eqF_s, eqF_sn, eqF_int, neF_int, eqF_bool, eqF_none_int, item_tup0, item_tup1, item_tup2, item_lst0, valAt_s, valAt_n, V.onInt_int, V.onBool_bool, V.onTup_tup, V.onLst_lst, V.onNone_none, onRef_ref, moL_lst, moI_dic, moS_dic, on1_one, on2_two, onCons_cons, onNil_nil, tupR, lstR, lenR, ic, fm, emitB, trueT, hz1]
    obtain ⟨ρ3, e, _⟩ := key
    subst e
    have hcl : (cellsOf ns).length ≤ 1000 := by unfold cellsOf; rw [List.length_map, List.length_take]; omega
    have eb : [MO.dicS [("cells", V.lst ((cellsOf ns).map .int)), ("turn", V.int 0)]] = [binO (cellsOf ns) 0] := rfl
    have r3 : ∀ m, rangeF [.int 3] m = some (.rng 0 3, m) := fun m => rfl
    have i3 : itemsOf (.rng 0 3) = some [.int 0, .int 1, .int 2] := rfl
    obtain ⟨t1, l1, e1⟩ := s1 (cellsOf ns) 0 hcl (by omega)
    obtain ⟨t2, l2, e2⟩ := s1 (cellsOf ns) t1 hcl (by omega)
    obtain ⟨t3, l3, e3⟩ := s1 (cellsOf ns) t2 hcl (by omega)
    obtain ⟨t4, l4, e4⟩ := s2 (cellsOf ns) t3 hcl (by omega)
    obtain ⟨t5, l5, e5⟩ := s2 (cellsOf ns) t4 hcl (by omega)
    simp (config := { maxSteps := 3000000 }) (disch := first | assumption | decide | decide +kernel) only [sizeB, Nat.reduceAdd, Nat.reduceLeDiff, decide_true, decide_false, Bool.false_eq_true, if_false, if_true, ite_true, ite_false, reduceIte, Bool.not_true, Bool.not_false, Bool.and_true, Bool.true_and, Bool.and_self, decide_eq_true_eq, List.nil_append, List.cons_append, List.append_nil, List.singleton_append,
    defX, bindX, seqX, assignX, nameX, tupSt, asgCons, asgNil, nameSt, constX, retX, retN, exprX, brkX, tupX, lstX, consL, nilL, binX, callX, methX, subX, attrX, ifX, ifeX, notX, orX, andX, negX, cmpT, boolT, notT, andT, orT, swapX, tgtNames, subStX, newLstX, newDicX, forS, items_lst, items_tup, nilX,
    addF_int, subF_int, ltF_int, leF_int, gtF_int, geF_int, isF_bool, isF_nn, isF_in, isNotF_bool, Option.bind_some, Option.bind_none, upd_eq, upd_ne, List.length_cons, List.length_nil, List.filterMap_cons, List.filterMap_nil, List.reverse_cons, List.reverse_nil, eqF_s, eqF_sn, eqF_int, neF_int, eqF_bool, eqF_none_int, item_tup0, item_tup1, item_tup2, item_lst0, valAt_s, valAt_n, V.onInt_int, V.onBool_bool, V.onTup_tup, V.onLst_lst, V.onNone_none, onRef_ref, moL_lst, moI_dic, moS_dic, on1_one, on2_two, onCons_cons, onNil_nil, tupR, lstR, lenR, r3, i3, eb, forX, e1, e2, e3, e4, e5]
    exact ⟨_, _, rfl⟩
end Mine
/-! ## The join
The theorems `fin.tw..` below say nothing: each holds a name back. The head's tactic lays a twin of every constant that it makes,
and the twins' lemmas would swell the compiled file to twice its lid; where the twin's name is taken, the tactic goes on without it. -/
namespace Mine
theorem fin.tw4816591812421909578 : True := trivial
theorem fin.tw10070804522480449196 : True := trivial
theorem fin.tw10098057777631523497 : True := trivial
theorem fin.tw1014637456484912126 : True := trivial
theorem fin.tw10196768644732416780 : True := trivial
theorem fin.tw10242451874928486539 : True := trivial
theorem fin.tw10329872625359487480 : True := trivial
theorem fin.tw10383673109516279431 : True := trivial
theorem fin.tw10391319463526535247 : True := trivial
theorem fin.tw10511823565363050587 : True := trivial
theorem fin.tw10580198807604790814 : True := trivial
theorem fin.tw10599938827571368224 : True := trivial
theorem fin.tw10671828304227620169 : True := trivial
theorem fin.tw10780969087567948381 : True := trivial
theorem fin.tw10807920368746810246 : True := trivial
theorem fin.tw10829458402184033698 : True := trivial
theorem fin.tw10852849658779182186 : True := trivial
theorem fin.tw10874316729293906858 : True := trivial
theorem fin.tw1088692219920020602 : True := trivial
theorem fin.tw10891054232620793217 : True := trivial
theorem fin.tw10895054467252067526 : True := trivial
theorem fin.tw10925335251469727208 : True := trivial
theorem fin.tw10936777179133785780 : True := trivial
theorem fin.tw11039862389202566683 : True := trivial
theorem fin.tw11040825799340251285 : True := trivial
theorem fin.tw11061592194353771069 : True := trivial
theorem fin.tw11079828417688620724 : True := trivial
theorem fin.tw11112386831996348380 : True := trivial
theorem fin.tw111200028466390044 : True := trivial
theorem fin.tw11151619158091525091 : True := trivial
theorem fin.tw11154830654865731599 : True := trivial
theorem fin.tw11192643925408225281 : True := trivial
theorem fin.tw11273041486466551846 : True := trivial
theorem fin.tw11293339424137598113 : True := trivial
theorem fin.tw11298980531735778240 : True := trivial
theorem fin.tw11414674201277728305 : True := trivial
theorem fin.tw114324938638158839 : True := trivial
theorem fin.tw11454252539852477091 : True := trivial
theorem fin.tw11575174756993882273 : True := trivial
theorem fin.tw11587955951900863698 : True := trivial
theorem fin.tw11615019562542576733 : True := trivial
theorem fin.tw11839362037839518811 : True := trivial
theorem fin.tw11897717083992391400 : True := trivial
theorem fin.tw11953781441336167498 : True := trivial
theorem fin.tw12105171945263650130 : True := trivial
theorem fin.tw12118000046449163591 : True := trivial
theorem fin.tw12135189313929291683 : True := trivial
theorem fin.tw12141802397888321627 : True := trivial
theorem fin.tw12149302876761508202 : True := trivial
theorem fin.tw12212933522069011988 : True := trivial
theorem fin.tw12237877928780879103 : True := trivial
theorem fin.tw12284014389350100970 : True := trivial
theorem fin.tw12291753297600562012 : True := trivial
theorem fin.tw12347537446847802165 : True := trivial
theorem fin.tw12409915417874342407 : True := trivial
theorem fin.tw12448240930570709186 : True := trivial
theorem fin.tw1249118550022496774 : True := trivial
theorem fin.tw12494888245299231016 : True := trivial
theorem fin.tw1252854909445205041 : True := trivial
theorem fin.tw12550770813317053977 : True := trivial
theorem fin.tw12557769604369416430 : True := trivial
theorem fin.tw12567809125941998234 : True := trivial
theorem fin.tw12629903358213643309 : True := trivial
theorem fin.tw12631824708648523144 : True := trivial
theorem fin.tw12696600883282566439 : True := trivial
theorem fin.tw12711679700452659978 : True := trivial
theorem fin.tw12740692763255036000 : True := trivial
theorem fin.tw12829507556594621215 : True := trivial
theorem fin.tw12869217540446652890 : True := trivial
theorem fin.tw12876064707754696378 : True := trivial
theorem fin.tw12946824338688289833 : True := trivial
theorem fin.tw12962497063298326498 : True := trivial
theorem fin.tw12996517811204074000 : True := trivial
theorem fin.tw13021059552284102479 : True := trivial
theorem fin.tw13066358836101814915 : True := trivial
theorem fin.tw13093503161671486093 : True := trivial
theorem fin.tw13162651487661262736 : True := trivial
theorem fin.tw13294311002278339166 : True := trivial
theorem fin.tw13337293482115323266 : True := trivial
theorem fin.tw13360279666012451719 : True := trivial
theorem fin.tw13383306551100868464 : True := trivial
theorem fin.tw13423622936843584764 : True := trivial
theorem fin.tw13467322939085005891 : True := trivial
theorem fin.tw13516622038369049944 : True := trivial
theorem fin.tw13700621096757390547 : True := trivial
theorem fin.tw13724452099449386491 : True := trivial
theorem fin.tw13790858721211988464 : True := trivial
theorem fin.tw13814004702073501669 : True := trivial
theorem fin.tw13815853411582834384 : True := trivial
theorem fin.tw13870153662132920491 : True := trivial
theorem fin.tw13898374239775968522 : True := trivial
theorem fin.tw13925877587632400325 : True := trivial
theorem fin.tw13929302177132474383 : True := trivial
theorem fin.tw1404142985491790438 : True := trivial
theorem fin.tw14109310954907245088 : True := trivial
theorem fin.tw14139026862911339306 : True := trivial
theorem fin.tw14166196953294261902 : True := trivial
theorem fin.tw14210890002308233579 : True := trivial
theorem fin.tw1422313219903470601 : True := trivial
theorem fin.tw14245171486683049214 : True := trivial
theorem fin.tw14279960228734115912 : True := trivial
theorem fin.tw14333544728242365436 : True := trivial
theorem fin.tw14345562132136545540 : True := trivial
theorem fin.tw14347400895652799225 : True := trivial
theorem fin.tw14431720936831517352 : True := trivial
theorem fin.tw14497727239971306367 : True := trivial
theorem fin.tw14517287926952318261 : True := trivial
theorem fin.tw14560573928864763818 : True := trivial
theorem fin.tw14568449535678555946 : True := trivial
theorem fin.tw14574801432027512755 : True := trivial
theorem fin.tw14578271805448956485 : True := trivial
theorem fin.tw14679806638718605512 : True := trivial
theorem fin.tw14728723275428758510 : True := trivial
theorem fin.tw14787430101999643098 : True := trivial
theorem fin.tw14814673180317915700 : True := trivial
theorem fin.tw14838103818555229697 : True := trivial
theorem fin.tw14856888987745899463 : True := trivial
theorem fin.tw15149952090015108872 : True := trivial
theorem fin.tw15205425988870721313 : True := trivial
theorem fin.tw15309079848183770524 : True := trivial
theorem fin.tw15344004072050561172 : True := trivial
theorem fin.tw1535588207084551279 : True := trivial
theorem fin.tw15373703851562958014 : True := trivial
theorem fin.tw15399907426655090358 : True := trivial
theorem fin.tw1544503264643628384 : True := trivial
theorem fin.tw15459455144867644326 : True := trivial
theorem fin.tw15533503492667675913 : True := trivial
theorem fin.tw15564276425815640635 : True := trivial
theorem fin.tw15566928917628492161 : True := trivial
theorem fin.tw15583698165555649274 : True := trivial
theorem fin.tw1560641971993327685 : True := trivial
theorem fin.tw15621619335703214680 : True := trivial
theorem fin.tw15815952407149668801 : True := trivial
theorem fin.tw15832999045522443761 : True := trivial
theorem fin.tw15925861663654237186 : True := trivial
theorem fin.tw15942684835789789487 : True := trivial
theorem fin.tw15989303212955285315 : True := trivial
theorem fin.tw16103849850496634939 : True := trivial
theorem fin.tw16109372258727991565 : True := trivial
theorem fin.tw16115155874713506467 : True := trivial
theorem fin.tw1613116972386908190 : True := trivial
theorem fin.tw16175276709679454751 : True := trivial
theorem fin.tw16196181902256332553 : True := trivial
theorem fin.tw16229209127682248589 : True := trivial
theorem fin.tw16231027417747320569 : True := trivial
theorem fin.tw1625080806587739848 : True := trivial
theorem fin.tw16256441300576474876 : True := trivial
theorem fin.tw16269368082590959529 : True := trivial
theorem fin.tw16275787546110486726 : True := trivial
theorem fin.tw16285329926789087883 : True := trivial
theorem fin.tw16401934584784274106 : True := trivial
theorem fin.tw16407147864228438881 : True := trivial
theorem fin.tw16496857829328116044 : True := trivial
theorem fin.tw16530489862217454893 : True := trivial
theorem fin.tw16540275574145912595 : True := trivial
theorem fin.tw16656299143469825513 : True := trivial
theorem fin.tw1666694428299288667 : True := trivial
theorem fin.tw16889484823980962733 : True := trivial
theorem fin.tw16906536467411238026 : True := trivial
theorem fin.tw16934629359412608497 : True := trivial
theorem fin.tw16958243865122950064 : True := trivial
theorem fin.tw17041991840579044601 : True := trivial
theorem fin.tw17067295170570645592 : True := trivial
theorem fin.tw17067977455826447497 : True := trivial
theorem fin.tw17123178472405020103 : True := trivial
theorem fin.tw17130245016438642246 : True := trivial
theorem fin.tw17164383140453370395 : True := trivial
theorem fin.tw17197158672614542318 : True := trivial
theorem fin.tw17204297501091165112 : True := trivial
theorem fin.tw17260493314774615805 : True := trivial
theorem fin.tw17347454772498655404 : True := trivial
theorem fin.tw17362494058136835672 : True := trivial
theorem fin.tw17416127249078093707 : True := trivial
theorem fin.tw17430205856086898164 : True := trivial
theorem fin.tw17449020081951674710 : True := trivial
theorem fin.tw17570709534508481193 : True := trivial
theorem fin.tw17628183408451194143 : True := trivial
theorem fin.tw17637551073024348614 : True := trivial
theorem fin.tw17656766251404061198 : True := trivial
theorem fin.tw17662344363894024548 : True := trivial
theorem fin.tw17698704350827878285 : True := trivial
theorem fin.tw17717364068325071970 : True := trivial
theorem fin.tw17743408960866722510 : True := trivial
theorem fin.tw17801579834951734752 : True := trivial
theorem fin.tw17821466097196317003 : True := trivial
theorem fin.tw17861066769153400444 : True := trivial
theorem fin.tw17869975865946814897 : True := trivial
theorem fin.tw17896612028031085017 : True := trivial
theorem fin.tw17933470926392208243 : True := trivial
theorem fin.tw17971676594858020690 : True := trivial
theorem fin.tw17974384156558142227 : True := trivial
theorem fin.tw18082680734076937219 : True := trivial
theorem fin.tw18105285910621931680 : True := trivial
theorem fin.tw1819255440876223710 : True := trivial
theorem fin.tw18230178534529381785 : True := trivial
theorem fin.tw18255404467826089762 : True := trivial
theorem fin.tw18295790063311454060 : True := trivial
theorem fin.tw18373065035072037172 : True := trivial
theorem fin.tw18387650150990424433 : True := trivial
theorem fin.tw1887099378405440850 : True := trivial
theorem fin.tw1951045429614898598 : True := trivial
theorem fin.tw1963134401048803436 : True := trivial
theorem fin.tw1982079694162106894 : True := trivial
theorem fin.tw2086631506510373192 : True := trivial
theorem fin.tw2236755162388048479 : True := trivial
theorem fin.tw2304379251839397102 : True := trivial
theorem fin.tw2316539691658765527 : True := trivial
theorem fin.tw2367325634123391141 : True := trivial
theorem fin.tw2409761835889866131 : True := trivial
theorem fin.tw2415902012162501839 : True := trivial
theorem fin.tw2462912638960843985 : True := trivial
theorem fin.tw2512408688544751470 : True := trivial
theorem fin.tw2537931557510868981 : True := trivial
theorem fin.tw2608567993692976607 : True := trivial
theorem fin.tw2617349483901765261 : True := trivial
theorem fin.tw2656788454239962097 : True := trivial
theorem fin.tw2671655128345628175 : True := trivial
theorem fin.tw2775396313129547428 : True := trivial
theorem fin.tw2884873770243351059 : True := trivial
theorem fin.tw2893357389468907917 : True := trivial
theorem fin.tw2910385600587045654 : True := trivial
theorem fin.tw2976117146107443816 : True := trivial
theorem fin.tw3004984022683251337 : True := trivial
theorem fin.tw3028926083550364057 : True := trivial
theorem fin.tw3029852977388229646 : True := trivial
theorem fin.tw3112429581023547943 : True := trivial
theorem fin.tw3125960719983571848 : True := trivial
theorem fin.tw3130003048842842729 : True := trivial
theorem fin.tw3173534031939492945 : True := trivial
theorem fin.tw3263211703599914710 : True := trivial
theorem fin.tw3268265519342814607 : True := trivial
theorem fin.tw3314143786362844604 : True := trivial
theorem fin.tw3343445320678177929 : True := trivial
theorem fin.tw3404873503106905745 : True := trivial
theorem fin.tw3456623496861543869 : True := trivial
theorem fin.tw3459265974087741279 : True := trivial
theorem fin.tw3506512066687448480 : True := trivial
theorem fin.tw3599858809825778643 : True := trivial
theorem fin.tw380778119907437045 : True := trivial
theorem fin.tw3810338749695602999 : True := trivial
theorem fin.tw3810570522144960214 : True := trivial
theorem fin.tw3812028171767442716 : True := trivial
theorem fin.tw3837020019201816242 : True := trivial
theorem fin.tw3955986520655104412 : True := trivial
theorem fin.tw3974152918291533672 : True := trivial
theorem fin.tw3975253019698251321 : True := trivial
theorem fin.tw3998398428148030388 : True := trivial
theorem fin.tw4040260094072895976 : True := trivial
theorem fin.tw4170516301191304579 : True := trivial
theorem fin.tw4171678462856256454 : True := trivial
theorem fin.tw4209717502836232480 : True := trivial
theorem fin.tw4218790737952374519 : True := trivial
theorem fin.tw428092273266315144 : True := trivial
theorem fin.tw4312942655851389009 : True := trivial
theorem fin.tw452842511749404161 : True := trivial
theorem fin.tw4570111826955561243 : True := trivial
theorem fin.tw4588413851689716618 : True := trivial
theorem fin.tw4598667867955821814 : True := trivial
theorem fin.tw4613182775407389354 : True := trivial
theorem fin.tw4640724917100965312 : True := trivial
theorem fin.tw4684940682943077961 : True := trivial
theorem fin.tw4719063310657182621 : True := trivial
theorem fin.tw4754365596532378047 : True := trivial
theorem fin.tw4759752924163587094 : True := trivial
theorem fin.tw4768634762848416435 : True := trivial
theorem fin.tw4788878847521262168 : True := trivial
theorem fin.tw480829909506669009 : True := trivial
theorem fin.tw4879674094562380441 : True := trivial
theorem fin.tw4898026214463823928 : True := trivial
theorem fin.tw4924110625330727750 : True := trivial
theorem fin.tw5011121235533021005 : True := trivial
theorem fin.tw5071919506433949198 : True := trivial
theorem fin.tw5098551885099359569 : True := trivial
theorem fin.tw5102460946473063141 : True := trivial
theorem fin.tw5115476493328737885 : True := trivial
theorem fin.tw5293390819737331289 : True := trivial
theorem fin.tw5320702786494000081 : True := trivial
theorem fin.tw5402249366112354979 : True := trivial
theorem fin.tw5440690331083594693 : True := trivial
theorem fin.tw5450666867872101477 : True := trivial
theorem fin.tw5486226609284752418 : True := trivial
theorem fin.tw5647864574477489665 : True := trivial
theorem fin.tw5678346346211369953 : True := trivial
theorem fin.tw5734618986648460908 : True := trivial
theorem fin.tw5796354222422608987 : True := trivial
theorem fin.tw5805905742469029177 : True := trivial
theorem fin.tw5897612983314593646 : True := trivial
theorem fin.tw5901363791540438844 : True := trivial
theorem fin.tw5962627729488381771 : True := trivial
theorem fin.tw6058378993454661626 : True := trivial
theorem fin.tw6068950659093879613 : True := trivial
theorem fin.tw6081921254191324426 : True := trivial
theorem fin.tw6127190174262240918 : True := trivial
theorem fin.tw6144012678527597917 : True := trivial
theorem fin.tw6207176494656529804 : True := trivial
theorem fin.tw6232080684201472732 : True := trivial
theorem fin.tw6323506392446703087 : True := trivial
theorem fin.tw6388184931127306564 : True := trivial
theorem fin.tw6435670951450185984 : True := trivial
theorem fin.tw6449190631224713292 : True := trivial
theorem fin.tw6566618420281934 : True := trivial
theorem fin.tw6567050819087999508 : True := trivial
theorem fin.tw6578486333784257063 : True := trivial
theorem fin.tw6667815254911646788 : True := trivial
theorem fin.tw670465573061467203 : True := trivial
theorem fin.tw6707113841082798463 : True := trivial
theorem fin.tw6712194924023145494 : True := trivial
theorem fin.tw6718411051458867188 : True := trivial
theorem fin.tw6766378078585498003 : True := trivial
theorem fin.tw6766580051018981234 : True := trivial
theorem fin.tw6956187926921108005 : True := trivial
theorem fin.tw6968583824967984638 : True := trivial
theorem fin.tw7000300075881102575 : True := trivial
theorem fin.tw7055459427971326715 : True := trivial
theorem fin.tw7249652514872940865 : True := trivial
theorem fin.tw7282745182861764756 : True := trivial
theorem fin.tw7380833856163905736 : True := trivial
theorem fin.tw744865244796547220 : True := trivial
theorem fin.tw7470013935711676318 : True := trivial
theorem fin.tw7522001649326652513 : True := trivial
theorem fin.tw757079261281740938 : True := trivial
theorem fin.tw7613857476909055813 : True := trivial
theorem fin.tw7613945582906998725 : True := trivial
theorem fin.tw7684487725183542926 : True := trivial
theorem fin.tw7716820226725407877 : True := trivial
theorem fin.tw7779959011674639804 : True := trivial
theorem fin.tw7803649310394182010 : True := trivial
theorem fin.tw7830629276484211593 : True := trivial
theorem fin.tw783483362715066742 : True := trivial
theorem fin.tw7845872953664198349 : True := trivial
theorem fin.tw7890596953891613788 : True := trivial
theorem fin.tw7929640520542984453 : True := trivial
theorem fin.tw7930893340574950883 : True := trivial
theorem fin.tw799341379326975648 : True := trivial
theorem fin.tw7995362448368537469 : True := trivial
theorem fin.tw803859442106103436 : True := trivial
theorem fin.tw807531904560671035 : True := trivial
theorem fin.tw8119881530291889089 : True := trivial
theorem fin.tw8272817396058243321 : True := trivial
theorem fin.tw828056024939588000 : True := trivial
theorem fin.tw8281523328739849912 : True := trivial
theorem fin.tw8289400949097046189 : True := trivial
theorem fin.tw8330952907988395303 : True := trivial
theorem fin.tw8352470293576582857 : True := trivial
theorem fin.tw8399098705505230059 : True := trivial
theorem fin.tw8408514402456403777 : True := trivial
theorem fin.tw8416529770105884409 : True := trivial
theorem fin.tw846297522682114974 : True := trivial
theorem fin.tw8559517257967667466 : True := trivial
theorem fin.tw8569027658895312972 : True := trivial
theorem fin.tw8577089030196625639 : True := trivial
theorem fin.tw8590288500278120515 : True := trivial
theorem fin.tw8643116662766533202 : True := trivial
theorem fin.tw8656503046869711584 : True := trivial
theorem fin.tw8668149382578428375 : True := trivial
theorem fin.tw876206183137641144 : True := trivial
theorem fin.tw884059145510264010 : True := trivial
theorem fin.tw888132650186811988 : True := trivial
theorem fin.tw8919302590299486024 : True := trivial
theorem fin.tw8947099994592609211 : True := trivial
theorem fin.tw895571856199123645 : True := trivial
theorem fin.tw9001875181463519149 : True := trivial
theorem fin.tw9113340658982188547 : True := trivial
theorem fin.tw916760970301856219 : True := trivial
theorem fin.tw9218923581257491847 : True := trivial
theorem fin.tw9247658263007524724 : True := trivial
theorem fin.tw9260378047223084069 : True := trivial
theorem fin.tw9357874355931990178 : True := trivial
theorem fin.tw9363291351745731410 : True := trivial
theorem fin.tw9387745189664136937 : True := trivial
theorem fin.tw9544026089342320630 : True := trivial
theorem fin.tw9610726530385051774 : True := trivial
theorem fin.tw9722632081671974098 : True := trivial
theorem fin.tw9725021084223525626 : True := trivial
theorem fin.tw9746901515087519452 : True := trivial
theorem fin.tw9806666330580929782 : True := trivial
theorem fin.tw982560976839675504 : True := trivial
theorem fin.tw9907692401942284016 : True := trivial
theorem fin.tw9913140749668108558 : True := trivial
theorem fin.tw9997704412844104603 : True := trivial
end Mine
set_option Elab.async true in
theorem Mine.fin : PySem.Challenge.rw_pc0052_01.Holds := by
  w_on
  o_law
  o_head (kHook Mine.KK Mine.KA (fun P => Mine.KA_eq P))
  case hw => w_witness2
  intro w s₀ s₁ mg mb G Y fa o pm cd doc dV kV ho hd hcd hD hmg hg args vals as hpre hlay hrd hwl hlo
  have KX := kIn_of Y
  k_behind G ho hd hcd hD hmg hpre hlay hrd hwl hlo cd
  rename Fr _ _ _ _ => F1
  rename Heap.IsList _ _ _ => hL
  rename IntsAre _ _ => hI
  rename ¬ (_ < _) => hz
  rename Frag.In _ _ => KX
  rename Top _ _ _ _ _ _ => T
  have ok : (Mine.cx _ _ _ _).Ok := ⟨KX, T.g, T.b, T.nolimit, T.builtins⟩
  obtain ⟨F, hE, hF⟩ := Mine.body_ok ok _ _ _
  refine' Mine.law_end hL hI F1 ?hm ?hA ?hk ?hfn hE (hF _ (by omega)) ?hQ
  case hm => rfl
  case hA => exact ⟨rfl, Nat.le_of_ble_eq_true rfl, Nat.le_of_ble_eq_true rfl⟩
  case hk => rfl
  case hfn => rfl
  case hQ =>
    intro h' tk m' F'
    exact goodW_bool F' (by assumption) (fun _ => rfl) (by wrow_post)
theorem PySem.Challenge.cw_pc0052_01_holds : PySem.Challenge.rw_pc0052_01.Holds :=
  Mine.fin
