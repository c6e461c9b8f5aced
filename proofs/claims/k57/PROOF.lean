import PyProof.Rows.All
import Wide.All
import OpenK.AllK
import Wide.FinOn
import HandS.ForMost
import HandS.ForExc
import HandS.Lambda
import HandS.TupAny
import HandS.TupLe
import HandS.TupMul
import HandS.Deep
import HandS.IsInst
import HandS.Zip
import HandS.Conv
import HandS.ExcInit
import HandS.ExcIs
import HandS.ExcField
import KE.KExcIs
import HandS.OwnEq
import PyProof.ReprLen
import PyProof.StrLawsRepr
import HandS.EndOwn
import PySem.Challenge.RW_everyhour_k57_taken_made_and_refused
set_option Elab.async false
set_option linter.all false
set_option maxRecDepth 100000
/-! LF0: data by value over the hand layer: D, the live heap, Rep, Ext, the lifted judgements. -/
namespace LF
open PySem PySem.Spec PyProof.Rows L2

/-- data by value; ref: a live (changing) object by its address -/
inductive D where
  | non | bl (b : Bool) | int (i : Int) | str (x : Str) | ty (n : String) | ref (a : Addr)
  | tup (ds : List D) | lst (ds : List D) | dK (kvs : List (Key × D)) | dT (kvs : List (List Key × D)) | obj (a : Addr) (c : String) (fs : List (String × D))
  /-- the script -/
  | scr (K : PySem.W.Frag) (a : Addr) (ns : List Int)

/-- a live object -/
inductive MO where
  | lst (ds : List D) | dK (kvs : List (Key × D)) | dT (kvs : List (List Key × D)) | ins (c : String) (fs : List (String × D))
  | pen
  /-- the dict of a caught exception; a table of code objects -/
  | xd (vs : List (Str × V)) (fs : List (String × D)) | tab (q : Str)
abbrev MH := Addr → Option MO
def mup (μ : MH) (a : Addr) (m : MO) : MH := fun b => if b = a then some m else μ b
def mdel (μ : MH) (a : Addr) : MH := fun b => if b = a then none else μ b
@[simp] theorem mup_same {μ : MH} {a : Addr} {m : MO} : mup μ a m a = some m := by unfold mup; rw [if_pos rfl]
theorem mup_ne {μ : MH} {a b : Addr} {m : MO} (h : b ≠ a) : mup μ a m b = μ b := by unfold mup; rw [if_neg h]
@[simp] theorem mup_mup {μ : MH} {a : Addr} {m n : MO} : mup (mup μ a m) a n = mup μ a n := by funext b; unfold mup; split <;> rfl
@[simp] theorem mdel_same {μ : MH} {a : Addr} : mdel μ a a = none := by unfold mdel; rw [if_pos rfl]
theorem mdel_ne {μ : MH} {a b : Addr} (h : b ≠ a) : mdel μ a b = μ b := by unfold mdel; rw [if_neg h]
theorem mdel_mup {μ : MH} {a : Addr} {m : MO} (h : μ a = none) : mdel (mup μ a m) a = μ := by
  funext b; unfold mdel mup
  by_cases e : b = a
  · subst e; simp [h]
  · simp [e]

/-- the same with a weaker relation on what is paired -/
theorem pweak {α β : Type} {F G : α → β → Prop} {xs : List α} {ys : List β} (h : Paired F xs ys) (f : ∀ a b, F a b → G a b) : Paired G xs ys := Paired.mapP h f
theorem pget {α β : Type} {F : α → β → Prop} : ∀ {xs : List α} {ys : List β}, Paired F xs ys → ∀ (i : Nat) (x : α), xs[i]? = some x → ∃ y, ys[i]? = some y ∧ F x y
  | _, _, .nil, i, x, e => by simp at e
  | _, _, .cons r t, 0, x, e => by simp at e; subst e; exact ⟨_, rfl, r⟩
  | _, _, .cons r t, i + 1, x, e => by
    obtain ⟨y, h1, h2⟩ := pget t i x (by simpa using e)
    exact ⟨y, by simpa using h1, h2⟩
theorem pget2 {α β : Type} {F : α → β → Prop} {xs : List α} {ys : List β} (h : Paired F xs ys) (i : Nat) (y : β) (e : ys[i]? = some y) : ∃ x, xs[i]? = some x ∧ F x y := by
  have hl := h.length
  have hi : i < xs.length := by
    have := (List.getElem?_eq_some_iff.mp e).1
    omega
  obtain ⟨y', e1, r⟩ := pget h i xs[i] (by simp [hi])
  rw [e] at e1; cases e1
  exact ⟨_, by simp [hi], r⟩
theorem papp {α β : Type} {F : α → β → Prop} : ∀ {xs : List α} {ys : List β} {zs : List α} {ws : List β}, Paired F xs ys → Paired F zs ws → Paired F (xs ++ zs) (ys ++ ws)
  | _, _, _, _, .nil, s => s
  | _, _, _, _, .cons r t, s => .cons r (papp t s)
theorem pdrop {α β : Type} {F : α → β → Prop} : ∀ {xs : List α} {ys : List β} (n : Nat), Paired F xs ys → Paired F (xs.drop n) (ys.drop n)
  | _, _, 0, r => r
  | _, _, _ + 1, .nil => .nil
  | _, _, n + 1, .cons _ t => pdrop n t
theorem ptake {α β : Type} {F : α → β → Prop} : ∀ {xs : List α} {ys : List β} (n : Nat), Paired F xs ys → Paired F (xs.take n) (ys.take n)
  | _, _, 0, _ => .nil
  | _, _, _ + 1, .nil => .nil
  | _, _, n + 1, .cons r t => .cons r (ptake n t)
theorem prev {α β : Type} {F : α → β → Prop} : ∀ {xs : List α} {ys : List β}, Paired F xs ys → Paired F xs.reverse ys.reverse
  | _, _, .nil => .nil
  | _, _, .cons r t => by simpa using papp (prev t) (.cons r .nil)
theorem pset {α β : Type} {F : α → β → Prop} {x : α} {y : β} (r : F x y) : ∀ {xs : List α} {ys : List β} (i : Nat), Paired F xs ys → Paired F (xs.set i x) (ys.set i y)
  | _, _, _, .nil => .nil
  | _, _, 0, .cons _ t => .cons r t
  | _, _, i + 1, .cons q t => .cons q (pset r i t)
theorem pex {α β : Type} {F : Nat → α → β → Prop} (mono : ∀ n m a b, n ≤ m → F n a b → F m a b) : ∀ {xs : List α} {ys : List β}, Paired (fun a b => ∃ n, F n a b) xs ys → ∃ n, Paired (F n) xs ys
  | _, _, .nil => ⟨0, .nil⟩
  | _, _, .cons ⟨n, r⟩ t => by
    obtain ⟨m, t⟩ := pex mono t
    exact ⟨max n m, .cons (mono n _ _ _ (Nat.le_max_left _ _) r) (Paired.mapP t fun a b => mono m _ a b (Nat.le_max_right _ _))⟩
theorem pmapL {α β γ : Type} {F : α → β → Prop} {g : γ → α} : ∀ {xs : List γ} {ys : List β}, Paired (fun c b => F (g c) b) xs ys → Paired F (xs.map g) ys
  | _, _, .nil => .nil
  | _, _, .cons r t => .cons r (pmapL t)
theorem pmapR {α β γ : Type} {F : α → β → Prop} {g : γ → β} : ∀ {xs : List α} {ys : List γ}, Paired (fun a c => F a (g c)) xs ys → Paired F xs (ys.map g)
  | _, _, .nil => .nil
  | _, _, .cons r t => .cons r (pmapR t)
theorem pofMap {α β γ : Type} {F : α → β → Prop} {g : γ → α} : ∀ {xs : List γ} {ys : List β}, Paired F (xs.map g) ys → Paired (fun c b => F (g c) b) xs ys
  | [], _, .nil => .nil
  | _ :: _, _, .cons r t => .cons r (pofMap t)

/-! ### values and data -/
section
variable (cl : String → Addr)
def leaf : D → V → Prop
  | .non, v => v = .non
  | .bl b, v => v = .bl b
  | .int i, v => v = .int i
  | .str x, v => v = .str x
  | .ty n, v => v = .ty n
  | .ref a, v => v = .ref a
  | _, _ => False
abbrev sk (f : String) : Str := Str.ofString f
/-- the names of all fields -/
def flds : List String := ["line", "word", "name", "what", "number", "row", "event", "many", "limit", "start", "end", "least", "most", "period", "events", "bonds", "arcs", "numbers", "root", "book", "rides", "turns", "sets", "plan", "comings", "goings", "costs", "taken",
  "sums", "steps", "bond", "weight", "choice", "minutes", "torn", "kept", "rows"]
theorem flds_inj0 : (flds.all fun a => flds.all fun b => decide (sk a = sk b → a = b)) = true := by decide +kernel
theorem flds_inj {a b : String} (ha : a ∈ flds) (hb : b ∈ flds) (e : sk a = sk b) : a = b := by
  have h := List.all_eq_true.mp (List.all_eq_true.mp flds_inj0 a ha) b hb
  exact of_decide_eq_true h e
def RepN (μ : MH) (H : Hp) : Nat → D → V → Prop
  | 0, d, v => leaf d v
  | n + 1, d, v => match d with
    | .tup ds => ∃ a vs, v = .ref a ∧ μ a = none ∧ H a = some (.tup vs) ∧ Paired (RepN μ H n) ds vs
    | .lst ds => ∃ a vs, v = .ref a ∧ μ a = none ∧ H a = some (.lst vs) ∧ Paired (RepN μ H n) ds vs
    | .dK kvs => ∃ a vs, v = .ref a ∧ μ a = none ∧ Rd H a (.dK vs) ∧ Paired (fun p q => p.1 = q.1 ∧ RepN μ H n p.2 q.2) kvs vs
    | .dT kvs => ∃ a vs, v = .ref a ∧ μ a = none ∧ Rd H a (.dT vs) ∧ Paired (fun p q => p.1 = q.1 ∧ RepN μ H n p.2 q.2) kvs vs
    | .obj a c fs => v = .ref a ∧ μ a = none ∧ ∃ dx vs, H a = some (.ins (cl c) dx vs) ∧ Paired (fun p q => (q.1 = sk p.1 ∧ p.1 ∈ flds) ∧ RepN μ H n p.2 q.2) fs vs
    | .scr K a ns => v = .ref a ∧ ((μ a = none ∧ Rd H a (.lst (ns.map V.int))) ∨ SqL K (fun _ => none) a (ns.map V.int))
    | d => leaf d v
def Rep (μ : MH) (H : Hp) (d : D) (v : V) : Prop := ∃ n, RepN cl μ H n d v
variable {cl : String → Addr} {μ μ' μ1 μ2 : MH} {H H' H1 H2 : Hp} {d : D} {v : V}
theorem RepN.mono : ∀ (n m : Nat) (d : D) (v : V), n ≤ m → RepN cl μ H n d v → RepN cl μ H m d v
  | 0, 0, _, _, _, h => h
  | 0, m + 1, d, v, _, h => by cases d <;> first | exact h | exact False.elim h
  | n + 1, 0, _, _, l, _ => absurd l (by omega)
  | n + 1, m + 1, d, v, l, h => by
    have ih := fun d v => RepN.mono n m d v (by omega)
    cases d <;> first | exact h | skip
    · obtain ⟨a, vs, e, na, r, p⟩ := h; exact ⟨a, vs, e, na, r, Paired.mapP p ih⟩
    · obtain ⟨a, vs, e, na, r, p⟩ := h; exact ⟨a, vs, e, na, r, Paired.mapP p ih⟩
    · obtain ⟨a, vs, e, na, r, p⟩ := h; exact ⟨a, vs, e, na, r, Paired.mapP p fun p q z => ⟨z.1, ih _ _ z.2⟩⟩
    · obtain ⟨a, vs, e, na, r, p⟩ := h; exact ⟨a, vs, e, na, r, Paired.mapP p fun p q z => ⟨z.1, ih _ _ z.2⟩⟩
    · obtain ⟨e, na, dx, vs, r, p⟩ := h; exact ⟨e, na, dx, vs, r, Paired.mapP p fun p q z => ⟨z.1, ih _ _ z.2⟩⟩
abbrev RepL (cl : String → Addr) (μ : MH) (H : Hp) : List D → List V → Prop := Paired (Rep cl μ H)
abbrev RepK {κ : Type} (cl : String → Addr) (μ : MH) (H : Hp) : List (κ × D) → List (κ × V) → Prop := Paired fun p q => p.1 = q.1 ∧ Rep cl μ H p.2 q.2
abbrev RepF (cl : String → Addr) (μ : MH) (H : Hp) : List (String × D) → List (Str × V) → Prop := Paired fun p q => (q.1 = sk p.1 ∧ p.1 ∈ flds) ∧ Rep cl μ H p.2 q.2
theorem Rep.leaf (h : leaf d v) : Rep cl μ H d v := ⟨0, h⟩
theorem Rep.leafS {n : Nat} (h : RepN cl μ H n d v) (hd : ∀ v, RepN cl μ H (n + 1) d v = LF.leaf d v) : LF.leaf d v := by
  have := RepN.mono n (n + 1) d v (by omega) h
  rwa [hd] at this
theorem Rep.non_iff : Rep cl μ H .non v ↔ v = .non := ⟨fun ⟨n, h⟩ => Rep.leafS h fun _ => rfl, fun h => Rep.leaf h⟩
theorem Rep.bl_iff {b : Bool} : Rep cl μ H (.bl b) v ↔ v = .bl b := ⟨fun ⟨n, h⟩ => Rep.leafS h fun _ => rfl, fun h => Rep.leaf h⟩
theorem Rep.int_iff {b : Int} : Rep cl μ H (.int b) v ↔ v = .int b := ⟨fun ⟨n, h⟩ => Rep.leafS h fun _ => rfl, fun h => Rep.leaf h⟩
theorem Rep.str_iff {b : Str} : Rep cl μ H (.str b) v ↔ v = .str b := ⟨fun ⟨n, h⟩ => Rep.leafS h fun _ => rfl, fun h => Rep.leaf h⟩
theorem Rep.ty_iff {b : String} : Rep cl μ H (.ty b) v ↔ v = .ty b := ⟨fun ⟨n, h⟩ => Rep.leafS h fun _ => rfl, fun h => Rep.leaf h⟩
theorem Rep.ref_iff {b : Addr} : Rep cl μ H (.ref b) v ↔ v = .ref b := ⟨fun ⟨n, h⟩ => Rep.leafS h fun _ => rfl, fun h => Rep.leaf h⟩
theorem RepN.up {n : Nat} (h : RepN cl μ H n d v) : RepN cl μ H (n + 1) d v := RepN.mono n (n + 1) d v (by omega) h
theorem Rep.tup_iff {ds : List D} : Rep cl μ H (.tup ds) v ↔ ∃ a vs, v = .ref a ∧ μ a = none ∧ H a = some (.tup vs) ∧ RepL cl μ H ds vs := by
  constructor
  · rintro ⟨n, h⟩
    obtain ⟨a, vs, e, na, r, p⟩ := RepN.up h
    exact ⟨a, vs, e, na, r, Paired.mapP p fun _ _ z => ⟨n, z⟩⟩
  · rintro ⟨a, vs, e, na, r, p⟩
    obtain ⟨n, p⟩ := pex (F := RepN cl μ H) RepN.mono p
    exact ⟨n + 1, a, vs, e, na, r, p⟩
theorem Rep.lst_iff {ds : List D} : Rep cl μ H (.lst ds) v ↔ ∃ a vs, v = .ref a ∧ μ a = none ∧ H a = some (.lst vs) ∧ RepL cl μ H ds vs := by
  constructor
  · rintro ⟨n, h⟩
    obtain ⟨a, vs, e, na, r, p⟩ := RepN.up h
    exact ⟨a, vs, e, na, r, Paired.mapP p fun _ _ z => ⟨n, z⟩⟩
  · rintro ⟨a, vs, e, na, r, p⟩
    obtain ⟨n, p⟩ := pex (F := RepN cl μ H) RepN.mono p
    exact ⟨n + 1, a, vs, e, na, r, p⟩
theorem Rep.scr_iff {K : PySem.W.Frag} {a : Addr} {ns : List Int} : Rep cl μ H (.scr K a ns) v ↔ v = .ref a ∧ ((μ a = none ∧ Rd H a (.lst (ns.map V.int))) ∨ SqL K (fun _ => none) a (ns.map V.int)) :=
  ⟨fun ⟨n, h⟩ => RepN.up h, fun h => ⟨1, h⟩⟩
theorem RepK.ex {κ : Type} {xs : List (κ × D)} {ys : List (κ × V)} (p : RepK cl μ H xs ys) : ∃ n, Paired (fun p q => p.1 = q.1 ∧ RepN cl μ H n p.2 q.2) xs ys :=
  pex (F := fun n (p : κ × D) (q : κ × V) => p.1 = q.1 ∧ RepN cl μ H n p.2 q.2) (fun n m _ _ l z => ⟨z.1, RepN.mono n m _ _ l z.2⟩) (Paired.mapP p fun _ _ ⟨e, n, z⟩ => ⟨n, e, z⟩)
theorem RepF.ex {xs : List (String × D)} {ys : List (Str × V)} (p : RepF cl μ H xs ys) : ∃ n, Paired (fun p q => (q.1 = sk p.1 ∧ p.1 ∈ flds) ∧ RepN cl μ H n p.2 q.2) xs ys :=
  pex (F := fun n (p : String × D) (q : Str × V) => (q.1 = sk p.1 ∧ p.1 ∈ flds) ∧ RepN cl μ H n p.2 q.2) (fun n m _ _ l z => ⟨z.1, RepN.mono n m _ _ l z.2⟩) (Paired.mapP p fun _ _ ⟨e, n, z⟩ => ⟨n, e, z⟩)
theorem Rep.dK_iff {kvs : List (Key × D)} : Rep cl μ H (.dK kvs) v ↔ ∃ a vs, v = .ref a ∧ μ a = none ∧ Rd H a (.dK vs) ∧ RepK cl μ H kvs vs := by
  constructor
  · rintro ⟨n, h⟩
    obtain ⟨a, vs, e, na, r, p⟩ := RepN.up h
    exact ⟨a, vs, e, na, r, Paired.mapP p fun _ _ z => ⟨z.1, n, z.2⟩⟩
  · rintro ⟨a, vs, e, na, r, p⟩
    obtain ⟨n, p⟩ := RepK.ex p
    exact ⟨n + 1, a, vs, e, na, r, p⟩
theorem Rep.dT_iff {kvs : List (List Key × D)} : Rep cl μ H (.dT kvs) v ↔ ∃ a vs, v = .ref a ∧ μ a = none ∧ Rd H a (.dT vs) ∧ RepK cl μ H kvs vs := by
  constructor
  · rintro ⟨n, h⟩
    obtain ⟨a, vs, e, na, r, p⟩ := RepN.up h
    exact ⟨a, vs, e, na, r, Paired.mapP p fun _ _ z => ⟨z.1, n, z.2⟩⟩
  · rintro ⟨a, vs, e, na, r, p⟩
    obtain ⟨n, p⟩ := RepK.ex p
    exact ⟨n + 1, a, vs, e, na, r, p⟩
theorem Rep.obj_iff {a : Addr} {c : String} {fs : List (String × D)} : Rep cl μ H (.obj a c fs) v ↔ v = .ref a ∧ μ a = none ∧ ∃ dx vs, H a = some (.ins (cl c) dx vs) ∧ RepF cl μ H fs vs := by
  constructor
  · rintro ⟨n, h⟩
    obtain ⟨e, na, dx, vs, r, p⟩ := RepN.up h
    exact ⟨e, na, dx, vs, r, Paired.mapP p fun _ _ z => ⟨z.1, n, z.2⟩⟩
  · rintro ⟨e, na, dx, vs, r, p⟩
    obtain ⟨n, p⟩ := RepF.ex p
    exact ⟨n + 1, e, na, dx, vs, r, p⟩
end

/-! ### what stays -/
def isDic : HO → Prop
  | .dK _ => True
  | .dT _ => True
  | _ => False
/-- all that is not live is as it was (a dict may have been locked), and is not live afterwards -/
def nt : HO → Prop
  | .tbl _ => False
  | _ => True
def Ext (μ : MH) (H : Hp) (μ' : MH) (H' : Hp) : Prop := ∀ b o, nt o → μ b = none → H b = some o → (H' b = some o ∨ (isDic o ∧ ∃ ob, H' b = some (.frz ob o))) ∧ μ' b = none
section
variable {cl : String → Addr} {μ μ' μ1 μ2 : MH} {H H' H1 H2 : Hp} {d : D} {v : V}
theorem Ext.refl (μ : MH) (H : Hp) : Ext μ H μ H := fun _ _ _ m h => ⟨.inl h, m⟩
theorem Ext.trans (e : Ext μ H μ1 H1) (f : Ext μ1 H1 μ2 H2) : Ext μ H μ2 H2 := fun b o t m h => by
  obtain ⟨h1 | ⟨di, ob, h1⟩, m1⟩ := e b o t m h
  · exact f b o t m1 h1
  · obtain ⟨h2 | ⟨di', _⟩, m2⟩ := f b _ (show nt (.frz ob o) from True.intro) m1 h1
    · exact ⟨.inr ⟨di, ob, h2⟩, m2⟩
    · exact False.elim di'
theorem Ext.rd (e : Ext μ H μ' H') {a : Addr} {o : HO} (m : μ a = none) (h : Rd H a o) (t : nt o := by trivial) : Rd H' a o := by
  rcases h with h | ⟨ob, h⟩
  · obtain ⟨h1 | ⟨_, ob, h1⟩, _⟩ := e a o t m h
    · exact .inl h1
    · exact .inr ⟨ob, h1⟩
  · obtain ⟨h1 | ⟨di, _⟩, _⟩ := e a _ (show nt (.frz ob o) from True.intro) m h
    · exact .inr ⟨ob, h1⟩
    · exact False.elim di
theorem Ext.gone (e : Ext μ H μ' H') {a : Addr} {o : HO} (m : μ a = none) (h : Rd H a o) (t : nt o := by trivial) : μ' a = none := by
  rcases h with h | ⟨ob, h⟩
  · exact (e a o t m h).2
  · exact (e a _ (show nt (.frz ob o) from True.intro) m h).2
theorem Ext.at (e : Ext μ H μ' H') {a : Addr} {o : HO} (m : μ a = none) (h : H a = some o) (n : ¬ isDic o) (t : nt o := by trivial) : H' a = some o := by
  obtain ⟨h1 | ⟨di, _⟩, _⟩ := e a o t m h
  · exact h1
  · exact absurd di n
theorem sq_any {K : PySem.W.Frag} {a : Addr} {xs : List V} (h : SqL K (fun _ => none) a xs) : SqL K H a xs := by
  rcases h with (h | ⟨_, h⟩) | h
  · cases h
  · cases h
  · exact .inr h
theorem Ext.repN (e : Ext μ H μ' H') : ∀ (n : Nat) (d : D) (v : V), RepN cl μ H n d v → RepN cl μ' H' n d v
  | 0, d, v, h => h
  | n + 1, d, v, h => by
    have ih := fun d v => Ext.repN e n d v
    cases d <;> first | exact h | skip
    · obtain ⟨a, vs, e', na, r, p⟩ := h; exact ⟨a, vs, e', e.gone na (.inl r), e.at na r (fun z => z), Paired.mapP p ih⟩
    · obtain ⟨a, vs, e', na, r, p⟩ := h; exact ⟨a, vs, e', e.gone na (.inl r), e.at na r (fun z => z), Paired.mapP p ih⟩
    · obtain ⟨a, vs, e', na, r, p⟩ := h; exact ⟨a, vs, e', e.gone na r, e.rd na r, Paired.mapP p fun p q z => ⟨z.1, ih _ _ z.2⟩⟩
    · obtain ⟨a, vs, e', na, r, p⟩ := h; exact ⟨a, vs, e', e.gone na r, e.rd na r, Paired.mapP p fun p q z => ⟨z.1, ih _ _ z.2⟩⟩
    · obtain ⟨e', na, dx, vs, r, p⟩ := h
      refine ⟨e', e.gone na (.inl r), dx, vs, ?_, Paired.mapP p fun p q z => ⟨z.1, ih _ _ z.2⟩⟩
      exact e.at na r (fun z => z)
    · exact ⟨h.1, h.2.imp (fun z => ⟨e.gone z.1 z.2, e.rd z.1 z.2⟩) id⟩
theorem Rep.ext (h : Rep cl μ H d v) (e : Ext μ H μ' H') : Rep cl μ' H' d v := by
  obtain ⟨n, h⟩ := h
  exact ⟨n, e.repN n d v h⟩
theorem RepL.ext {ds : List D} {vs : List V} (h : RepL cl μ H ds vs) (e : Ext μ H μ' H') : RepL cl μ' H' ds vs := Paired.mapP h fun _ _ z => z.ext e
theorem RepK.ext {κ : Type} {ds : List (κ × D)} {vs : List (κ × V)} (h : RepK cl μ H ds vs) (e : Ext μ H μ' H') : RepK cl μ' H' ds vs := Paired.mapP h fun _ _ z => ⟨z.1, z.2.ext e⟩
theorem RepF.ext {ds : List (String × D)} {vs : List (Str × V)} (h : RepF cl μ H ds vs) (e : Ext μ H μ' H') : RepF cl μ' H' ds vs := Paired.mapP h fun _ _ z => ⟨z.1, z.2.ext e⟩
/-- a new object -/
theorem Ext.new {p : Addr} {o : HO} (hp : H p = none) : Ext μ H μ (upd H p o) := fun b u _ m h => ⟨.inl (by rw [upd_ne (ne_of_none h hp)]; exact h), m⟩
theorem Ext.newM {p : Addr} {o : HO} {m : MO} (hp : H p = none) : Ext μ H (mup μ p m) (upd H p o) := fun b u _ n h => ⟨.inl (by rw [upd_ne (ne_of_none h hp)]; exact h), by rw [mup_ne (ne_of_none h hp)]; exact n⟩
/-- a live object is written -/
theorem Ext.write {p : Addr} {o : HO} {m m' : MO} (hp : μ p = some m') : Ext μ H (mup μ p m) (upd H p o) := fun b u _ n h => by
  have ne : b ≠ p := fun e => by rw [e, hp] at n; cases n
  exact ⟨.inl (by rw [upd_ne ne]; exact h), by rw [mup_ne ne]; exact n⟩
/-- fewer are known to be live -/
def MLe (μ' μ : MH) : Prop := ∀ a m, μ' a = some m → μ a = some m
theorem MLe.refl (μ : MH) : MLe μ μ := fun _ _ h => h
theorem MLe.trans (h : MLe μ μ1) (h' : MLe μ1 μ2) : MLe μ μ2 := fun a m e => h' a m (h a m e)
theorem MLe.none (h : MLe μ' μ) {a : Addr} (e : μ a = Option.none) : μ' a = Option.none := by
  cases q : μ' a with
  | none => rfl
  | some m => rw [h a m q] at e; cases e
theorem Ext.less (h : MLe μ' μ) : Ext μ H μ' H := fun b o _ m e => ⟨.inl e, h.none m⟩
theorem MLe.del {a : Addr} : MLe (mdel μ a) μ := fun b m e => by
  unfold mdel at e
  split at e
  · cases e
  · exact e
theorem MLe.up {a : Addr} {m : MO} (h : μ a = Option.none) : MLe μ (mup μ a m) := fun b n e => by
  have ne : b ≠ a := fun q => by rw [q, h] at e; cases e
  rw [mup_ne ne]; exact e
theorem MLe.upup {a : Addr} {m : MO} (h : MLe μ' μ) (n : μ' a = Option.none) : MLe μ' (mup μ a m) := fun b k e => by
  have ne : b ≠ a := fun q => by rw [q, n] at e; cases e
  rw [mup_ne ne]; exact h b k e

/-- the table at a, its code objects not live -/
def TabM (μ : MH) (H : Hp) (a : Addr) (q : Str) : Prop := ∃ ps : Array Value, H a = some (.tbl ps) ∧ TriplesOk ps.toList ∧ ∀ (pos : Pos) (cv : Value), codeAmong pos ps.toList = some cv → ∃ c, cv = .ref c ∧ H c = some (LamX.CodeO c q) ∧ μ c = none
/-- the pen's dict -/
def penK (ns : List Int) (n d k f : Int) : List (Key × D) := [(Sum.inr "cells", .lst (ns.map D.int)), (Sum.inr "at", .int n), (Sum.inr "digits", .int d), (Sum.inr "count", .int k), (Sum.inr "fold", .int f)]
def PenC (ns : List Int) (n d k f : Int) : Prop := 0 ≤ n
/-- what a live object holds -/
def Cell (cl : String → Addr) (μ : MH) (H : Hp) (a : Addr) : MO → Prop
  | .lst ds => ∃ vs, H a = some (.lst vs) ∧ RepL cl μ H ds vs
  | .dK kvs => ∃ vs, H a = some (.dK vs) ∧ RepK cl μ H kvs vs
  | .dT kvs => ∃ vs, H a = some (.dT vs) ∧ RepK cl μ H kvs vs
  | .ins c fs => ∃ dx vs, H a = some (.ins (cl c) dx vs) ∧ RepF cl μ H fs vs
  | .pen => ∃ (ns : List Int) (n d k f : Int), PenC ns n d k f ∧ ∃ vs, H a = some (.dK vs) ∧ RepK cl μ H (penK ns n d k f) vs
  | .xd vs fs => H a = some (.xd vs) ∧ RepF cl μ H fs vs
  | .tab q => TabM μ H a q
/-- the live objects are held -/
def CplH (cl : String → Addr) (μ : MH) (H : Hp) : Prop := ∀ a m, μ a = some m → Cell cl μ H a m
theorem Cell.ext {a : Addr} {m : MO} (h : Cell cl μ H a m) (e : Ext μ H μ' H') (ha : H' a = H a) : Cell cl μ' H' a m := by
  cases m with
  | lst ds => obtain ⟨vs, h, r⟩ := h; exact ⟨vs, ha.trans h, r.ext e⟩
  | dK ds => obtain ⟨vs, h, r⟩ := h; exact ⟨vs, ha.trans h, r.ext e⟩
  | dT ds => obtain ⟨vs, h, r⟩ := h; exact ⟨vs, ha.trans h, r.ext e⟩
  | ins c fs => obtain ⟨dx, vs, h, r⟩ := h; exact ⟨dx, vs, ha.trans h, r.ext e⟩
  | pen =>
    obtain ⟨ns, n, d, k, f, q, vs, h, r⟩ := h
    exact ⟨ns, n, d, k, f, q, vs, ha.trans h, r.ext e⟩
  | xd vs fs => exact ⟨ha.trans h.1, h.2.ext e⟩
  | tab q =>
    obtain ⟨ps, h1, h2, h3⟩ := h
    refine ⟨ps, ha.trans h1, h2, fun pos cv hc => ?_⟩
    obtain ⟨cc, e1, e2, e3⟩ := h3 pos cv hc
    exact ⟨cc, e1, e.at e3 e2 (fun z => z), e.gone e3 (.inl e2)⟩
theorem Cell.some {a : Addr} {m : MO} (h : Cell cl μ H a m) : ∃ o, H a = Option.some o := by
  cases m with
  | lst ds => obtain ⟨vs, h, r⟩ := h; exact ⟨_, h⟩
  | dK ds => obtain ⟨vs, h, r⟩ := h; exact ⟨_, h⟩
  | dT ds => obtain ⟨vs, h, r⟩ := h; exact ⟨_, h⟩
  | ins c fs => obtain ⟨dx, vs, h, r⟩ := h; exact ⟨_, h⟩
  | pen => obtain ⟨ns, n, d, k, f, q, vs, h, _⟩ := h; exact ⟨_, h⟩
  | xd vs fs => exact ⟨_, h.1⟩
  | tab q => obtain ⟨ps, h, _⟩ := h; exact ⟨_, h⟩
theorem CplH.fresh (c : CplH cl μ H) {p : Addr} (h : H p = none) : μ p = none := by
  cases q : μ p with
  | none => rfl
  | some m =>
    obtain ⟨o, e⟩ := (c p m q).some
    rw [h] at e; cases e
theorem CplH.less (c : CplH cl μ H) (h : MLe μ' μ) : CplH cl μ' H := fun a m e => (c a m (h a m e)).ext (Ext.less h) rfl
/-- a new object that is not live -/
theorem CplH.new (c : CplH cl μ H) {p : Addr} {o : HO} (h : H p = none) : CplH cl μ (upd H p o) := fun a m e =>
  (c a m e).ext (Ext.new h) (upd_ne fun q => by rw [q, c.fresh h] at e; cases e)
theorem CplH.newM (c : CplH cl μ H) {p : Addr} {o : HO} {m : MO} (h : H p = none) (n : Cell cl (mup μ p m) (upd H p o) p m) : CplH cl (mup μ p m) (upd H p o) := fun a k e => by
  by_cases q : a = p
  · subst q; rw [mup_same] at e; cases e; exact n
  · rw [mup_ne q] at e
    exact (c a k e).ext (Ext.newM h) (upd_ne q)
theorem CplH.write (c : CplH cl μ H) {p : Addr} {o : HO} {m m' : MO} (h : μ p = some m') (n : Cell cl (mup μ p m) (upd H p o) p m) : CplH cl (mup μ p m) (upd H p o) := fun a k e => by
  by_cases q : a = p
  · subst q; rw [mup_same] at e; cases e; exact n
  · rw [mup_ne q] at e
    exact (c a k e).ext (Ext.write h) (upd_ne q)
end
end LF

/-! LF1: the lifted judgements (expressions, tests, arguments, statements) and their rules. -/
namespace LF
open PySem PySem.Spec L2

structure Ex where
  c : String
  fs : List (String × D)
abbrev Env := List (Option D)
abbrev Post := D → MH → Prop
abbrev EPost := Ex → MH → Prop
abbrev WE := Env → MH → Post → EPost → Prop
abbrev WT := Env → MH → (Bool → MH → Prop) → EPost → Prop
abbrev WA := Env → MH → (List D → MH → Prop) → EPost → Prop
abbrev G1 := D → MH → Post → Prop
abbrev G2 := D → D → MH → Post → Prop
abbrev GN := List D → MH → Post → Prop
structure SEnds where
  nx : LF.Env → MH → Prop
  rt : Post
  bk : LF.Env → MH → Prop := fun _ _ => False
  ct : LF.Env → MH → Prop := fun _ _ => False
abbrev WS := Env → MH → SEnds → EPost → Prop

section
variable (cl : String → Addr)
def SlotO (μ : MH) (H : Hp) : Option V → Option D → Prop
  | some v, some d => Rep cl μ H d v
  | _, none => True
  | none, some _ => False
structure Ok (δ : LF.Env) (μ : MH) (σ : St) (H : Hp) : Prop where
  cpl : CplH cl μ H
  slt : Paired (SlotO cl μ H) σ δ
def RepX (μ : MH) (H : Hp) (ex : Ex) (c : Value) (dd : Option Addr) : Prop :=
  c = .ref (cl ex.c) ∧ ((ex.fs = [] ∧ dd = none) ∨ ∃ d vs, dd = some d ∧ μ d = none ∧ H d = some (.xd vs) ∧ RepF cl μ H ex.fs vs)
def PostOk (μ : MH) (H : Hp) (R : Post) (Q : VK) : Prop := ∀ d μ' v H', R d μ' → CplH cl μ' H' → Ext μ H μ' H' → Rep cl μ' H' d v → Q v H'
def ExcOk (μ : MH) (H : Hp) (RE : EPost) (E : XK) : Prop := ∀ ex μ' c dd H', RE ex μ' → CplH cl μ' H' → Ext μ H μ' H' → RepX cl μ' H' ex c dd → E c dd H'
def BoolOk (μ : MH) (H : Hp) (R : Bool → MH → Prop) (Q : Bool → Hp → Prop) : Prop := ∀ b μ' H', R b μ' → CplH cl μ' H' → Ext μ H μ' H' → Q b H'
def ArgsOk (n : Nat) (μ : MH) (H : Hp) (R : List D → MH → Prop) (Q : List V → Hp → Prop) : Prop := ∀ ds μ' vs H', ds.length = n → R ds μ' → CplH cl μ' H' → Ext μ H μ' H' → RepL cl μ' H' ds vs → Q vs H'
structure EndsOk (μ : MH) (H : Hp) (K : SEnds) (Dn : Ends) : Prop where
  nx : ∀ δ' μ' σ' H', K.nx δ' μ' → Ok cl δ' μ' σ' H' → Ext μ H μ' H' → Dn.nx σ' H'
  rt : PostOk cl μ H K.rt Dn.rt
  bk : ∀ δ' μ' σ' H', K.bk δ' μ' → Ok cl δ' μ' σ' H' → Ext μ H μ' H' → Dn.bk σ' H'
  ct : ∀ δ' μ' σ' H', K.ct δ' μ' → Ok cl δ' μ' σ' H' → Ext μ H μ' H' → Dn.ct σ' H'
variable (E : XK)
def tOf (f : WE) : TE := fun σ H Q => ∃ δ μ R RE, Ok cl δ μ σ H ∧ f δ μ R RE ∧ PostOk cl μ H R Q ∧ ExcOk cl μ H RE E
def ttOf (f : WT) : TT := fun σ H Q => ∃ δ μ R RE, Ok cl δ μ σ H ∧ f δ μ R RE ∧ BoolOk cl μ H R Q ∧ ExcOk cl μ H RE E
def taOf (n : Nat) (f : WA) : TA := fun σ H Q => ∃ δ μ R RE, Ok cl δ μ σ H ∧ f δ μ R RE ∧ ArgsOk cl n μ H R Q ∧ ExcOk cl μ H RE E
def tsOf (f : WS) : TS := fun Dn σ H => ∃ δ μ K RE, Ok cl δ μ σ H ∧ f δ μ K RE ∧ EndsOk cl μ H K Dn ∧ ExcOk cl μ H RE E
def rOf (g : G2) : R2 := fun x y H Q => ∃ dx dy μ R, CplH cl μ H ∧ Rep cl μ H dx x ∧ Rep cl μ H dy y ∧ g dx dy μ R ∧ PostOk cl μ H R Q
def uOf (g : G1) : V → Hp → VK → Prop := fun x H Q => ∃ dx μ R, CplH cl μ H ∧ Rep cl μ H dx x ∧ g dx μ R ∧ PostOk cl μ H R Q
def nOf (g : GN) : List V → Hp → VK → Prop := fun xs H Q => ∃ ds μ R, CplH cl μ H ∧ RepL cl μ H ds xs ∧ g ds μ R ∧ PostOk cl μ H R Q
abbrev PD (X : Cx) (e : Expr) (f : WE) : Prop := PE X e (tOf cl E f)
abbrev PTD (X : Cx) (e : Expr) (f : WT) : Prop := PT X e (ttOf cl E f)
abbrev PWD (X : Cx) (e : Expr) (f : WT) : Prop := PW X e (ttOf cl E f)
abbrev PAD (X : Cx) (es : List Expr) (f : WA) : Prop := PA X es (taOf cl E es.length f)
abbrev PSD (X : Cx) (st : Stmt) (f : WS) : Prop := PS X st (tsOf cl E f)
abbrev PSsD (X : Cx) (st : List Stmt) (f : WS) : Prop := PSs X st (tsOf cl E f)
abbrev OpD (X : Cx) (op : Value → Value → Sem Value) (g : G2) : Prop := OpR X op (rOf cl g)
abbrev UnD (X : Cx) (op : Value → Sem Value) (g : G1) : Prop := UnR X op (uOf cl g)
abbrev CallD (X : Cx) (fv : Value) (g : GN) : Prop := CallR X fv (nOf cl g)
end

section
variable {cl : String → Addr} {E : XK} {μ μ' μ1 μ2 : MH} {H H' H1 H2 : Hp} {δ : LF.Env} {σ : St} {R : Post} {RE : EPost} {Q : VK}
theorem SlotO.ext {x : Option V} {y : Option D} (h : SlotO cl μ H x y) (e : Ext μ H μ' H') : SlotO cl μ' H' x y := by
  cases x <;> cases y <;> first | exact h | exact Rep.ext h e
theorem Ok.ext (h : Ok cl δ μ σ H) (e : Ext μ H μ' H') (c : CplH cl μ' H') : Ok cl δ μ' σ H' := ⟨c, Paired.mapP h.slt fun _ _ z => z.ext e⟩
theorem PostOk.ext (h : PostOk cl μ H R Q) (e : Ext μ H μ' H') : PostOk cl μ' H' R Q := fun d μ2 v H2 r c e2 p => h d μ2 v H2 r c (e.trans e2) p
theorem ExcOk.ext (h : ExcOk cl μ H RE E) (e : Ext μ H μ' H') : ExcOk cl μ' H' RE E := fun ex μ2 c dd H2 r cp e2 p => h ex μ2 c dd H2 r cp (e.trans e2) p
theorem BoolOk.ext {R : Bool → MH → Prop} {Q : Bool → Hp → Prop} (h : BoolOk cl μ H R Q) (e : Ext μ H μ' H') : BoolOk cl μ' H' R Q := fun d μ2 H2 r c e2 => h d μ2 H2 r c (e.trans e2)
theorem ArgsOk.ext {n : Nat} {R : List D → MH → Prop} {Q : List V → Hp → Prop} (h : ArgsOk cl n μ H R Q) (e : Ext μ H μ' H') : ArgsOk cl n μ' H' R Q := fun d μ2 v H2 l r c e2 p => h d μ2 v H2 l r c (e.trans e2) p
theorem EndsOk.ext {K : SEnds} {Dn : Ends} (h : EndsOk cl μ H K Dn) (e : Ext μ H μ' H') : EndsOk cl μ' H' K Dn :=
  ⟨fun δ' μ2 σ' H2 k o e2 => h.nx δ' μ2 σ' H2 k o (e.trans e2), h.rt.ext e, fun δ' μ2 σ' H2 k o e2 => h.bk δ' μ2 σ' H2 k o (e.trans e2), fun δ' μ2 σ' H2 k o e2 => h.ct δ' μ2 σ' H2 k o (e.trans e2)⟩
/-- the end: the same live heap, a value at once -/
theorem PostOk.fin {d : D} {v : V} (h : PostOk cl μ H R Q) (c : CplH cl μ H) (r : R d μ) (p : Rep cl μ H d v) : Q v H := h d μ v H r c (Ext.refl μ H) p
theorem PostOk.newp {d : D} {p : Addr} {o : HO} (h : PostOk cl μ H R Q) (c : CplH cl μ H) (hp : H p = none) (r : R d μ) (q : Rep cl μ (upd H p o) d (.ref p)) : Q (.ref p) (upd H p o) :=
  h d μ _ _ r (c.new hp) (Ext.new hp) q
theorem ExcOk.none : ExcOk cl μ H (fun _ _ => False) E := fun _ _ _ _ _ h => h.elim
end

/-! ### weakening -/
section
variable {X : Cx} {e : Expr} {es : List Expr} {st : Stmt} {sts : List Stmt}
theorem pe_imp {t t' : TE} (h : PE X e t) (i : ∀ σ H Q, t' σ H Q → t σ H Q) : PE X e t' := ⟨fun pins s σ H Q I q => h.run pins s σ H Q I (i σ H Q q)⟩
theorem pt_imp {t t' : TT} (h : PT X e t) (i : ∀ σ H Q, t' σ H Q → t σ H Q) : PT X e t' := ⟨fun pins s σ H Q I q => h.run pins s σ H Q I (i σ H Q q)⟩
theorem pw_imp {t t' : TT} (h : PW X e t) (i : ∀ σ H Q, t' σ H Q → t σ H Q) : PW X e t' := ⟨fun w pins s σ H Q I q => h.run w pins s σ H Q I (i σ H Q q)⟩
theorem pa_imp {t t' : TA} (h : PA X es t) (i : ∀ σ H Q, t' σ H Q → t σ H Q) : PA X es t' := ⟨fun p pins s σ H Q I q => h.run p pins s σ H Q I (i σ H Q q)⟩
theorem ps_imp {t t' : TS} (h : PS X st t) (i : ∀ D σ H, t' D σ H → t D σ H) : PS X st t' := ⟨fun pins s σ H D I q => h.run pins s σ H D I (i D σ H q)⟩
theorem pss_imp {t t' : TS} (h : PSs X sts t) (i : ∀ D σ H, t' D σ H → t D σ H) : PSs X sts t' := ⟨fun pins s σ H D I q => h.run pins s σ H D I (i D σ H q)⟩
end

/-! ### denotations: expressions -/
@[simp] def wVar (i : Nat) : WE := fun δ μ R _ => match δ[i]? with
  | some (some d) => R d μ
  | _ => False
@[simp] def wC (d : D) : WE := fun _ μ R _ => R d μ
@[simp] def wOp (g : G2) (fa fb : WE) : WE := fun δ μ R RE => fa δ μ (fun x μ1 => fb δ μ1 (fun y μ2 => g x y μ2 R) RE) RE
@[simp] def wUn (g : G1) (fa : WE) : WE := fun δ μ R RE => fa δ μ (fun x μ1 => g x μ1 R) RE
@[simp] def wNil : WA := fun _ μ R _ => R [] μ
@[simp] def wCons (fa : WE) (fr : WA) : WA := fun δ μ R RE => fa δ μ (fun x μ1 => fr δ μ1 (fun xs μ2 => R (x :: xs) μ2) RE) RE
@[simp] def wCB (g : GN) (fa : WA) : WE := fun δ μ R RE => fa δ μ (fun xs μ1 => g xs μ1 R) RE
@[simp] def wTup (fa : WA) : WE := fun δ μ R RE => fa δ μ (fun xs μ1 => R (.tup xs) μ1) RE
/-- a written list that will not change -/
@[simp] def wLst (fa : WA) : WE := fun δ μ R RE => fa δ μ (fun xs μ1 => R (.lst xs) μ1) RE
/-- a written list that will change -/
@[simp] def wLstL (fa : WA) : WE := fun δ μ R RE => fa δ μ (fun xs μ1 => ∀ p, μ1 p = none → R (.ref p) (mup μ1 p (.lst xs))) RE
@[simp] def wIfE (fc : WT) (fa fb : WE) : WE := fun δ μ R RE => fc δ μ (fun c μ1 => if c = true then fa δ μ1 R RE else fb δ μ1 R RE) RE
@[simp] def wAndV (fa fb : WE) : WE := fun δ μ R RE => fa δ μ (fun x μ1 => match x with
  | .bl c => if c = true then fb δ μ1 R RE else R (.bl false) μ1
  | _ => False) RE
@[simp] def wOrV (fa fb : WE) : WE := fun δ μ R RE => fa δ μ (fun x μ1 => match x with
  | .bl c => if c = true then R (.bl true) μ1 else fb δ μ1 R RE
  | _ => False) RE
@[simp] def wNotV (fa : WE) : WE := fun δ μ R RE => fa δ μ (fun x μ1 => match x with
  | .bl c => R (.bl (!c)) μ1
  | _ => False) RE
/-- tests -/
@[simp] def wB (fa : WE) : WT := fun δ μ R RE => fa δ μ (fun x μ1 => match x with
  | .bl c => R c μ1
  | _ => False) RE
@[simp] def wAnd (fa fb : WT) : WT := fun δ μ R RE => fa δ μ (fun c μ1 => if c = true then fb δ μ1 R RE else R false μ1) RE
@[simp] def wOr (fa fb : WT) : WT := fun δ μ R RE => fa δ μ (fun c μ1 => if c = true then R true μ1 else fb δ μ1 R RE) RE
@[simp] def wNot (fa : WT) : WT := fun δ μ R RE => fa δ μ (fun c μ1 => R (!c) μ1) RE

section
variable {cl : String → Addr} {E : XK} {X : Cx} {a b c e : Expr} {es rest : List Expr} {fa fb fe : WE} {fA fB : WT} {fs : WA} {pos p p' : Pos}
theorem pd_var {i : Nat} {x : Str} (hN : X.N[i]? = some x := by rfl) (hv : Vis X.env.scope x := by first | exact Or.inl rfl | exact Or.inr (Or.inl rfl) | exact Or.inr (Or.inr rfl)) (hd : (x == ("__debug__" : Str)) = false := by decide)
    (hcd : (x == ("__classdict__" : Str)) = false := by decide) : PD cl E X (.Name x pos) (wVar i) := by
  refine pe_imp (pe_var hN hv hd hcd) fun σ H Q ⟨δ, μ, R, RE, ok, f, P, _⟩ => ?_
  unfold wVar at f
  split at f
  · rename_i d he
    obtain ⟨v, hv, r⟩ := pget2 ok.slt i _ he
    cases v with
    | none => exact False.elim r
    | some v => exact ⟨v, hv, P.fin ok.cpl f r⟩
  · exact f.elim
theorem pd_c {v : V} {d : D} (h : PE X e (tC v)) (r : ∀ μ H, Rep cl μ H d v) : PD cl E X e (wC d) :=
  pe_imp h fun σ H Q ⟨δ, μ, R, RE, ok, f, P, _⟩ => P.fin ok.cpl f (r μ H)
theorem pd_int {i : Int} {j : Nat} : PD cl E X (.Constant (.int i) j pos) (wC (.int i)) := pd_c pe_int fun _ _ => Rep.leaf rfl
theorem pd_bl {i : Bool} {j : Nat} : PD cl E X (.Constant (.bool i) j pos) (wC (.bl i)) := pd_c pe_bl fun _ _ => Rep.leaf rfl
theorem pd_non {j : Nat} : PD cl E X (.Constant .none j pos) (wC .non) := pd_c pe_non fun _ _ => Rep.leaf rfl
theorem pd_str {x : Str} {j : Nat} : PD cl E X (.Constant (.str x) j pos) (wC (.str x)) := pd_c pe_str fun _ _ => Rep.leaf rfl
/-- run a part, then go on -/
theorem tOf_run {σ : St} {H : Hp} {δ : LF.Env} {μ : MH} {RE : EPost} {R : Post} {Q : VK} {f : WE} (ok : Ok cl δ μ σ H) (h : f δ μ R RE) (x : ExcOk cl μ H RE E) (k : PostOk cl μ H R Q) : tOf cl E f σ H Q := ⟨δ, μ, R, RE, ok, h, k, x⟩
theorem pd_op {op : Operator} {g : G2} (ho : OpD cl X (binaryOp op) g) (ha : PD cl E X a fa) (hb : PD cl E X b fb) : PD cl E X (.BinOp a op b pos) (wOp g fa fb) := by
  refine pe_imp (pe_op ho ha hb) fun σ H Q ⟨δ, μ, R, RE, ok, f, P, x⟩ => ?_
  refine tOf_run ok f x fun dx μ1 vx H1 f1 c1 e1 r1 => ?_
  refine tOf_run (ok.ext e1 c1) f1 (x.ext e1) fun dy μ2 vy H2 f2 c2 e2 r2 => ?_
  exact ⟨dx, dy, μ2, R, c2, r1.ext e2, r2, f2, P.ext (e1.trans e2)⟩
theorem pd_un {op : UnaryOp} {g : G1} (ho : UnD cl X (unaryOp op) g) (ha : PD cl E X a fa) : PD cl E X (.UnaryOp op a pos) (wUn g fa) := by
  refine pe_imp (pe_un ho ha) fun σ H Q ⟨δ, μ, R, RE, ok, f, P, x⟩ => ?_
  exact tOf_run ok f x fun dx μ1 vx H1 f1 c1 e1 r1 => ⟨dx, μ1, R, c1, r1, f1, P.ext e1⟩
theorem pd_cmp {op : CmpOp} {g : G2} (ho : OpD cl X (compareOp op) g) (ha : PD cl E X a fa) (hb : PD cl E X b fb) (hm : behindInMarks op b = false) : PD cl E X (.Compare a [op] [b] pos) (wOp g fa fb) := by
  refine pe_imp (pe_cmpR ho ha hb hm) fun σ H Q ⟨δ, μ, R, RE, ok, f, P, x⟩ => ?_
  refine tOf_run ok f x fun dx μ1 vx H1 f1 c1 e1 r1 => ?_
  refine tOf_run (ok.ext e1 c1) f1 (x.ext e1) fun dy μ2 vy H2 f2 c2 e2 r2 => ?_
  exact ⟨dx, dy, μ2, R, c2, r1.ext e2, r2, f2, P.ext (e1.trans e2)⟩
def blR (R : Bool → MH → Prop) : Post := fun d μ => match d with
  | .bl c => R c μ
  | _ => False
theorem blR_ok {μ : MH} {H : Hp} {R : Bool → MH → Prop} {Q : Bool → Hp → Prop} (P : BoolOk cl μ H R Q) : PostOk cl μ H (blR R) (fun v H' => ∃ c, v = .bl c ∧ Q c H') := by
  intro d μ' v H' r c e p
  cases d <;> first | exact r.elim | skip
  exact ⟨_, Rep.bl_iff.mp p, P _ _ _ r c e⟩
theorem ptd_cmp {op : CmpOp} {g : G2} (ho : OpD cl X (compareOp op) g) (ha : PD cl E X a fa) (hb : PD cl E X b fb) (hm : behindInMarks op b = false) : PTD cl E X (.Compare a [op] [b] pos) (wB (wOp g fa fb)) := by
  refine pt_imp (pt_cmpR ho ha hb hm) fun σ H Q ⟨δ, μ, R, RE, ok, f, P, x⟩ => ?_
  refine tOf_run ok f x fun dx μ1 vx H1 f1 c1 e1 r1 => ?_
  refine tOf_run (ok.ext e1 c1) f1 (x.ext e1) fun dy μ2 vy H2 f2 c2 e2 r2 => ?_
  exact ⟨dx, dy, μ2, _, c2, r1.ext e2, r2, f2, (blR_ok P).ext (e1.trans e2)⟩
theorem ptd_val (h : PD cl E X e fe) (he : ∀ whole, isTrue e X.env whole = (do let v ← whole; standAt e.pos; holding [v] (truthy v)) := by intro _; rfl) : PTD cl E X e (wB fe) :=
  pt_imp (pt_val h he) fun σ H Q ⟨δ, μ, R, RE, ok, f, P, x⟩ => tOf_run ok f x (blR_ok P)
theorem ttOf_run {σ : St} {H : Hp} {δ : LF.Env} {μ : MH} {RE : EPost} {R : Bool → MH → Prop} {Q : Bool → Hp → Prop} {f : WT} (ok : Ok cl δ μ σ H) (h : f δ μ R RE) (x : ExcOk cl μ H RE E) (k : BoolOk cl μ H R Q) : ttOf cl E f σ H Q := ⟨δ, μ, R, RE, ok, h, k, x⟩
theorem pwd_and1 (ha : PTD cl E X a fA) : PWD cl E X (.BoolOp .And [a] pos) fA := pw_and1 ha
theorem pwd_or1 (ha : PTD cl E X a fA) : PWD cl E X (.BoolOp .Or [a] pos) fA := pw_or1 ha
theorem pwd_and (ha : PTD cl E X a fA) (hb : PWD cl E X (.BoolOp .And (b :: rest) pos) fB) : PWD cl E X (.BoolOp .And (a :: b :: rest) pos) (wAnd fA fB) := by
  refine pw_imp (pw_and ha hb) fun σ H Q ⟨δ, μ, R, RE, ok, f, P, x⟩ => ?_
  refine ttOf_run ok f x fun k μ1 H1 f1 c1 e1 => ?_
  cases k with
  | true => rw [if_pos rfl] at f1 ⊢; exact ttOf_run (ok.ext e1 c1) f1 (x.ext e1) (P.ext e1)
  | false => rw [if_neg Bool.false_ne_true] at f1 ⊢; exact P _ _ _ f1 c1 e1
theorem pwd_or (ha : PTD cl E X a fA) (hb : PWD cl E X (.BoolOp .Or (b :: rest) pos) fB) : PWD cl E X (.BoolOp .Or (a :: b :: rest) pos) (wOr fA fB) := by
  refine pw_imp (pw_or ha hb) fun σ H Q ⟨δ, μ, R, RE, ok, f, P, x⟩ => ?_
  refine ttOf_run ok f x fun k μ1 H1 f1 c1 e1 => ?_
  cases k with
  | true => rw [if_pos rfl] at f1 ⊢; exact P _ _ _ f1 c1 e1
  | false => rw [if_neg Bool.false_ne_true] at f1 ⊢; exact ttOf_run (ok.ext e1 c1) f1 (x.ext e1) (P.ext e1)
theorem ptd_w (h : PWD cl E X e fA) : PTD cl E X e fA := PW.pt h
theorem ptd_not (ha : PTD cl E X a fA) : PTD cl E X (.UnaryOp .Not a pos) (wNot fA) :=
  pt_imp (pt_not ha) fun σ H Q ⟨δ, μ, R, RE, ok, f, P, x⟩ => ttOf_run ok f x fun k μ1 H1 f1 c1 e1 => P _ _ _ f1 c1 e1
theorem pd_one {op : BoolOp} (h : PD cl E X a fa) : PD cl E X (.BoolOp op [a] pos) fa := pe_one h
theorem pd_and (ha : PD cl E X a fa) (hb : PD cl E X (.BoolOp .And (b :: rest) pos) fb) : PD cl E X (.BoolOp .And (a :: b :: rest) pos) (wAndV fa fb) := by
  refine pe_imp (pe_and ha hb) fun σ H Q ⟨δ, μ, R, RE, ok, f, P, x⟩ => ?_
  refine tOf_run ok f x fun dx μ1 vx H1 f1 c1 e1 r1 => ?_
  cases dx <;> first | exact f1.elim | skip
  rename_i k
  refine ⟨k, Rep.bl_iff.mp r1, ?_⟩
  cases k with
  | true => rw [if_pos rfl]; exact tOf_run (ok.ext e1 c1) (by simpa using f1) (x.ext e1) (P.ext e1)
  | false => rw [if_neg Bool.false_ne_true]; exact P (.bl _) _ _ _ (by simpa using f1) c1 e1 (Rep.leaf rfl)
theorem pd_or (ha : PD cl E X a fa) (hb : PD cl E X (.BoolOp .Or (b :: rest) pos) fb) : PD cl E X (.BoolOp .Or (a :: b :: rest) pos) (wOrV fa fb) := by
  refine pe_imp (pe_or ha hb) fun σ H Q ⟨δ, μ, R, RE, ok, f, P, x⟩ => ?_
  refine tOf_run ok f x fun dx μ1 vx H1 f1 c1 e1 r1 => ?_
  cases dx <;> first | exact f1.elim | skip
  rename_i k
  refine ⟨k, Rep.bl_iff.mp r1, ?_⟩
  cases k with
  | true => rw [if_pos rfl]; exact P (.bl _) _ _ _ (by simpa using f1) c1 e1 (Rep.leaf rfl)
  | false => rw [if_neg Bool.false_ne_true]; exact tOf_run (ok.ext e1 c1) (by simpa using f1) (x.ext e1) (P.ext e1)
theorem pd_not (ha : PD cl E X a fa) : PD cl E X (.UnaryOp .Not a pos) (wNotV fa) := by
  refine pe_imp (pe_not ha) fun σ H Q ⟨δ, μ, R, RE, ok, f, P, x⟩ => ?_
  refine tOf_run ok f x fun dx μ1 vx H1 f1 c1 e1 r1 => ?_
  cases dx <;> first | exact f1.elim | skip
  exact ⟨_, Rep.bl_iff.mp r1, P (.bl _) _ _ _ f1 c1 e1 (Rep.leaf rfl)⟩
theorem pd_ife (hc : PTD cl E X c fA) (ha : PD cl E X a fa) (hb : PD cl E X b fb) : PD cl E X (.IfExp c a b pos) (wIfE fA fa fb) := by
  refine pe_imp (pe_ifExp hc ha hb) fun σ H Q ⟨δ, μ, R, RE, ok, f, P, x⟩ => ?_
  refine ttOf_run ok f x fun k μ1 H1 f1 c1 e1 => ?_
  cases k with
  | true => rw [if_pos rfl] at f1 ⊢; exact tOf_run (ok.ext e1 c1) f1 (x.ext e1) (P.ext e1)
  | false => rw [if_neg Bool.false_ne_true] at f1 ⊢; exact tOf_run (ok.ext e1 c1) f1 (x.ext e1) (P.ext e1)
theorem pad_nil : PAD cl E X [] wNil := pa_imp pa_nil fun σ H Q ⟨δ, μ, R, RE, ok, f, P, x⟩ => P [] _ _ _ rfl f ok.cpl (Ext.refl _ _) .nil
theorem taOf_run {n : Nat} {σ : St} {H : Hp} {δ : LF.Env} {μ : MH} {RE : EPost} {R : List D → MH → Prop} {Q : List V → Hp → Prop} {f : WA} (ok : Ok cl δ μ σ H) (h : f δ μ R RE) (x : ExcOk cl μ H RE E) (k : ArgsOk cl n μ H R Q) : taOf cl E n f σ H Q := ⟨δ, μ, R, RE, ok, h, k, x⟩
theorem pad_cons (ha : PD cl E X e fe) (hr : PAD cl E X es fs) (hs : starEach (e :: es) X.env = (false, eval e X.env) :: starEach es X.env := by rfl) : PAD cl E X (e :: es) (wCons fe fs) := by
  refine pa_imp (pa_cons ha hr hs) fun σ H Q ⟨δ, μ, R, RE, ok, f, P, x⟩ => ?_
  refine tOf_run ok f x fun dx μ1 vx H1 f1 c1 e1 r1 => ?_
  refine taOf_run (ok.ext e1 c1) f1 (x.ext e1) fun dy μ2 vy H2 l2 f2 c2 e2 r2 => ?_
  exact P (dx :: dy) _ _ _ (by rw [List.length_cons, List.length_cons, l2]) f2 c2 (e1.trans e2) (.cons (r1.ext e2) r2)
theorem pd_tup {x1} (h : PAD cl E X es fs) (hz : es.length ≤ sizeLine := by decide) : PD cl E X (.Tuple es x1 pos) (wTup fs) := by
  refine pe_imp (pe_tup h) fun σ H Q ⟨δ, μ, R, RE, ok, f, P, x⟩ => ?_
  refine taOf_run ok f x fun ds μ1 vs H1 l1 f1 c1 e1 r1 => ?_
  refine ⟨by rw [← r1.length, l1]; exact hz, fun p hp => ?_⟩
  exact P _ _ _ _ f1 (c1.new hp) (e1.trans (Ext.new hp)) (Rep.tup_iff.mpr ⟨p, vs, rfl, c1.fresh hp, upd_same, RepL.ext r1 (Ext.new hp)⟩)
theorem pd_lst (h : PAD cl E X es fs) (hz : es.length ≤ sizeLine := by decide) : PD cl E X (.List es pos) (wLst fs) := by
  refine pe_imp (pe_lst h) fun σ H Q ⟨δ, μ, R, RE, ok, f, P, x⟩ => ?_
  refine taOf_run ok f x fun ds μ1 vs H1 l1 f1 c1 e1 r1 => ?_
  refine ⟨by rw [← r1.length, l1]; exact hz, fun p hp => ?_⟩
  exact P _ _ _ _ f1 (c1.new hp) (e1.trans (Ext.new hp)) (Rep.lst_iff.mpr ⟨p, vs, rfl, c1.fresh hp, upd_same, RepL.ext r1 (Ext.new hp)⟩)
theorem pd_lstL (h : PAD cl E X es fs) (hz : es.length ≤ sizeLine := by decide) : PD cl E X (.List es pos) (wLstL fs) := by
  refine pe_imp (pe_lst h) fun σ H Q ⟨δ, μ, R, RE, ok, f, P, x⟩ => ?_
  refine taOf_run ok f x fun ds μ1 vs H1 l1 f1 c1 e1 r1 => ?_
  refine ⟨by rw [← r1.length, l1]; exact hz, fun p hp => ?_⟩
  exact P _ _ _ _ (f1 p (c1.fresh hp)) (c1.newM hp ⟨vs, upd_same, RepL.ext r1 (Ext.newM hp)⟩) (e1.trans (Ext.newM hp)) (Rep.leaf rfl)
/-- a built-in function's call, a built-in type's -/
theorem pd_callB {id : String} {x : Str} {g : GN} (hc : CallD cl X (.builtin id) g) (hg : Gl X x) (hm : X.mg x = none) (hv : bootBuiltins x = some (.builtin id)) (ha : PAD cl E X (e :: es) fs) (hn : x ≠ "__name__" := by decide) (hdb : (x == ("__debug__" : Str)) = false := by decide)
    (he : starEach (e :: es) X.env = (false, eval e X.env) :: starEach es X.env := by rfl) (hpl : (backTo pos (starEach es X.env)).any (·.1) = false := by rfl) : PD cl E X (.Call (.Name x p) (e :: es) [] pos) (wCB g fs) := by
  refine pe_imp (pe_callB hc hg hm hv ha hn hdb he hpl) fun σ H Q ⟨δ, μ, R, RE, ok, f, P, x⟩ => ?_
  exact taOf_run ok f x fun ds μ1 vs H1 l1 f1 c1 e1 r1 => ⟨ds, μ1, R, c1, r1, f1, P.ext e1⟩
theorem pd_callTy {id : String} {x : Str} {g : GN} (hc : CallD cl X (.type id) g) (hg : Gl X x) (hm : X.mg x = none) (hv : bootBuiltins x = some (.type id)) (ha : PAD cl E X (e :: es) fs) (hn : x ≠ "__name__" := by decide) (hdb : (x == ("__debug__" : Str)) = false := by decide)
    (he : starEach (e :: es) X.env = (false, eval e X.env) :: starEach es X.env := by rfl) (hpl : (backTo pos (starEach es X.env)).any (·.1) = false := by rfl) : PD cl E X (.Call (.Name x p) (e :: es) [] pos) (wCB g fs) := by
  refine pe_imp (pe_callTy hc hg hm hv ha hn hdb he hpl) fun σ H Q ⟨δ, μ, R, RE, ok, f, P, x⟩ => ?_
  exact taOf_run ok f x fun ds μ1 vs H1 l1 f1 c1 e1 r1 => ⟨ds, μ1, R, c1, r1, f1, P.ext e1⟩
end
end LF

/-! LF2: fields, calls of defs, instances made, methods; statements; targets; loops; comprehensions. -/
namespace LF
open PySem PySem.Spec L2

/-! ### fields -/
def fldsOf (μ : MH) : D → Option (String × List (String × D))
  | .obj _ c fs => some (c, fs)
  | .ref a => match μ a with
    | some (.ins c fs) => some (c, fs)
    | _ => none
  | _ => none
@[simp] def wFld (cs : List String) (f : String) (fe : WE) : WE := fun δ μ R RE => fe δ μ (fun d μ1 => match fldsOf μ1 d with
  | some (c, fs) => c ∈ cs ∧ match fs.lookup f with
    | some v => R v μ1
    | none => False
  | none => False) RE
def FldOk (K : PySem.W.Frag) (cl : String → Addr) (c f : String) : Prop := Cls K (cl c) ∧ NoAttr K (cl c) (sk f)
def putD (f : String) (v : D) : List (String × D) → List (String × D)
  | [] => [(f, v)]
  | (g, x) :: r => if g = f then (g, v) :: r else (g, x) :: putD f v r
section
variable {cl : String → Addr} {E : XK} {X : Cx} {μ μ' : MH} {H H' : Hp}
theorem lookF {f : String} (hf : f ∈ flds) : ∀ {fs : List (String × D)} {vs : List (Str × V)} {d : D}, RepF cl μ H fs vs → fs.lookup f = some d → ∃ v, vs.lookup (sk f) = some v ∧ Rep cl μ H d v
  | [], _, _, .nil, h => by simp at h
  | (g, x) :: fs, (k, y) :: vs, d, .cons r t, h => by
    obtain ⟨⟨rk, rg⟩, r⟩ := r
    have rk : k = sk g := rk
    subst rk
    by_cases e : f = g
    · subst e
      have e1 : d = x := by simpa [List.lookup] using h.symm
      subst e1
      exact ⟨y, by simp [List.lookup], r⟩
    · have ne : (f == g) = false := beq_eq_false_iff_ne.mpr e
      have ne2 : (sk f == sk g) = false := beq_eq_false_iff_ne.mpr fun q => e (flds_inj hf rg q)
      obtain ⟨v, h1, h2⟩ := lookF hf t (by simpa [List.lookup, ne] using h)
      exact ⟨v, by simpa [List.lookup, ne2] using h1, h2⟩
theorem repF_put {f : String} (hf : f ∈ flds) {d : D} {v : V} (r : Rep cl μ H d v) : ∀ {fs : List (String × D)} {vs : List (Str × V)}, RepF cl μ H fs vs → RepF cl μ H (putD f d fs) (putF (sk f) v vs)
  | [], _, .nil => .cons ⟨⟨rfl, hf⟩, r⟩ .nil
  | (g, x) :: fs, (k, y) :: vs, .cons q t => by
    obtain ⟨⟨rk, rg⟩, q⟩ := q
    have rk : k = sk g := rk
    subst rk
    by_cases e : g = f
    · subst e
      rw [show putD g d ((g, x) :: fs) = (g, d) :: fs by simp [putD], show putF (sk g) v ((sk g, y) :: vs) = (sk g, v) :: vs by simp [putF]]
      exact .cons ⟨⟨rfl, rg⟩, r⟩ t
    · have ne2 : ¬ sk g = sk f := fun q => e (flds_inj rg hf q)
      rw [show putD f d ((g, x) :: fs) = (g, x) :: putD f d fs by simp [putD, e], show putF (sk f) v ((sk g, y) :: vs) = (sk g, y) :: putF (sk f) v vs by simp [putF, ne2]]
      exact .cons ⟨⟨rfl, rg⟩, q⟩ (repF_put hf r t)
theorem fldsOf_rep {d : D} {v : V} {c : String} {fs : List (String × D)} (cp : CplH cl μ H) (r : Rep cl μ H d v) (h : fldsOf μ d = some (c, fs)) : ∃ a dx vs, v = .ref a ∧ H a = some (.ins (cl c) dx vs) ∧ RepF cl μ H fs vs := by
  unfold fldsOf at h
  split at h
  · cases h
    obtain ⟨e, _, dx, vs, h1, h2⟩ := Rep.obj_iff.mp r
    exact ⟨_, dx, vs, e, h1, h2⟩
  · rename_i a
    split at h
    · rename_i c' fs' hm
      cases h
      obtain ⟨dx, vs, h1, h2⟩ := cp _ _ hm
      exact ⟨_, dx, vs, Rep.ref_iff.mp r, h1, h2⟩
    · cases h
  · cases h
theorem pd_fld {e : Expr} {fe : WE} {f : Str} {g : String} {cs : List String} {pos : Pos} (he : PD cl E X e fe) (hc : ∀ c ∈ cs, FldOk X.K cl c g) (hf : f = sk g := by rfl) (hg : g ∈ flds := by decide) (hb : attributeBase e f X.env (eval e X.env) = eval e X.env := by rfl) :
    PD cl E X (.Attribute e f pos) (wFld cs g fe) := by
  subst hf
  refine pe_imp (pe_fld he hb) fun σ H Q ⟨δ, μ, R, RE, ok, q, P, x⟩ => ?_
  refine tOf_run ok q x fun d μ1 v H1 f1 c1 e1 r1 => ?_
  split at f1
  · rename_i c fs hfl
    obtain ⟨hcs, f1⟩ := f1
    split at f1
    · rename_i dv hl
      obtain ⟨a, dx, vs, ev, h1, h2⟩ := fldsOf_rep c1 r1 hfl
      obtain ⟨w, h3, h4⟩ := lookF hg h2 hl
      exact ⟨a, cl c, dx, vs, w, ev, h1, (hc c hcs).1, (hc c hcs).2, h3, P _ _ _ _ f1 c1 e1 h4⟩
    · exact f1.elim
  · exact f1.elim
end

/-! ### calls of defs -/
abbrev Sc := List D → MH → Post → EPost → Prop
def spOf (cl : String → Addr) (n : Nat) (S : Sc) : Sp := fun vs H Q E => vs.length = n ∧ ∃ ds μ R RE, CplH cl μ H ∧ RepL cl μ H ds vs ∧ S ds μ R RE ∧ PostOk cl μ H R Q ∧ ExcOk cl μ H RE E
@[simp] def wCall (S : Sc) (fa : WA) : WE := fun δ μ R RE => fa δ μ (fun ds μ1 => S ds μ1 R RE) RE
@[simp] def wMeth (c m : String) (S : Sc) (fo : WE) (fa : WA) : WE := fun δ μ R RE => fo δ μ (fun o μ1 => match fldsOf μ1 o with
  | some (c', fs) => c' = c ∧ fs.lookup m = none ∧ fa δ μ1 (fun ds μ2 => S (o :: ds) μ2 R RE) RE
  | none => False) RE
section
variable {cl : String → Addr} {E : XK} {X : Cx} {CX : CXT} {k : Nat} {f : Addr} {fd : FuncData} {ps : List Str} {S Si : Sc} {x : Str} {p pos apos : Pos} {e o : Expr} {es : List Expr} {fa : WA} {fo : WE}
theorem sp_ok {n : Nat} {ds : List D} {vs : List V} {μ : MH} {H : Hp} {R : Post} {RE : EPost} {Q : VK} (c : CplH cl μ H) (r : RepL cl μ H ds vs) (l : ds.length = n) (s : S ds μ R RE) (P : PostOk cl μ H R Q) (x : ExcOk cl μ H RE E) : spOf cl n S vs H Q E :=
  ⟨by rw [← r.length]; exact l, ds, μ, R, RE, c, r, s, P, x⟩
theorem pd_call (F : FnOk X.prog X.w X.K X.mg X.base CX k f fd ps (spOf cl (es.length + 1) S)) (hr : Room k X.A) (hg : Gl X x) (hm : X.mg x = some (.ref f)) (hk : PySem.W.keepIn X.K (.ref f) = true) (hb : Binds X.K fd ps []) (hx : Passes CX X E)
    (ha : PAD cl E X (e :: es) fa) (hdb : (x == ("__debug__" : Str)) = false := by decide) (he : starEach (e :: es) X.env = (false, eval e X.env) :: starEach es X.env := by rfl) (hpl : (backTo pos (starEach es X.env)).any (·.1) = false := by rfl) :
    PD cl E X (.Call (.Name x p) (e :: es) [] pos) (wCall S fa) := by
  refine pe_imp (pe_call (dvs := []) F hr hg hm hk hb .nil hx ha hdb he hpl) fun σ H Q ⟨δ, μ, R, RE, ok, f, P, x⟩ => ?_
  refine taOf_run ok f x fun ds μ1 vs H1 l1 f1 c1 e1 r1 => ?_
  show spOf cl _ S (vs ++ []) H1 Q E
  rw [List.append_nil]
  exact sp_ok c1 r1 l1 f1 (P.ext e1) (x.ext e1)
/-- a new instance: S what is wanted of the whole, Si of its __init__ -/
theorem pd_make {c : String} (M : Mk X.K (cl c) f) (F : FnOk X.prog X.w X.K X.mg X.base CX k f fd ps (spOf cl (es.length + 2) Si)) (hr : Room (k + 1) X.A) (hg : Gl X x) (hm : X.mg x = some (.ref (cl c))) (hb : Binds X.K fd ps []) (hx : Passes CX X E)
    (hS : ∀ ds μ R RE, S ds μ R RE → ∀ a, μ a = none → Si (.ref a :: ds) (mup μ a (.ins c [])) (fun d μ2 => d = .non ∧ ∃ fs, μ2 a = some (.ins c fs) ∧ R (.obj a c fs) (mdel μ2 a)) RE)
    (ha : PAD cl E X (e :: es) fa) (hdb : (x == ("__debug__" : Str)) = false := by decide) (he : starEach (e :: es) X.env = (false, eval e X.env) :: starEach es X.env := by rfl) (hpl : (backTo pos (starEach es X.env)).any (·.1) = false := by rfl) :
    PD cl E X (.Call (.Name x p) (e :: es) [] pos) (wCall S fa) := by
  refine pe_imp (pe_make (dvs := []) M F hr hg hm hb .nil hx ha hdb he hpl) fun σ H Q ⟨δ, μ, R, RE, ok, f, P, x⟩ => ?_
  refine taOf_run ok f x fun ds μ1 vs H1 l1 f1 c1 e1 r1 => fun a dx ha hdx ne => ?_
  have hna : μ1 a = none := c1.fresh ha
  have hnd : μ1 dx = none := c1.fresh hdx
  have e2 : Ext μ1 H1 μ1 (upd H1 dx (.own a)) := Ext.new hdx
  have ha2 : upd H1 dx (.own a) a = none := by rw [upd_ne (Ne.symm ne)]; exact ha
  have e3 : Ext μ1 (upd H1 dx (.own a)) (mup μ1 a (.ins c [])) (upd (upd H1 dx (.own a)) a (.ins (cl c) dx [])) := Ext.newM ha2
  have c3 : CplH cl (mup μ1 a (.ins c [])) (upd (upd H1 dx (.own a)) a (.ins (cl c) dx [])) := (c1.new hdx).newM ha2 ⟨dx, [], upd_same, .nil⟩
  have e13 := e2.trans e3
  show spOf cl _ Si (V.ref a :: (vs ++ [])) _ _ E
  rw [List.append_nil]
  refine sp_ok (ds := .ref a :: ds) c3 (.cons (Rep.leaf rfl) (RepL.ext r1 e13)) (by rw [List.length_cons, l1]; rfl) (hS ds μ1 R RE f1 a hna) ?_ ((x.ext e1).ext e13)
  rintro d μ4 v H4 ⟨rfl, fs, hm4, r4⟩ c4 e4 p4
  refine ⟨Rep.non_iff.mp p4, ?_⟩
  have l4 : MLe (mdel μ4 a) μ4 := MLe.del
  obtain ⟨dx', vs', h5, r5⟩ := c4 a _ hm4
  exact P _ _ _ _ r4 (c4.less l4) (((e1.trans e13).trans e4).trans (Ext.less l4)) (Rep.obj_iff.mpr ⟨rfl, mdel_same, dx', vs', h5, r5.ext (Ext.less l4)⟩)
/-- .. that goes on changing -/
theorem pd_makeL {c : String} (M : Mk X.K (cl c) f) (F : FnOk X.prog X.w X.K X.mg X.base CX k f fd ps (spOf cl (es.length + 2) Si)) (hr : Room (k + 1) X.A) (hg : Gl X x) (hm : X.mg x = some (.ref (cl c))) (hb : Binds X.K fd ps []) (hx : Passes CX X E)
    (hS : ∀ ds μ R RE, S ds μ R RE → ∀ a, μ a = none → Si (.ref a :: ds) (mup μ a (.ins c [])) (fun d μ2 => d = .non ∧ R (.ref a) μ2) RE)
    (ha : PAD cl E X (e :: es) fa) (hdb : (x == ("__debug__" : Str)) = false := by decide) (he : starEach (e :: es) X.env = (false, eval e X.env) :: starEach es X.env := by rfl) (hpl : (backTo pos (starEach es X.env)).any (·.1) = false := by rfl) :
    PD cl E X (.Call (.Name x p) (e :: es) [] pos) (wCall S fa) := by
  refine pe_imp (pe_make (dvs := []) M F hr hg hm hb .nil hx ha hdb he hpl) fun σ H Q ⟨δ, μ, R, RE, ok, f, P, x⟩ => ?_
  refine taOf_run ok f x fun ds μ1 vs H1 l1 f1 c1 e1 r1 => fun a dx ha hdx ne => ?_
  have hna : μ1 a = none := c1.fresh ha
  have e2 : Ext μ1 H1 μ1 (upd H1 dx (.own a)) := Ext.new hdx
  have ha2 : upd H1 dx (.own a) a = none := by rw [upd_ne (Ne.symm ne)]; exact ha
  have e3 : Ext μ1 (upd H1 dx (.own a)) (mup μ1 a (.ins c [])) (upd (upd H1 dx (.own a)) a (.ins (cl c) dx [])) := Ext.newM ha2
  have c3 : CplH cl (mup μ1 a (.ins c [])) (upd (upd H1 dx (.own a)) a (.ins (cl c) dx [])) := (c1.new hdx).newM ha2 ⟨dx, [], upd_same, .nil⟩
  have e13 := e2.trans e3
  show spOf cl _ Si (V.ref a :: (vs ++ [])) _ _ E
  rw [List.append_nil]
  refine sp_ok (ds := .ref a :: ds) c3 (.cons (Rep.leaf rfl) (RepL.ext r1 e13)) (by rw [List.length_cons, l1]; rfl) (hS ds μ1 R RE f1 a hna) ?_ ((x.ext e1).ext e13)
  rintro d μ4 v H4 ⟨rfl, r4⟩ c4 e4 p4
  exact ⟨Rep.non_iff.mp p4, P _ _ _ _ r4 c4 ((e1.trans e13).trans e4) (Rep.leaf rfl)⟩
theorem lookF_none {μ : MH} {H : Hp} {m : String} (hm : m ∉ flds) (hinj : ∀ g ∈ flds, sk g ≠ sk m) : ∀ {fs : List (String × D)} {vs : List (Str × V)}, RepF cl μ H fs vs → vs.lookup (sk m) = none
  | [], _, .nil => rfl
  | (g, x) :: fs, (k, y) :: vs, .cons r t => by
    obtain ⟨⟨rk, rg⟩, r⟩ := r
    have rk : k = sk g := rk
    subst rk
    have ne : (sk m == sk g) = false := beq_eq_false_iff_ne.mpr fun q => hinj g rg q.symm
    simpa [List.lookup, ne] using lookF_none hm hinj t
theorem pd_meth {c m : String} {n : Str} {pl : Sem Bool} (ho : PD cl E X o fo) (cc : Cls X.K (cl c)) (hm : Meth X.K (cl c) n f) (F : FnOk X.prog X.w X.K X.mg X.base CX k f fd ps (spOf cl (es.length + 2) S)) (hr : Room k X.A) (hb : Binds X.K fd ps []) (hx : Passes CX X E) (ha : PAD cl E X (e :: es) fa)
    (hn : n = sk m := by rfl) (hmf : (m ∉ flds ∧ ∀ g ∈ flds, sk g ≠ sk m) := by decide +kernel)
    (hst : starEach (e :: es) X.env = (false, eval e X.env) :: starEach es X.env := by rfl) (hpl : (backTo pos (starEach es X.env)).any (·.1) = false := by rfl)
    (ht : eval (.Call (.Attribute o n apos) (e :: es) [] pos) X.env = (do
      let ov ← eval o X.env
      standAt apos.atName
      let (f, first) ← holding [ov] (getMethod ov n pl)
      callWith pos f first (backTo pos (starEach (e :: es) X.env)) (backToKw pos (keywordEach [] X.env))) := by rfl) :
    PD cl E X (.Call (.Attribute o n apos) (e :: es) [] pos) (wMeth c m S fo fa) := by
  subst hn
  refine pe_imp (pe_meth (dvs := []) (pl := pl) ho cc hm F hr hb .nil hx ha hst hpl ht) fun σ H Q ⟨δ, μ, R, RE, ok, f, P, x⟩ => ?_
  refine tOf_run ok f x fun d μ1 v H1 f1 c1 e1 r1 => ?_
  split at f1
  · rename_i c' fs hfl
    obtain ⟨rfl, hl, f1⟩ := f1
    obtain ⟨a, dx, vs, ev, h1, h2⟩ := fldsOf_rep c1 r1 hfl
    subst ev
    refine ⟨a, dx, vs, rfl, h1, lookF_none hmf.1 hmf.2 h2, ?_⟩
    refine taOf_run (ok.ext e1 c1) f1 (x.ext e1) fun ds μ2 us H2 l2 f2 c2 e2 r2 => ?_
    show spOf cl _ S (V.ref a :: (us ++ [])) H2 Q E
    rw [List.append_nil]
    exact sp_ok (ds := d :: ds) c2 (.cons (r1.ext e2) r2) (by rw [List.length_cons, l2]; rfl) f2 (P.ext (e1.trans e2)) (x.ext (e1.trans e2))
  · exact f1.elim
end

/-! ### statements -/
@[simp] def wSkip : WS := fun δ μ K _ => K.nx δ μ
@[simp] def wSeq (s t : WS) : WS := fun δ μ K RE => s δ μ { K with nx := fun δ' μ' => t δ' μ' K RE } RE
@[simp] def wExpr (f : WE) : WS := fun δ μ K RE => f δ μ (fun _ μ' => K.nx δ μ') RE
@[simp] def wRet (f : WE) : WS := fun δ μ K RE => f δ μ K.rt RE
@[simp] def wRetN : WS := fun _ μ K _ => K.rt .non μ
@[simp] def wBrk : WS := fun δ μ K _ => K.bk δ μ
@[simp] def wCnt : WS := fun δ μ K _ => K.ct δ μ
@[simp] def wIf (c : WT) (s t : WS) : WS := fun δ μ K RE => c δ μ (fun b μ' => if b = true then s δ μ' K RE else t δ μ' K RE) RE
/-- targets -/
abbrev GT := D → Env → MH → (Env → MH → Prop) → Prop
abbrev GTs := List D → Env → MH → (Env → MH → Prop) → Prop
@[simp] def vName (i : Nat) : GT := fun d δ μ R => R (δ.set i (some d)) μ
@[simp] def vNil : GTs := fun ds δ μ R => match ds with
  | [] => R δ μ
  | _ => False
@[simp] def vCons (g : GT) (h : GTs) : GTs := fun ds δ μ R => match ds with
  | d :: r => g d δ μ fun δ' μ' => h r δ' μ' R
  | [] => False
@[simp] def vTup (n : Nat) (h : GTs) : GT := fun d δ μ R => match d with
  | .tup ds => ds.length = n ∧ h ds δ μ R
  | _ => False
@[simp] def wAsg (f : WE) (g : GT) : WS := fun δ μ K RE => f δ μ (fun d μ' => g d δ μ' K.nx) RE
@[simp] def wPar (i j : Nat) (fa : WA) : WS := fun δ μ K RE => fa δ μ (fun ds μ' => match ds with
  | [x, y] => K.nx ((δ.set i (some x)).set j (some y)) μ'
  | _ => False) RE
@[simp] def wSetF (cs : List String) (f : String) (fo fv : WE) : WS := fun δ μ K RE => fv δ μ (fun v μ1 => fo δ μ1 (fun o μ2 => match o with
  | .ref a => match μ2 a with
    | some (.ins c fs) => c ∈ cs ∧ fs.length < 900 ∧ K.nx δ (mup μ2 a (.ins c (putD f v fs)))
    | _ => False
  | _ => False) RE) RE

section
variable {cl : String → Addr} {E : XK} {X : Cx} {st : Stmt} {rest body els : List Stmt} {e c o value : Expr} {fe fo fv : WE} {fc : WT} {f1 f2 : WS} {fa : WA} {pos pos' p : Pos}
theorem tsOf_run {σ : St} {H : Hp} {δ : LF.Env} {μ : MH} {RE : EPost} {K : SEnds} {Dn : Ends} {f : WS} (ok : Ok cl δ μ σ H) (h : f δ μ K RE) (x : ExcOk cl μ H RE E) (k : EndsOk cl μ H K Dn) : tsOf cl E f Dn σ H := ⟨δ, μ, K, RE, ok, h, k, x⟩
theorem pssd_nil : PSsD cl E X [] wSkip := pss_imp pss_nil fun Dn σ H ⟨δ, μ, K, RE, ok, f, P, x⟩ => P.nx _ _ _ _ f ok (Ext.refl _ _)
theorem pssd_cons (h1 : PSD cl E X st f1) (h2 : PSsD cl E X rest f2) : PSsD cl E X (st :: rest) (wSeq f1 f2) := by
  refine pss_imp (pss_cons h1 h2) fun Dn σ H ⟨δ, μ, K, RE, ok, f, P, x⟩ => ?_
  refine tsOf_run ok f x ⟨fun δ' μ' σ' H' k o e => tsOf_run o k (x.ext e) (P.ext e), P.rt, P.bk, P.ct⟩
theorem pssd_one (h1 : PSD cl E X st f1) : PSsD cl E X [st] f1 := by
  refine pss_imp (pss_cons h1 pss_nil) fun Dn σ H ⟨δ, μ, K, RE, ok, f, P, x⟩ => ?_
  exact tsOf_run ok f x ⟨P.nx, P.rt, P.bk, P.ct⟩
theorem psd_ex (h : PD cl E X e fe) (hs : swapsWith e none pos.line X.env = pure false := by rfl) : PSD cl E X (.Expr e pos) (wExpr fe) := by
  refine ps_imp (ps_expr h hs) fun Dn σ H ⟨δ, μ, K, RE, ok, f, P, x⟩ => ?_
  exact tOf_run ok f x fun d μ' v H' k c e r => P.nx _ _ _ _ k (ok.ext e c) e
theorem psd_ret (h : PD cl E X e fe) : PSD cl E X (.Return (some e) pos) (wRet fe) := by
  refine ps_imp (ps_ret h) fun Dn σ H ⟨δ, μ, K, RE, ok, f, P, x⟩ => ?_
  exact tOf_run ok f x P.rt
theorem psd_retN : PSD cl E X (.Return none pos) wRetN := by
  refine ps_imp ps_retN fun Dn σ H ⟨δ, μ, K, RE, ok, f, P, x⟩ => ?_
  exact P.rt .non μ _ _ f ok.cpl (Ext.refl _ _) (Rep.leaf rfl)
theorem psd_brk : PSD cl E X (.Break pos) wBrk := ps_imp ps_break fun Dn σ H ⟨δ, μ, K, RE, ok, f, P, x⟩ => P.bk _ _ _ _ f ok (Ext.refl _ _)
theorem psd_cnt : PSD cl E X (.Continue pos) wCnt := ps_imp ps_continue fun Dn σ H ⟨δ, μ, K, RE, ok, f, P, x⟩ => P.ct _ _ _ _ f ok (Ext.refl _ _)
theorem psd_if (hc : PTD cl E X c fc) (h1 : PSsD cl E X body f1) (h2 : PSsD cl E X els f2) : PSD cl E X (.If c body els pos) (wIf fc f1 f2) := by
  refine ps_imp (ps_if hc h1 h2) fun Dn σ H ⟨δ, μ, K, RE, ok, f, P, x⟩ => ?_
  refine ttOf_run ok f x fun b μ' H' k c e => ?_
  cases b with
  | true => rw [if_pos rfl] at k ⊢; exact tsOf_run (ok.ext e c) k (x.ext e) (P.ext e)
  | false => rw [if_neg Bool.false_ne_true] at k ⊢; exact tsOf_run (ok.ext e c) k (x.ext e) (P.ext e)

/-! targets -/
def tgOf (cl : String → Addr) (js : List Nat) (g : GT) : TG := fun v σ H Q => ∃ d δ μ R, Ok cl δ μ σ H ∧ Rep cl μ H d v ∧ g d δ μ R ∧
  ∀ δ' μ' σ' H', (∀ vs : List Nat, (∀ i ∈ js, i ∈ vs) → wipe σ' vs = wipe σ vs) → R δ' μ' → Ok cl δ' μ' σ' H' → Ext μ H μ' H' → Q σ' H'
def tgsOf (cl : String → Addr) (js : List Nat) (g : GTs) : TGs := fun vs σ H Q => ∃ ds δ μ R, Ok cl δ μ σ H ∧ RepL cl μ H ds vs ∧ g ds δ μ R ∧
  ∀ δ' μ' σ' H', (∀ vs : List Nat, (∀ i ∈ js, i ∈ vs) → wipe σ' vs = wipe σ vs) → R δ' μ' → Ok cl δ' μ' σ' H' → Ext μ H μ' H' → Q σ' H'
abbrev PGD (cl : String → Addr) (X : Cx) (tg : Expr) (js : List Nat) (g : GT) : Prop := PG X tg (tgOf cl js g)
abbrev PGsD (cl : String → Addr) (X : Cx) (tg : List Expr) (js : List Nat) (g : GTs) : Prop := PGs X tg (tgsOf cl js g)
theorem pg_imp {tg : Expr} {t t' : TG} (h : PG X tg t) (i : ∀ v σ H Q, t' v σ H Q → t v σ H Q) : PG X tg t' := ⟨fun pins s σ H v u Q I r q => h.run pins s σ H v u Q I r (i v σ H Q q)⟩
theorem pgs_imp {tg : List Expr} {t t' : TGs} (h : PGs X tg t) (i : ∀ v σ H Q, t' v σ H Q → t v σ H Q) : PGs X tg t' := ⟨fun pins s σ H v u Q I r q => h.run pins s σ H v u Q I r (i v σ H Q q)⟩
theorem Ok.set {δ : LF.Env} {μ : MH} {σ : St} {H : Hp} {d : D} {v : V} (ok : Ok cl δ μ σ H) (i : Nat) (r : Rep cl μ H d v) : Ok cl (δ.set i (some d)) μ (σ.set i (some v)) H := ⟨ok.cpl, pset (x := some v) (y := some d) r i ok.slt⟩
theorem wipe_set {σ : St} {i : Nat} {x : Option V} : ∀ {vs : List Nat}, i ∈ vs → wipe (σ.set i x) vs = wipe σ vs
  | v :: vs, h => by
    by_cases hv : i ∈ vs
    · unfold wipe; rw [wipe_set hv]
    · have e : i = v := by simpa [hv] using h
      subst e
      have : ∀ (vs : List Nat) (σ : St), (wipe (σ.set i x) vs).set i none = (wipe σ vs).set i none := by
        intro vs
        induction vs with
        | nil => intro σ; unfold wipe; rw [List.set_set]
        | cons w ws ih =>
          intro σ
          unfold wipe
          by_cases hw : w = i
          · subst hw; rw [List.set_set, List.set_set]; exact ih σ
          · rw [List.set_comm _ _ hw, ih σ, List.set_comm _ _ (Ne.symm hw)]
      unfold wipe
      exact this vs σ
theorem pgd_name {i : Nat} {x : Str} (hN : X.N.Nodup) (hi : X.N[i]? = some x := by rfl) (hx : Loc X.env.scope x := by first | exact Or.inl rfl | exact Or.inr rfl) (hf : X.fn x = true ∨ X.env.scope.names.lookup x = some .local := by first | exact .inl rfl | exact .inr rfl | assumption) : PGD cl X (.Name x pos) [i] (vName i) := by
  refine pg_imp (pg_name hN hi hx hf) fun v σ H Q ⟨d, δ, μ, R, ok, r, g, P⟩ => ?_
  exact P _ _ _ _ (fun vs h => wipe_set (h i (by simp))) g (ok.set i r) (Ext.refl _ _)
theorem pgsd_nil : PGsD cl X [] [] vNil := by
  refine pgs_imp pgs_nil fun vs σ H Q ⟨ds, δ, μ, R, ok, r, g, P⟩ => ?_
  cases r with
  | nil => exact ⟨rfl, P _ _ _ _ (fun vs h => rfl) g ok (Ext.refl _ _)⟩
  | cons _ _ => exact g.elim
theorem pgsd_cons {t : Expr} {ts : List Expr} {i j : List Nat} {g : GT} {h : GTs} (h1 : PGD cl X t i g) (h2 : PGsD cl X ts j h) (hs : (assignEach (t :: ts) X.env).map (·.2) = assign t X.env :: (assignEach ts X.env).map (·.2) := by rfl) : PGsD cl X (t :: ts) (i ++ j) (vCons g h) := by
  refine pgs_imp (pgs_cons h1 h2 hs) fun vs σ H Q ⟨ds, δ, μ, R, ok, r, g, P⟩ => ?_
  cases r with
  | nil => exact g.elim
  | @cons d v dr vr r1 r2 =>
    refine ⟨v, vr, rfl, d, δ, μ, _, ok, r1, g, fun δ' μ' σ' H' w k o e => ?_⟩
    refine ⟨dr, δ', μ', R, o, RepL.ext r2 e, k, fun δ2 μ2 σ2 H2 w2 k2 o2 e2 => ?_⟩
    exact P _ _ _ _ (fun vs hvs => by rw [w2 vs fun i hi => hvs i (by simp [hi]), w vs fun i hi => hvs i (by simp [hi])]) k2 o2 (e.trans e2)
theorem pgd_tup {es : List Expr} {k n : Nat} {js : List Nat} {h : GTs} (hc : X.calm = true) (hh : PGsD cl X es js h) (hn : (assignEach es X.env).length = n := by rfl) (hst : (assignEach es X.env).findIdx? (·.1) = none := by rfl) : PGD cl X (.Tuple es k pos) js (vTup n h) := by
  refine pg_imp (pg_tup hc hh hn hst) fun v σ H Q ⟨d, δ, μ, R, ok, r, g, P⟩ => ?_
  unfold vTup at g
  split at g
  · rename_i ds
    obtain ⟨a, vs, e, na, h1, r1⟩ := Rep.tup_iff.mp r
    exact ⟨a, vs, e, SqT.of h1, by rw [← r1.length]; exact g.1, ds, δ, μ, R, ok, r1, g.2, P⟩
  · exact g.elim
theorem tAsg_of {js : List Nat} {g : GT} {te : TE} {Dn : Ends} {σ : St} {H : Hp} (hte : ∀ Q, tOf cl E fe σ H Q → te σ H Q) (h : tsOf cl E (wAsg fe g) Dn σ H) : tAsg te (tgOf cl js g) Dn σ H := by
  obtain ⟨δ, μ, K, RE, ok, f, P, x⟩ := h
  refine hte _ (tOf_run ok f x fun d μ' v H' k c e r => ?_)
  exact ⟨d, δ, μ', _, ok.ext e c, r, k, fun δ2 μ2 σ2 H2 _ k2 o2 e2 => P.nx _ _ _ _ k2 o2 (e.trans e2)⟩
theorem psd_asg {tg : Expr} {js : List Nat} {g : GT} (he : PD cl E X e fe) (hg : PGD cl X tg js g) (hs : swapsWithSole [tg] e pos.line X.env = pure false := by rfl) (hw : swappedStores [tg] e X.env = pure none := by rfl)
    (h1 : (assignEach [tg] X.env).map (·.2) = [assign tg X.env] := by rfl) : PSD cl E X (.Assign [tg] e pos) (wAsg fe g) :=
  ps_imp (ps_asg he hg hs hw h1) fun Dn σ H h => tAsg_of (fun _ z => z) h
theorem psd_set {i : Nat} {x : Str} (hN : X.N.Nodup) (he : PD cl E X e fe) (hi : X.N[i]? = some x := by rfl) (hx : Loc X.env.scope x := by first | exact Or.inl rfl | exact Or.inr rfl) (hs : swapsWith e (some (.Name x pos')) pos.line X.env = pure false := by rfl) (hf : X.fn x = true ∨ X.env.scope.names.lookup x = some .local := by first | exact .inl rfl | exact .inr rfl | assumption) :
    PSD cl E X (.Assign [.Name x pos'] e pos) (wAsg fe (vName i)) := by
  refine ps_imp (ps_set hN hi hx he hs hf) fun Dn σ H ⟨δ, μ, K, RE, ok, f, P, x⟩ => ?_
  exact tOf_run ok f x fun d μ' v H' k c e r => P.nx _ _ _ _ k ((ok.ext e c).set i r) e
theorem psd_par {i j : Nat} {x y : Str} {a b : Expr} {px py pt : Pos} {kt k2 pt2} (hc : X.calm = true) (hN : X.N.Nodup) (ha : PAD cl E X [a, b] fa) (hi : X.N[i]? = some x := by rfl) (hj : X.N[j]? = some y := by rfl) (hij : i ≠ j := by decide)
    (hx : X.env.scope.names.lookup x = some .local := by rfl) (hy : X.env.scope.names.lookup y = some .local := by rfl)
    (h : PS X (.Assign [.Tuple [.Name x px, .Name y py] kt pt] (.Tuple [a, b] k2 pt2) pos) (tPar i j (taOf cl E 2 fa))) : PSD cl E X (.Assign [.Tuple [.Name x px, .Name y py] kt pt] (.Tuple [a, b] k2 pt2) pos) (wPar i j fa) := by
  refine ps_imp h fun Dn σ H ⟨δ, μ, K, RE, ok, f, P, x⟩ => ?_
  refine taOf_run ok f x fun ds μ' vs H' l k c e r => ?_
  cases r with
  | nil => exact k.elim
  | @cons d1 v1 dr vr r1 r =>
    cases r with
    | nil => exact k.elim
    | @cons d2 v2 dr vr r2 r =>
      cases r with
      | nil => exact ⟨v1, v2, rfl, P.nx _ _ _ _ k (((ok.ext e c).set i r1).set j r2) e⟩
      | cons _ _ => exact k.elim
theorem putF_len {f : Str} {v : V} {fs : List (Str × V)} : (putF f v fs).length ≤ fs.length + 1 := length_putF f v fs
theorem psd_setF {f : Str} {g : String} {cs : List String} (ho : PD cl E X o fo) (hv : PD cl E X value fv) (hc : ∀ c ∈ cs, FldOk X.K cl c g) (hf : f = sk g := by rfl) (hg : g ∈ flds := by decide) (hs : swapsWith value (some (.Attribute o f pos')) pos.line X.env = pure false := by rfl) :
    PSD cl E X (.Assign [.Attribute o f pos'] value pos) (wSetF cs g fo fv) := by
  subst hf
  refine ps_imp (ps_fld ho hv hs) fun Dn σ H ⟨δ, μ, K, RE, ok, q, P, x⟩ => ?_
  refine tOf_run ok q x fun d μ1 v H1 f1 c1 e1 r1 => ?_
  refine tOf_run (ok.ext e1 c1) f1 (x.ext e1) fun d2 μ2 v2 H2 f2 c2 e2 r2 => ?_
  split at f2
  · rename_i a
    split at f2
    · rename_i c fs hm
      obtain ⟨hcs, hl, f2⟩ := f2
      obtain ⟨dx, vs, h1, h2⟩ := c2 a _ hm
      have e3 : Ext μ2 H2 (mup μ2 a (.ins c (putD g d fs))) (upd H2 a (.ins (cl c) dx (putF (sk g) v vs))) := Ext.write hm
      refine ⟨a, cl c, dx, vs, Rep.ref_iff.mp r2, h1, (hc c hcs).1, (hc c hcs).2, by rw [← h2.length]; omega, ?_⟩
      have c3 : CplH cl (mup μ2 a (.ins c (putD g d fs))) (upd H2 a (.ins (cl c) dx (putF (sk g) v vs))) := c2.write hm ⟨dx, _, upd_same, (repF_put hg (r1.ext e2) h2).ext e3⟩
      exact P.nx _ _ _ _ f2 ((ok.ext (e1.trans e2) c2).ext e3 c3) ((e1.trans e2).trans e3)
    · exact f2.elim
  · exact f2.elim
end
end LF

/-! LF3: what is walked; for, while; list comprehensions; a def's rule. -/
namespace LF
open PySem PySem.Spec L2

/-- what a loop walks: the items; an object that has to stay as it is -/
structure Src where
  ds : List D
  lv : Option (Addr × MO) := none
def Src.stab (s : Src) (μ : MH) : Prop := match s.lv with
  | none => True
  | some (a, m) => μ a = some m
abbrev WI := Env → MH → (Src → MH → Prop) → EPost → Prop
structure SrcOk (cl : String → Addr) (μ₀ : MH) (H₀ : Hp) (src : Src) (J : It) : Prop where
  go : ∀ (μ : MH) (H : Hp) (i : Nat), Ext μ₀ H₀ μ H → CplH cl μ H → src.stab μ → i < src.ds.length → J.go i H
  yld : ∀ (μ : MH) (H : Hp) (i : Nat) (x : V) (H' : Hp), Ext μ₀ H₀ μ H → CplH cl μ H → src.stab μ → i < src.ds.length → J.yld i H x H' → ∃ d, src.ds[i]? = some d ∧ Rep cl μ H' d x ∧ Ext μ H μ H' ∧ CplH cl μ H'
  stop : ∀ (μ : MH) (H : Hp) (i : Nat), Ext μ₀ H₀ μ H → CplH cl μ H → src.stab μ → src.ds.length ≤ i → J.stop i H
def tiOf (cl : String → Addr) (E : XK) (f : WI) : TI := fun σ H RI => ∃ δ μ R RE, Ok cl δ μ σ H ∧ f δ μ R RE ∧ (∀ src μ' H' J, R src μ' → CplH cl μ' H' → Ext μ H μ' H' → SrcOk cl μ' H' src J → RI J H') ∧ ExcOk cl μ H RE E
abbrev PID (cl : String → Addr) (E : XK) (X : Cx) (tg it : Expr) (f : WI) : Prop := PI X tg it (tiOf cl E f)
theorem pi_imp {X : Cx} {tg it : Expr} {t t' : TI} (h : PI X tg it t) (i : ∀ σ H R, t' σ H R → t σ H R) : PI X tg it t' := ⟨fun pins s σ H R I q => h.run pins s σ H R I (i σ H R q)⟩

def wForL (S : MH → Prop) (g : GT) (body : WS) : List D → WS
  | [], δ, μ, K, _ => S μ ∧ K.nx δ μ
  | d :: ds, δ, μ, K, RE => S μ ∧ g d δ μ fun δ1 μ1 => body δ1 μ1 { K with nx := fun δ2 μ2 => wForL S g body ds δ2 μ2 K RE, ct := fun δ2 μ2 => wForL S g body ds δ2 μ2 K RE, bk := K.nx } RE
def wFor (fi : WI) (g : GT) (body : WS) : WS := fun δ μ K RE => fi δ μ (fun src μ1 => wForL src.stab g body src.ds δ μ1 K RE) RE
/-- a while by an invariant with its measure -/
def wWhile (c : WT) (body : WS) : WS := fun δ μ K RE => ∃ I : Nat → LF.Env → MH → Prop, (∃ m, I m δ μ) ∧ ∀ m δ μ, I m δ μ →
  c δ μ (fun b μ1 => if b = true then body δ μ1 { K with nx := fun δ2 μ2 => ∃ m', m' < m ∧ I m' δ2 μ2, ct := fun δ2 μ2 => ∃ m', m' < m ∧ I m' δ2 μ2, bk := K.nx } RE else K.nx δ μ1) RE
def wipeD (δ : LF.Env) : List Nat → LF.Env
  | [] => δ
  | v :: vs => (wipeD δ vs).set v none
def wLcL (S : MH → Prop) (p : Addr) (g : GT) (tt : WT) (te : WE) (δ : LF.Env) : List D → List D → MH → (List D → MH → Prop) → Prop
  | [], acc, μ, R => S μ ∧ μ p = some (.lst acc) ∧ R acc μ
  | d :: ds, acc, μ, R => S μ ∧ g d δ μ fun δ1 μ1 => tt δ1 μ1 (fun b μ2 => if b = true then te δ1 μ2 (fun y μ3 => μ3 p = some (.lst acc) ∧ acc.length < sizeLine ∧ wLcL S p g tt te δ ds (acc ++ [y]) (mup μ3 p (.lst (acc ++ [y]))) R) (fun _ _ => False)
      else wLcL S p g tt te δ ds acc μ2 R) (fun _ _ => False)
/-- a comprehension whose list will not change; one whose list will -/
def wLc (fi : WI) (g : GT) (tt : WT) (te : WE) (vs : List Nat) : WE := fun δ μ R RE => fi δ μ (fun src μ1 => ∀ p, μ1 p = none → wLcL src.stab p g tt te (wipeD δ vs) src.ds [] (mup μ1 p (.lst [])) fun acc μ2 => R (.lst acc) (mdel μ2 p)) RE
def wLcV (fi : WI) (g : GT) (tt : WT) (te : WE) (vs : List Nat) : WE := fun δ μ R RE => fi δ μ (fun src μ1 => ∀ p, μ1 p = none → wLcL src.stab p g tt te (wipeD δ vs) src.ds [] (mup μ1 p (.lst [])) fun acc μ2 => R (.ref p) μ2) RE
@[simp] def wYes : WT := fun _ μ R _ => R true μ

section
variable {cl : String → Addr} {E : XK} {X : Cx} {tg iter elt c : Expr} {body : List Stmt} {ifs : List Expr} {fi : WI} {g : GT} {js : List Nat} {fb : WS} {fc tt : WT} {te : WE} {pos : Pos}
theorem psd_for (hp : PassesOwn (model X.prog X.w) X.A X.env X.xe) (hc : X.calm = true) (hi : PID cl E X tg iter fi) (hg : PGD cl X tg js g) (hb : PSsD cl E X body fb) (hs : ∀ x, foldedSetIterable iter X.env x = pure x := by intro _; rfl) :
    PSD cl E X (.For tg iter body [] pos) (wFor fi g fb) := by
  refine ps_imp (ps_for hp hc hi hg hb hs) fun Dn σ H ⟨δ, μ, K, RE, ok, f, P, x⟩ => ?_
  refine ⟨δ, μ, _, RE, ok, f, fun src μ1 H1 J f1 c1 e1 sk => ?_, x⟩
  refine ⟨fun i m σ' H' => ∃ δ' μ', m = src.ds.length - i ∧ i ≤ src.ds.length ∧ Ok cl δ' μ' σ' H' ∧ Ext μ1 H1 μ' H' ∧ wForL src.stab g fb (src.ds.drop i) δ' μ' K RE, ⟨src.ds.length, δ, μ1, by simp, Nat.zero_le _, ok.ext e1 c1, Ext.refl _ _, by simpa using f1⟩, ?_⟩
  rintro i m σ' H' ⟨δ', μ', rfl, hi, o, e, w⟩
  by_cases hlt : i < src.ds.length
  · right
    have ed : src.ds.drop i = src.ds[i] :: src.ds.drop (i + 1) := List.drop_eq_getElem_cons hlt
    rw [ed] at w
    obtain ⟨S, w⟩ := w
    refine ⟨sk.go μ' H' i e o.cpl S hlt, fun σ2 H2 => ∃ δ2 μ2, Ok cl δ2 μ2 σ2 H2 ∧ Ext μ1 H1 μ2 H2 ∧ wForL src.stab g fb (src.ds.drop (i + 1)) δ2 μ2 K RE, ?_, ?_⟩
    · rintro σ2 H2 ⟨δ2, μ2, o2, e2, w2⟩
      exact ⟨src.ds.length - (i + 1), by omega, δ2, μ2, rfl, hlt, o2, e2, w2⟩
    · intro v H2 y
      obtain ⟨d, hd, r, e2, c2⟩ := sk.yld μ' H' i v H2 e o.cpl S hlt y
      have : d = src.ds[i] := by
        rw [List.getElem?_eq_getElem hlt] at hd
        exact (Option.some.inj hd).symm
      subst this
      refine ⟨_, δ', μ', _, o.ext e2 c2, r, w, fun δ3 μ3 σ3 H3 _ k3 o3 e3 => ?_⟩
      have e13 : Ext μ1 H1 μ3 H3 := (e.trans e2).trans e3
      refine tsOf_run o3 k3 (x.ext (e1.trans e13)) ⟨?_, (P.ext (e1.trans e13)).rt, ?_, ?_⟩
      · exact fun δ4 μ4 σ4 H4 k4 o4 e4 => ⟨δ4, μ4, o4, e13.trans e4, k4⟩
      · exact fun δ4 μ4 σ4 H4 k4 o4 e4 => P.nx _ _ _ _ k4 o4 ((e1.trans e13).trans e4)
      · exact fun δ4 μ4 σ4 H4 k4 o4 e4 => ⟨δ4, μ4, o4, e13.trans e4, k4⟩
  · left
    have hi' : i = src.ds.length := by omega
    subst hi'
    rw [List.drop_length] at w
    exact ⟨sk.stop μ' H' _ e o.cpl w.1 (Nat.le_refl _), P.nx _ _ _ _ w.2 o (e1.trans e)⟩
theorem psd_while (hp : PassesOwn (model X.prog X.w) X.A X.env X.xe) (hc : PTD cl E X c fc) (hb : PSsD cl E X body fb) : PSD cl E X (.While c body [] pos) (wWhile fc fb) := by
  refine ps_imp (ps_while hp hc hb) fun Dn σ H ⟨δ, μ, K, RE, ok, ⟨I, ⟨m0, i0⟩, turn⟩, P, x⟩ => ?_
  refine ⟨fun m σ' H' => ∃ δ' μ', Ok cl δ' μ' σ' H' ∧ Ext μ H μ' H' ∧ I m δ' μ', ⟨m0, δ, μ, ok, Ext.refl _ _, i0⟩, ?_⟩
  rintro m σ' H' ⟨δ', μ', o, e, i⟩
  refine ttOf_run o (turn m δ' μ' i) (x.ext e) fun b μ1 H1 f1 c1 e1 => ?_
  cases b with
  | true =>
    rw [if_pos rfl] at f1 ⊢
    refine ⟨fun σ2 H2 => ∃ m', m' < m ∧ ∃ δ2 μ2, Ok cl δ2 μ2 σ2 H2 ∧ Ext μ H μ2 H2 ∧ I m' δ2 μ2, fun σ2 H2 z => z, ?_⟩
    refine tsOf_run (o.ext e1 c1) f1 (x.ext (e.trans e1)) ⟨?_, (P.ext (e.trans e1)).rt, ?_, ?_⟩
    · rintro δ2 μ2 σ2 H2 ⟨m', hm, i2⟩ o2 e2
      exact ⟨m', hm, δ2, μ2, o2, (e.trans e1).trans e2, i2⟩
    · exact fun δ2 μ2 σ2 H2 k2 o2 e2 => P.nx _ _ _ _ k2 o2 ((e.trans e1).trans e2)
    · rintro δ2 μ2 σ2 H2 ⟨m', hm, i2⟩ o2 e2
      exact ⟨m', hm, δ2, μ2, o2, (e.trans e1).trans e2, i2⟩
  | false =>
    rw [if_neg Bool.false_ne_true] at f1 ⊢
    exact P.nx _ _ _ _ f1 (o.ext e1 c1) (e.trans e1)
/-! comprehensions -/
theorem Ok.wipe {δ : LF.Env} {μ : MH} {σ : St} {H : Hp} (ok : Ok cl δ μ σ H) : ∀ vs : List Nat, Ok cl (wipeD δ vs) μ (L2.wipe σ vs) H
  | [] => ok
  | v :: vs => ⟨ok.cpl, pset (x := (none : Option V)) (y := (none : Option D)) (show SlotO cl μ H none none from True.intro) v (Ok.wipe ok vs).slt⟩
theorem set_wipe {i : Nat} : ∀ {vs : List Nat} {σ : St}, i ∈ vs → (L2.wipe σ vs).set i none = L2.wipe σ vs
  | v :: vs, σ, h => by
    unfold L2.wipe
    by_cases e : i = v
    · subst e; rw [List.set_set]
    · have hv : i ∈ vs := by simpa [e] using h
      rw [List.set_comm _ _ (Ne.symm e), set_wipe hv]
theorem wipe_sub {σ : St} {vs : List Nat} : ∀ {ws : List Nat}, (∀ i ∈ ws, i ∈ vs) → L2.wipe (L2.wipe σ vs) ws = L2.wipe σ vs
  | [], _ => rfl
  | w :: ws, h => by
    show (L2.wipe (L2.wipe σ vs) ws).set w none = L2.wipe σ vs
    rw [show L2.wipe (L2.wipe σ vs) ws = L2.wipe σ vs from wipe_sub fun i hi => h i (by simp [hi])]
    exact set_wipe (h w (by simp))
theorem wipe_idem {σ : St} {vs : List Nat} : L2.wipe (L2.wipe σ vs) vs = L2.wipe σ vs := wipe_sub fun _ h => h
abbrev PTsD (cl : String → Addr) (X : Cx) (ifs : List Expr) (f : WT) : Prop := PTs X ifs (ttOf cl E0 f)
theorem pts_imp {t t' : TT} (h : PTs X ifs t) (i : ∀ σ H Q, t' σ H Q → t σ H Q) : PTs X ifs t' := ⟨fun pins s σ H Q I q => h.run pins s σ H Q I (i σ H Q q)⟩
theorem ptsd_nil : PTsD cl X [] wYes := pts_imp pts_nil fun σ H Q ⟨δ, μ, R, RE, ok, f, P, x⟩ => P _ _ _ f ok.cpl (Ext.refl _ _)
theorem ptsd_one (h : PTD cl E0 X c fc) : PTsD cl X [c] fc := pts_one h
/-- the comprehension's own list is live while it is filled -/
theorem tLc_of {Q : VK} {σ : St} {H : Hp} {vs : List Nat} (hjs : ∀ i ∈ js, i ∈ vs) {δ : LF.Env} {μ : MH} {RE : EPost} {Z : MH → Hp → Addr → List D → MH → Prop} (ok : Ok cl δ μ σ H)
    (f : fi δ μ (fun src μ1 => ∀ p, μ1 p = none → wLcL src.stab p g tt te (wipeD δ vs) src.ds [] (mup μ1 p (.lst [])) fun acc μ2 => Z μ1 H p acc μ2) RE) (x : ExcOk cl μ H RE E)
    (fin : ∀ μ1 p acc μ2 H2, μ1 p = none → Z μ1 H p acc μ2 → μ2 p = some (.lst acc) → CplH cl μ2 H2 → Ext μ H μ2 H2 → Q (.ref p) H2) :
    tLc (tiOf cl E fi) (tgOf cl js g) (ttOf cl E0 tt) (tOf cl E0 te) vs σ H Q := by
  refine ⟨δ, μ, _, RE, ok, f, fun src μ1 H1 J f1 c1 e1 sk => fun p hp => ?_, x⟩
  have f1 := f1 p (c1.fresh hp)
  have np := c1.fresh hp
  have e0 : Ext μ1 H1 (mup μ1 p (.lst [])) (upd H1 p (.lst [])) := Ext.newM hp
  have ok1 : Ok cl (wipeD δ vs) μ1 (wipe σ vs) H1 := (ok.ext e1 c1).wipe vs
  refine ⟨fun i m H' => ∃ acc μ', m = src.ds.length - i ∧ i ≤ src.ds.length ∧ CplH cl μ' H' ∧ Ext μ1 H1 μ' H' ∧ wLcL src.stab p g tt te (wipeD δ vs) (src.ds.drop i) acc μ' (fun acc μ2 => Z μ1 H p acc μ2),
    ⟨src.ds.length, [], mup μ1 p (.lst []), by simp, Nat.zero_le _, c1.newM hp ⟨[], upd_same, .nil⟩, e0, by simpa using f1⟩, ?_⟩
  rintro i m H' ⟨acc, μ', rfl, hi, c, e, w⟩
  by_cases hlt : i < src.ds.length
  · right
    have ed : src.ds.drop i = src.ds[i] :: src.ds.drop (i + 1) := List.drop_eq_getElem_cons hlt
    rw [ed] at w
    obtain ⟨S, w⟩ := w
    refine ⟨sk.go μ' H' i e c S hlt, fun H2 => ∃ acc μ2, CplH cl μ2 H2 ∧ Ext μ1 H1 μ2 H2 ∧ wLcL src.stab p g tt te (wipeD δ vs) (src.ds.drop (i + 1)) acc μ2 (fun acc μ2 => Z μ1 H p acc μ2), ?_, ?_⟩
    · rintro H2 ⟨acc2, μ2, c2, e2, w2⟩
      exact ⟨src.ds.length - (i + 1), by omega, acc2, μ2, rfl, hlt, c2, e2, w2⟩
    · intro v H2 y
      obtain ⟨d, hd, r, e2, c2⟩ := sk.yld μ' H' i v H2 e c S hlt y
      have : d = src.ds[i] := by
        rw [List.getElem?_eq_getElem hlt] at hd
        exact (Option.some.inj hd).symm
      subst this
      have ok2 : Ok cl (wipeD δ vs) μ' (wipe σ vs) H2 := ok1.ext (e.trans e2) c2
      refine ⟨_, _, μ', _, ok2, r, w, fun δ3 μ3 σ3 H3 hw k3 o3 e3 => ⟨?_, ?_⟩⟩
      · exact (hw vs hjs).trans wipe_idem
      have e13 : Ext μ1 H1 μ3 H3 := (e.trans e2).trans e3
      refine ttOf_run o3 k3 ExcOk.none fun b μ4 H4 f4 c4 e4 => ?_
      cases b with
      | true =>
        rw [if_pos rfl] at f4 ⊢
        refine tOf_run (o3.ext e4 c4) f4 ExcOk.none fun y μ5 v5 H5 ⟨hp5, hz, w5⟩ c5 e5 r5 => ?_
        obtain ⟨vs5, h5, ra⟩ := c5 p _ hp5
        refine ⟨vs5, h5, by rw [← ra.length]; exact hz, acc ++ [y], _, c5.write (m := .lst (acc ++ [y])) hp5 ⟨vs5 ++ [v5], upd_same, RepL.ext (papp ra (.cons r5 .nil)) (Ext.write hp5)⟩, ((e13.trans e4).trans e5).trans (Ext.write hp5), w5⟩
      | false =>
        rw [if_neg Bool.false_ne_true] at f4 ⊢
        exact ⟨acc, μ4, c4, e13.trans e4, f4⟩
  · left
    have hi' : i = src.ds.length := by omega
    subst hi'
    rw [List.drop_length] at w
    exact ⟨sk.stop μ' H' _ e c w.1 (Nat.le_refl _), fin μ1 p acc μ' H' np w.2.2 w.2.1 c (e1.trans e)⟩
abbrev BLK (X : Cx) (scope : Scope) (s : Shared) (H : Hp) (C : Addr) (cls : List (Str × Addr)) (fp : List Addr) : Cx := X.blk s H scope (compEnvC scope cls C X.env) fp
theorem tLc_frz {σ : St} {H : Hp} {vs : List Nat} (hjs : ∀ i ∈ js, i ∈ vs) {Q : VK} (h : tOf cl E (wLc fi g tt te vs) σ H Q) : tLc (tiOf cl E fi) (tgOf cl js g) (ttOf cl E0 tt) (tOf cl E0 te) vs σ H Q := by
  obtain ⟨δ, μ, R, RE, ok, f, P, x⟩ := h
  refine tLc_of (Z := fun _ _ p acc μ2 => R (.lst acc) (mdel μ2 p)) hjs ok f x fun μ1 p acc μ2 H2 np z hp c e => ?_
  obtain ⟨vs2, h2, r2⟩ := c p _ hp
  exact P _ _ _ _ z (c.less MLe.del) (e.trans (Ext.less MLe.del)) (Rep.lst_iff.mpr ⟨p, vs2, rfl, mdel_same, h2, RepL.ext r2 (Ext.less MLe.del)⟩)
theorem tLc_live {σ : St} {H : Hp} {vs : List Nat} (hjs : ∀ i ∈ js, i ∈ vs) {Q : VK} (h : tOf cl E (wLcV fi g tt te vs) σ H Q) : tLc (tiOf cl E fi) (tgOf cl js g) (ttOf cl E0 tt) (tOf cl E0 te) vs σ H Q := by
  obtain ⟨δ, μ, R, RE, ok, f, P, x⟩ := h
  refine tLc_of (Z := fun _ _ p acc μ2 => R (.ref p) μ2) hjs ok f x fun μ1 p acc μ2 H2 np z hp c e => ?_
  exact P _ _ _ _ z c e (Rep.leaf rfl)
variable {scope : Scope} {own : List (Str × Nat)} {i : Nat} {y : Str} {py spos : Pos}
theorem pd_lc (hc : X.calm = true) (hN : X.N.Nodup) (hi : PID cl E X tg iter fi) (ok : blkC X.N X.env.scope scope own = true)
    (hg : ∀ s H C cls fp, PGD cl (BLK X scope s H C cls fp) tg js g) (ht : ∀ s H C cls fp, PTsD cl (BLK X scope s H C cls fp) ifs tt) (he : ∀ s H C cls fp, PD cl E0 (BLK X scope s H C cls fp) elt te)
    (hjs : ∀ i ∈ js, i ∈ own.map (·.2) := by decide) (hs : ∀ x, foldedSetIterable iter X.env x = pure x := by intro _; rfl) : PD cl E X (.ListComp elt [⟨tg, iter, ifs, 0⟩] scope pos) (wLc fi g tt te (own.map (·.2))) :=
  pe_imp (pe_lc hc hN hi (blkOk_by ok) hg ht he hs) fun σ H Q h => tLc_frz hjs h
theorem pd_lcV (hc : X.calm = true) (hN : X.N.Nodup) (hi : PID cl E X tg iter fi) (ok : blkC X.N X.env.scope scope own = true)
    (hg : ∀ s H C cls fp, PGD cl (BLK X scope s H C cls fp) tg js g) (ht : ∀ s H C cls fp, PTsD cl (BLK X scope s H C cls fp) ifs tt) (he : ∀ s H C cls fp, PD cl E0 (BLK X scope s H C cls fp) elt te)
    (hjs : ∀ i ∈ js, i ∈ own.map (·.2) := by decide) (hs : ∀ x, foldedSetIterable iter X.env x = pure x := by intro _; rfl) : PD cl E X (.ListComp elt [⟨tg, iter, ifs, 0⟩] scope pos) (wLcV fi g tt te (own.map (·.2))) :=
  pe_imp (pe_lc hc hN hi (blkOk_by ok) hg ht he hs) fun σ H Q h => tLc_live hjs h
theorem tAsgN_of {fe : WE} {te' : TE} {Dn : Ends} {σ : St} {H : Hp} (hte : ∀ Q, tOf cl E fe σ H Q → te' σ H Q) (h : tsOf cl E (wAsg fe (vName i)) Dn σ H) : tAsg te' (gName i) Dn σ H := by
  obtain ⟨δ, μ, K, RE, ok, f, P, x⟩ := h
  exact hte _ (tOf_run ok f x fun d μ' v H' k c e r => P.nx _ _ _ _ k ((ok.ext e c).set i r) e)
theorem psd_setLc (hc : X.calm = true) (hN : X.N.Nodup) (hi : PID cl E X tg iter fi) (ok : blkC X.N X.env.scope scope own = true)
    (hg : ∀ s H C cls fp, PGD cl (BLK X scope s H C cls fp) tg js g) (ht : ∀ s H C cls fp, PTsD cl (BLK X scope s H C cls fp) ifs tt) (he : ∀ s H C cls fp, PD cl E0 (BLK X scope s H C cls fp) elt te)
    (hsw : swapsWith (.ListComp elt [⟨tg, iter, ifs, 0⟩] scope pos) (some (.Name y py)) spos.line X.env = pure true)
    (hy : X.N[i]? = some y := by rfl) (hyl : X.env.scope.names.lookup y = some .local := by rfl)
    (hjs : ∀ i ∈ js, i ∈ own.map (·.2) := by decide) (hs : ∀ x, foldedSetIterable iter X.env x = pure x := by intro _; rfl) : PSD cl E X (.Assign [.Name y py] (.ListComp elt [⟨tg, iter, ifs, 0⟩] scope pos) spos) (wAsg (wLc fi g tt te (own.map (·.2))) (vName i)) :=
  ps_imp (ps_setLc hc hN hy hyl hsw hi (blkOk_by ok) hg ht he hs) fun Dn σ H h => tAsgN_of (fun Q z => tLc_frz hjs z) h
theorem psd_setLcV (hc : X.calm = true) (hN : X.N.Nodup) (hi : PID cl E X tg iter fi) (ok : blkC X.N X.env.scope scope own = true)
    (hg : ∀ s H C cls fp, PGD cl (BLK X scope s H C cls fp) tg js g) (ht : ∀ s H C cls fp, PTsD cl (BLK X scope s H C cls fp) ifs tt) (he : ∀ s H C cls fp, PD cl E0 (BLK X scope s H C cls fp) elt te)
    (hsw : swapsWith (.ListComp elt [⟨tg, iter, ifs, 0⟩] scope pos) (some (.Name y py)) spos.line X.env = pure true)
    (hy : X.N[i]? = some y := by rfl) (hyl : X.env.scope.names.lookup y = some .local := by rfl)
    (hjs : ∀ i ∈ js, i ∈ own.map (·.2) := by decide) (hs : ∀ x, foldedSetIterable iter X.env x = pure x := by intro _; rfl) : PSD cl E X (.Assign [.Name y py] (.ListComp elt [⟨tg, iter, ifs, 0⟩] scope pos) spos) (wAsg (wLcV fi g tt te (own.map (·.2))) (vName i)) :=
  ps_imp (ps_setLc hc hN hy hyl hsw hi (blkOk_by ok) hg ht he hs) fun Dn σ H h => tAsgN_of (fun Q z => tLc_live hjs z) h
end

/-! ### a def -/
/-- at a def's end: objects are forgotten, or stay as they are for good -/
def Fz (μ μ' : MH) (d d' : D) : Prop := MLe μ' μ ∧ ∀ (cl : String → Addr) (H : Hp) (v : V), CplH cl μ H → Rep cl μ H d v → Rep cl μ' H d' v
def Ret (R : Post) : Post := fun d μ => ∃ μ' d', Fz μ μ' d d' ∧ R d' μ'
theorem Fz.less {μ μ' : MH} {d : D} (h : MLe μ' μ) : Fz μ μ' d d := ⟨h, fun _ _ _ _ r => r.ext (Ext.less h)⟩
theorem Fz.lst {μ μ' : MH} {a : Addr} {ds : List D} (h : MLe μ' μ) (m : μ a = some (.lst ds)) (n : μ' a = none) : Fz μ μ' (.ref a) (.lst ds) := ⟨h, fun cl H v c r => by
  obtain ⟨vs, h1, h2⟩ := c a _ m
  exact Rep.lst_iff.mpr ⟨a, vs, Rep.ref_iff.mp r, n, h1, RepL.ext h2 (Ext.less h)⟩⟩
theorem Fz.dK {μ μ' : MH} {a : Addr} {ds : List (Key × D)} (h : MLe μ' μ) (m : μ a = some (.dK ds)) (n : μ' a = none) : Fz μ μ' (.ref a) (.dK ds) := ⟨h, fun cl H v c r => by
  obtain ⟨vs, h1, h2⟩ := c a _ m
  exact Rep.dK_iff.mpr ⟨a, vs, Rep.ref_iff.mp r, n, .inl h1, RepK.ext h2 (Ext.less h)⟩⟩
theorem Fz.dT {μ μ' : MH} {a : Addr} {ds : List (List Key × D)} (h : MLe μ' μ) (m : μ a = some (.dT ds)) (n : μ' a = none) : Fz μ μ' (.ref a) (.dT ds) := ⟨h, fun cl H v c r => by
  obtain ⟨vs, h1, h2⟩ := c a _ m
  exact Rep.dT_iff.mpr ⟨a, vs, Rep.ref_iff.mp r, n, .inl h1, RepK.ext h2 (Ext.less h)⟩⟩
theorem Ret.now {R : Post} {d : D} {μ : MH} (h : R d μ) : Ret R d μ := ⟨μ, d, Fz.less (MLe.refl _), h⟩
theorem Ret.less {R : Post} {d : D} {μ μ' : MH} (l : MLe μ' μ) (h : R d μ') : Ret R d μ := ⟨μ', d, Fz.less l, h⟩
def RetX (RE : EPost) : EPost := fun ex μ => ∃ μ', MLe μ' μ ∧ RE ex μ'
@[simp] def startD (n : Nat) (ds : List D) : LF.Env := ds.map some ++ List.replicate (n - ds.length) none
@[simp] def EndsF (R : Post) : SEnds := { nx := fun _ μ => Ret R .non μ, rt := Ret R }
section
variable {P : Program} {w : World} {K : PySem.W.Frag} {mg : Str → Option Value} {base : Heap} {cl : String → Addr}
theorem cx_passes {N : List Str} {qual : Str} {scope : Scope} {f : Addr} {cd : Value} {A : Around} {outer : List PySem.Env} {s : Shared} {H : Hp} {E : XK} : Passes (L2.CX P w) (cxOf (L2.CX P w) P w K mg base N qual scope f cd A outer s H E) E :=
  passes_call (takes_of rfl rfl rfl rfl) fun _ _ _ _ h => h
theorem cx_own {N : List Str} {qual : Str} {scope : Scope} {f : Addr} {cd : Value} {A : Around} {outer : List PySem.Env} {s : Shared} {H : Hp} {E : XK} :
    PassesOwn (model P w) (cxOf (L2.CX P w) P w K mg base N qual scope f cd A outer s H E).A (cxOf (L2.CX P w) P w K mg base N qual scope f cd A outer s H E).env (cxOf (L2.CX P w) P w K mg base N qual scope f cd A outer s H E).xe := passes_of (X := cxOf (L2.CX P w) P w K mg base N qual scope f cd A outer s H E) rfl
theorem slot_some {μ : MH} {H : Hp} : ∀ {ds : List D} {vs : List V}, RepL cl μ H ds vs → Paired (SlotO cl μ H) (vs.map some) (ds.map some)
  | _, _, .nil => .nil
  | _, _, .cons r t => .cons r (slot_some t)
theorem slot_none {μ : MH} {H : Hp} : ∀ n : Nat, Paired (SlotO cl μ H) (List.replicate n none) (List.replicate n none)
  | 0 => .nil
  | n + 1 => .cons True.intro (slot_none n)
/-- THE RULE: the body's denotation by its derivation (hb), the promise by the denotation (hS) -/
theorem fd_ok {x qual : Str} {st : Stmt} {f : Addr} {fd : FuncData} {N ps : List Str} {k : Nat} {S : Sc} {fb : WS} (F : Fun K x qual st f fd) (Sc : FnScope N ps (defScope st))
    (hb : ∀ (cdv : Value) (A : Around) (outer : List PySem.Env) (s : Shared) (H : Hp) (E : XK), Room k (A.deeper (PyProof.Rows.envOfC qual (defScope st) s.heap.objs.size f cdv)) → PSsD cl E (cxOf (L2.CX P w) P w K mg base N qual (defScope st) f cdv A outer s H E) (defBody st) fb)
    (hS : ∀ ds μ R RE, ds.length = ps.length → S ds μ R RE → fb (startD N.length ds) μ (EndsF R) (RetX RE)) : FnOk P w K mg base (L2.CX P w) (k + 1) f fd ps (spOf cl ps.length S) := by
  refine F.okX Sc (fun vs H Q E h => h.1) (fun cdv A outer s H vs Q E hr h => ?_)
  obtain ⟨hl, ds, μ, R, RE, c, r, q, PO, x⟩ := h
  refine ⟨_, hb cdv A outer s H E hr, startD N.length ds, μ, EndsF R, RetX RE, ⟨c, ?_⟩, hS ds μ R RE (by rw [r.length]; exact hl) q, ⟨?_, ?_, ?_, ?_⟩, ?_⟩
  · have e : ds.length = vs.length := r.length
    show Paired _ (vs.map some ++ List.replicate (N.length - vs.length) none) (ds.map some ++ List.replicate (N.length - ds.length) none)
    rw [e]
    exact papp (slot_some r) (slot_none _)
  · rintro δ' μ' σ' H' ⟨μ2, d', ⟨l, z⟩, k⟩ o e
    exact PO _ _ _ _ k (o.cpl.less l) (e.trans (Ext.less l)) (z cl H' _ o.cpl (Rep.leaf rfl))
  · rintro d μ' v H' ⟨μ2, d', ⟨l, z⟩, k⟩ c' e p
    exact PO _ _ _ _ k (c'.less l) (e.trans (Ext.less l)) (z cl H' _ c' p)
  · exact fun _ _ _ _ k => k.elim
  · exact fun _ _ _ _ k => k.elim
  · rintro ex μ' c' dd H' ⟨μ2, l, k⟩ cp e rx
    refine x ex μ2 c' dd H' k (cp.less l) (e.trans (Ext.less l)) ⟨rx.1, rx.2.imp id fun ⟨d, vs, h1, hn, h2, h3⟩ => ⟨d, vs, h1, l.none hn, h2, RepF.ext h3 (Ext.less l)⟩⟩
end
end LF

/-! LF4: operators and built-ins over data. -/
namespace LF
open PySem PySem.Spec L2

def lstOf (μ : MH) : D → Option (List D)
  | .lst ds => some ds
  | .ref a => match μ a with
    | some (.lst ds) => some ds
    | _ => none
  | _ => none
def seqOf (μ : MH) : D → Option (List D)
  | .tup ds => some ds
  | .lst ds => some ds
  | .ref a => match μ a with
    | some (.lst ds) => some ds
    | _ => none
  | _ => none
mutual
/-- plain data -/
def py : D → Option PyData
  | .non => some .none
  | .bl b => some (.bool b)
  | .int i => some (.int i)
  | .str x => some (.str x)
  | .tup ds => (pyAll ds).map .tuple
  | .lst ds => (pyAll ds).map .list
  | .ty _ => none
  | .ref _ => none
  | .dK _ => none
  | .dT _ => none
  | .obj _ _ _ => none
  | .scr _ _ _ => none
def pyAll : List D → Option (List PyData)
  | [] => some []
  | d :: ds => match py d, pyAll ds with
    | some x, some xs => some (x :: xs)
    | _, _ => none
end
def pyM (μ : MH) : D → Option PyData
  | .ref a => match μ a with
    | some (.lst ds) => (pyAll ds).map .list
    | _ => none
  | d => py d
/-- the built-in type's name, or the own class's -/
def tyN (μ : MH) : D → Option (String ⊕ String)
  | .non => some (.inl "NoneType")
  | .bl _ => some (.inl "bool")
  | .int _ => some (.inl "int")
  | .str _ => some (.inl "str")
  | .tup _ => some (.inl "tuple")
  | .lst _ => some (.inl "list")
  | .dK _ => none
  | .dT _ => none
  | .obj _ c _ => some (.inr c)
  | .ref a => match μ a with
    | some (.lst _) => some (.inl "list")
    | some (.dK _) => some (.inl "dict")
    | some (.dT _) => some (.inl "dict")
    | some (.ins c _) => some (.inr c)
    | _ => none
  | .ty _ => none
  | .scr _ _ _ => none

section
variable {cl : String → Addr} {μ : MH} {H : Hp} {K : PySem.W.Frag}
theorem lstOf_rep {d : D} {v : V} {ds : List D} (cp : CplH cl μ H) (r : Rep cl μ H d v) (h : lstOf μ d = some ds) : ∃ a vs, v = .ref a ∧ H a = some (.lst vs) ∧ RepL cl μ H ds vs := by
  unfold lstOf at h
  split at h
  · cases h
    obtain ⟨a, vs, e, _, h1, h2⟩ := Rep.lst_iff.mp r
    exact ⟨a, vs, e, h1, h2⟩
  · split at h
    · rename_i hm
      cases h
      obtain ⟨vs, h1, h2⟩ := cp _ _ hm
      exact ⟨_, vs, Rep.ref_iff.mp r, h1, h2⟩
    · cases h
  · cases h
theorem seqOf_rep {d : D} {v : V} {ds : List D} (cp : CplH cl μ H) (r : Rep cl μ H d v) (h : seqOf μ d = some ds) : ∃ a vs, v = .ref a ∧ (H a = some (.lst vs) ∨ H a = some (.tup vs)) ∧ RepL cl μ H ds vs := by
  unfold seqOf at h
  split at h
  · cases h
    obtain ⟨a, vs, e, _, h1, h2⟩ := Rep.tup_iff.mp r
    exact ⟨a, vs, e, .inr h1, h2⟩
  · cases h
    obtain ⟨a, vs, e, _, h1, h2⟩ := Rep.lst_iff.mp r
    exact ⟨a, vs, e, .inl h1, h2⟩
  · split at h
    · rename_i hm
      cases h
      obtain ⟨vs, h1, h2⟩ := cp _ _ hm
      exact ⟨_, vs, Rep.ref_iff.mp r, .inl h1, h2⟩
    · cases h
  · cases h
theorem py_dp : ∀ (n : Nat) (d : D) (v : V) (p : PyData), RepN cl μ H n d v → py d = some p → Dp K H v p
  | 0, d, v, p, h, e => by
    cases d <;> simp only [py] at e <;> first | (cases e; simp only [RepN, leaf] at h; subst h; constructor) | (exact False.elim h) | cases e
  | n + 1, d, v, p, h, e => by
    have all : ∀ (ds : List D) (vs : List V) (ps : List PyData), Paired (RepN cl μ H n) ds vs → pyAll ds = some ps → DpAll K H vs ps := by
      intro ds
      induction ds with
      | nil => intro vs ps r e; cases r; simp only [pyAll] at e; cases e; exact .nil
      | cons d ds ih =>
        intro vs ps r e
        cases r with
        | cons r t =>
          simp only [pyAll] at e
          split at e
          · rename_i x xs e1 e2
            cases e
            exact .cons (py_dp n d _ x r e1) (ih _ _ t e2)
          · cases e
    cases d with
    | tup ds =>
      simp only [py] at e
      cases q : pyAll ds with
      | none => rw [q] at e; cases e
      | some ps =>
        rw [q] at e
        cases e
        obtain ⟨a, vs, rfl, _, h1, h2⟩ := h
        exact .tup (SqT.of h1) (all _ _ _ h2 q)
    | lst ds =>
      simp only [py] at e
      cases q : pyAll ds with
      | none => rw [q] at e; cases e
      | some ps =>
        rw [q] at e
        cases e
        obtain ⟨a, vs, rfl, _, h1, h2⟩ := h
        exact .lst (SqL.of h1) (all _ _ _ h2 q)
    | non => simp only [py] at e; cases e; rw [show v = .non from h]; exact .non
    | bl b => simp only [py] at e; cases e; rw [show v = .bl b from h]; exact .bl b
    | int b => simp only [py] at e; cases e; rw [show v = .int b from h]; exact .int b
    | str b => simp only [py] at e; cases e; rw [show v = .str b from h]; exact .str b
    | ty _ => simp only [py] at e; cases e
    | ref _ => simp only [py] at e; cases e
    | dK _ => simp only [py] at e; cases e
    | dT _ => simp only [py] at e; cases e
    | obj _ _ _ => simp only [py] at e; cases e
    | scr _ _ _ => simp only [py] at e; cases e
theorem py_dpAll {ds : List D} {vs : List V} {ps : List PyData} (r : RepL cl μ H ds vs) (e : pyAll ds = some ps) : DpAll K H vs ps := by
  induction r generalizing ps with
  | nil => simp only [pyAll] at e; cases e; exact .nil
  | cons r t ih =>
    simp only [pyAll] at e
    split at e
    · rename_i x xs e1 e2
      cases e
      obtain ⟨n, r⟩ := r
      exact .cons (py_dp n _ _ x r e1) (ih e2)
    · cases e
theorem pyM_dp {d : D} {v : V} {p : PyData} (cp : CplH cl μ H) (r : Rep cl μ H d v) (e : pyM μ d = some p) : Dp K H v p := by
  unfold pyM at e
  split at e
  · split at e
    · rename_i ds hm
      cases q : pyAll ds with
      | none => rw [q] at e; cases e
      | some ps =>
        rw [q] at e
        cases e
        obtain ⟨vs, h1, h2⟩ := cp _ _ hm
        rw [Rep.ref_iff.mp r]
        exact .lst (SqL.of h1) (py_dpAll h2 q)
    · cases e
  · obtain ⟨n, r⟩ := r
    exact py_dp n _ _ p r e
end

/-! ### int operators -/
@[simp] def gI (f : Int → Int → Int) : G2 := fun x y μ R => match x, y with
  | .int i, .int j => R (.int (f i j)) μ
  | _, _ => False
@[simp] def gIc (C : Int → Int → Prop) (f : Int → Int → Int) : G2 := fun x y μ R => match x, y with
  | .int i, .int j => C i j ∧ R (.int (f i j)) μ
  | _, _ => False
@[simp] def gCmp (f : Int → Int → Bool) : G2 := fun x y μ R => match x, y with
  | .int i, .int j => R (.bl (f i j)) μ
  | _, _ => False
@[simp] def gNeg : G1 := fun x μ R => match x with
  | .int i => R (.int (-i)) μ
  | _ => False
abbrev gSub : G2 := gI fun i j => i - j
abbrev gMod : G2 := gIc (fun _ j => 0 < j) fun i j => i % j
abbrev gFdiv : G2 := gIc (fun _ j => 0 < j ∧ j < 1073741824) fun i j => i / j
abbrev gPow : G2 := gIc (fun i j => 0 ≤ j ∧ j ≤ 1000000 ∧ i.natAbs < 2 ^ 64) fun i j => i ^ j.toNat
abbrev gLe : G2 := gCmp fun i j => decide (i ≤ j)
abbrev gGt : G2 := gCmp fun i j => decide (j < i)
abbrev gGe : G2 := gCmp fun i j => decide (j ≤ i)
def CM (i j : Int) : Prop := (-(2 ^ 64) < i ∧ i < 2 ^ 64) ∨ (-(2 ^ 64) < j ∧ j < 2 ^ 64)
/-- +: ints, texts, tuples, lists (a new list that will not change) -/
@[simp] def gAdd : G2 := fun x y μ R => match x, y with
  | .int i, .int j => R (.int (i + j)) μ
  | .str a, .str b => a.length + b.length ≤ sizeLine ∧ R (.str (a ++ b)) μ
  | .tup xs, .tup ys => xs.length + ys.length ≤ sizeLine ∧ R (.tup (xs ++ ys)) μ
  | x, y => match lstOf μ x, lstOf μ y with
    | some xs, some ys => xs.length + ys.length ≤ sizeLine ∧ R (.lst (xs ++ ys)) μ
    | _, _ => False
/-- a new list that will change -/
@[simp] def gAddL : G2 := fun x y μ R => match lstOf μ x, lstOf μ y with
    | some xs, some ys => xs.length + ys.length ≤ sizeLine ∧ ∀ p, μ p = none → R (.ref p) (mup μ p (.lst (xs ++ ys)))
    | _, _ => False
def repD (n : Nat) (xs : List D) : List D := (List.replicate n xs).flatten
/-- *: ints; a tuple's, a list's -/
@[simp] def gMul : G2 := fun x y μ R => match x, y with
  | .int i, .int j => CM i j ∧ R (.int (i * j)) μ
  | x, .int j => match lstOf μ x with
    | some xs => -(2 ^ 63) ≤ j ∧ j < 2 ^ 63 ∧ xs.length * j.toNat ≤ sizeLine ∧ R (.lst (repD j.toNat xs)) μ
    | none => False
  | _, _ => False
def gMulL : G2 := fun x y μ R => match y with
  | .int j => match lstOf μ x with
    | some xs => -(2 ^ 63) ≤ j ∧ j < 2 ^ 63 ∧ xs.length * j.toNat ≤ sizeLine ∧ ∀ p, μ p = none → R (.ref p) (mup μ p (.lst (repD j.toNat xs)))
    | none => False
  | _ => False
def gEq : G2 := fun x y μ R => match pyM μ x, pyM μ y with
  | some d, some e => SeqAt.shaped d = true ∧ SeqAt.shaped e = true ∧ R (.bl (PyData.eqv d e)) μ
  | _, _ => False
def gNe : G2 := fun x y μ R => match pyM μ x, pyM μ y with
  | some d, some e => SeqAt.shaped d = true ∧ SeqAt.shaped e = true ∧ R (.bl (!PyData.eqv d e)) μ
  | _, _ => False
def isNon : D → Bool
  | .non => true
  | _ => false
@[simp] def gIsN : G2 := fun x y μ R => y = .non ∧ R (.bl (isNon x)) μ
@[simp] def gNotN : G2 := fun x y μ R => y = .non ∧ R (.bl (!isNon x)) μ
def gIn (neg : Bool) : G2 := fun x y μ R => match pyM μ x, (seqOf μ y).bind pyAll with
  | some d, some es => SeqAt.shaped d = true ∧ SeqAt.shaped (.list es) = true ∧ R (.bl (if neg then !(es.any fun z => PyData.eqv z d) else es.any fun z => PyData.eqv z d)) μ
  | _, _ => False

section
variable {cl : String → Addr} {X : Cx}
theorem opI_of {op : Value → Value → Sem Value} {C : Int → Int → Prop} {f : Int → Int → Int} (h : OpR X op (rI C fun i j => .int (f i j))) : OpD cl X op (gIc C f) := by
  rintro pins s σ H x y v u Q I rx ry ⟨dx, dy, μ, R, c, r1, r2, g, P⟩
  cases dx <;> cases dy <;> first | exact g.elim | skip
  exact h pins s σ H x y v u Q I rx ry ⟨_, _, Rep.int_iff.mp r1, Rep.int_iff.mp r2, g.1, P.fin c g.2 (Rep.leaf rfl)⟩
theorem opI0_of {op : Value → Value → Sem Value} {f : Int → Int → Int} (h : OpR X op (rI0 fun i j => .int (f i j))) : OpD cl X op (gI f) := by
  rintro pins s σ H x y v u Q I rx ry ⟨dx, dy, μ, R, c, r1, r2, g, P⟩
  cases dx <;> cases dy <;> first | exact g.elim | skip
  exact h pins s σ H x y v u Q I rx ry ⟨_, _, Rep.int_iff.mp r1, Rep.int_iff.mp r2, P.fin c g (Rep.leaf rfl)⟩
theorem opB0_of {op : Value → Value → Sem Value} {f : Int → Int → Bool} (h : OpR X op (rI0 fun i j => .bl (f i j))) : OpD cl X op (gCmp f) := by
  rintro pins s σ H x y v u Q I rx ry ⟨dx, dy, μ, R, c, r1, r2, g, P⟩
  cases dx <;> cases dy <;> first | exact g.elim | skip
  exact h pins s σ H x y v u Q I rx ry ⟨_, _, Rep.int_iff.mp r1, Rep.int_iff.mp r2, P.fin c g (Rep.leaf rfl)⟩
theorem od_sub : OpD cl X (binaryOp .Sub) gSub := opI0_of op_sub
theorem od_mod : OpD cl X (binaryOp .Mod) gMod := opI_of op_mod
theorem od_fdiv : OpD cl X (binaryOp .FloorDiv) gFdiv := opI_of op_fdiv
theorem od_pow : OpD cl X (binaryOp .Pow) gPow := opI_of op_pow
theorem od_leI : OpD cl X (compareOp .LtE) gLe := opB0_of op_le
theorem od_gtI : OpD cl X (compareOp .Gt) gGt := opB0_of op_gt
theorem od_geI : OpD cl X (compareOp .GtE) gGe := opB0_of op_ge
theorem od_neg : UnD cl X (unaryOp .USub) gNeg := by
  rintro pins s σ H x v Q I rx ⟨dx, μ, R, c, r1, g, P⟩
  cases dx <;> first | exact g.elim | skip
  exact un_neg pins s σ H x v Q I rx ⟨_, Rep.int_iff.mp r1, P.fin c g (Rep.leaf rfl)⟩
theorem addL_core {pins : List (Addr × Obj)} {s : Shared} {σ : St} {H : Hp} {x y : V} {v u : Value} {Q : VK} {dx dy : D} {μ : MH} {xs ys : List D} (I : Inv X pins σ H s) (rx : RelV x v) (ry : RelV y u) (c : CplH cl μ H) (r1 : Rep cl μ H dx x) (r2 : Rep cl μ H dy y)
    (h1 : lstOf μ dx = some xs) (h2 : lstOf μ dy = some ys) (hz : xs.length + ys.length ≤ sizeLine) (q : ∀ p vs, H p = none → RepL cl μ H (xs ++ ys) vs → Q (.ref p) (upd H p (.lst vs))) : wpAny (model X.prog X.w) X.A (binaryOp .Add v u) (EP X pins σ Q) X.xe s := by
  obtain ⟨a, vs, e1, k1, p1⟩ := lstOf_rep c r1 h1
  obtain ⟨b, ws, e2, k2, p2⟩ := lstOf_rep c r2 h2
  exact op_cat pins s σ H x y v u Q I rx ry ⟨a, b, vs, ws, e1, e2, k1, k2, by rw [← p1.length, ← p2.length]; exact hz, fun p hp => q p _ hp (papp p1 p2)⟩
theorem od_add : OpD cl X (binaryOp .Add) gAdd := by
  rintro pins s σ H x y v u Q I rx ry ⟨dx, dy, μ, R, c, r1, r2, g, P⟩
  unfold gAdd at g
  split at g
  · exact op_add pins s σ H x y v u Q I rx ry ⟨_, _, Rep.int_iff.mp r1, Rep.int_iff.mp r2, P.fin c g (Rep.leaf rfl)⟩
  · exact op_add_str pins s σ H x y v u Q I rx ry ⟨_, _, Rep.str_iff.mp r1, Rep.str_iff.mp r2, g.1, P.fin c g.2 (Rep.leaf rfl)⟩
  · rename_i xs ys
    obtain ⟨a, vs, e1, n1, h1, p1⟩ := Rep.tup_iff.mp r1
    obtain ⟨b, ws, e2, n2, h2, p2⟩ := Rep.tup_iff.mp r2
    refine op_catA pins s σ H x y v u Q I rx ry ⟨a, b, vs, ws, e1, e2, SqT.of h1, SqT.of h2, by rw [← p1.length, ← p2.length]; exact g.1, ?_, ?_, ?_⟩
    · rintro rfl
      cases p1
      rw [← e2]
      exact P.fin c g.2 r2
    · rintro _ rfl
      cases p2
      rw [← e1]
      refine P.fin c (d := .tup (xs ++ [])) g.2 ?_
      rw [List.append_nil]; exact r1
    · intro _ _ p hp
      exact P.newp c hp g.2 (Rep.tup_iff.mpr ⟨p, _, rfl, c.fresh hp, upd_same, RepL.ext (papp p1 p2) (Ext.new hp)⟩)
  · split at g
    · rename_i xs ys h1 h2
      refine addL_core I rx ry c r1 r2 h1 h2 g.1 fun p vs hp rp => ?_
      exact P.newp c hp g.2 (Rep.lst_iff.mpr ⟨p, _, rfl, c.fresh hp, upd_same, RepL.ext rp (Ext.new hp)⟩)
    · exact g.elim
theorem od_addL : OpD cl X (binaryOp .Add) gAddL := by
  rintro pins s σ H x y v u Q I rx ry ⟨dx, dy, μ, R, c, r1, r2, g, P⟩
  unfold gAddL at g
  split at g
  · rename_i xs ys h1 h2
    refine addL_core I rx ry c r1 r2 h1 h2 g.1 fun p vs hp rp => ?_
    exact P _ _ _ _ (g.2 p (c.fresh hp)) (c.newM hp ⟨vs, upd_same, RepL.ext rp (Ext.newM hp)⟩) (Ext.newM hp) (Rep.leaf rfl)
  · exact g.elim
theorem rep_repD {μ : MH} {H : Hp} {xs : List D} {vs : List V} (r : RepL cl μ H xs vs) : ∀ n : Nat, RepL cl μ H (repD n xs) (List.replicate n vs).flatten
  | 0 => .nil
  | n + 1 => by
    unfold repD
    rw [List.replicate_succ, List.replicate_succ, List.flatten_cons, List.flatten_cons]
    exact papp r (rep_repD r n)
theorem od_mul : OpD cl X (binaryOp .Mult) gMul := by
  rintro pins s σ H x y v u Q I rx ry ⟨dx, dy, μ, R, c, r1, r2, g, P⟩
  unfold gMul at g
  split at g
  · exact op_mul pins s σ H x y v u Q I rx ry ⟨_, _, Rep.int_iff.mp r1, Rep.int_iff.mp r2, g.1, P.fin c g.2 (Rep.leaf rfl)⟩
  · split at g
    · rename_i xs h1
      obtain ⟨a, vs, e1, k1, p1⟩ := lstOf_rep c r1 h1
      refine op_rep pins s σ H x y v u Q I rx ry ⟨a, _, vs, e1, Rep.int_iff.mp r2, k1, g.1, g.2.1, by rw [← p1.length]; exact g.2.2.1, fun p hp => ?_⟩
      exact P.newp c hp g.2.2.2 (Rep.lst_iff.mpr ⟨p, _, rfl, c.fresh hp, upd_same, RepL.ext (rep_repD p1 _) (Ext.new hp)⟩)
    · exact g.elim
  · exact g.elim
theorem od_mulL : OpD cl X (binaryOp .Mult) gMulL := by
  rintro pins s σ H x y v u Q I rx ry ⟨dx, dy, μ, R, c, r1, r2, g, P⟩
  unfold gMulL at g
  split at g
  · split at g
    · rename_i xs h1
      obtain ⟨a, vs, e1, k1, p1⟩ := lstOf_rep c r1 h1
      refine op_rep pins s σ H x y v u Q I rx ry ⟨a, _, vs, e1, Rep.int_iff.mp r2, k1, g.1, g.2.1, by rw [← p1.length]; exact g.2.2.1, fun p hp => ?_⟩
      exact P _ _ _ _ (g.2.2.2 p (c.fresh hp)) (c.newM hp ⟨_, upd_same, RepL.ext (rep_repD p1 _) (Ext.newM hp)⟩) (Ext.newM hp) (Rep.leaf rfl)
    · exact g.elim
  · exact g.elim
theorem od_eq (hu : X.A.units + 64 < cLine) : OpD cl X (compareOp .Eq) gEq := by
  rintro pins s σ H x y v u Q I rx ry ⟨dx, dy, μ, R, c, r1, r2, g, P⟩
  unfold gEq at g
  split at g
  · rename_i d e h1 h2
    exact op_eqD hu pins s σ H x y v u Q I rx ry ⟨d, e, pyM_dp c r1 h1, pyM_dp c r2 h2, g.1, g.2.1, P.fin c g.2.2 (Rep.leaf rfl)⟩
  · exact g.elim
theorem od_ne (hu : X.A.units + 64 < cLine) : OpD cl X (compareOp .NotEq) gNe := by
  rintro pins s σ H x y v u Q I rx ry ⟨dx, dy, μ, R, c, r1, r2, g, P⟩
  unfold gNe at g
  split at g
  · rename_i d e h1 h2
    exact op_neD hu pins s σ H x y v u Q I rx ry ⟨d, e, pyM_dp c r1 h1, pyM_dp c r2 h2, g.1, g.2.1, P.fin c g.2.2 (Rep.leaf rfl)⟩
  · exact g.elim
theorem isNon_dec {μ : MH} {H : Hp} {d : D} {v : V} (r : Rep cl μ H d v) : decide (v = .non) = isNon d := by
  cases d <;> first
    | (rw [Rep.non_iff.mp r]; rfl) | (rw [Rep.bl_iff.mp r]; rfl) | (rw [Rep.int_iff.mp r]; rfl) | (rw [Rep.str_iff.mp r]; rfl) | (rw [Rep.ty_iff.mp r]; rfl) | (rw [Rep.ref_iff.mp r]; rfl)
    | (obtain ⟨a, vs, e, _⟩ := Rep.tup_iff.mp r; rw [e]; rfl) | (obtain ⟨a, vs, e, _⟩ := Rep.lst_iff.mp r; rw [e]; rfl) | (obtain ⟨a, vs, e, _⟩ := Rep.dK_iff.mp r; rw [e]; rfl)
    | (obtain ⟨a, vs, e, _⟩ := Rep.dT_iff.mp r; rw [e]; rfl) | (obtain ⟨e, _⟩ := Rep.obj_iff.mp r; rw [e]; rfl) | (obtain ⟨e, _⟩ := Rep.scr_iff.mp r; rw [e]; rfl)
theorem od_isN : OpD cl X (compareOp .Is) gIsN := by
  rintro pins s σ H x y v u Q I rx ry ⟨dx, dy, μ, R, c, r1, r2, ⟨rfl, g⟩, P⟩
  exact op_isN pins s σ H x y v u Q I rx ry ⟨Rep.non_iff.mp r2, by rw [isNon_dec r1]; exact P.fin c g (Rep.leaf rfl)⟩
theorem od_notN : OpD cl X (compareOp .IsNot) gNotN := by
  rintro pins s σ H x y v u Q I rx ry ⟨dx, dy, μ, R, c, r1, r2, ⟨rfl, g⟩, P⟩
  exact op_notN pins s σ H x y v u Q I rx ry ⟨Rep.non_iff.mp r2, by rw [isNon_dec r1]; exact P.fin c g (Rep.leaf rfl)⟩
end
end LF

/-! LF5: tests by truth, is, isinstance, subscripts, slices, built-ins, list methods, stores, what is walked. -/
namespace LF
open PySem PySem.Spec L2

/-! ### dicts by value -/
def dkOf (μ : MH) : D → Option (List (Key × D))
  | .dK kvs => some kvs
  | .ref a => match μ a with
    | some (.dK kvs) => some kvs
    | _ => none
  | _ => none
def dtOf (μ : MH) : D → Option (List (List Key × D))
  | .dT kvs => some kvs
  | .ref a => match μ a with
    | some (.dT kvs) => some kvs
    | _ => none
  | _ => none
def keyD : D → Option Key
  | .int i => some (.inl i)
  | .str x => some (.inr x)
  | _ => none
def keysD : List D → Option (List Key)
  | [] => some []
  | d :: ds => match keyD d, keysD ds with
    | some k, some ks => some (k :: ks)
    | _, _ => none
def keyT : D → Option (List Key)
  | .tup ds => keysD ds
  | _ => none
def valD {κ : Type} [DecidableEq κ] (kvs : List (κ × D)) (k : κ) : Option D := (kvs.find? fun kv => decide (kv.1 = k)).map (·.2)
def putKD {κ : Type} [DecidableEq κ] (kvs : List (κ × D)) (k : κ) (v : D) : List (κ × D) :=
  if (kvs.any fun kv => decide (kv.1 = k)) = true then kvs.map (fun kv => if kv.1 = k then (kv.1, v) else kv) else kvs ++ [(k, v)]
section
variable {cl : String → Addr} {μ : MH} {H : Hp}
theorem dkOf_rep {d : D} {v : V} {ds : List (Key × D)} (cp : CplH cl μ H) (r : Rep cl μ H d v) (h : dkOf μ d = some ds) : ∃ a vs, v = .ref a ∧ Rd H a (.dK vs) ∧ RepK cl μ H ds vs := by
  unfold dkOf at h
  split at h
  · cases h
    obtain ⟨a, vs, e, _, h1, h2⟩ := Rep.dK_iff.mp r
    exact ⟨a, vs, e, h1, h2⟩
  · split at h
    · rename_i hm
      cases h
      obtain ⟨vs, h1, h2⟩ := cp _ _ hm
      exact ⟨_, vs, Rep.ref_iff.mp r, .inl h1, h2⟩
    · cases h
  · cases h
theorem dtOf_rep {d : D} {v : V} {ds : List (List Key × D)} (cp : CplH cl μ H) (r : Rep cl μ H d v) (h : dtOf μ d = some ds) : ∃ a vs, v = .ref a ∧ Rd H a (.dT vs) ∧ RepK cl μ H ds vs := by
  unfold dtOf at h
  split at h
  · cases h
    obtain ⟨a, vs, e, _, h1, h2⟩ := Rep.dT_iff.mp r
    exact ⟨a, vs, e, h1, h2⟩
  · split at h
    · rename_i hm
      cases h
      obtain ⟨vs, h1, h2⟩ := cp _ _ hm
      exact ⟨_, vs, Rep.ref_iff.mp r, .inl h1, h2⟩
    · cases h
  · cases h
theorem keyD_rep {d : D} {v : V} {k : Key} (r : Rep cl μ H d v) (h : keyD d = some k) : v = kV k := by
  unfold keyD at h
  split at h
  · cases h; exact Rep.int_iff.mp r
  · cases h; exact Rep.str_iff.mp r
  · cases h
theorem keysD_rep : ∀ {ds : List D} {vs : List V} {ks : List Key}, RepL cl μ H ds vs → keysD ds = some ks → vs = ks.map kV
  | [], _, _, .nil, h => by simp only [keysD] at h; cases h; rfl
  | d :: ds, _, _, .cons r t, h => by
    simp only [keysD] at h
    split at h
    · rename_i k ks h1 h2
      cases h
      rw [keyD_rep r h1, keysD_rep t h2]; rfl
    · cases h
theorem keyT_rep {d : D} {v : V} {ks : List Key} (r : Rep cl μ H d v) (h : keyT d = some ks) : ∃ b, v = .ref b ∧ H b = some (.tup (ks.map kV)) := by
  unfold keyT at h
  split at h
  · obtain ⟨a, vs, e, _, h1, h2⟩ := Rep.tup_iff.mp r
    exact ⟨a, e, by rw [← keysD_rep h2 h]; exact h1⟩
  · cases h
theorem valD_rep {κ : Type} [DecidableEq κ] {k : κ} : ∀ {kvs : List (κ × D)} {vs : List (κ × V)}, RepK cl μ H kvs vs → match valD kvs k, valV vs k with
    | some d, some v => Rep cl μ H d v
    | none, none => True
    | _, _ => False
  | [], _, .nil => True.intro
  | (g, x) :: r, (g', y) :: s, .cons q t => by
    have e : g = g' := q.1
    subst e
    unfold valD valV
    by_cases h : g = k
    · subst h
      simpa using q.2
    · have ih := valD_rep (k := k) t
      unfold valD valV at ih
      simpa [h] using ih
theorem valD_some {κ : Type} [DecidableEq κ] {k : κ} {kvs : List (κ × D)} {vs : List (κ × V)} {d : D} (r : RepK cl μ H kvs vs) (h : valD kvs k = some d) : ∃ v, valV vs k = some v ∧ Rep cl μ H d v := by
  have q := valD_rep (k := k) r
  rw [h] at q
  cases e : valV vs k with
  | none => rw [e] at q; exact q.elim
  | some v => rw [e] at q; exact ⟨v, rfl, q⟩
theorem valD_isSome {κ : Type} [DecidableEq κ] {k : κ} {kvs : List (κ × D)} {vs : List (κ × V)} (r : RepK cl μ H kvs vs) : (valV vs k).isSome = (valD kvs k).isSome := by
  have q := valD_rep (k := k) r
  cases e : valD kvs k <;> cases e' : valV vs k <;> rw [e, e'] at q <;> first | rfl | exact q.elim
end

/-! ### truth -/
def truM (μ : MH) (d : D) : Option Bool := match d with
  | .non => some false
  | .bl b => some b
  | .int i => some (i != 0)
  | .str x => some ((x.length : Int) != 0)
  | d => match seqOf μ d with
    | some ds => some (!ds.isEmpty)
    | none => match d with
      | .ref a => match μ a with
        | some (.dK kvs) => some (!kvs.isEmpty)
        | _ => none
      | _ => none
def strOk : D → Prop
  | .str x => x.length ≤ sizeLine
  | _ => True
@[simp] def wTru (f : WE) : WT := fun δ μ R RE => f δ μ (fun d μ1 => strOk d ∧ match truM μ1 d with
  | some b => R b μ1
  | none => False) RE
theorem isEmpty_rep {α β : Type} {F : α → β → Prop} {xs : List α} {ys : List β} (r : Paired F xs ys) : ys.isEmpty = xs.isEmpty := by cases r <;> rfl
section
variable {cl : String → Addr} {E : XK} {X : Cx} {e a b : Expr} {es : List Expr} {fe fa fb fo : WE} {fs : WA} {pos : Pos}
theorem tru_rep {μ : MH} {H : Hp} {K : PySem.W.Frag} {d : D} {v : V} {k : Bool} (cp : CplH cl μ H) (r : Rep cl μ H d v) (hs : strOk d) (h : truM μ d = some k) : TruV K v H k := by
  have seq : ∀ ds, seqOf μ d = some ds → k = !ds.isEmpty → TruV K v H k := fun ds hq hk => by
    obtain ⟨p, vs, rfl, h1, h2⟩ := seqOf_rep cp r hq
    rcases h1 with h1 | h1
    · exact .inl ⟨vs, SqL.of h1, by rw [isEmpty_rep h2]; exact hk⟩
    · exact .inr (.inl ⟨vs, SqT.of h1, by rw [isEmpty_rep h2]; exact hk⟩)
  cases d with
  | non => cases h; rw [Rep.non_iff.mp r]; rfl
  | bl b => cases h; rw [Rep.bl_iff.mp r]; rfl
  | int b => cases h; rw [Rep.int_iff.mp r]; rfl
  | str b => cases h; rw [Rep.str_iff.mp r]; exact ⟨hs, rfl⟩
  | tup ds => exact seq ds rfl (by simpa [truM, seqOf] using h.symm)
  | lst ds => exact seq ds rfl (by simpa [truM, seqOf] using h.symm)
  | ref p =>
    cases q : seqOf μ (.ref p) with
    | some ds => exact seq ds q (by simpa [truM, q] using h.symm)
    | none =>
      have h : (match μ p with
        | some (.dK kvs) => some (!kvs.isEmpty)
        | _ => none) = some k := by simpa [truM, q] using h
      split at h
      · rename_i kvs hm
        cases h
        obtain ⟨vs, h1, h2⟩ := cp _ _ hm
        rw [Rep.ref_iff.mp r]
        exact .inr (.inr ⟨vs, h1, by rw [isEmpty_rep h2]⟩)
      · cases h
  | ty _ => cases h
  | dK _ => cases h
  | dT _ => cases h
  | obj _ _ _ => cases h
  | scr _ _ _ => cases h
theorem ptd_tru (ha : PD cl E X e fe) (he : ∀ whole, isTrue e X.env whole = (do let v ← whole; standAt e.pos; holding [v] (truthy v)) := by intro _; rfl) : PTD cl E X e (wTru fe) := by
  refine pt_imp (pt_truth ha he) fun σ H Q ⟨δ, μ, R, RE, ok, f, P, x⟩ => ?_
  refine tOf_run ok f x fun d μ1 v H1 ⟨hs, f1⟩ c1 e1 r1 => ?_
  split at f1
  · rename_i b hb
    exact ⟨b, tru_rep c1 r1 hs hb, P _ _ _ f1 c1 e1⟩
  · exact f1.elim

/-! ### is True, is False -/
def isBl (d : D) (b : Bool) : Bool := match d with
  | .bl c => c == b
  | _ => false
@[simp] def gIsB (neg : Bool) : G2 := fun x y μ R => match y with
  | .bl b => R (.bl (if neg then !isBl x b else isBl x b)) μ
  | _ => False
theorem is_b {M : Model} {A : Around} {Q : Value → Shared → Prop} {Ex : Value → Shared → Prop} {s : Shared} {v : Value} {x : V} {b : Bool} (r : RelV x v) (h : Q (.bool (decide (x = .bl b))) s) : wpAny M A (compareOp .Is v (.bool b)) Q Ex s := by
  cases x with
  | bl c => cases r; exact PyProof.Rows.is_bool (by rw [← dec_bl]; exact h)
  | non => cases r; exact wpAny_pure h
  | int _ => obtain ⟨t, rfl⟩ := r; exact wpAny_pure h
  | str _ => obtain ⟨t, rfl⟩ := r; exact wpAny_pure h
  | byt _ => obtain ⟨t, rfl⟩ := r; exact wpAny_pure h
  | flt _ => obtain ⟨t, rfl⟩ := r; exact wpAny_pure h
  | ref _ => cases r; exact wpAny_pure h
  | ty _ => cases r; exact wpAny_pure h
theorem isn_b {M : Model} {A : Around} {Q : Value → Shared → Prop} {Ex : Value → Shared → Prop} {s : Shared} {v : Value} {x : V} {b : Bool} (r : RelV x v) (h : Q (.bool (!decide (x = .bl b))) s) : wpAny M A (compareOp .IsNot v (.bool b)) Q Ex s := by
  cases x with
  | bl c => cases r; exact PyProof.Rows.isnot_bool (by rw [bne, ← dec_bl]; exact h)
  | non => cases r; exact wpAny_pure h
  | int _ => obtain ⟨t, rfl⟩ := r; exact wpAny_pure h
  | str _ => obtain ⟨t, rfl⟩ := r; exact wpAny_pure h
  | byt _ => obtain ⟨t, rfl⟩ := r; exact wpAny_pure h
  | flt _ => obtain ⟨t, rfl⟩ := r; exact wpAny_pure h
  | ref _ => cases r; exact wpAny_pure h
  | ty _ => cases r; exact wpAny_pure h
theorem isBl_dec {μ : MH} {H : Hp} {d : D} {v : V} {b : Bool} (r : Rep cl μ H d v) : decide (v = .bl b) = isBl d b := by
  cases d <;> first
    | (rw [Rep.non_iff.mp r]; rfl) | (rw [Rep.bl_iff.mp r]; rw [dec_bl]; rfl) | (rw [Rep.int_iff.mp r]; rfl) | (rw [Rep.str_iff.mp r]; rfl) | (rw [Rep.ty_iff.mp r]; rfl) | (rw [Rep.ref_iff.mp r]; rfl)
    | (obtain ⟨a, vs, e, _⟩ := Rep.tup_iff.mp r; rw [e]; rfl) | (obtain ⟨a, vs, e, _⟩ := Rep.lst_iff.mp r; rw [e]; rfl) | (obtain ⟨a, vs, e, _⟩ := Rep.dK_iff.mp r; rw [e]; rfl)
    | (obtain ⟨a, vs, e, _⟩ := Rep.dT_iff.mp r; rw [e]; rfl) | (obtain ⟨e, _⟩ := Rep.obj_iff.mp r; rw [e]; rfl) | (obtain ⟨e, _⟩ := Rep.scr_iff.mp r; rw [e]; rfl)
theorem od_isB : OpD cl X (compareOp .Is) (gIsB false) := by
  rintro pins s σ H x y v u Q I rx ry ⟨dx, dy, μ, R, c, r1, r2, g, P⟩
  unfold gIsB at g
  split at g
  · have e := Rep.bl_iff.mp r2
    subst e
    cases ry
    refine is_b rx ?_
    rw [isBl_dec r1]
    exact ⟨.bl _, H, I, rfl, P.fin c g (Rep.leaf rfl)⟩
  · exact g.elim
theorem od_notB : OpD cl X (compareOp .IsNot) (gIsB true) := by
  rintro pins s σ H x y v u Q I rx ry ⟨dx, dy, μ, R, c, r1, r2, g, P⟩
  unfold gIsB at g
  split at g
  · have e := Rep.bl_iff.mp r2
    subst e
    cases ry
    refine isn_b rx ?_
    rw [isBl_dec r1]
    exact ⟨.bl _, H, I, rfl, P.fin c g (Rep.leaf rfl)⟩
  · exact g.elim

/-! ### in -/
/-- in: a text in a text; in a list or tuple of plain data; among a dict's keys -/
def gInA (neg : Bool) : G2 := fun x y μ R => match dkOf μ y with
  | some kvs => match keyD x with
    | some k => R (.bl (if neg then !(valD kvs k).isSome else (valD kvs k).isSome)) μ
    | none => False
  | none => match dtOf μ y with
    | some kvs => match keyT x with
      | some k => R (.bl (if neg then !(valD kvs k).isSome else (valD kvs k).isSome)) μ
      | none => False
    | none => match y with
      | .str z => match x with
        | .str w => R (.bl (if neg then !(!(Builtin.Str.occurrences z w 0 z.length 1).isEmpty) else !(Builtin.Str.occurrences z w 0 z.length 1).isEmpty)) μ
        | _ => False
      | y => match pyM μ x, (seqOf μ y).bind pyAll with
        | some d, some es => SeqAt.shaped d = true ∧ SeqAt.shaped (.list es) = true ∧ R (.bl (if neg then !(es.any fun z => PyData.eqv z d) else es.any fun z => PyData.eqv z d)) μ
        | _, _ => False
end
end LF

/-! LF6: in, subscripts, slices, built-ins by name, list methods, stores by place, what is walked. -/
namespace LF
open PySem PySem.Spec L2

theorem d_notIn2 {A : Around} {E : Value → Shared → Prop} {X : Cx} {pins : List (Addr × Obj)} {σ : St} {H : Hp} {s : Shared} {a : Addr} {y : V} {u : Value} {o : Option V} {Q : Value → Shared → Prop} (hu : A.units + 1 < cLine) (I : Inv X pins σ H s) (g : DGet H a y o) (ry : RelV y u) (h : ∀ s', Inv X pins σ H s' → Q (.bool (!o.isSome)) s') :
    wpAny (model X.prog X.w) A (compareOp .NotIn u (.ref a)) Q E s := d_notIn hu I g ry h
section
variable {cl : String → Addr} {E : XK} {X : Cx}
theorem cp_in {neg : Bool} {pins : List (Addr × Obj)} {s : Shared} {σ : St} {H : Hp} {a : Addr} {y : V} {u : Value} {o : Option V} {Q : VK} (hu : X.A.units + 1 < cLine) (I : Inv X pins σ H s) (g : DGet H a y o) (ry : RelV y u) (h : Q (.bl (if neg then !o.isSome else o.isSome)) H) :
    wpAny (model X.prog X.w) X.A (compareOp (if neg then .NotIn else .In) u (.ref a)) (EP X pins σ Q) X.xe s := by
  cases neg with
  | false => exact d_in hu I g ry fun s3 I3 => ⟨.bl o.isSome, H, I3, rfl, h⟩
  | true => exact d_notIn hu I g ry fun s3 I3 => ⟨.bl (!o.isSome), H, I3, rfl, h⟩
theorem cp_seq {neg : Bool} {pins : List (Addr × Obj)} {s : Shared} {σ : St} {H : Hp} {x y : V} {v u : Value} {d : PyData} {es : List PyData} {a : Addr} {vs : List V} {Q : VK} (hu : X.A.units + 65 < cLine) (I : Inv X pins σ H s) (rx : RelV x v) (ry : RelV y u) (hy : y = .ref a)
    (ha : H a = some (.lst vs) ∨ H a = some (.tup vs)) (hx : Dp X.K H x d) (hv : DpAll X.K H vs es) (sd : SeqAt.shaped d = true) (se : SeqAt.shaped (.list es) = true) (q : Q (.bl (if neg then !(es.any fun z => PyData.eqv z d) else es.any fun z => PyData.eqv z d)) H) :
    wpAny (model X.prog X.w) X.A (compareOp (if neg then .NotIn else .In) v u) (EP X pins σ Q) X.xe s := by
  have room : X.A.units + 1 + min (PyData.depthAll es) d.depth < cLine := by
    have h1 := SeqAt.depth_of_shaped sd
    have h2 : min (PyData.depthAll es) d.depth ≤ d.depth := Nat.min_le_right _ _
    omega
  obtain ⟨as, r1⟩ := Dp.reads I d x v hx rx
  subst hy
  rcases ha with ha | ha
  · obtain ⟨bs, r2⟩ := Dp.reads I (.list es) _ u (.lst (SqL.of ha) hv) ry
    cases neg with
    | false => exact SeqAt.in_list_reads r2 r1 (SeqAt.canLay_of_shaped se) (SeqAt.canLay_of_shaped sd) room ⟨.bl _, H, I, rfl, q⟩
    | true => exact SeqAt.notIn_list_reads r2 r1 (SeqAt.canLay_of_shaped se) (SeqAt.canLay_of_shaped sd) room ⟨.bl _, H, I, rfl, q⟩
  · obtain ⟨bs, r2⟩ := Dp.reads I (.tuple es) _ u (.tup (SqT.of ha) hv) ry
    cases neg with
    | false => exact SeqAt.in_tuple_reads r2 r1 (SeqAt.canLay_of_shaped (d := .list es) se) (SeqAt.canLay_of_shaped sd) room ⟨.bl _, H, I, rfl, q⟩
    | true => exact SeqAt.notIn_tuple_reads r2 r1 (SeqAt.canLay_of_shaped (d := .list es) se) (SeqAt.canLay_of_shaped sd) room ⟨.bl _, H, I, rfl, q⟩
theorem od_inA {neg : Bool} (hu : X.A.units + 65 < cLine) : OpD cl X (compareOp (if neg then .NotIn else .In)) (gInA neg) := by
  rintro pins s σ H x y v u Q I rx ry ⟨dx, dy, μ, R, c, r1, r2, g, P⟩
  unfold gInA at g
  split at g
  · rename_i kvs hk
    split at g
    · rename_i k hkx
      obtain ⟨a, vs, e, h1, h2⟩ := dkOf_rep c r2 hk
      subst e
      cases ry
      refine cp_in (o := valV vs k) (by omega) I (.inl ⟨vs, k, h1, keyD_rep r1 hkx, rfl⟩) rx ?_
      rw [valD_isSome h2]
      exact P.fin c g (Rep.leaf rfl)
    · exact g.elim
  · split at g
    · rename_i kvs hk
      split at g
      · rename_i k hkx
        obtain ⟨a, vs, e, h1, h2⟩ := dtOf_rep c r2 hk
        subst e
        cases ry
        obtain ⟨b, e, hb⟩ := keyT_rep r1 hkx
        refine cp_in (o := valV vs k) (by omega) I (.inr ⟨vs, k, b, h1, e, hb, rfl⟩) rx ?_
        rw [valD_isSome h2]
        exact P.fin c g (Rep.leaf rfl)
      · exact g.elim
    · split at g
      · split at g
        · rename_i z w
          cases neg with
          | false => exact op_in_str pins s σ H x y v u Q I rx ry ⟨_, _, Rep.str_iff.mp r1, Rep.str_iff.mp r2, P.fin c g (Rep.leaf rfl)⟩
          | true => exact op_notin_str pins s σ H x y v u Q I rx ry ⟨_, _, Rep.str_iff.mp r1, Rep.str_iff.mp r2, P.fin c g (Rep.leaf rfl)⟩
        · exact g.elim
      · split at g
        · rename_i d es h1 h2
          cases q : seqOf μ dy with
          | none => rw [q] at h2; cases h2
          | some ds =>
            rw [q] at h2
            obtain ⟨a, vs, e, ha, hr⟩ := seqOf_rep c r2 q
            exact cp_seq hu I rx ry e ha (pyM_dp c r1 h1) (py_dpAll hr h2) g.1 g.2.1 (P.fin c g.2.2 (Rep.leaf rfl))
        · exact g.elim
theorem od_in (hu : X.A.units + 65 < cLine) : OpD cl X (compareOp .In) (gInA false) := od_inA (neg := false) hu
theorem od_notIn (hu : X.A.units + 65 < cLine) : OpD cl X (compareOp .NotIn) (gInA true) := od_inA (neg := true) hu

/-! ### subscripts -/
def gIx : G2 := fun x y μ R => match seqOf μ x with
  | some ds => match y with
    | .int i => match atI ds i with
      | some d => R d μ
      | none => False
    | _ => False
  | none => match dkOf μ x with
    | some kvs => match keyD y with
      | some k => match valD kvs k with
        | some d => R d μ
        | none => False
      | none => False
    | none => match dtOf μ x with
      | some kvs => match keyT y with
        | some k => match valD kvs k with
          | some d => R d μ
          | none => False
        | none => False
      | none => match x, y with
        | .str z, .int i => z.length ≤ sizeLine ∧ match atI z.cps.toList i with
          | some c => R (.str ⟨#[c]⟩) μ
          | none => False
        | _, _ => False
abbrev IxD (cl : String → Addr) (X : Cx) (g : G2) : Prop := IxR X (rOf cl g)
theorem atI_rep {μ : MH} {H : Hp} {ds : List D} {vs : List V} {i : Int} {d : D} (r : RepL cl μ H ds vs) (h : atI ds i = some d) : ∃ v, atI vs i = some v ∧ Rep cl μ H d v := by
  unfold atI at h ⊢
  rw [← r.length]
  cases e : ixN ds.length i with
  | none => rw [e] at h; cases h
  | some j =>
    rw [e] at h
    exact pget r j d h
theorem xd_ix (hu : X.A.units + 1 < cLine) : IxD cl X gIx := by
  rintro value slice pins s σ H x y v u Q I rx ry ⟨dx, dy, μ, R, c, r1, r2, g, P⟩ hs
  unfold gIx at g
  split at g
  · rename_i ds hq
    split at g
    · split at g
      · rename_i d hd
        obtain ⟨a, vs, e, ha, hr⟩ := seqOf_rep c r1 hq
        obtain ⟨w, hw, rw'⟩ := atI_rep hr hd
        rcases ha with ha | ha
        · exact ix_list value slice pins s σ H x y v u Q I rx ry ⟨a, vs, _, w, e, Rep.int_iff.mp r2, SqL.of ha, hw, P.fin c g rw'⟩ hs
        · exact ix_tup value slice pins s σ H x y v u Q I rx ry ⟨a, vs, _, w, e, Rep.int_iff.mp r2, SqT.of ha, hw, P.fin c g rw'⟩ hs
      · exact g.elim
    · exact g.elim
  · split at g
    · rename_i kvs hk
      split at g
      · rename_i k hkx
        split at g
        · rename_i d hd
          obtain ⟨a, vs, e, h1, h2⟩ := dkOf_rep c r1 hk
          obtain ⟨w, hw, rw'⟩ := valD_some h2 hd
          subst e
          cases rx
          have G : DGet H a y (some w) := .inl ⟨vs, k, h1, keyD_rep r2 hkx, hw.symm⟩
          exact PyProof.Rows.tail_any (dict_typeIs I G) PySem.F.slot_dict_getitem.lookup (d_getItem hu I G ry fun w' s3 I3 q => ⟨w, H, I3, q, P.fin c g rw'⟩) hs
        · exact g.elim
      · exact g.elim
    · split at g
      · rename_i kvs hk
        split at g
        · rename_i k hkx
          split at g
          · rename_i d hd
            obtain ⟨a, vs, e, h1, h2⟩ := dtOf_rep c r1 hk
            obtain ⟨w, hw, rw'⟩ := valD_some h2 hd
            subst e
            cases rx
            obtain ⟨b, e, hb⟩ := keyT_rep r2 hkx
            have G : DGet H a y (some w) := .inr ⟨vs, k, b, h1, e, hb, hw.symm⟩
            exact PyProof.Rows.tail_any (dict_typeIs I G) PySem.F.slot_dict_getitem.lookup (d_getItem hu I G ry fun w' s3 I3 q => ⟨w, H, I3, q, P.fin c g rw'⟩) hs
          · exact g.elim
        · exact g.elim
      · split at g
        · obtain ⟨hz, g⟩ := g
          split at g
          · rename_i cc hc
            exact ix_str value slice pins s σ H x y v u Q I rx ry ⟨_, _, cc, Rep.str_iff.mp r1, Rep.int_iff.mp r2, hz, hc, P.fin c g (Rep.leaf rfl)⟩ hs
          · exact g.elim
        · exact g.elim
theorem pd_ix {a b : Expr} {fa fb : WE} {g : G2} {pos : Pos} (hr : IxD cl X g) (ha : PD cl E X a fa) (hb : PD cl E X b fb) (hs : PlainIx b := by exact fun _ _ => rfl) : PD cl E X (.Subscript a b pos) (wOp g fa fb) := by
  refine pe_imp (pe_ix hr ha hb hs) fun σ H Q ⟨δ, μ, R, RE, ok, f, P, x⟩ => ?_
  refine tOf_run ok f x fun dx μ1 vx H1 f1 c1 e1 r1 => ?_
  refine tOf_run (ok.ext e1 c1) f1 (x.ext e1) fun dy μ2 vy H2 f2 c2 e2 r2 => ?_
  exact ⟨dx, dy, μ2, R, c2, r1.ext e2, r2, f2, P.ext (e1.trans e2)⟩

/-! ### slices -/
def cutD {α : Type} (xs : List α) (lo hi : Option Int) : List α := (xs.drop (HT.sIx xs.length 0 lo)).take (HT.sIx xs.length xs.length hi - HT.sIx xs.length 0 lo)
abbrev WO := Env → MH → (Option Int → MH → Prop) → EPost → Prop
@[simp] def wNoP : WO := fun _ μ R _ => R none μ
@[simp] def wPrt (f : WE) : WO := fun δ μ R RE => f δ μ (fun d μ1 => match d with
  | .int i => R (some i) μ1
  | _ => False) RE
@[simp] def wSl (fe : WE) (fl fh : WO) : WE := fun δ μ R RE => fe δ μ (fun d μ1 => fl δ μ1 (fun lo μ2 => fh δ μ2 (fun hi μ3 => match d with
  | .tup ds => R (.tup (cutD ds lo hi)) μ3
  | d => match lstOf μ3 d with
    | some ds => R (.lst (cutD ds lo hi)) μ3
    | none => False) RE) RE) RE
def toOf (cl : String → Addr) (E : XK) (f : WO) : TO := fun σ H Q => ∃ δ μ R RE, Ok cl δ μ σ H ∧ f δ μ R RE ∧ (∀ o μ' H', R o μ' → CplH cl μ' H' → Ext μ H μ' H' → Q o H') ∧ ExcOk cl μ H RE E
theorem po_imp {e : Option Expr} {t t' : TO} (h : PO X e t) (i : ∀ σ H Q, t' σ H Q → t σ H Q) : PO X e t' := ⟨fun pins s σ H Q I q => h.run pins s σ H Q I (i σ H Q q)⟩
theorem pod_none : PO X none (toOf cl E wNoP) := po_imp po_none fun σ H Q ⟨δ, μ, R, RE, ok, f, P, x⟩ => P _ _ _ f ok.cpl (Ext.refl _ _)
theorem pod_some {e : Expr} {fe : WE} (he : PD cl E X e fe) : PO X (some e) (toOf cl E (wPrt fe)) := by
  refine po_imp (po_some he) fun σ H Q ⟨δ, μ, R, RE, ok, f, P, x⟩ => ?_
  refine tOf_run ok f x fun d μ1 v H1 f1 c1 e1 r1 => ?_
  split at f1
  · exact ⟨_, Rep.int_iff.mp r1, P _ _ _ f1 c1 e1⟩
  · exact f1.elim
theorem cut_rep {μ : MH} {H : Hp} {ds : List D} {vs : List V} (r : RepL cl μ H ds vs) (lo hi : Option Int) : RepL cl μ H (cutD ds lo hi) (cutV vs lo hi) := by
  unfold cutD cutV
  rw [← r.length]
  exact ptake _ (pdrop _ r)
theorem cut_all {α : Type} {xs : List α} {lo hi : Option Int} (h : HT.sIx xs.length 0 lo = 0 ∧ HT.sIx xs.length xs.length hi = xs.length) : cutD xs lo hi = xs := by
  unfold cutD
  rw [h.1, h.2]; simp
theorem pd_slice {e : Expr} {lo hi : Option Expr} {fe : WE} {fl fh : WO} {p2 pos : Pos} (he : PD cl E X e fe) (hl : PO X lo (toOf cl E fl)) (hu : PO X hi (toOf cl E fh)) : PD cl E X (.Subscript e (.Slice lo hi none p2) pos) (wSl fe fl fh) := by
  refine pe_imp (pe_slice (sl_tupA.or sl_list) he hl hu) fun σ H Q ⟨δ, μ, R, RE, ok, f, P, x⟩ => ?_
  refine tOf_run ok f x fun d μ1 v H1 f1 c1 e1 r1 => ?_
  refine ⟨δ, μ1, _, RE, ok.ext e1 c1, f1, fun l μ2 H2 f2 c2 e2 => ?_, x.ext e1⟩
  have e12 := e1.trans e2
  refine ⟨δ, μ2, _, RE, ok.ext e12 c2, f2, fun h μ3 H3 f3 c3 e3 => ?_, x.ext e12⟩
  have e13 := e12.trans e3
  have r3 : Rep cl μ3 H3 d v := r1.ext (e2.trans e3)
  split at f3
  · rename_i ds
    obtain ⟨a, vs, ev, na, h1, hr⟩ := Rep.tup_iff.mp r3
    refine .inl ⟨a, vs, ev, SqT.of h1, fun hw => ?_, fun hw p hp => ?_⟩
    · rw [← hr.length] at hw
      rw [cut_all hw] at f3
      rw [← ev]
      exact P _ _ _ _ f3 c3 e13 r3
    · exact P _ _ _ _ f3 (c3.new hp) (e13.trans (Ext.new hp)) (Rep.tup_iff.mpr ⟨p, _, rfl, c3.fresh hp, upd_same, RepL.ext (cut_rep hr l h) (Ext.new hp)⟩)
  · split at f3
    · rename_i ds hq
      obtain ⟨a, vs, ev, h1, hr⟩ := lstOf_rep c3 r3 hq
      exact .inr ⟨a, vs, ev, SqL.of h1, fun p hp => P _ _ _ _ f3 (c3.new hp) (e13.trans (Ext.new hp)) (Rep.lst_iff.mpr ⟨p, _, rfl, c3.fresh hp, upd_same, RepL.ext (cut_rep hr l h) (Ext.new hp)⟩)⟩
    · exact f3.elim

/-! ### built-ins -/
@[simp] def gLen : GN := fun ds μ R => match ds with
  | [d] => match seqOf μ d with
    | some xs => R (.int xs.length) μ
    | none => match d with
      | .str z => z.length ≤ sizeLine ∧ R (.int z.length) μ
      | _ => False
  | _ => False
@[simp] def gList : GN := fun ds μ R => match ds with
  | [d] => match seqOf μ d with
    | some xs => R (.lst xs) μ
    | none => False
  | _ => False
@[simp] def gListL : GN := fun ds μ R => match ds with
  | [d] => match seqOf μ d with
    | some xs => ∀ p, μ p = none → R (.ref p) (mup μ p (.lst xs))
    | none => False
  | _ => False
@[simp] def gTuple : GN := fun ds μ R => match ds with
  | [d] => match seqOf μ d with
    | some xs => R (.tup xs) μ
    | none => False
  | _ => False
@[simp] def gInt : GN := fun ds μ R => match ds with
  | [.int i] => R (.int i) μ
  | _ => False
def gStr : GN := fun ds μ R => match ds with
  | [.int i] => i.natAbs.log2 < 1920 ∧ R (.str (toString i)) μ
  | _ => False
@[simp] def gMin2 : GN := fun ds μ R => match ds with
  | [.int i, .int j] => R (.int (if j < i then j else i)) μ
  | _ => False
@[simp] def gMax2 : GN := fun ds μ R => match ds with
  | [.int i, .int j] => R (.int (if j > i then j else i)) μ
  | _ => False
def intsD : List D → Option (List Int)
  | [] => some []
  | .int i :: ds => (intsD ds).map (i :: ·)
  | _ :: _ => none
def blsD : List D → Option (List Bool)
  | [] => some []
  | .bl i :: ds => (blsD ds).map (i :: ·)
  | _ :: _ => none
def gSum : GN := fun ds μ R => match ds with
  | [d] => match (lstOf μ d).bind intsD with
    | some ns => R (.int ns.sum) μ
    | none => False
  | _ => False
def gAll : GN := fun ds μ R => match ds with
  | [d] => match (lstOf μ d).bind blsD with
    | some ns => R (.bl (ns.all id)) μ
    | none => False
  | _ => False
def gAny : GN := fun ds μ R => match ds with
  | [d] => match (lstOf μ d).bind blsD with
    | some ns => R (.bl (ns.any id)) μ
    | none => False
  | _ => False
def gMax1 : GN := fun ds μ R => match ds with
  | [d] => match (lstOf μ d).bind intsD with
    | some ns => 0 < ns.length ∧ ∀ m, m ∈ ns → (∀ y, y ∈ ns → y ≤ m) → R (.int m) μ
    | none => False
  | _ => False
def gMin1 : GN := fun ds μ R => match ds with
  | [d] => match (lstOf μ d).bind intsD with
    | some ns => 0 < ns.length ∧ ∀ m, m ∈ ns → (∀ y, y ∈ ns → m ≤ y) → R (.int m) μ
    | none => False
  | _ => False
theorem one_rep {μ : MH} {H : Hp} {d : D} {vs : List V} (r : RepL cl μ H [d] vs) : ∃ v, vs = [v] ∧ Rep cl μ H d v := by
  cases r with
  | cons r t => cases t; exact ⟨_, rfl, r⟩
theorem two_rep {μ : MH} {H : Hp} {d e : D} {vs : List V} (r : RepL cl μ H [d, e] vs) : ∃ v w, vs = [v, w] ∧ Rep cl μ H d v ∧ Rep cl μ H e w := by
  cases r with
  | cons r t => cases t with
    | cons r2 t => cases t; exact ⟨_, _, rfl, r, r2⟩
theorem ints_rep {μ : MH} {H : Hp} : ∀ {ds : List D} {vs : List V} {ns : List Int}, RepL cl μ H ds vs → intsD ds = some ns → vs = ns.map V.int
  | [], _, _, .nil, h => by cases h; rfl
  | d :: ds, _, ns, .cons r t, h => by
    unfold intsD at h
    split at h
    · rename_i e; cases e
    · rename_i i ds' e
      cases e
      cases q : intsD ds with
      | none => rw [q] at h; cases h
      | some ms => rw [q] at h; cases h; rw [Rep.int_iff.mp r, ints_rep t q]; rfl
    · cases h
theorem bls_rep {μ : MH} {H : Hp} : ∀ {ds : List D} {vs : List V} {ns : List Bool}, RepL cl μ H ds vs → blsD ds = some ns → vs = ns.map V.bl
  | [], _, _, .nil, h => by cases h; rfl
  | d :: ds, _, ns, .cons r t, h => by
    unfold blsD at h
    split at h
    · rename_i e; cases e
    · rename_i i ds' e
      cases e
      cases q : blsD ds with
      | none => rw [q] at h; cases h
      | some ms => rw [q] at h; cases h; rw [Rep.bl_iff.mp r, bls_rep t q]; rfl
    · cases h
theorem lst_bind {μ : MH} {α : Type} {d : D} {f : List D → Option α} {z : α} (h : (lstOf μ d).bind f = some z) : ∃ ds, lstOf μ d = some ds ∧ f ds = some z := by
  cases q : lstOf μ d with
  | none => rw [q] at h; cases h
  | some ds => rw [q] at h; exact ⟨ds, rfl, h⟩
theorem cd_len : CallD cl X (.builtin "len") gLen := by
  rintro pins s σ H xs us Q I r ⟨ds, μ, R, c, rr, g, P⟩
  unfold gLen at g
  split at g
  · rename_i d
    obtain ⟨v, rfl, r1⟩ := one_rep rr
    split at g
    · rename_i zs hq
      obtain ⟨a, vs, e, ha, hr⟩ := seqOf_rep c r1 hq
      subst e
      refine call_len_seq pins s σ H _ us Q I r ⟨a, vs, rfl, ?_, ?_⟩
      · exact ha.imp SqL.of SqT.of
      · rw [← hr.length]; exact P.fin c g (Rep.leaf rfl)
    · split at g
      · exact call_len_str pins s σ H _ us Q I r ⟨_, by rw [Rep.str_iff.mp r1], g.1, P.fin c g.2 (Rep.leaf rfl)⟩
      · exact g.elim
  · exact g.elim
theorem cd_list : CallD cl X (.type "list") gList := by
  rintro pins s σ H xs us Q I r ⟨ds, μ, R, c, rr, g, P⟩
  unfold gList at g
  split at g
  · obtain ⟨v, rfl, r1⟩ := one_rep rr
    split at g
    · rename_i zs hq
      obtain ⟨a, vs, e, ha, hr⟩ := seqOf_rep c r1 hq
      subst e
      refine call_list_of pins s σ H _ us Q I r ⟨a, vs, rfl, ha.imp SqL.of SqT.of, fun p hp => ?_⟩
      exact P.newp c hp g (Rep.lst_iff.mpr ⟨p, _, rfl, c.fresh hp, upd_same, RepL.ext hr (Ext.new hp)⟩)
    · exact g.elim
  · exact g.elim
theorem cd_listL : CallD cl X (.type "list") gListL := by
  rintro pins s σ H xs us Q I r ⟨ds, μ, R, c, rr, g, P⟩
  unfold gListL at g
  split at g
  · obtain ⟨v, rfl, r1⟩ := one_rep rr
    split at g
    · rename_i zs hq
      obtain ⟨a, vs, e, ha, hr⟩ := seqOf_rep c r1 hq
      subst e
      refine call_list_of pins s σ H _ us Q I r ⟨a, vs, rfl, ha.imp SqL.of SqT.of, fun p hp => ?_⟩
      exact P _ _ _ _ (g p (c.fresh hp)) (c.newM hp ⟨vs, upd_same, RepL.ext hr (Ext.newM hp)⟩) (Ext.newM hp) (Rep.leaf rfl)
    · exact g.elim
  · exact g.elim
theorem cd_tuple : CallD cl X (.type "tuple") gTuple := by
  rintro pins s σ H xs us Q I r ⟨ds, μ, R, c, rr, g, P⟩
  unfold gTuple at g
  split at g
  · rename_i d
    obtain ⟨v, rfl, r1⟩ := one_rep rr
    split at g
    · rename_i zs hq
      obtain ⟨a, vs, e, ha, hr⟩ := seqOf_rep c r1 hq
      subst e
      refine call_tuple_of pins s σ H _ us Q I r ⟨a, vs, rfl, ?_⟩
      rcases ha with ha | ha
      · exact .inl ⟨SqL.of ha, fun p hp => P.newp c hp g (Rep.tup_iff.mpr ⟨p, _, rfl, c.fresh hp, upd_same, RepL.ext hr (Ext.new hp)⟩)⟩
      · refine .inr ⟨SqT.of ha, P.fin c g ?_⟩
        cases d with
        | tup ds =>
          have e : ds = zs := by simpa [seqOf] using hq
          subst e
          exact r1
        | lst ds =>
          obtain ⟨b, ws, e, _, h1, _⟩ := Rep.lst_iff.mp r1
          cases e
          rw [ha] at h1; cases h1
        | ref b =>
          simp only [seqOf] at hq
          split at hq
          · rename_i hm
            obtain ⟨ws, h1, _⟩ := c _ _ hm
            cases Rep.ref_iff.mp r1
            rw [ha] at h1; cases h1
          · cases hq
        | _ => simp [seqOf] at hq
    · exact g.elim
  · exact g.elim
theorem cd_int : CallD cl X (.type "int") gInt := by
  rintro pins s σ H xs us Q I r ⟨ds, μ, R, c, rr, g, P⟩
  unfold gInt at g
  split at g
  · obtain ⟨v, rfl, r1⟩ := one_rep rr
    exact call_int1 pins s σ H _ us Q I r (.inl ⟨_, by rw [Rep.int_iff.mp r1], P.fin c g (Rep.leaf rfl)⟩)
  · exact g.elim
theorem cd_str : CallD cl X (.type "str") gStr := by
  rintro pins s σ H xs us Q I r ⟨ds, μ, R, c, rr, g, P⟩
  unfold gStr at g
  split at g
  · obtain ⟨v, rfl, r1⟩ := one_rep rr
    exact call_str_int pins s σ H _ us Q I r ⟨_, by rw [Rep.int_iff.mp r1], g.1, P.fin c g.2 (Rep.leaf rfl)⟩
  · exact g.elim
theorem cd_min2 (hc : X.calm = true) : CallD cl X (.builtin "min") gMin2 := by
  rintro pins s σ H xs us Q I r ⟨ds, μ, R, c, rr, g, P⟩
  unfold gMin2 at g
  split at g
  · obtain ⟨v, w, rfl, r1, r2⟩ := two_rep rr
    exact call_min2 hc pins s σ H _ us Q I r ⟨_, _, by rw [Rep.int_iff.mp r1, Rep.int_iff.mp r2], P.fin c g (Rep.leaf rfl)⟩
  · exact g.elim
theorem cd_max2 (hc : X.calm = true) : CallD cl X (.builtin "max") gMax2 := by
  rintro pins s σ H xs us Q I r ⟨ds, μ, R, c, rr, g, P⟩
  unfold gMax2 at g
  split at g
  · obtain ⟨v, w, rfl, r1, r2⟩ := two_rep rr
    exact call_max2 hc pins s σ H _ us Q I r ⟨_, _, by rw [Rep.int_iff.mp r1, Rep.int_iff.mp r2], P.fin c g (Rep.leaf rfl)⟩
  · exact g.elim
theorem cd_sum (hc : X.calm = true) : CallD cl X (.builtin "sum") gSum := by
  rintro pins s σ H xs us Q I r ⟨ds, μ, R, c, rr, g, P⟩
  unfold gSum at g
  split at g
  · obtain ⟨v, rfl, r1⟩ := one_rep rr
    split at g
    · rename_i ns hb
      obtain ⟨zs, hq, hi⟩ := lst_bind hb
      obtain ⟨a, vs, e, ha, hr⟩ := lstOf_rep c r1 hq
      rw [ints_rep hr hi] at ha
      exact cr_sum hc pins s σ H _ us Q I r ⟨a, ns, by rw [e], SqL.of ha, P.fin c g (Rep.leaf rfl)⟩
    · exact g.elim
  · exact g.elim
theorem cd_max1 (hc : X.calm = true) : CallD cl X (.builtin "max") gMax1 := by
  rintro pins s σ H xs us Q I r ⟨ds, μ, R, c, rr, g, P⟩
  unfold gMax1 at g
  split at g
  · obtain ⟨v, rfl, r1⟩ := one_rep rr
    split at g
    · rename_i ns hb
      obtain ⟨zs, hq, hi⟩ := lst_bind hb
      obtain ⟨a, vs, e, ha, hr⟩ := lstOf_rep c r1 hq
      rw [ints_rep hr hi] at ha
      exact cr_max hc pins s σ H _ us Q I r ⟨a, ns, by rw [e], SqL.of ha, g.1, fun m h1 h2 => P.fin c (g.2 m h1 h2) (Rep.leaf rfl)⟩
    · exact g.elim
  · exact g.elim
theorem cd_min1 (hc : X.calm = true) : CallD cl X (.builtin "min") gMin1 := by
  rintro pins s σ H xs us Q I r ⟨ds, μ, R, c, rr, g, P⟩
  unfold gMin1 at g
  split at g
  · obtain ⟨v, rfl, r1⟩ := one_rep rr
    split at g
    · rename_i ns hb
      obtain ⟨zs, hq, hi⟩ := lst_bind hb
      obtain ⟨a, vs, e, ha, hr⟩ := lstOf_rep c r1 hq
      rw [ints_rep hr hi] at ha
      exact cr_min hc pins s σ H _ us Q I r ⟨a, ns, by rw [e], SqL.of ha, g.1, fun m h1 h2 => P.fin c (g.2 m h1 h2) (Rep.leaf rfl)⟩
    · exact g.elim
  · exact g.elim
theorem cd_all (hc : X.calm = true) : CallD cl X (.builtin "all") gAll := by
  rintro pins s σ H xs us Q I r ⟨ds, μ, R, c, rr, g, P⟩
  unfold gAll at g
  split at g
  · obtain ⟨v, rfl, r1⟩ := one_rep rr
    split at g
    · rename_i ns hb
      obtain ⟨zs, hq, hi⟩ := lst_bind hb
      obtain ⟨a, vs, e, ha, hr⟩ := lstOf_rep c r1 hq
      rw [bls_rep hr hi] at ha
      exact cr_all hc pins s σ H _ us Q I r ⟨a, ns, by rw [e], SqL.of ha, P.fin c g (Rep.leaf rfl)⟩
    · exact g.elim
  · exact g.elim
theorem cd_any (hc : X.calm = true) : CallD cl X (.builtin "any") gAny := by
  rintro pins s σ H xs us Q I r ⟨ds, μ, R, c, rr, g, P⟩
  unfold gAny at g
  split at g
  · obtain ⟨v, rfl, r1⟩ := one_rep rr
    split at g
    · rename_i ns hb
      obtain ⟨zs, hq, hi⟩ := lst_bind hb
      obtain ⟨a, vs, e, ha, hr⟩ := lstOf_rep c r1 hq
      rw [bls_rep hr hi] at ha
      exact cr_any hc pins s σ H _ us Q I r ⟨a, ns, by rw [e], SqL.of ha, P.fin c g (Rep.leaf rfl)⟩
    · exact g.elim
  · exact g.elim

/-! ### list methods -/
abbrev GM := D → List D → MH → Post → Prop
def mOf (cl : String → Addr) (g : GM) : V → List V → Hp → VK → Prop := fun x xs H Q => ∃ dx ds μ R, CplH cl μ H ∧ Rep cl μ H dx x ∧ RepL cl μ H ds xs ∧ g dx ds μ R ∧ PostOk cl μ H R Q
abbrev MthD (cl : String → Addr) (X : Cx) (id : String) (g : GM) : Prop := MtR X id (mOf cl g)
/-- a list's method -/
@[simp] def wBM (g : GM) (fo : WE) (fa : WA) : WE := fun δ μ R RE => fo δ μ (fun o μ1 => (lstOf μ1 o).isSome = true ∧ fa δ μ1 (fun ds μ2 => g o ds μ2 R) RE) RE
@[simp] def wBM0 (g : GM) (fo : WE) : WE := fun δ μ R RE => fo δ μ (fun o μ1 => (lstOf μ1 o).isSome = true ∧ g o [] μ1 R) RE
theorem ty_list {K : PySem.W.Frag} {μ : MH} {H : Hp} {d : D} {v : V} (c : CplH cl μ H) (r : Rep cl μ H d v) (h : (lstOf μ d).isSome = true) : tyV K "list" v H := by
  obtain ⟨ds, h⟩ := Option.isSome_iff_exists.mp h
  obtain ⟨a, vs, rfl, ha, hr⟩ := lstOf_rep c r h
  exact .inl ⟨rfl, vs, SqL.of ha⟩
theorem pd_bm {o e : Expr} {es : List Expr} {name : Str} {id : String} {apos cpos : Pos} {g : GM} {fo : WE} {fa : WA} (slot : Slot "list" name id) (hty : typeOf (.builtin id) = pure (.type "method_descriptor")) (hm : MthD cl X id g) (ho : PD cl E X o fo) (ha : PAD cl E X (e :: es) fa)
    (hbase : attributeBase o name X.env (eval o X.env) = eval o X.env := by rfl)
    (hfew : ((backTo cpos (starEach (e :: es) X.env)).all (fun x => !x.1) && (backToKw cpos (keywordEach [] X.env)).all (fun x => x.1.isSome)
      && decide ((e :: es).length + ([] : List Keyword).length + (if ([] : List Keyword).isEmpty then 0 else 1) < 30)) = true := by rfl)
    (hline : (apos.endLine == cpos.line) = true := by rfl) (hs : starEach (e :: es) X.env = (false, eval e X.env) :: starEach es X.env := by rfl) (hplain : (backTo cpos (starEach es X.env)).any (·.1) = false := by rfl) :
    PD cl E X (.Call (.Attribute o name apos) (e :: es) [] cpos) (wBM g fo fa) := by
  refine pe_imp (pe_bm PySem.F.plainAttrs_list slot hty hm ho ha hbase hfew hline hs hplain) fun σ H Q ⟨δ, μ, R, RE, ok, f, P, x⟩ => ?_
  refine tOf_run ok f x fun d μ1 v H1 ⟨hl, f1⟩ c1 e1 r1 => ?_
  refine ⟨ty_list c1 r1 hl, taOf_run (ok.ext e1 c1) f1 (x.ext e1) fun ds μ2 vs H2 l2 f2 c2 e2 r2 => ?_⟩
  exact ⟨d, ds, μ2, R, c2, r1.ext e2, r2, f2, P.ext (e1.trans e2)⟩
theorem pd_bm0 {o : Expr} {name : Str} {id : String} {apos cpos : Pos} {g : GM} {fo : WE} (slot : Slot "list" name id) (hty : typeOf (.builtin id) = pure (.type "method_descriptor")) (hm : MthD cl X id g) (ho : PD cl E X o fo)
    (hbase : attributeBase o name X.env (eval o X.env) = eval o X.env := by rfl) (hline : (apos.endLine == cpos.line) = true := by rfl) :
    PD cl E X (.Call (.Attribute o name apos) [] [] cpos) (wBM0 g fo) := by
  refine pe_imp (pe_bm0 PySem.F.plainAttrs_list slot hty hm ho hbase hline) fun σ H Q ⟨δ, μ, R, RE, ok, f, P, x⟩ => ?_
  refine tOf_run ok f x fun d μ1 v H1 ⟨hl, f1⟩ c1 e1 r1 => ?_
  exact ⟨ty_list c1 r1 hl, d, [], μ1, R, c1, r1, .nil, f1, P.ext e1⟩
@[simp] def gApp : GM := fun o ds μ R => match o, ds with
  | .ref a, [d] => match μ a with
    | some (.lst xs) => xs.length < sizeLine ∧ R .non (mup μ a (.lst (xs ++ [d])))
    | _ => False
  | _, _ => False
@[simp] def gExt : GM := fun o ds μ R => match o, ds with
  | .ref a, [d] => match μ a, lstOf μ d with
    | some (.lst xs), some ys => xs.length + ys.length ≤ sizeLine ∧ R .non (mup μ a (.lst (xs ++ ys)))
    | _, _ => False
  | _, _ => False
def gPop : GM := fun o ds μ R => match o, ds with
  | .ref a, [] => match μ a with
    | some (.lst xs) => match xs[xs.length - 1]? with
      | some d => R d (mup μ a (.lst xs.dropLast))
      | none => False
    | _ => False
  | _, _ => False
def gPopAt : GM := fun o ds μ R => match o, ds with
  | .ref a, [.int i] => match μ a with
    | some (.lst xs) => 0 ≤ i ∧ i < 2 ^ 63 ∧ match xs[i.toNat]? with
      | some d => R d (mup μ a (.lst (xs.eraseIdx i.toNat)))
      | none => False
    | _ => False
  | _, _ => False
theorem md_app : MthD cl X "list.append" gApp := by
  rintro pins s σ H x xs v us Q I rx rxs ⟨dx, ds, μ, R, c, r1, r2, g, P⟩
  unfold gApp at g
  split at g
  · obtain ⟨y, rfl, ry⟩ := one_rep r2
    split at g
    · rename_i zs hm
      obtain ⟨vs, ha, hr⟩ := c _ _ hm
      refine mt_append pins s σ H x _ v us Q I rx rxs ⟨_, vs, y, Rep.ref_iff.mp r1, rfl, ha, by rw [← hr.length]; exact g.1, ?_⟩
      exact P _ _ _ _ g.2 (c.write (m := .lst (zs ++ [_])) hm ⟨_, upd_same, RepL.ext (papp hr (.cons ry .nil)) (Ext.write hm)⟩) (Ext.write hm) (Rep.leaf rfl)
    · exact g.elim
  · exact g.elim
theorem md_ext : MthD cl X "list.extend" gExt := by
  rintro pins s σ H x xs v us Q I rx rxs ⟨dx, ds, μ, R, c, r1, r2, g, P⟩
  unfold gExt at g
  split at g
  · obtain ⟨y, rfl, ry⟩ := one_rep r2
    split at g
    · rename_i zs ys hm hq
      obtain ⟨vs, ha, hr⟩ := c _ _ hm
      obtain ⟨b, ws, rfl, hb, hr2⟩ := lstOf_rep c ry hq
      refine mt_extend pins s σ H x _ v us Q I rx rxs ⟨_, b, vs, ws, Rep.ref_iff.mp r1, rfl, ha, hb, by rw [← hr.length, ← hr2.length]; exact g.1, ?_⟩
      exact P _ _ _ _ g.2 (c.write (m := .lst (zs ++ ys)) hm ⟨_, upd_same, RepL.ext (papp hr hr2) (Ext.write hm)⟩) (Ext.write hm) (Rep.leaf rfl)
    · exact g.elim
  · exact g.elim
theorem md_pop : MthD cl X "list.pop" gPop := by
  rintro pins s σ H x xs v us Q I rx rxs ⟨dx, ds, μ, R, c, r1, r2, g, P⟩
  unfold gPop at g
  split at g
  · cases r2
    split at g
    · rename_i zs hm
      split at g
      · rename_i d hd
        obtain ⟨vs, ha, hr⟩ := c _ _ hm
        obtain ⟨y, hy, ry⟩ := pget hr _ _ hd
        refine mt_pop pins s σ H x _ v us Q I rx rxs ⟨_, vs, y, Rep.ref_iff.mp r1, rfl, ha, by rw [← hr.length]; exact hy, ?_⟩
        refine P _ _ _ _ g (c.write (m := .lst zs.dropLast) hm ⟨_, upd_same, ?_⟩) (Ext.write hm) (ry.ext (Ext.write hm))
        have : RepL cl μ H zs.dropLast vs.dropLast := by
          rw [List.dropLast_eq_take, List.dropLast_eq_take, ← hr.length]
          exact ptake _ hr
        exact RepL.ext this (Ext.write hm)
      · exact g.elim
    · exact g.elim
  · exact g.elim
theorem perase {α β : Type} {F : α → β → Prop} : ∀ {xs : List α} {ys : List β} (n : Nat), Paired F xs ys → Paired F (xs.eraseIdx n) (ys.eraseIdx n)
  | _, _, _, .nil => .nil
  | _, _, 0, .cons _ t => t
  | _, _, n + 1, .cons r t => .cons r (perase n t)
theorem md_popAt : MthD cl X "list.pop" gPopAt := by
  rintro pins s σ H x xs v us Q I rx rxs ⟨dx, ds, μ, R, c, r1, r2, g, P⟩
  unfold gPopAt at g
  split at g
  · obtain ⟨y, rfl, ry⟩ := one_rep r2
    split at g
    · rename_i a i _ zs hm
      obtain ⟨h0, h1, g⟩ := g
      split at g
      · rename_i d hd
        obtain ⟨vs, ha, hr⟩ := c _ _ hm
        obtain ⟨w, hw, rw'⟩ := pget hr _ _ hd
        have hlt : i < vs.length := by
          have := (List.getElem?_eq_some_iff.mp hw).1
          omega
        refine mt_popAt pins s σ H x _ v us Q I rx rxs ⟨a, vs, i, i.toNat, w, Rep.ref_iff.mp r1, by rw [Rep.int_iff.mp ry], ha, by omega, h1, seqIndex_of h0 hlt, hw, ?_⟩
        exact P _ _ _ _ g (c.write (m := .lst (zs.eraseIdx i.toNat)) hm ⟨_, upd_same, RepL.ext (perase _ hr) (Ext.write hm)⟩) (Ext.write hm) (rw'.ext (Ext.write hm))
      · exact g.elim
    · exact g.elim
  · exact g.elim
end
end LF

/-! LF7: isinstance, stores by place, what is walked. -/
namespace LF
open PySem PySem.Spec L2

/-! ### isinstance -/
structure ClsT (K : PySem.W.Frag) (C : Addr) : Prop where
  cls : Cls K C
  ha : PySem.W.findIn K (.ref C) "__class__" = some (some (.builtin "object.__class__"))
  hn : PySem.W.specialIn K (.builtin "object.__class__") "__get__" = some (some (.builtin "getset_descriptor.__get__"))
  tk : PySem.W.takesIn K (.builtin "object.__class__") = some true
  hm : PySem.W.mroIn K C (.type "object") = some true
def btys : List String := ["NoneType", "bool", "int", "str", "tuple", "list", "dict"]
def isB (a T : String) : Bool := a == T || (a == "bool" && T == "int")
theorem isB_kit : (btys.all fun a => ["int", "bool", "str", "list", "tuple", "dict"].all fun T => decide (kitB a T = some (isB a T))) = true := by decide +kernel
def IsF (K : PySem.W.Frag) (cl : String → Addr) (cs : List String) (c : String) : Prop :=
  (∀ T ∈ btys, PySem.W.kitOne K (.type T) (.ref (cl c)) = some false) ∧ ∀ c' ∈ cs, ClsT K (cl c') ∧ PySem.W.kitOne K (.ref (cl c')) (.ref (cl c)) = some (c' == c)
def IsTF (K : PySem.W.Frag) (cl : String → Addr) (cs : List String) (Ts : List String) : Prop :=
  (∀ T ∈ Ts, T ∈ ["int", "bool", "str", "list", "tuple", "dict"]) ∧ ∀ c' ∈ cs, ClsT K (cl c') ∧ ∀ T ∈ Ts, PySem.W.kitOne K (.ref (cl c')) (.type T) = some false
@[simp] def wIsi (cs : List String) (c : String) (fe : WE) : WE := fun δ μ R RE => fe δ μ (fun d μ1 => match tyN μ1 d with
  | some (.inl _) => R (.bl false) μ1
  | some (.inr c') => c' ∈ cs ∧ R (.bl (c' == c)) μ1
  | none => False) RE
@[simp] def wIsT (cs Ts : List String) (fe : WE) : WE := fun δ μ R RE => fe δ μ (fun d μ1 => match tyN μ1 d with
  | some (.inl a) => R (.bl (Ts.any (isB a))) μ1
  | some (.inr c') => c' ∈ cs ∧ R (.bl false) μ1
  | none => False) RE
section
variable {cl : String → Addr} {E : XK} {X : Cx} {e : Expr} {fe : WE} {p p2 p3 p4 pos : Pos} {K : PySem.W.Frag} {μ : MH} {H : Hp}
theorem tyN_bt {d : D} {v : V} {a : String} (c : CplH cl μ H) (r : Rep cl μ H d v) (h : tyN μ d = some (.inl a)) : a ∈ btys ∧ TyX K H v (.type a) := by
  cases d with
  | non => cases h; rw [Rep.non_iff.mp r]; exact ⟨by decide, .base .non⟩
  | bl b => cases h; rw [Rep.bl_iff.mp r]; exact ⟨by decide, .base (.bl _)⟩
  | int b => cases h; rw [Rep.int_iff.mp r]; exact ⟨by decide, .base (.int _)⟩
  | str b => cases h; rw [Rep.str_iff.mp r]; exact ⟨by decide, .base (.str _)⟩
  | tup ds => cases h; obtain ⟨p, vs, rfl, _, h1, _⟩ := Rep.tup_iff.mp r; exact ⟨by decide, .base (.tup h1)⟩
  | lst ds => cases h; obtain ⟨p, vs, rfl, _, h1, _⟩ := Rep.lst_iff.mp r; exact ⟨by decide, .base (.lst h1)⟩
  | ref p =>
    simp only [tyN] at h
    split at h <;> first | (cases h; done) | skip
    · rename_i hm; cases h; obtain ⟨vs, h1, _⟩ := c _ _ hm; rw [Rep.ref_iff.mp r]; exact ⟨by decide, .base (.lst h1)⟩
    · rename_i hm; cases h; obtain ⟨vs, h1, _⟩ := c _ _ hm; rw [Rep.ref_iff.mp r]; exact ⟨by decide, .base (.dK h1)⟩
    · rename_i hm; cases h; obtain ⟨vs, h1, _⟩ := c _ _ hm; rw [Rep.ref_iff.mp r]; exact ⟨by decide, .base (.dT h1)⟩
  | ty _ => cases h
  | dK _ => cases h
  | dT _ => cases h
  | obj _ _ _ => cases h
  | scr _ _ _ => cases h
theorem tyN_own {d : D} {v : V} {c' : String} (c : CplH cl μ H) (r : Rep cl μ H d v) (h : tyN μ d = some (.inr c')) (F : ClsT K (cl c')) : TyX K H v (.ref (cl c')) := by
  cases d with
  | obj a c2 fs =>
    cases h
    obtain ⟨rfl, _, dx, vs, h1, _⟩ := Rep.obj_iff.mp r
    exact .base (.ins h1 F.cls F.ha F.hn F.tk F.hm)
  | ref p =>
    simp only [tyN] at h
    split at h <;> first | (cases h; done) | skip
    · rename_i hm; cases h; obtain ⟨dx, vs, h1, _⟩ := c _ _ hm; rw [Rep.ref_iff.mp r]; exact .base (.ins h1 F.cls F.ha F.hn F.tk F.hm)
  | non => cases h
  | bl b => cases h
  | int b => cases h
  | str b => cases h
  | tup ds => cases h
  | lst ds => cases h
  | ty _ => cases h
  | dK _ => cases h
  | dT _ => cases h
  | scr _ _ _ => cases h
theorem pd_isi {c : String} {x : Str} {cs : List String} (F : IsF X.K cl cs c) (hg : Gl X "isinstance") (hm : X.mg "isinstance" = none) (hgx : Gl X x) (hmx : X.mg x = some (.ref (cl c))) (he : PD cl E X e fe)
    (hd : (x == ("__debug__" : Str)) = false := by decide)
    (hs : starEach [e, .Name x p2] X.env = (false, eval e X.env) :: starEach [.Name x p2] X.env := by rfl) (hs2 : starEach [.Name x p2] X.env = (false, eval (.Name x p2) X.env) :: starEach [] X.env := by rfl) (hpl : (backTo pos (starEach [.Name x p2] X.env)).any (·.1) = false := by rfl) :
    PD cl E X (.Call (.Name "isinstance" p) [e, .Name x p2] [] pos) (wIsi cs c fe) := by
  refine pe_imp (pe_callB call_isi hg hm (by decide +kernel) (pa_cons he (pa_cons (pe_glob (v := .ref (cl c)) hgx hmx rfl hd) pa_nil hs2) hs) (by decide) (by decide) hs hpl) fun σ H Q ⟨δ, μ, R, RE, ok, f, P, xx⟩ => ?_
  refine tOf_run ok f xx fun d μ1 v H1 f1 c1 e1 r1 => ?_
  show rIsi X.K [v, .ref (cl c)] H1 Q
  split at f1
  · rename_i a h
    obtain ⟨ha, ty⟩ := tyN_bt (K := X.K) c1 r1 h
    exact ⟨_, _, _, _, _, rfl, .own _, ty, F.1 a ha, P _ _ _ _ f1 c1 e1 (Rep.leaf rfl)⟩
  · rename_i c' h
    obtain ⟨hc, f1⟩ := f1
    obtain ⟨k1, k2⟩ := F.2 c' hc
    exact ⟨_, _, _, _, _, rfl, .own _, tyN_own c1 r1 h k1, k2, P _ _ _ _ f1 c1 e1 (Rep.leaf rfl)⟩
  · exact f1.elim
theorem isB_of {a T : String} (ha : a ∈ btys) (hT : T ∈ ["int", "bool", "str", "list", "tuple", "dict"]) : PySem.W.kitOne K (.type a) (.type T) = some (isB a T) :=
  kit_ty (of_decide_eq_true (List.all_eq_true.mp (List.all_eq_true.mp isB_kit a ha) T hT))
theorem pd_isT1 {T : String} {x : Str} {cs : List String} (F : IsTF X.K cl cs [T]) (hg : Gl X "isinstance") (hm : X.mg "isinstance" = none) (hgx : Gl X x) (hmx : X.mg x = none) (hv : bootBuiltins x = some (.type T)) (he : PD cl E X e fe)
    (hn : x ≠ "__name__" := by decide) (hd : (x == ("__debug__" : Str)) = false := by decide)
    (hs : starEach [e, .Name x p2] X.env = (false, eval e X.env) :: starEach [.Name x p2] X.env := by rfl) (hs2 : starEach [.Name x p2] X.env = (false, eval (.Name x p2) X.env) :: starEach [] X.env := by rfl) (hpl : (backTo pos (starEach [.Name x p2] X.env)).any (·.1) = false := by rfl) :
    PD cl E X (.Call (.Name "isinstance" p) [e, .Name x p2] [] pos) (wIsT cs [T] fe) := by
  refine pe_imp (pe_callB call_isi hg hm (by decide +kernel) (pa_cons he (pa_cons (pe_bltn (v := .ty T) hgx hmx hv rfl hn hd) pa_nil hs2) hs) (by decide) (by decide) hs hpl) fun σ H Q ⟨δ, μ, R, RE, ok, f, P, xx⟩ => ?_
  refine tOf_run ok f xx fun d μ1 v H1 f1 c1 e1 r1 => ?_
  show rIsi X.K [v, .ty T] H1 Q
  split at f1
  · rename_i a h
    obtain ⟨ha, ty⟩ := tyN_bt (K := X.K) c1 r1 h
    refine ⟨_, _, _, _, _, rfl, .ty _, ty, isB_of ha (F.1 T (by simp)), P (.bl (isB a T)) _ _ _ ?_ c1 e1 (Rep.leaf rfl)⟩
    simpa using f1
  · rename_i c' h
    obtain ⟨hc, f1⟩ := f1
    obtain ⟨k1, k2⟩ := F.2 c' hc
    exact ⟨_, _, _, _, _, rfl, .ty _, tyN_own c1 r1 h k1, k2 T (by simp), P _ _ _ _ f1 c1 e1 (Rep.leaf rfl)⟩
  · exact f1.elim
theorem pd_isT2 {T U : String} {x y : Str} {cs : List String} {kk : Nat} (F : IsTF X.K cl cs [T, U]) (hg : Gl X "isinstance") (hm : X.mg "isinstance" = none) (hgx : Gl X x) (hmx : X.mg x = none) (hv : bootBuiltins x = some (.type T)) (hgy : Gl X y) (hmy : X.mg y = none) (hvy : bootBuiltins y = some (.type U)) (he : PD cl E X e fe)
    (hn : x ≠ "__name__" := by decide) (hd : (x == ("__debug__" : Str)) = false := by decide) (hny : y ≠ "__name__" := by decide) (hdy : (y == ("__debug__" : Str)) = false := by decide)
    (ha : PA X [.Name x p2, .Name y p3] (tCons (tC (.ty T)) (tCons (tC (.ty U)) tNil)))
    (hs : starEach [e, .Tuple [.Name x p2, .Name y p3] kk p4] X.env = (false, eval e X.env) :: starEach [.Tuple [.Name x p2, .Name y p3] kk p4] X.env := by rfl) (hs2 : starEach [.Tuple [.Name x p2, .Name y p3] kk p4] X.env = (false, eval (.Tuple [.Name x p2, .Name y p3] kk p4) X.env) :: starEach [] X.env := by rfl)
    (hpl : (backTo pos (starEach [.Tuple [.Name x p2, .Name y p3] kk p4] X.env)).any (·.1) = false := by rfl) :
    PD cl E X (.Call (.Name "isinstance" p) [e, .Tuple [.Name x p2, .Name y p3] kk p4] [] pos) (wIsT cs [T, U] fe) := by
  refine pe_imp (pe_callB call_isiT hg hm (by decide +kernel) (pa_cons he (pa_cons (pe_tup ha) pa_nil hs2) hs) (by decide) (by decide) hs hpl) fun σ H Q ⟨δ, μ, R, RE, ok, f, P, xx⟩ => ?_
  refine tOf_run ok f xx fun d μ1 v H1 f1 c1 e1 r1 => ?_
  refine ⟨by show 2 ≤ sizeLine; decide, fun q hq => ?_⟩
  have c2 : CplH cl μ1 (upd H1 q (.tup [.ty T, .ty U])) := c1.new hq
  have e2 : Ext μ1 H1 μ1 (upd H1 q (.tup [.ty T, .ty U])) := Ext.new hq
  have r2 := r1.ext e2
  show rIsiT X.K [v, .ref q] _ Q
  split at f1
  · rename_i a h
    obtain ⟨ha, ty⟩ := tyN_bt (K := X.K) c2 r2 h
    refine ⟨_, q, _, _, [.type T, .type U], _, rfl, upd_same, .cons (.ty _) (.cons (.ty _) .nil), ty, ?_, P _ _ _ _ f1 c2 (e1.trans e2) (Rep.leaf rfl)⟩
    refine kitAny_cons (isB_of ha (F.1 T (by simp))) (fun h0 => ?_) (fun h1 => by simp [h1])
    refine kitAny_cons (isB_of ha (F.1 U (by simp))) (fun h1 => ?_) (fun h1 => by simp [h1])
    rw [kitAny_nil]; simp [h0, h1]
  · rename_i c' h
    obtain ⟨hc, f1⟩ := f1
    obtain ⟨k1, k2⟩ := F.2 c' hc
    refine ⟨_, q, _, _, [.type T, .type U], _, rfl, upd_same, .cons (.ty _) (.cons (.ty _) .nil), tyN_own c2 r2 h k1, ?_, P _ _ _ _ f1 c2 (e1.trans e2) (Rep.leaf rfl)⟩
    exact kitAny_cons (k2 T (by simp)) (fun _ => kitAny_cons (k2 U (by simp)) (fun _ => kitAny_nil) (fun h => by cases h)) (fun h => by cases h)
  · exact f1.elim

/-! ### x[i] = v -/
abbrev GS := D → D → D → MH → (MH → Prop) → Prop
@[simp] def gSet : GS := fun o i v μ R => match o with
  | .ref a => match μ a with
    | some (.lst xs) => match i with
      | .int k => match ixN xs.length k with
        | some j => R (mup μ a (.lst (xs.set j v)))
        | none => False
      | _ => False
    | some (.dK kvs) => match keyD i with
      | some k => kvs.length < sizeLine ∧ R (mup μ a (.dK (putKD kvs k v)))
      | none => False
    | some (.dT kvs) => match keyT i with
      | some k => kvs.length < sizeLine ∧ R (mup μ a (.dT (putKD kvs k v)))
      | none => False
    | _ => False
  | _ => False
def vSub (g : GS) (fo fi : WE) (RE : EPost) : GT := fun v δ μ R => fo δ μ (fun o μ1 => fi δ μ1 (fun i μ2 => g o i v μ2 (fun μ3 => R δ μ3)) RE) RE
def sOf (cl : String → Addr) (g : GS) : TSet := fun o i v H Q => ∃ d1 d2 d3 μ R, CplH cl μ H ∧ Rep cl μ H d1 o ∧ Rep cl μ H d2 i ∧ Rep cl μ H d3 v ∧ g d1 d2 d3 μ R ∧ ∀ μ' H', R μ' → CplH cl μ' H' → Ext μ H μ' H' → Q H'
theorem putK_rep {κ : Type} [DecidableEq κ] {k : κ} {d : D} {v : V} (r : Rep cl μ H d v) {kvs : List (κ × D)} {vs : List (κ × V)} (h : RepK cl μ H kvs vs) : RepK cl μ H (putKD kvs k d) (putK vs k v) := by
  have any : (vs.any fun kv => decide (kv.1 = k)) = kvs.any fun kv => decide (kv.1 = k) := by
    induction h with
    | nil => rfl
    | cons q _ ih => rw [List.any_cons, List.any_cons, ih, q.1]
  unfold putKD putK
  rw [any]
  split
  · rename_i hh
    clear any hh
    induction h with
    | nil => exact .nil
    | @cons p q _ _ e _ ih =>
      rw [List.map_cons, List.map_cons]
      refine .cons ?_ ih
      rw [e.1]
      split
      · exact ⟨rfl, r⟩
      · exact e
  · exact papp h (.cons ⟨rfl, r⟩ .nil)
theorem sd_set (hu : X.A.units + 1 < cLine) : PSet X (sOf cl gSet) := by
  rintro pins s σ H o i v ov iv u Q I ro ri rv ⟨d1, d2, d3, μ, R, c, r1, r2, r3, g, P⟩
  unfold gSet at g
  split at g
  · split at g
    · rename_i xs hm
      split at g
      · split at g
        · rename_i j hj
          obtain ⟨vs, ha, hr⟩ := c _ _ hm
          refine set_list pins s σ H o i v ov iv u Q I ro ri rv ⟨_, vs, _, j, Rep.ref_iff.mp r1, Rep.int_iff.mp r2, ha, by rw [← hr.length]; exact hj, ?_⟩
          exact P _ _ g (c.write (m := .lst (xs.set j d3)) hm ⟨_, upd_same, RepL.ext (pset r3 j hr) (Ext.write hm)⟩) (Ext.write hm)
        · exact g.elim
      · exact g.elim
    · rename_i kvs hm
      split at g
      · rename_i k hk
        obtain ⟨vs, ha, hr⟩ := c _ _ hm
        cases Rep.ref_iff.mp r1
        cases ro
        refine d_setItem hu I (DPut.k ha (k := k) (v := v) (by rw [← hr.length]; exact g.1)) (by rw [← keyD_rep r2 hk]; exact ri) rv fun s3 I3 => ⟨_, I3, ?_⟩
        exact P _ _ g.2 (c.write (m := .dK (putKD kvs k d3)) hm ⟨_, upd_same, RepK.ext (putK_rep r3 hr) (Ext.write hm)⟩) (Ext.write hm)
      · exact g.elim
    · rename_i kvs hm
      split at g
      · rename_i k hk
        obtain ⟨vs, ha, hr⟩ := c _ _ hm
        cases Rep.ref_iff.mp r1
        cases ro
        obtain ⟨b, e, hb⟩ := keyT_rep r2 hk
        subst e
        refine d_setItem hu I (DPut.t ha hb (v := v) (by rw [← hr.length]; exact g.1)) ri rv fun s3 I3 => ⟨_, I3, ?_⟩
        exact P _ _ g.2 (c.write (m := .dT (putKD kvs k d3)) hm ⟨_, upd_same, RepK.ext (putK_rep r3 hr) (Ext.write hm)⟩) (Ext.write hm)
      · exact g.elim
    · exact g.elim
  · exact g.elim
/-- o[i] = e -/
@[simp] def wSetI (g : GS) (fv fo fi : WE) : WS := fun δ μ K RE => fv δ μ (fun v μ1 => fo δ μ1 (fun o μ2 => fi δ μ2 (fun i μ3 => g o i v μ3 (fun μ4 => K.nx δ μ4)) RE) RE) RE
theorem psd_setI {o i value : Expr} {g : GS} {fv fo fi : WE} {pos' : Pos} (hs : PSet X (sOf cl g)) (hv : PD cl E X value fv) (ho : PD cl E X o fo) (hi : PD cl E X i fi)
    (hsw : swapsWithSole [.Subscript o i pos'] value pos.line X.env = pure false := by rfl) (hw : swappedStores [.Subscript o i pos'] value X.env = pure none := by rfl)
    (h1 : (assignEach [.Subscript o i pos'] X.env).map (·.2) = [assign (.Subscript o i pos') X.env] := by rfl)
    (ha : ∀ v, assign (.Subscript o i pos') X.env v = (do
      let ov ← holding [v] (eval o X.env)
      let iv ← holding [v, ov] (eval i X.env)
      standAt pos'
      holding [v, ov, iv] (setItem ov iv v)
      release [v, ov, iv] []) := by intro _; rfl) : PSD cl E X (.Assign [.Subscript o i pos'] value pos) (wSetI g fv fo fi) := by
  refine ps_imp (ps_asg hv (pg_sub ho hi hs ha) hsw hw h1) fun Dn σ H ⟨δ, μ, K, RE, ok, f, P, x⟩ => ?_
  refine tOf_run ok f x fun v μ1 vv H1 f1 c1 e1 r1 => ?_
  refine tOf_run (ok.ext e1 c1) f1 (x.ext e1) fun o μ2 vo H2 f2 c2 e2 r2 => ?_
  have e12 := e1.trans e2
  refine tOf_run (ok.ext e12 c2) f2 (x.ext e12) fun i μ3 vi H3 f3 c3 e3 r3 => ?_
  exact ⟨o, i, v, μ3, _, c3, r2.ext e3, r3, r1.ext (e2.trans e3), f3, fun μ4 H4 k c4 e4 => P.nx _ _ _ _ k (((ok.ext e12 c2).ext e3 c3).ext e4 c4) ((e12.trans e3).trans e4)⟩

/-! ### what is walked -/
/-- a list or a tuple -/
def srcOf (μ : MH) : D → Option Src
  | .tup ds => some ⟨ds, none⟩
  | .lst ds => some ⟨ds, none⟩
  | .ref a => match μ a with
    | some (.lst ds) => some ⟨ds, some (a, .lst ds)⟩
    | _ => none
  | _ => none
@[simp] def wIt (fe : WE) : WI := fun δ μ R RE => fe δ μ (fun d μ1 => match srcOf μ1 d with
  | some s => R s μ1
  | none => False) RE
theorem upto_get {α β : Type} {F : α → β → Prop} {xs : List α} {ys : List β} (r : Paired F xs ys) {i : Nat} (h : i < xs.length) : ∃ y, ys[i]? = some y := by
  obtain ⟨y, h1, _⟩ := pget r i xs[i] (by simp [h])
  exact ⟨y, h1⟩
theorem src_list {K : PySem.W.Frag} {a : Addr} {ds : List D} {vs : List V} (n : μ a = none) (h : H a = some (.lst vs)) (r : RepL cl μ H ds vs) : SrcOk cl μ H ⟨ds, none⟩ (Itl K a) := by
  refine ⟨fun μ' H' i e c st hi => ?_, fun μ' H' i x H2 e c st hi y => ?_, fun μ' H' i e c st hi => ?_⟩
  · obtain ⟨y, hy⟩ := upto_get r hi
    exact ⟨vs, y, SqL.of (e.at n h (fun z => z)), hy⟩
  · obtain ⟨rfl, y⟩ := y
    obtain ⟨d, hd, rd⟩ := pget2 r i x (y vs (SqL.of (e.at n h (fun z => z))))
    exact ⟨d, hd, rd.ext e, Ext.refl _ _, c⟩
  · exact ⟨vs, SqL.of (e.at n h (fun z => z)), by rw [← r.length]; exact hi⟩
theorem src_tup {K : PySem.W.Frag} {a : Addr} {ds : List D} {vs : List V} (n : μ a = none) (h : H a = some (.tup vs)) (r : RepL cl μ H ds vs) : SrcOk cl μ H ⟨ds, none⟩ (Itt K a) := by
  refine ⟨fun μ' H' i e c st hi => ?_, fun μ' H' i x H2 e c st hi y => ?_, fun μ' H' i e c st hi => ?_⟩
  · obtain ⟨y, hy⟩ := upto_get r hi
    exact ⟨vs, y, SqT.of (e.at n h (fun z => z)), hy⟩
  · obtain ⟨rfl, y⟩ := y
    obtain ⟨d, hd, rd⟩ := pget2 r i x (y vs (SqT.of (e.at n h (fun z => z))))
    exact ⟨d, hd, rd.ext e, Ext.refl _ _, c⟩
  · exact ⟨vs, SqT.of (e.at n h (fun z => z)), by rw [← r.length]; exact hi⟩
theorem src_live {K : PySem.W.Frag} {a : Addr} {ds : List D} : SrcOk cl μ H ⟨ds, some (a, .lst ds)⟩ (Itl K a) := by
  refine ⟨fun μ' H' i e c st hi => ?_, fun μ' H' i x H2 e c st hi y => ?_, fun μ' H' i e c st hi => ?_⟩
  all_goals obtain ⟨vs, h, r⟩ := c a _ st
  · obtain ⟨y, hy⟩ := upto_get r hi
    exact ⟨vs, y, SqL.of h, hy⟩
  · obtain ⟨rfl, y⟩ := y
    obtain ⟨d, hd, rd⟩ := pget2 r i x (y vs (SqL.of h))
    exact ⟨d, hd, rd, Ext.refl _ _, c⟩
  · exact ⟨vs, SqL.of h, by rw [← r.length]; exact hi⟩
/-- for x in e: a list's walk or a tuple's, by what e gives -/
theorem pi_seq {tg l : Expr} {tl : TE} (hl : PE X l tl) : PI X tg l (fun σ H R => tl σ H fun x H1 => ∃ a, x = .ref a ∧ (((∃ xs, SqL X.K H1 a xs) ∧ R (Itl X.K a) H1) ∨ ((∃ xs, SqT X.K H1 a xs) ∧ R (Itt X.K a) H1))) := by
  refine ⟨fun pins s σ H R I h => thn (hl.run pins s σ H _ I h) fun v s1 ⟨x, H1, I1, r1, a, e, q⟩ => ?_⟩
  subst e
  cases r1
  have fp : ∀ b ∈ [s1.heap.objs.size], FpOk X pins H1 b := fun b hb => by
    rw [List.mem_singleton.mp hb]
    exact I1.fpOk (Nat.le_refl _) (I1.hok.fresh (Nat.le_refl _))
  have kept : ∀ o : Obj, L2.Inv X pins σ H1 { s1 with heap := s1.heap.push o } := fun o => I1.kept (t' := s1.toks) fun _ _ z => Heap.get?_push_of_some _ z
  rcases q with ⟨⟨xs, hq⟩, q⟩ | ⟨⟨xs, hq⟩, q⟩
  · obtain ⟨its, rv, p, hz⟩ := I1.list hq
    exact wpAny_pyIter_list p.isList ⟨_, _, _, _, H1, rfl, kept _, turn_list a _, ⟨_, Heap.get?_push_size _ rfl, rfl, rfl⟩, fp, q⟩
  · obtain ⟨its, rv, p, hz⟩ := I1.tuple hq
    exact wpAny_pyIter_tuple (items := its.toArray) p ⟨_, _, _, _, H1, rfl, kept _, turn_tuple a _, ⟨_, Heap.get?_push_size _ rfl, rfl, rfl⟩, fp, q⟩
theorem pid_seq {tg l : Expr} {fl : WE} (hl : PD cl E X l fl) : PID cl E X tg l (wIt fl) := by
  refine pi_imp (pi_seq hl) fun σ H RI ⟨δ, μ, R, RE, ok, f, P, x⟩ => ?_
  refine tOf_run ok f x fun d μ1 v H1 f1 c1 e1 r1 => ?_
  split at f1
  · rename_i src hs
    unfold srcOf at hs
    split at hs
    · cases hs
      obtain ⟨a, vs, ev, na, h1, hr⟩ := Rep.tup_iff.mp r1
      exact ⟨a, ev, .inr ⟨⟨vs, SqT.of h1⟩, P _ _ _ _ f1 c1 e1 (src_tup na h1 hr)⟩⟩
    · cases hs
      obtain ⟨a, vs, ev, na, h1, hr⟩ := Rep.lst_iff.mp r1
      exact ⟨a, ev, .inl ⟨⟨vs, SqL.of h1⟩, P _ _ _ _ f1 c1 e1 (src_list na h1 hr)⟩⟩
    · split at hs
      · rename_i a _ ds hm
        cases hs
        obtain ⟨vs, h1, hr⟩ := c1 _ _ hm
        exact ⟨_, Rep.ref_iff.mp r1, .inl ⟨⟨vs, SqL.of h1⟩, P _ _ _ _ f1 c1 e1 src_live⟩⟩
      · cases hs
    · cases hs
  · exact f1.elim
/-- the ints lo, lo + 1, .. -/
def rngD (lo : Int) (n : Nat) : List D := (List.range n).map fun i => .int (lo + (i : Nat))
@[simp] def wR1 (fa : WA) : WI := fun δ μ R RE => fa δ μ (fun ds μ1 => match ds with
  | [.int j] => -(2 ^ 62) ≤ j ∧ j < 2 ^ 62 ∧ R ⟨rngD 0 j.toNat, none⟩ μ1
  | _ => False) RE
@[simp] def wR2 (fa : WA) : WI := fun δ μ R RE => fa δ μ (fun ds μ1 => match ds with
  | [.int i, .int j] => (-(2 ^ 62) ≤ i ∧ i < 2 ^ 62 ∧ -(2 ^ 62) ≤ j ∧ j < 2 ^ 62) ∧ R ⟨rngD i (j - i).toNat, none⟩ μ1
  | _ => False) RE
theorem src_rng {lo : Int} {n : Nat} : SrcOk cl μ H ⟨rngD lo n, none⟩ (Itr lo n) := by
  have hl : (rngD lo n).length = n := by unfold rngD; rw [List.length_map, List.length_range]
  refine ⟨fun μ' H' i e c st hi => ?_, fun μ' H' i x H2 e c st hi y => ?_, fun μ' H' i e c st hi => ?_⟩
  · show i < n
    have hi : i < (rngD lo n).length := hi
    omega
  · obtain ⟨rfl, rfl⟩ := y
    have hi : i < (rngD lo n).length := hi
    rw [hl] at hi
    exact ⟨.int (lo + (i : Nat)), by show (rngD lo n)[i]? = _; unfold rngD; simp [hi], Rep.leaf rfl, Ext.refl _ _, c⟩
  · show n ≤ i
    have hi : (rngD lo n).length ≤ i := hi
    omega
theorem pid_r1 {tg a : Expr} {fa : WA} (hg : Gl X "range") (hm : X.mg "range" = none) (ha : PAD cl E X [a] fa) (hs : starEach [a] X.env = [(false, eval a X.env)] := by rfl) : PID cl E X tg (.Call (.Name "range" p) [a] [] pos) (wR1 fa) := by
  refine pi_imp (pi_range1 hg hm ha hs) fun σ H RI ⟨δ, μ, R, RE, ok, f, P, x⟩ => ?_
  refine taOf_run ok f x fun ds μ1 vs H1 l1 f1 c1 e1 r1 => ?_
  split at f1
  · obtain ⟨v, rfl, r⟩ := one_rep r1
    exact ⟨_, by rw [Rep.int_iff.mp r], f1.1, f1.2.1, P _ _ _ _ f1.2.2 c1 e1 src_rng⟩
  · exact f1.elim
theorem pid_r2 {tg a b : Expr} {fa : WA} (hg : Gl X "range") (hm : X.mg "range" = none) (ha : PAD cl E X [a, b] fa) (hs : starEach [a, b] X.env = [(false, eval a X.env), (false, eval b X.env)] := by rfl) (hs2 : starEach [b] X.env = [(false, eval b X.env)] := by rfl) : PID cl E X tg (.Call (.Name "range" p) [a, b] [] pos) (wR2 fa) := by
  refine pi_imp (pi_range2 hg hm ha hs hs2) fun σ H RI ⟨δ, μ, R, RE, ok, f, P, x⟩ => ?_
  refine taOf_run ok f x fun ds μ1 vs H1 l1 f1 c1 e1 r1 => ?_
  split at f1
  · obtain ⟨v, w, rfl, r, r'⟩ := two_rep r1
    exact ⟨_, _, by rw [Rep.int_iff.mp r, Rep.int_iff.mp r'], f1.1, P _ _ _ _ f1.2 c1 e1 src_rng⟩
  · exact f1.elim
end
end LF

/-! LFX: exceptions of the program: made, raised, caught, asked. -/
namespace LF
open PySem PySem.Spec L2

/-! ### Base.__init__(self, ..) of an own base class -/
structure BaseF (K : PySem.W.Frag) (C : Addr) : Prop where
  sp : PySem.W.specialIn K (.ref C) "__getattribute__" = some (some (.builtin "type.__getattribute__"))
  rd : PySem.W.readsIn K C (.type "type") = true
  fc : PySem.W.findCls K (.ref C) (.type "type") "__init__" = some (.val (.builtin "ValueError.__init__"))
section
variable {X : Cx} {e : Expr} {es : List Expr} {ta : TA} {p1 p2 pos : Pos} {x : Str} {CB : Addr}
theorem pe_hinit {pl : Sem Bool} (B : BaseF X.K CB) (hg : Gl X x) (hm : X.mg x = some (.ref CB)) (ha : PA X (e :: es) ta)
    (hc : eval (.Call (.Attribute (.Name x p1) "__init__" p2) (e :: es) [] pos) X.env = (do
      let ov ← eval (.Name x p1) X.env
      standAt p2.atName
      let (f, first) ← holding [ov] (getMethod ov "__init__" pl)
      callWith pos f first (backTo pos (starEach (e :: es) X.env)) (backToKw pos (keywordEach [] X.env))) := by rfl)
    (hd : (x == ("__debug__" : Str)) = false := by decide)
    (he : starEach (e :: es) X.env = (false, eval e X.env) :: starEach es X.env := by rfl) (hpl : (backTo pos (starEach es X.env)).any (·.1) = false := by rfl) :
    PE X (.Call (.Attribute (.Name x p1) "__init__" p2) (e :: es) [] pos) (tVeI X.K ta) := by
  refine ⟨fun pins s σ H Q I h => PySem.W.methodCall_KW (ld_glob I hg hm ?_ hd) hc⟩
  refine PySem.W.method_cls I.kIn B.sp (PySem.W.cls_value I.kIn B.rd B.fc (by decide +kernel) ?_)
  show wpAny _ _ (callWith pos (Value.builtin "ValueError.__init__") [] (backTo pos (starEach (e :: es) X.env)) []) _ _ _
  refine PyProof.Rows.callWith_method1 (thn (ha.run pos pins _ σ H _ (I.tok _) h) fun us s1 ⟨vs, H1, I1, r1, a, C, ws, ev, hl, T, ea, q⟩ => ?_) he hpl
  subst ev
  cases r1 with
  | @cons _ u0 _ ur ra rw' =>
    cases ra
    have hlen : ur.length ≤ sizeLine := by
      rw [← Paired.length rw', PySem.sizeLine_eq]
      omega
    exact oinit_ok T I1 ea hlen fun s' J => ⟨.non, H1, J, rfl, q⟩
end

/-- what an error class's __init__ promises: n fields, each told as it is -/
def spEx (K : PySem.W.Frag) (C : Addr) (fs : List Str) : Sp := fun vs H Q _ => ∃ (a : Addr) (ws : List V), vs = .ref a :: ws ∧ ws.length = fs.length ∧ OexC K C ∧ (∀ f ∈ fs, PySem.W.findIn K (.ref C) f = some none) ∧ H a = some (exo a C none) ∧
  ∀ (d : Addr) (H' : Hp), H d = none → H' a = some (exo a C (some d)) → H' d = some (exd d (fs.zip ws).reverse) → (∀ b, b ≠ a → b ≠ d → H' b = H b) → Q .non H'
@[simp] def wRaise (c : String) (fs : List String) (fa : WA) : WS := fun δ μ _ RE => fa δ μ (fun ds μ1 => RE ⟨c, (fs.zip ds).reverse⟩ μ1) RE
/-- the facts of an error class -/
structure ErrF (K : PySem.W.Frag) (mg : Str → Option Value) (cl : String → Addr) (c : String) (fs : List String) (x : Str) : Prop where
  o : OexC K (cl c)
  nf : ∀ f ∈ fs, PySem.W.findIn K (.ref (cl c)) (sk f) = some none
  g : mg x = some (.ref (cl c))
section
variable {cl : String → Addr} {E : XK} {X : Cx} {e : Expr} {es : List Expr} {fa : WA} {p pos pos' : Pos}
theorem zip_rep {μ : MH} {H : Hp} : ∀ {fs : List String} {ds : List D} {vs : List V}, (∀ f ∈ fs, f ∈ flds) → RepL cl μ H ds vs → RepF cl μ H (fs.zip ds) ((fs.map sk).zip vs)
  | [], _, _, _, _ => .nil
  | f :: fs, _, _, _, .nil => .nil
  | f :: fs, _, _, h, .cons r t => .cons ⟨⟨rfl, h f (by simp)⟩, r⟩ (zip_rep (fun g hg => h g (by simp [hg])) t)
theorem psd_raise {c : String} {fs : List String} {x : Str} {fI : Addr} {k : Nat} {fd : FuncData} {ps : List Str} (T : ErrF X.K X.mg cl c fs x) (iC : PySem.W.findIn X.K (.ref (cl c)) "__init__" = some (some (.ref fI))) (tI : PySem.W.typeIn X.K (.ref fI) = some (.type "function"))
    (F1 : FnOk X.prog X.w X.K X.mg X.base (L2.CX X.prog X.w) k fI fd ps (spEx X.K (cl c) (fs.map sk))) (hr : Room (k + 1) X.A) (hb : Binds X.K fd ps []) (hc : X.calm = true) (tk : Takes X (fun c d _ H => E c d H)) (hg : Gl X x) (ha : PAD cl E X (e :: es) fa)
    (hl : (e :: es).length = fs.length := by rfl) (hz : fs.length ≤ 10 := by decide) (hfl : ∀ f ∈ fs, f ∈ flds := by decide) (hdb : (x == ("__debug__" : Str)) = false := by decide)
    (he : starEach (e :: es) X.env = (false, eval e X.env) :: starEach es X.env := by rfl) (hpl : (backTo pos (starEach es X.env)).any (·.1) = false := by rfl) :
    PSD cl E X (.Raise (some (.Call (.Name x p) (e :: es) [] pos)) none pos') (wRaise c fs fa) := by
  refine ps_imp (ps_raise hc tk (pmk_oex (dvs := []) T.o iC tI F1 hr hb .nil passL hg T.g ha hdb he hpl)) fun Dn σ H ⟨δ, μ, K, RE, ok, f, P, xo⟩ => ?_
  refine taOf_run ok f xo fun ds μ1 vs H1 l1 f1 c1 e1 r1 => ?_
  have lv : vs.length = fs.length := by rw [← r1.length, l1, hl]
  refine ⟨by omega, fun a ha => ?_⟩
  show spEx X.K (cl c) (fs.map sk) (.ref a :: (vs ++ [])) _ _ _
  rw [List.append_nil]
  refine ⟨a, vs, rfl, by rw [lv, List.length_map], T.o, fun g hg => ?_, upd_same, fun d H' hd ea ed hot => ?_⟩
  · obtain ⟨g', hg', rfl⟩ := List.mem_map.mp hg
    exact T.nf g' hg'
  · have nda : d ≠ a := fun z => by rw [z, upd_same] at hd; cases hd
    have hd1 : H1 d = none := by rw [upd_ne nda] at hd; exact hd
    refine ⟨rfl, d, _, ea, ed, hd1, ?_⟩
    have same : ∀ b o, H1 b = some o → (upd (del H' a) d (.xd ((fs.map sk).zip vs).reverse)) b = some o := fun b o hb => by
      have nb : b ≠ a := fun z => by rw [z, ha] at hb; cases hb
      have nd : b ≠ d := fun z => by rw [z, hd1] at hb; cases hb
      rw [upd_ne nd, del_ne nb, hot b nb nd, upd_ne nb]
      exact hb
    have e2 : Ext μ1 H1 μ1 (upd (del H' a) d (.xd ((fs.map sk).zip vs).reverse)) := fun b o _ m hb => ⟨.inl (same b o hb), m⟩
    have c2 : CplH cl μ1 (upd (del H' a) d (.xd ((fs.map sk).zip vs).reverse)) := fun b m hm => by
      obtain ⟨o, ho⟩ := (c1 b m hm).some
      exact (c1 b m hm).ext e2 ((same b o ho).trans ho.symm)
    exact xo _ μ1 _ _ _ f1 c2 (e1.trans e2) ⟨rfl, .inr ⟨d, _, rfl, c1.fresh hd1, upd_same, prev (RepF.ext (zip_rep hfl r1) e2)⟩⟩
end
end LF

/-! LFC: a lambda handed to a def that catches what it raises. -/
namespace LF
open PySem PySem.Spec L2 LamX

/-- the error classes: the tag and the fields that the law's catcher tells -/
def errTab : List (String × String × List String) := [("BadName", "name", ["name"]), ("BadNumber", "number", ["what", "number"]), ("BadRow", "row", ["what", "row"]), ("NoEvent", "event", ["event"]), ("NoBond", "bond", ["name"]), ("NoTimes", "notimes", []),
  ("TakenName", "taken", ["name"]), ("TooMany", "many", ["what", "many", "limit"]), ("Unlike", "unlike", ["what"]), ("BadText", "text", ["line", "word"])]
def errNames : List String := errTab.map (·.1)
def getsD (fs : List (String × D)) : List String → Option (List D)
  | [] => some []
  | f :: r => match fs.lookup f, getsD fs r with
    | some d, some ds => some (d :: ds)
    | _, _ => none
/-- what the catcher tells of an error -/
def caughtD (ex : Ex) : Option D := match errTab.lookup ex.c with
  | some (tag, fl) => (getsD ex.fs fl).map fun ds => .tup (.str (sk tag) :: ds)
  | none => none

structure ExcAll (K : PySem.W.Frag) (cl : String → Addr) : Prop where
  e : ∀ c ∈ errNames, ExcC K (cl c)
  k : ∀ c ∈ errNames, ∀ c' ∈ errNames, PySem.W.kitOne K (.ref (cl c)) (.ref (cl c')) = some (c == c')
  x : ∀ c ∈ errNames, XfC K (cl c)
  n : ∀ c ∈ errNames, ∀ t ∈ errTab, t.1 = c → ∀ f ∈ t.2.2, PySem.W.findIn K (.ref (cl c)) (sk f) = some none

section
variable {cl : String → Addr} {X : Cx} {a D : Addr} {oe : Obj} {pn : List (Addr × Obj)}
def rIsX (K : PySem.W.Frag) (D a : Addr) (d : Option Addr) : List V → Hp → VK → Prop := fun xs H Q => ∃ (cv : Addr) (b : Bool), xs = [.ref a, .ref cv] ∧ PySem.W.kitOne K (.ref D) (.ref cv) = some b ∧ (∀ dd, d = some dd → ∃ fs, H dd = some (.xd fs)) ∧ Q (.bl b) H
theorem call_isX {d : Option Addr} (C : ExcC X.K D) (hz : Zc (.ref D) d oe) (hf : ∃ vs, oe.data = .fields vs) : CallR (X.suite a ((a, oe) :: pn)) (.builtin "isinstance") (rIsX X.K D a d) := by
  rintro pins s σ H xs us Q I r ⟨cv, b, rfl, e, hd, q⟩
  cases r with
  | cons rx rr => cases rr with
    | cons rt rr =>
      cases rr; cases rx; cases rt
      have hget := (I.pin (a, oe) (List.mem_append.mpr (.inl List.mem_cons_self))).1
      obtain ⟨vs, hv⟩ := hf
      have J : ∃ od, PySem.W.InstAt s.heap a oe D od := by
        have h1 : oe.cls = .ref D := hz.1
        have h2 : oe.dict = d := hz.2
        have h0 : PySem.W.notCls oe = true := by unfold PySem.W.notCls; rw [hv] <;> rfl
        cases d with
        | none => exact ⟨none, hget, h1, h0, by rw [h2]; trivial⟩
        | some dd =>
          obtain ⟨fs, hx⟩ := hd dd rfl
          have hx : ObjOk X.prog X.w H s.heap dd (.xd fs) := I.hok dd _ hx
          obtain ⟨mA, hns, hr⟩ := hx
          obtain ⟨od, ho, hl⟩ := lookIn_ns hns
          exact ⟨some od, hget, h1, h0, by rw [h2]; exact ho⟩
      obtain ⟨od, J⟩ := J
      have hcl : (PySem.W.clsIn X.K D).isSome = true := by
        obtain ⟨cd, hc, _⟩ := PySem.W.any_some C.hd
        rw [hc]; rfl
      exact PySem.W.kia_one (PySem.W.kitx_exc hcl C.hg C.hk C.hs C.ha C.hn C.ht C.hm) I.kIn J e (fun z => nomatch z) fun tk => ⟨.bl b, H, I.kept (t' := tk) fun _ _ z => z, rfl, q⟩
/-- isinstance(e, C') of the caught error: its class is c -/
def wIsX (c c' : String) (d : Option Addr) (fe : WE) : WE := fun δ μ R RE => fe δ μ (fun _ μ1 => (∀ dd, d = some dd → ∃ vs fs, μ1 dd = some (.xd vs fs)) ∧ R (.bl (c == c')) μ1) RE
def wXf (d : Option Addr) (f : String) (fe : WE) : WE := fun δ μ R RE => fe δ μ (fun _ μ1 => match d with
  | some dd => match μ1 dd with
    | some (.xd _ fs) => match fs.lookup f with
      | some v => R v μ1
      | none => False
    | _ => False
  | none => False) RE
variable {c c' : String} {d : Option Addr} {e : Expr} {x : Str} {p p1 p2 pos : Pos} {E : XK}
theorem pd_isX {i : Nat} {y : Str} (F : ExcAll X.K cl) (hc : c ∈ errNames) (hc' : c' ∈ errNames) (hz : Zc (.ref (cl c)) d oe) (hf : ∃ vs, oe.data = .fields vs) (hg : Gl X "isinstance") (hm : X.mg "isinstance" = none) (hgx : Gl X x) (hmx : X.mg x = some (.ref (cl c')))
    (he : ∀ σ H Q, tVar i σ H Q → σ[i]? = some (some (.ref a)) → True) (hv : PE (X.suite a ((a, oe) :: pn)) (.Name y p1) (tVar i)) (hd : (x == ("__debug__" : Str)) = false := by decide)
    (hs : starEach [.Name y p1, .Name x p2] X.env = (false, eval (.Name y p1) X.env) :: starEach [.Name x p2] X.env := by rfl) (hs2 : starEach [.Name x p2] X.env = (false, eval (.Name x p2) X.env) :: starEach [] X.env := by rfl) (hpl : (backTo pos (starEach [.Name x p2] X.env)).any (·.1) = false := by rfl) :
    PD cl E (X.suite a ((a, oe) :: pn)) (.Call (.Name "isinstance" p) [.Name y p1, .Name x p2] [] pos) (wIsX c c' d (fun δ μ R _ => δ[i]? = some (some (.ref a)) ∧ R (.ref a) μ)) := by
  refine pe_imp (pe_callB (X := X.suite a ((a, oe) :: pn)) (call_isX (F.e c hc) hz hf) hg hm (by decide +kernel) (pa_cons hv (pa_cons (pe_glob (X := X.suite a ((a, oe) :: pn)) (v := .ref (cl c')) hgx hmx rfl hd) pa_nil hs2) hs) (by decide) (by decide) hs hpl) fun σ H Q ⟨δ, μ, R, RE, ok, ⟨hi, hdd, f⟩, P, xx⟩ => ?_
  obtain ⟨v, hv, r⟩ := pget2 ok.slt i _ hi
  cases v with
  | none => exact False.elim r
  | some v =>
    have r : Rep cl μ H (.ref a) v := r
    rw [Rep.ref_iff.mp r] at hv
    refine ⟨_, hv, cl c', _, rfl, F.k c hc c' hc', fun dd e => ?_, P.fin ok.cpl f (Rep.leaf rfl)⟩
    obtain ⟨vs, fs, hm⟩ := hdd dd e
    exact ⟨vs, (ok.cpl dd _ hm).1⟩
theorem pd_xf {i : Nat} {y : Str} {f : String} {n : Str} (F : ExcAll X.K cl) (hc : c ∈ errNames) (hno : PySem.W.findIn X.K (.ref (cl c)) n = some none) (hz : Zc (.ref (cl c)) d oe) (hf : ∃ vs, oe.data = .fields vs) (hv : PE (X.suite a ((a, oe) :: pn)) (.Name y p1) (tVar i))
    (hn : n = sk f := by rfl) (hfl : f ∈ flds := by decide) (hb : attributeBase (.Name y p1) n X.env (eval (.Name y p1) X.env) = eval (.Name y p1) X.env := by rfl) :
    PD cl E (X.suite a ((a, oe) :: pn)) (.Attribute (.Name y p1) n pos) (wXf d f (fun δ μ R _ => δ[i]? = some (some (.ref a)) ∧ R (.ref a) μ)) := by
  subst hn
  refine pe_imp (pe_xf (F.x c hc) hno hz hf hv hb) fun σ H Q ⟨δ, μ, R, RE, ok, ⟨hi, f⟩, P, xx⟩ => ?_
  obtain ⟨v, hv, r⟩ := pget2 ok.slt i _ hi
  cases v with
  | none => exact False.elim r
  | some v =>
    have r : Rep cl μ H (.ref a) v := r
    rw [Rep.ref_iff.mp r] at hv
    refine ⟨_, hv, rfl, rfl, ?_⟩
    split at f
    · split at f
      · rename_i hm
        split at f
        · rename_i dv hl
          obtain ⟨h1, h2⟩ := ok.cpl _ _ hm
          obtain ⟨w, h3, h4⟩ := lookF hfl h2 hl
          exact ⟨_, _, w, rfl, h1, h3, P.fin ok.cpl f h4⟩
        · exact f.elim
      · exact f.elim
    · exact f.elim
end

/-! ### the catcher's suite as a whole -/
abbrev wEv (i : Nat) (a : Addr) : WE := fun δ μ R _ => δ[i]? = some (some (.ref a)) ∧ R (.ref a) μ
def wXfs (d : Option Addr) (i : Nat) (a : Addr) : List String → WA
  | [] => wNil
  | f :: fs => wCons (wXf d f (wEv i a)) (wXfs d i a fs)
def wIfX (c : String) (d : Option Addr) (i j : Nat) (a : Addr) (t : String × String × List String) : WS :=
  wIf (wB (wIsX c t.1 d (wEv i a))) (wExpr (wBM gApp (wVar j) (wCons (wTup (wCons (wC (.str (sk t.2.1))) (wXfs d i a t.2.2))) wNil))) wSkip
def wIfsX (c : String) (d : Option Addr) (i j : Nat) (a : Addr) : List (String × String × List String) → WS → WS
  | [], z => z
  | t :: ts, z => wSeq (wIfX c d i j a t) (wIfsX c d i j a ts z)
def wEndX (j : Nat) : WS := wRet (wIfE (wB (wOp gEq (wCB gLen (wCons (wVar j) wNil)) (wC (.int 1)))) (wOp gIx (wVar j) (wC (.int 0))) (wTup (wCons (wC (.str (sk "several"))) wNil)))
def wSuiteX (c : String) (d : Option Addr) (i j : Nat) (a : Addr) : WS := wSeq (wAsg (wLstL wNil) (vName j)) (wIfsX c d i j a errTab (wEndX j))

theorem xfs_run {dd : Addr} {i : Nat} {a : Addr} {vs : List (Str × V)} {fs : List (String × D)} {δ : LF.Env} {μ : MH} {RE : EPost} (hi : δ[i]? = some (some (.ref a))) (hm : μ dd = some (.xd vs fs)) : ∀ {fl : List String} {ds : List D} {R : List D → MH → Prop}, getsD fs fl = some ds → R ds μ → wXfs (some dd) i a fl δ μ R RE
  | [], _, R, h, r => by cases h; exact r
  | f :: fl, _, R, h, r => by
    unfold getsD at h
    split at h
    · rename_i d ds h1 h2
      cases h
      show wXf (some dd) f (wEv i a) δ μ (fun x μ1 => wXfs (some dd) i a fl δ μ1 (fun xs μ2 => R (x :: xs) μ2) RE) RE
      refine ⟨hi, ?_⟩
      simp only [hm, h1]
      exact xfs_run hi hm h2 r
    · cases h
theorem ifs_skip {c : String} {d : Option Addr} {i j : Nat} {a : Addr} {z : WS} {δ : LF.Env} {μ : MH} {K : SEnds} {RE : EPost} (hi : δ[i]? = some (some (.ref a))) (hd : ∀ dd, d = some dd → ∃ vs fs, μ dd = some (.xd vs fs)) :
    ∀ {ts : List (String × String × List String)}, (∀ t ∈ ts, t.1 ≠ c) → z δ μ K RE → wIfsX c d i j a ts z δ μ K RE
  | [], _, h => h
  | t :: ts, hn, h => by
    refine ⟨hi, hd, ?_⟩
    have e : (c == t.1) = false := beq_eq_false_iff_ne.mpr fun q => hn t (by simp) q.symm
    show if (c == t.1) = true then _ else _
    rw [e, if_neg Bool.false_ne_true]
    exact ifs_skip hi hd (fun t' ht => hn t' (by simp [ht])) h
theorem suite_run {c : String} {d : Option Addr} {i j : Nat} {a p : Addr} {fs : List (String × D)} {δ : LF.Env} {μ : MH} {K : SEnds} {RE : EPost} {dr : D} (hi : δ[i]? = some (some (.ref a))) (hj : δ[j]? = some (some (.ref p))) (hp : μ p = some (.lst [])) (hd : ∀ dd, d = some dd → ∃ vs, μ dd = some (.xd vs fs)) (hd0 : d = none → fs = [])
    (hr : K.rt dr (mup μ p (.lst [dr]))) : ∀ {ts : List (String × String × List String)} {t : String × List String}, (ts.map (·.1)).Nodup → ts.lookup c = some t → (getsD fs t.2).map (fun ds => D.tup (.str (sk t.1) :: ds)) = some dr → wIfsX c d i j a ts (wEndX j) δ μ K RE
  | [], _, _, h, _ => by cases h
  | (c', tag, fl) :: ts, t, hnd, h, hg => by
    have hd1 : ∀ dd, d = some dd → ∃ vs fs, μ dd = some (.xd vs fs) := fun dd e => by
      obtain ⟨vs, h⟩ := hd dd e
      exact ⟨vs, fs, h⟩
    have dne : ∀ dd, d = some dd → dd ≠ p := fun dd e q => by
      obtain ⟨vs, h⟩ := hd dd e
      rw [q, hp] at h; cases h
    refine ⟨hi, hd1, ?_⟩
    by_cases e : c = c'
    · subst e
      have : t = (tag, fl) := by simpa [List.lookup] using h.symm
      subst this
      show if (c == c) = true then _ else _
      rw [beq_self_eq_true, if_pos rfl]
      cases q : getsD fs fl with
      | none => rw [q] at hg; cases hg
      | some ds =>
        have hg : D.tup (.str (sk tag) :: ds) = dr := by simpa [q] using hg
        subst hg
        show (wBM gApp (wVar j) (wCons (wTup (wCons (wC (.str (sk tag))) (wXfs d i a fl))) wNil)) δ μ _ RE
        have step : wXfs d i a fl δ μ (fun xs μ2 => gApp (.ref p) [.tup (.str (sk tag) :: xs)] μ2 (fun _ μ' => wIfsX c d i j a ts (wEndX j) δ μ' K RE)) RE := by
          have goal : gApp (.ref p) [.tup (.str (sk tag) :: ds)] μ (fun _ μ' => wIfsX c d i j a ts (wEndX j) δ μ' K RE) := by
            show match μ p with
              | some (.lst xs) => xs.length < sizeLine ∧ _
              | _ => False
            rw [hp]
            refine ⟨by show 0 < sizeLine; decide, ?_⟩
            refine ifs_skip hi (fun dd e => ?_) (fun t' ht e => ?_) ?_
            · obtain ⟨vs, fs', h⟩ := hd1 dd e
              exact ⟨vs, fs', by rw [mup_ne (dne dd e)]; exact h⟩
            · have : c ∈ ts.map (·.1) := List.mem_map.mpr ⟨t', ht, e⟩
              rw [List.map_cons, List.nodup_cons] at hnd
              exact hnd.1 this
            · show wVar j δ _ _ RE
              unfold wVar
              rw [hj]
              show gLen [.ref p] _ _
              have sq : seqOf (mup μ p (.lst ([] ++ [D.tup (.str (sk tag) :: ds)]))) (.ref p) = some [D.tup (.str (sk tag) :: ds)] := by simp [seqOf]
              simp only [gLen, sq]
              simp only [wC, gEq, pyM, py]
              refine ⟨rfl, rfl, ?_⟩
              rw [if_pos (show PyData.eqv (.int (([D.tup (.str (sk tag) :: ds)].length : Nat) : Int)) (.int 1) = true from rfl)]
              simp only [wOp, wC, hj, gIx, sq]
              exact hr
          cases d with
          | none =>
            have : fs = [] := hd0 rfl
            subst this
            cases fl with
            | nil => cases q; exact goal
            | cons f fl => unfold getsD at q; simp at q
          | some dd =>
            obtain ⟨vs, hm⟩ := hd dd rfl
            exact xfs_run hi hm q goal
        show wVar j δ μ _ RE
        unfold wVar
        rw [hj]
        exact ⟨by simp [lstOf, hp], step⟩
    · have e2 : (c == c') = false := beq_eq_false_iff_ne.mpr e
      show if (c == c') = true then _ else _
      rw [e2, if_neg Bool.false_ne_true]
      refine suite_run hi hj hp hd hd0 hr (by rw [List.map_cons, List.nodup_cons] at hnd; exact hnd.2) (by simpa [List.lookup, e2] using h) hg
end LF

/-! LFD: the catcher's promise, the call of it with a lambda. -/
namespace LF
open PySem PySem.Spec L2 LamX

def CatchOk (cl : String → Addr) (cls : Value) (d : Option Addr) (H : Hp) (Q : VK) : Prop := ∃ ex μ R d0, CplH cl μ H ∧ RepX cl μ H ex cls d ∧ caughtD ex = some d0 ∧ R d0 μ ∧ PostOk cl μ H R Q
def TTc (cl : String → Addr) : (XK → Hp → VK → Prop) → Hp → VK → Prop := fun tl H Q => ∃ Ech : XK, tl Ech H (fun _ H' => 1 ≤ sizeLine ∧ ∀ p, H' p = none → Q (.ref p) (upd H' p (.tup [.str (sk "none")]))) ∧ ∀ cls d H', Ech cls d H' → CatchOk cl cls d H' Q
theorem takes_len {X : Cx} {W W' : WX} (t : Takes X W) (h : ∀ c d σ H, σ.length = X.N.length → W' c d σ H → W c d σ H) : Takes X W' := fun u s' ⟨a, B, sI, pins, σ, H, cls, d, e, I, nb, up, sky, na, os, ag, w⟩ =>
  t u s' ⟨a, B, sI, pins, σ, H, cls, d, e, I, nb, up, sky, na, os, ag, h _ _ _ _ I.len w⟩
theorem caught_in {ex : Ex} {d : D} (h : caughtD ex = some d) : ∃ t, errTab.lookup ex.c = some t ∧ (getsD ex.fs t.2).map (fun ds => D.tup (.str (sk t.1) :: ds)) = some d := by
  unfold caughtD at h
  split at h
  · rename_i tag fl hl
    exact ⟨(tag, fl), hl, h⟩
  · cases h
theorem lookup_mem {c : String} {t : String × List String} : ∀ {ts : List (String × String × List String)}, ts.lookup c = some t → c ∈ ts.map (·.1)
  | (c', r) :: ts, h => by
    by_cases e : c = c'
    · subst e; simp
    · have e2 : (c == c') = false := beq_eq_false_iff_ne.mpr e
      exact List.mem_cons_of_mem _ (lookup_mem (by simpa [List.lookup, e2] using h))
/-- what is known of data does not hang on an exception's dict -/
theorem repN_live {cl : String → Addr} {μ : MH} {H : Hp} {dd : Addr} {vs : List (Str × V)} {m : MO} (hx : H dd = some (.xd vs)) : ∀ (n : Nat) (d : D) (v : V), RepN cl μ H n d v → RepN cl (mup μ dd m) H n d v
  | 0, d, v, h => h
  | n + 1, d, v, h => by
    have ih := fun d v => repN_live (cl := cl) (μ := μ) (m := m) hx n d v
    have ne : ∀ {a : Addr} {o : HO}, H a = some o → (∀ vs, o ≠ .xd vs) → a ≠ dd := fun {a o} h1 h2 e => by
      rw [e, hx] at h1; cases h1; exact h2 _ rfl
    have rd : ∀ {a : Addr} {o : HO}, Rd H a o → (∀ vs, o ≠ .xd vs) → a ≠ dd := fun {a o} h1 h2 => by
      rcases h1 with h1 | ⟨ob, h1⟩
      · exact ne h1 h2
      · exact ne h1 (fun vs e => by cases e)
    cases d with
    | tup ds => obtain ⟨a, ws, e, na, r, p⟩ := h; exact ⟨a, ws, e, by rw [mup_ne (ne r (fun _ e => by cases e))]; exact na, r, Paired.mapP p ih⟩
    | lst ds => obtain ⟨a, ws, e, na, r, p⟩ := h; exact ⟨a, ws, e, by rw [mup_ne (ne r (fun _ e => by cases e))]; exact na, r, Paired.mapP p ih⟩
    | dK ds => obtain ⟨a, ws, e, na, r, p⟩ := h; exact ⟨a, ws, e, by rw [mup_ne (rd r (fun _ e => by cases e))]; exact na, r, Paired.mapP p fun _ _ z => ⟨z.1, ih _ _ z.2⟩⟩
    | dT ds => obtain ⟨a, ws, e, na, r, p⟩ := h; exact ⟨a, ws, e, by rw [mup_ne (rd r (fun _ e => by cases e))]; exact na, r, Paired.mapP p fun _ _ z => ⟨z.1, ih _ _ z.2⟩⟩
    | obj a c fs => obtain ⟨e, na, dx, ws, r, p⟩ := h; exact ⟨e, by rw [mup_ne (ne r (fun _ e => by cases e))]; exact na, dx, ws, r, Paired.mapP p fun _ _ z => ⟨z.1, ih _ _ z.2⟩⟩
    | non => exact h
    | bl _ => exact h
    | int _ => exact h
    | str _ => exact h
    | ty _ => exact h
    | ref _ => exact h
    | scr K a ns => exact ⟨h.1, h.2.imp (fun z => ⟨by rw [mup_ne (rd z.2 (fun _ e => by cases e))]; exact z.1, z.2⟩) id⟩
theorem rep_live {cl : String → Addr} {μ : MH} {H : Hp} {dd : Addr} {vs : List (Str × V)} {m : MO} (hx : H dd = some (.xd vs)) {d : D} {v : V} (h : Rep cl μ H d v) : Rep cl (mup μ dd m) H d v := h.imp fun n z => repN_live hx n d v z
theorem cell_live {cl : String → Addr} {μ : MH} {H : Hp} {dd b : Addr} {vs : List (Str × V)} {m k : MO} (hx : H dd = some (.xd vs)) (hn : μ dd = none) (h : Cell cl μ H b k) : Cell cl (mup μ dd m) H b k := by
  cases k with
  | lst ds => obtain ⟨ws, h, r⟩ := h; exact ⟨ws, h, Paired.mapP r fun _ _ z => rep_live hx z⟩
  | dK ds => obtain ⟨ws, h, r⟩ := h; exact ⟨ws, h, Paired.mapP r fun _ _ z => ⟨z.1, rep_live hx z.2⟩⟩
  | dT ds => obtain ⟨ws, h, r⟩ := h; exact ⟨ws, h, Paired.mapP r fun _ _ z => ⟨z.1, rep_live hx z.2⟩⟩
  | ins c fs => obtain ⟨dx, ws, h, r⟩ := h; exact ⟨dx, ws, h, Paired.mapP r fun _ _ z => ⟨z.1, rep_live hx z.2⟩⟩
  | pen =>
    obtain ⟨ns, n, d, k, f, q, vs, h, r⟩ := h
    exact ⟨ns, n, d, k, f, q, vs, h, Paired.mapP r fun _ _ z => ⟨z.1, rep_live hx z.2⟩⟩
  | xd ws fs => exact ⟨h.1, Paired.mapP h.2 fun _ _ z => ⟨z.1, rep_live hx z.2⟩⟩
  | tab q =>
    obtain ⟨ps, h1, h2, h3⟩ := h
    refine ⟨ps, h1, h2, fun pos cv hc => ?_⟩
    obtain ⟨cc, e1, e2, e3⟩ := h3 pos cv hc
    exact ⟨cc, e1, e2, by rw [mup_ne (fun e => by rw [e, hx] at e2; cases e2)]; exact e3⟩
section
variable {cl : String → Addr} {X : Cx} {Ng : List Str} {x q : Str} {sg : Scope} {g : Addr} {cdg : Value} {b0 : Stmt} {suite : List Stmt} {p1 p2 p3 p4 p5 p6 p7 p8 p9 : Pos} {j k : Nat}
theorem caught_gives (hN : Ng = (["action", "e", "found"] : List Str)) (hge : sg.names.lookup ("HourError" : Str) = some .globalImplicit) (hme : X.mg "HourError" = some (.ref (cl "HourError"))) (hel : sg.names.lookup ("e" : Str) = some .local)
    (hex : ∀ c ∈ errNames, PySem.W.exmOne X.K (.ref (cl c)) (.ref (cl "HourError")) = some true) (hnd : Ng.Nodup := by decide +kernel)
    (hsuite : ∀ (Z : Cx), Z.K = X.K → Z.mg = X.mg → Z.N = Ng → Z.env.scope = sg → Z.A.units = X.A.units + 3 → ∀ (a : Addr) (oe : Obj) (c : String) (d : Option Addr) (pn : List (Addr × Obj)), c ∈ errNames → Zc (.ref (cl c)) d oe → (∃ vs, oe.data = .fields vs) → PSsD cl E0 (Z.suite a ((a, oe) :: pn)) (b0 :: suite) (wSuiteX c d 1 2 a)) :
    GivesTo X Ng x sg g cdg [.Try [.Expr (.Call (.Name "action" p1) [] [] p2) p3] [.ExceptHandler (some (.Name "HourError" p4)) (some "e") (b0 :: suite) p5] [] [] p6, .Return (some (.Tuple [.Constant (.str (sk "none")) j p7] k p8)) p9] "action" q (TTc cl) := by
  subst hN
  intro f c' s H Q tl act hc h
  obtain ⟨Ech, htl, hcatch⟩ := h
  have hgl : Gl (cxOf C8.CX0 X.prog X.w X.K X.mg X.base ["action", "e", "found"] x sg g cdg X.A X.stack s H C8.E0).nox "HourError" := hge
  refine ⟨_, pss_cons (ps_try_as (X := (cxOf C8.CX0 X.prog X.w X.K X.mg X.base ["action", "e", "found"] x sg g cdg X.A X.stack s H C8.E0).nox) (i := 1) (c := .ref (cl "HourError"))
      (tb := fun W D σ H => ∃ Ec : XK, (∀ cls d σ' H', σ'.length = 3 → Ec cls d H' → W cls d σ' H') ∧ σ[0]? = some (some (.ref f)) ∧ H c' = some (CodeO c' q) ∧ tl Ec H (fun _ H1 => D.nx σ H1))
      (ts := fun a cls d D σ H => ∃ c ∈ errNames, cls = .ref (cl c) ∧ tsOf cl E0 (wSuiteX c d 1 2 a) D σ H)
      rfl rfl hnd rfl hel ⟨hgl, by decide, .inl hme⟩ L2.takes0 (fun W pn xe tk _ => ?_) (fun a oe cls d pn hz hf => ?_)) (pss_one (ps_ret (pe_tup (pa_cons pe_str pa_nil)))), ?_⟩
  · refine ⟨fun pins s' σ H' D I h' => ?_⟩
    obtain ⟨Ec, hW, h1, h2, h3⟩ := h'
    have tk2 : Takes ((cxOf C8.CX0 X.prog X.w X.K X.mg X.base ["action", "e", "found"] x sg g cdg X.A X.stack s H C8.E0).tr pn xe) (fun cls d _ H' => Ec cls d H') := takes_len (X := (cxOf C8.CX0 X.prog X.w X.K X.mg X.base ["action", "e", "found"] x sg g cdg X.A X.stack s H C8.E0).tr pn xe) tk fun c d σ H hl w => hW c d σ H hl w
    have hp := act _ pn xe Ec p1 p2 tk2 fun _ _ _ _ z => z
    have hq := pss_one (ps_expr (pos := p3) hp)
    exact hq.run pins s' σ H' D I ⟨h1, h2, h3⟩
  · refine ⟨fun pins s' σ H' D I h' => ?_⟩
    obtain ⟨c, hcm, rfl, h'⟩ := h'
    exact (hsuite (cxOf C8.CX0 X.prog X.w X.K X.mg X.base ["action", "e", "found"] x sg g cdg X.A X.stack s H C8.E0).nox rfl rfl rfl rfl rfl a oe c d pn hcm hz hf).run pins s' σ H' D I h'
  · refine ⟨Ech, fun cls d σ' H' hl he => ?_, rfl, hc, ?_⟩
    · obtain ⟨ex, μ, R, d0, cp, ⟨rc, rx⟩, hd0, r0, P⟩ := hcatch cls d H' he
      obtain ⟨t, hlk, hgt⟩ := caught_in hd0
      have hcm : ex.c ∈ errNames := lookup_mem hlk
      subst rc
      refine ⟨true, hex _ hcm, fun _ a ha => ⟨ex.c, hcm, rfl, ?_⟩, fun z => Bool.noConfusion z⟩
      -- the slots behind the store of e
      have slots : Paired (SlotO cl μ H') (σ'.set 1 (some (.ref a))) [none, some (.ref a), none] := by
        match σ', hl with
        | [a1, a2, a3], _ => exact .cons (by cases a1 <;> trivial) (.cons (Rep.leaf rfl) (.cons (by cases a3 <;> trivial) .nil))
      cases d with
      | none =>
        have hf0 : ex.fs = [] := by
          rcases rx with rx | ⟨dd, vs, e, _⟩
          · exact rx.1
          · cases e
        refine ⟨_, μ, { nx := fun _ _ => False, rt := fun dv μ2 => ∃ p, μ p = none ∧ dv = d0 ∧ μ2 = mup μ p (.lst [d0]) }, fun _ _ => False, ⟨cp, slots⟩, ?_, ⟨fun _ _ _ _ z => z.elim, ?_, fun _ _ _ _ z => z.elim, fun _ _ _ _ z => z.elim⟩, ExcOk.none⟩
        · intro p hp
          have e2 : ((mup μ p (.lst []))) p = some (.lst []) := mup_same
          exact suite_run (p := p) (dr := d0) (K := { nx := fun _ _ => False, rt := fun dv μ2 => ∃ p, μ p = none ∧ dv = d0 ∧ μ2 = mup μ p (.lst [d0]) }) (fs := ex.fs) rfl rfl e2 (fun dd e => by cases e) (fun _ => hf0) ⟨p, hp, rfl, by rw [mup_mup]⟩ (by decide) hlk hgt
        · rintro dv μ2 v H2 ⟨p, hp, rfl, rfl⟩ c2 e2 r2
          have l : MLe μ (mup μ p (.lst [dv])) := MLe.up hp
          exact P _ _ _ _ r0 (c2.less l) (e2.trans (Ext.less l)) (r2.ext (Ext.less l))
      | some dd =>
        rcases rx with ⟨_, rx⟩ | ⟨d', vs, e, hn, hx, rf⟩
        · cases rx
        · cases e
          have c1 : CplH cl (mup μ dd (.xd vs ex.fs)) H' := fun b m hb => by
            by_cases e : b = dd
            · subst e
              rw [mup_same] at hb; cases hb
              exact ⟨hx, Paired.mapP rf fun _ _ z => ⟨z.1, rep_live hx z.2⟩⟩
            · rw [mup_ne e] at hb
              exact cell_live hx hn (cp b m hb)
          refine ⟨[none, some (.ref a), none], mup μ dd (.xd vs ex.fs), { nx := fun _ _ => False, rt := fun dv μ2 => ∃ p, mup μ dd (.xd vs ex.fs) p = none ∧ dv = d0 ∧ μ2 = mup (mup μ dd (.xd vs ex.fs)) p (.lst [d0]) }, fun _ _ => False, ⟨c1, ?_⟩, ?_, ⟨fun _ _ _ _ z => z.elim, ?_, fun _ _ _ _ z => z.elim, fun _ _ _ _ z => z.elim⟩, ExcOk.none⟩
          · match σ', hl with
            | [a1, a2, a3], _ => exact .cons (by cases a1 <;> trivial) (.cons (Rep.leaf rfl) (.cons (by cases a3 <;> trivial) .nil))
          · intro p hp
            have e2 : (mup (mup μ dd (.xd vs ex.fs)) p (.lst [])) p = some (.lst []) := mup_same
            have ne : dd ≠ p := fun e => by rw [← e, mup_same] at hp; cases hp
            exact suite_run (p := p) (dr := d0) (K := { nx := fun _ _ => False, rt := fun dv μ2 => ∃ p, mup μ dd (.xd vs ex.fs) p = none ∧ dv = d0 ∧ μ2 = mup (mup μ dd (.xd vs ex.fs)) p (.lst [d0]) }) (fs := ex.fs) rfl rfl e2 (fun d2 e => by cases e; exact ⟨vs, by rw [mup_ne ne]; exact mup_same⟩) (fun z => by cases z) ⟨p, hp, rfl, by rw [mup_mup]⟩ (by decide) hlk hgt
          · rintro dv μ2 v H2 ⟨p, hp, rfl, rfl⟩ c2 e2 r2
            have ne : dd ≠ p := fun e => by rw [← e, mup_same] at hp; cases hp
            have l : MLe μ (mup (mup μ dd (.xd vs ex.fs)) p (.lst [dv])) := (MLe.up hn).trans (MLe.up hp)
            have hx2 : H2 dd = some (.xd vs) := (c2 dd (.xd vs ex.fs) (by rw [mup_ne ne]; exact mup_same)).1
            refine P _ _ _ _ r0 (c2.less l) (fun b o t m hb => ?_) (r2.ext (Ext.less l))
            by_cases e : b = dd
            · subst e
              rw [hx] at hb; cases hb
              exact ⟨.inl hx2, m⟩
            · exact ⟨(e2 b o t (by rw [mup_ne e]; exact m) hb).1, m⟩
    · exact htl
end
end LF

/-! LFE: caught(lambda: body). -/
namespace LF
open PySem PySem.Spec L2 LamX

def TabsIn (T : List (Addr × Str)) (μ : MH) : Prop := ∀ a q, μ a = some (.tab q) ↔ (a, q) ∈ T
def wCaught (T : List (Addr × Str)) (fb : WE) : WE := fun δ μ R _ => TabsIn T μ ∧ fb δ μ (fun _ μ' => R (.tup [.str (sk "none")]) μ') (fun ex μ' => ∃ d, caughtD ex = some d ∧ R d μ')
theorem codeO_tbl {c : Addr} {q : Str} {ps : Array Value} : CodeO c q ≠ .tbl ps := codeO_ne ps
section
variable {cl : String → Addr} {μ : MH} {H H1 : Hp} {T : List (Addr × Str)}
theorem tabs_of (c : CplH cl μ H) (hT : TabsIn T μ) : Tabs T H := fun p hp => by
  obtain ⟨ps, h1, h2, h3⟩ := c p.1 _ ((hT p.1 p.2).mpr hp)
  refine ⟨ps, h1, h2, fun pos cv hc => ?_⟩
  obtain ⟨cc, e1, e2, _⟩ := h3 pos cv hc
  exact ⟨cc, e1, e2⟩
theorem cell_nt {a : Addr} {m : MO} (h : Cell cl μ H a m) : (∃ q, m = .tab q) ∨ ∃ o, H a = some o ∧ nt o ∧ ∀ c q, o ≠ CodeO c q := by
  cases m with
  | lst ds => obtain ⟨vs, h, r⟩ := h; exact .inr ⟨_, h, trivial, fun _ _ e => by cases e⟩
  | dK ds => obtain ⟨vs, h, r⟩ := h; exact .inr ⟨_, h, trivial, fun _ _ e => by cases e⟩
  | dT ds => obtain ⟨vs, h, r⟩ := h; exact .inr ⟨_, h, trivial, fun _ _ e => by cases e⟩
  | ins c fs => obtain ⟨dx, vs, h, r⟩ := h; exact .inr ⟨_, h, trivial, fun _ _ e => by cases e⟩
  | pen => obtain ⟨ns, n, d, k, f, q, vs, h, _⟩ := h; exact .inr ⟨_, h, trivial, fun _ _ e => by cases e⟩
  | xd vs fs => exact .inr ⟨_, h.1, trivial, fun _ _ e => by cases e⟩
  | tab q => exact .inl ⟨q, rfl⟩
theorem nt_of {o : HO} (h : nt o) : ∀ ps, o ≠ .tbl ps := fun ps e => by subst e; exact h
theorem lam_ext (c : CplH cl μ H) (hT : TabsIn T μ) (e : ExtN H H1) (t : Tabs T H1) : Ext μ H μ H1 ∧ CplH cl μ H1 := by
  have e1 : Ext μ H μ H1 := fun b o n m h => ⟨.inl (e b o h (nt_of n)), m⟩
  refine ⟨e1, fun a m hm => ?_⟩
  have hc := c a m hm
  rcases cell_nt hc with ⟨q, rfl⟩ | ⟨o, ho, n, _⟩
  · obtain ⟨ps, h1, h2, h3⟩ := t _ ((hT a q).mp hm)
    refine ⟨ps, h1, h2, fun pos cv hcv => ?_⟩
    obtain ⟨cc, e2, e3⟩ := h3 pos cv hcv
    refine ⟨cc, e2, e3, ?_⟩
    cases hk : μ cc with
    | none => rfl
    | some k =>
      rcases cell_nt (c cc k hk) with ⟨q', rfl⟩ | ⟨o, ho, n, no⟩
      · obtain ⟨ps', h4, _⟩ := t _ ((hT cc q').mp hk)
        rw [h4] at e3
        exact absurd (Option.some.inj e3).symm (codeO_ne ps')
      · have h5 := e cc o ho (nt_of n)
        rw [h5] at e3
        exact absurd (Option.some.inj e3) (no _ _)
  · exact hc.ext e1 ((e a o ho (nt_of n)).trans ho.symm)
theorem lam_passes {X : Cx} {A : Around} {outer : List PySem.Env} {s : Shared} {H : Hp} {E : XK} {scope : Scope} {f c' : Addr} : Passes (L2.CX X.prog X.w) (lamCx X A outer s H E scope f c') E :=
  passes_call (X := lamCx X A outer s H E scope f c') (takes_of (X := lamCx X A outer s H E scope f c') rfl rfl rfl rfl) fun _ _ _ _ h => h
variable {X : Cx} {E : XK}
theorem pd_caught {x : Str} {g c P : Addr} {k : Nat} {pg : Arguments} {bg : List Stmt} {sg : Scope} {dV kV doc pm cdv ct oc : Value} {an od : Option Addr} {osl : Array (Option Value)} {Ng : List Str}
    {params : Arguments} {body : Expr} {scope : Scope} {fb : WE} {p lpos pos : Pos} (hg : Gl X x) (hm : X.mg x = some (.ref g)) (hk : PySem.W.keepIn X.K (.ref g) = true)
    (lk : X.K.lookup g = some ⟨oc, od, .func (PySem.W.fnOf x x pg bg sg dV kV doc pm an cdv ct), osl⟩) (hcg : PySem.W.codeIn X.K cdv x = true) (hb : L2.Binds X.K (PySem.W.fnOf x x pg bg sg dV kV doc pm an cdv ct) ["action"] []) (Sg : FnScope Ng ["action"] sg) (hNg : Ng[0]? = some ("action" : Str)) (hva : Vis sg "action")
    (hG : GivesTo X Ng x sg g cdv bg "action" (X.env.qual ++ "<lambda>") (TTc cl))
    (TB : TabB X.base X.mg c P) (hcode : X.env.code = .ref c) (hmT : (P, X.env.qual ++ "<lambda>") ∈ T) (hu : ∀ p ∈ T, p.1 = P → p.2 = X.env.qual ++ "<lambda>") (hr : Room (k + 2) X.A) (L : LamS X.env.scope scope) (hdef : defaultsOf params X.env = ([], []))
    (hbind : ∀ (q : Str) (cl : List (Str × Addr)) (pm cv ctv : Value), bindArgs (PySem.W.kla_fn "<lambda>" q params body scope cl pm cv ctv) ⟨[], []⟩ = pure [])
    (hbody : ∀ (A : Around) (outer : List PySem.Env) (s : Shared) (H : Hp) (E : XK) (f c' : Addr), Room k (A.deeper (lamEnv X scope s.heap.objs.size f c')) → PD cl E (lamCx X A outer s H E scope f c') body fb)
    (hdb : (x == ("__debug__" : Str)) = false := by decide) :
    PD cl E X (.Call (.Name x p) [.Lambda params body scope lpos] [] pos) (wCaught T fb) := by
  refine pe_imp (pe_lamcall (t := fun E => tOf cl E fb) hg hm hk lk hcg hb Sg hNg hva hG TB hcode hmT hu hr L hdef hbind hbody hdb) fun σ H Q ⟨δ, μ, R, RE, ok, ⟨hT, f⟩, P, xx⟩ => ?_
  refine ⟨tabs_of ok.cpl hT, fun H1 eN t1 => ?_⟩
  obtain ⟨e1, c1⟩ := lam_ext ok.cpl hT eN t1
  refine ⟨fun cls d H' => ∃ ex μ', (∃ d, caughtD ex = some d ∧ R d μ') ∧ CplH cl μ' H' ∧ Ext μ H1 μ' H' ∧ RepX cl μ' H' ex cls d, ?_, ?_⟩
  · refine ⟨δ, μ, _, _, ok.ext e1 c1, f, fun d μ' v H' r c' e' rp => ?_, fun ex μ' cls dd H' h c' e' rx => ⟨ex, μ', h, c', e', rx⟩⟩
    refine ⟨by decide, fun q hq => ?_⟩
    exact P _ _ _ _ r (c'.new hq) ((e1.trans e').trans (Ext.new hq)) (Rep.tup_iff.mpr ⟨q, _, rfl, c'.fresh hq, upd_same, .cons (Rep.leaf rfl) .nil⟩)
  · rintro cls d H' ⟨ex, μ', ⟨dr, hd, r⟩, c', e', rx⟩
    exact ⟨ex, μ', R, dr, c', rx, hd, r, P.ext (e1.trans e')⟩
end
end LF

/-! LFG: == and != by own methods. -/
namespace LF
open PySem PySem.Spec L2

def gOwn (c : String) (cs : List String) (S : Sc) : G2 := fun x y μ R => match fldsOf μ x with
  | some (c', _) => c' = c ∧ (match tyN μ y with
      | some (.inl _) => True
      | some (.inr c2) => c2 ∈ cs
      | none => False) ∧ S [x, y] μ (fun d μ' => (∃ b, d = .bl b) ∧ R d μ') (fun _ _ => False)
  | none => False
structure CmpF (K : PySem.W.Frag) (cl : String → Addr) (c : String) (cs : List String) (m : Str) (f : Addr) : Prop where
  fi : PySem.W.findIn K (.ref (cl c)) m = some (some (.ref f))
  fn : PySem.W.isFn K (.ref f) = true
  nb : ∀ T ∈ btys, PySem.W.notFirst K (cl c) (.type T) = true
  nc : ∀ c' ∈ cs, ClsT K (cl c') ∧ PySem.W.notFirst K (cl c) (.ref (cl c')) = true
section
variable {cl : String → Addr} {X : Cx}
theorem rich_own {op : CmpOp} {c : String} {cs : List String} {S : Sc} {f : Addr} {fd : FuncData} {ps : List Str} {k : Nat} (F : CmpF X.K cl c cs (cmpInfo op).2.1 f) (Fn : FnOk X.prog X.w X.K X.mg X.base (L2.CX X.prog X.w) k f fd ps (spOf cl 2 S)) (hb : Binds X.K fd ps []) (hr : Room k X.A)
    {pins : List (Addr × Obj)} {s : Shared} {σ : St} {H : Hp} {x y : V} {v u : Value} {Q : VK} (I : L2.Inv X pins σ H s) (rx : RelV x v) (ry : RelV y u) (h : rOf cl (gOwn c cs S) x y H Q) :
    wpAny (model X.prog X.w) X.A (richCompare op v u) (EP X pins σ Q) X.xe s := by
  obtain ⟨dx, dy, μ, R, cp, r1, r2, g, P⟩ := h
  unfold gOwn at g
  split at g
  · rename_i c' fs hfl
    obtain ⟨rfl, ht, g⟩ := g
    obtain ⟨a, dx', vs, rfl, h1, h2⟩ := fldsOf_rep cp r1 hfl
    cases rx
    obtain ⟨mA, J, _⟩ := ins_get I.hok h1
    obtain ⟨od, J, _⟩ := J.look
    obtain ⟨m, hF⟩ := I.fr
    have ty : ∃ t, TyX X.K H y t ∧ PySem.W.notFirst X.K (cl c') t = true := by
      cases q : tyN μ dy with
      | none => rw [q] at ht; exact ht.elim
      | some z =>
        cases z with
        | inl T =>
          obtain ⟨hT, t⟩ := tyN_bt (K := X.K) cp r2 q
          exact ⟨_, t, F.nb T hT⟩
        | inr c2 =>
          rw [q] at ht
          obtain ⟨k1, k2⟩ := F.nc c2 ht
          exact ⟨_, tyN_own cp r2 q k1, k2⟩
    obtain ⟨t, ty, nf⟩ := ty
    obtain ⟨Pz, Z, hp, _⟩ := kit_of I ry ty
    refine PySem.W.cmp_K hr.units0 hF I.ok.mod.kin J (Z.ty _ _ I.kIn hp) nf F.fi F.fn ?_
    have hsp : spOf cl 2 S [.ref a, y] H (fun v H' => ∃ b, v = .bl b ∧ Q v H') E0 := by
      refine ⟨rfl, [dx, dy], μ, _, _, cp, .cons r1 (.cons r2 .nil), g, fun d μ' v H' hd c' e' r' => ?_, ExcOk.none⟩
      obtain ⟨⟨b, rfl⟩, hR⟩ := hd
      exact ⟨b, Rep.bl_iff.mp r', P _ _ _ _ hR c' e' r'⟩
    refine wpAny_mono (run_fn (Q := fun v H' => ∃ b, v = .bl b ∧ Q v H') (dvs := []) (vs := [.ref a, y]) Fn hr hb .nil (passL (X := X)) I (.cons rfl (.cons ry .nil)) hsp) (fun w s' hq => ?_) fun _ _ z => z
    obtain ⟨z, H', I', rz, b, rfl, q⟩ := hq
    cases rz
    exact ⟨.bl b, H', I', rfl, q⟩
  · exact g.elim
theorem od_eqOwn {c : String} {cs : List String} {S : Sc} {f : Addr} {fd : FuncData} {ps : List Str} {k : Nat} (F : CmpF X.K cl c cs "__eq__" f) (Fn : FnOk X.prog X.w X.K X.mg X.base (L2.CX X.prog X.w) k f fd ps (spOf cl 2 S)) (hb : Binds X.K fd ps []) (hr : Room k X.A) : OpD cl X (compareOp .Eq) (gOwn c cs S) :=
  fun pins s σ H x y v u Q I rx ry h => rich_own (op := .Eq) F Fn hb hr I rx ry h
theorem od_neOwn {c : String} {cs : List String} {S : Sc} {f : Addr} {fd : FuncData} {ps : List Str} {k : Nat} (F : CmpF X.K cl c cs "__ne__" f) (Fn : FnOk X.prog X.w X.K X.mg X.base (L2.CX X.prog X.w) k f fd ps (spOf cl 2 S)) (hb : Binds X.K fd ps []) (hr : Room k X.A) : OpD cl X (compareOp .NotEq) (gOwn c cs S) :=
  fun pins s σ H x y v u Q I rx ry h => rich_own (op := .NotEq) F Fn hb hr I rx ry h
end
end LF

/-! LFP: the script, dict displays -/
namespace LF
open PySem PySem.Spec L2
section
variable {cl : String → Addr} {E : XK} {X : Cx} {μ μ' : MH} {H H' : Hp}
theorem scr_sq {K : PySem.W.Frag} {a : Addr} {ns : List Int} {v : V} (r : Rep cl μ H (.scr K a ns) v) : v = .ref a ∧ SqL K H a (ns.map V.int) := by
  obtain ⟨h1, h2⟩ := Rep.scr_iff.mp r
  exact ⟨h1, h2.elim (fun z => .inl z.2) sq_any⟩
theorem intsR : ∀ (ns : List Int), RepL cl μ H (ns.map D.int) (ns.map V.int)
  | [] => .nil
  | n :: ns => .cons (Rep.leaf rfl) (intsR ns)
/-- list(script) -/
def gListS (K : PySem.W.Frag) : GN := fun ds μ R => ∃ a ns, ds = [.scr K a ns] ∧ R (.lst (ns.map D.int)) μ
theorem cd_listS : CallD cl X (.type "list") (gListS X.K) := by
  rintro pins s σ H xs us Q I r ⟨ds, μ, R, c, rr, ⟨a, ns, rfl, g⟩, P⟩
  obtain ⟨v, rfl, r1⟩ := one_rep rr
  obtain ⟨rfl, sq⟩ := scr_sq r1
  refine call_list_of pins s σ H _ us Q I r ⟨a, _, rfl, .inl sq, fun p hp => ?_⟩
  exact P.newp c hp g (Rep.lst_iff.mpr ⟨p, _, rfl, c.fresh hp, upd_same, intsR ns⟩)
/-- for cell in script -/
def wItS (K : PySem.W.Frag) (fe : WE) : WI := fun δ μ R RE => fe δ μ (fun d μ1 => ∃ a ns, d = .scr K a ns ∧ R ⟨ns.map D.int, none⟩ μ1) RE
theorem src_scr {K : PySem.W.Frag} {a : Addr} {ns : List Int} {v : V} (r : Rep cl μ H (.scr K a ns) v) : SrcOk cl μ H ⟨ns.map D.int, none⟩ (Itl K a) := by
  have sq : ∀ {μ' : MH} {H' : Hp}, Ext μ H μ' H' → SqL K H' a (ns.map V.int) := fun e => (scr_sq (r.ext e)).2
  refine ⟨fun μ1 H1 i e c st hi => ?_, fun μ1 H1 i x H2 e c st hi y => ?_, fun μ1 H1 i e c st hi => ?_⟩
  · obtain ⟨y, hy⟩ := upto_get (intsR (cl := cl) (μ := μ1) (H := H1) ns) hi
    exact ⟨_, y, sq e, hy⟩
  · obtain ⟨rfl, y⟩ := y
    obtain ⟨d, hd, rd⟩ := pget2 (intsR (cl := cl) (μ := μ1) ns) i x (y _ (sq e))
    exact ⟨d, hd, rd, Ext.refl _ _, c⟩
  · exact ⟨_, sq e, by simpa using hi⟩
theorem pid_scr {tg l : Expr} {fl : WE} (hl : PD cl E X l fl) : PID cl E X tg l (wItS X.K fl) := by
  refine pi_imp (pi_seq hl) fun σ H RI ⟨δ, μ, R, RE, ok, f, P, x⟩ => ?_
  refine tOf_run ok f x fun d μ1 v H1 f1 c1 e1 r1 => ?_
  obtain ⟨a, ns, rfl, f1⟩ := f1
  obtain ⟨rfl, sq⟩ := scr_sq r1
  exact ⟨a, rfl, .inl ⟨⟨_, sq⟩, P _ _ _ _ f1 c1 e1 (src_scr r1)⟩⟩

/-! ### dict displays -/
def mergeD (kvs more : List (Key × D)) : List (Key × D) := more.foldl (fun acc kv => putKD acc kv.1 kv.2) kvs
theorem merge_rep {more : List (Key × D)} {ms : List (Key × V)} (r : RepK cl μ H more ms) : ∀ {kvs : List (Key × D)} {vs : List (Key × V)}, RepK cl μ H kvs vs → RepK cl μ H (mergeD kvs more) (mergeK vs ms) := by
  induction r with
  | nil => exact fun h => h
  | @cons p q ps qs r t ih =>
    intro kvs vs h
    have e : RepK cl μ H (putKD kvs p.1 p.2) (putK vs q.1 q.2) := by
      have := putK_rep (k := p.1) r.2 h
      rw [← r.1]; exact this
    exact ih e
def wPairs : List (Str × WE) → LF.Env → MH → (List (Key × D) → MH → Prop) → EPost → Prop
  | [], _, μ, R, _ => R [] μ
  | (k, f) :: r, δ, μ, R, RE => f δ μ (fun d μ1 => wPairs r δ μ1 (fun kvs μ2 => R ((Sum.inr k, d) :: kvs) μ2) RE) RE
/-- {'k': v, ..}, a live dict -/
def wDisp (fs : List (Str × WE)) : WE := fun δ μ R RE => ∀ p, μ p = none → wPairs fs δ (mup μ p (.dK [])) (fun kvs μ2 => μ2 p = some (.dK []) ∧ R (.ref p) (mup μ2 p (.dK (mergeD [] kvs)))) RE
/-- a display's pairs -/
structure PPD (cl : String → Addr) (E : XK) (X : Cx) (pos : Pos) (keys : List (Option Expr)) (values : List Expr) (fs : List (Str × WE)) : Prop where
  ex : ∃ trs, PPs X pos keys values trs ∧ keys.length = fs.length ∧ values.length = fs.length ∧ keys.all (·.isSome) = true ∧ ∀ δ μ σ H R RE Q, Ok cl δ μ σ H → wPairs fs δ μ R RE →
    (∀ kvs μ' vs H', kvs.length = fs.length → R kvs μ' → CplH cl μ' H' → Ext μ H μ' H' → RepK cl μ' H' kvs vs → Q (vs.map fun kv => (kV kv.1, kv.2)) H') → ExcOk cl μ H RE E → tPairs trs σ H Q
theorem ppd_nil {pos : Pos} : PPD cl E X pos [] [] [] := ⟨[], pps_nil, rfl, rfl, rfl, fun δ μ σ H R RE Q ok f P x => P [] μ [] H rfl f ok.cpl (Ext.refl _ _) .nil⟩
theorem ppd_cons {pos : Pos} {k : Str} {kp : Pos} {kd : Nat} {v : Expr} {ks : List (Option Expr)} {vs : List Expr} {fv : WE} {fs : List (Str × WE)} (hv : PD cl E X v fv) (h : PPD cl E X pos ks vs fs) :
    PPD cl E X pos (some (.Constant (.str k) kd kp) :: ks) (v :: vs) ((k, fv) :: fs) := by
  obtain ⟨trs, h1, h2, h3, h4, h5⟩ := h.ex
  refine ⟨(tC (.str k), tOf cl E fv) :: trs, pps_cons pe_str hv h1, by rw [List.length_cons, List.length_cons, h2], by rw [List.length_cons, List.length_cons, h3], by simpa using h4, fun δ μ σ H R RE Q ok f P x => ?_⟩
  refine ⟨δ, μ, _, RE, ok, f, ?_, x⟩
  intro d μ1 v1 H1 f1 c1 e1 r1
  refine h5 δ μ1 σ H1 _ RE _ (ok.ext e1 c1) f1 (fun kvs μ' ws H' l q c e r => ?_) (x.ext e1)
  exact P _ μ' ((Sum.inr k, v1) :: ws) H' (by rw [List.length_cons, List.length_cons, l]) q c (e1.trans e) (.cons ⟨rfl, r1.ext e⟩ r)
theorem pd_disp {pos : Pos} {keys : List (Option Expr)} {values : List Expr} {fs : List (Str × WE)} (h : PPD cl E X pos keys values fs) (h0 : keys ≠ []) (h15 : keys.length ≤ 15) : PD cl E X (.Dict keys values pos) (wDisp fs) := by
  obtain ⟨trs, h1, h2, h3, h4, h5⟩ := h.ex
  refine pe_imp (pe_disp h1 h4 (by rw [h2, h3]) h0 h15) fun σ H Q ⟨δ, μ, R, RE, ok, f, P, x⟩ => ?_
  intro p hp
  have hm := ok.cpl.fresh hp
  have E1 : Ext μ H (mup μ p (.dK [])) (upd H p (.dK [])) := Ext.newM hp
  have C1 : CplH cl (mup μ p (.dK [])) (upd H p (.dK [])) := ok.cpl.newM hp ⟨[], upd_same, .nil⟩
  refine h5 δ _ σ _ _ RE _ (ok.ext E1 C1) (f p hm) (fun kvs μ' vs H' l ⟨q1, q2⟩ c e r => ?_) (x.ext E1)
  obtain ⟨ws, w1, w2⟩ := c p _ q1
  cases w2
  refine ⟨w1, vs, rfl, by rw [← r.length, l, ← h2]; exact h15, ?_⟩
  have E2 : Ext μ' H' (mup μ' p (.dK (mergeD [] kvs))) (upd H' p (.dK (mergeK [] vs))) := Ext.write q1
  exact P _ _ _ _ q2 (c.write q1 ⟨_, upd_same, merge_rep (RepK.ext r E2) .nil⟩) ((E1.trans e).trans E2) (Rep.leaf rfl)
end
end LF

/-! LFR: repr of plain data; defs that need an empty guard; the law's end -/
namespace LF
open PySem PySem.Spec L2
/-- signs of a repr, at most -/
def strSm (x : Str) : Bool := x.cps.toList.all fun c => decide (c < 16 ^ 8)
mutual
def rcost : PyData → Nat
  | .none => 4
  | .bool _ => 5
  | .int _ => 1921
  | .str x => 10 * x.length + 2
  | .list xs => rcostAll xs + 3
  | .tuple xs => rcostAll xs + 3
  | .dict _ => 0
def rcostAll : List PyData → Nat
  | [] => 0
  | x :: xs => (rcost x + 2) + rcostAll xs
end
mutual
/-- may be shown, nested at most n deep -/
def rok : Nat → PyData → Bool
  | _, .none => true
  | _, .bool _ => true
  | _, .int i => decide (i.natAbs.log2 < 1920)
  | _, .str x => strSm x
  | 0, .list _ => false
  | 0, .tuple _ => false
  | n + 1, .list xs => rokAll n xs
  | n + 1, .tuple xs => rokAll n xs
  | _, .dict _ => false
def rokAll : Nat → List PyData → Bool
  | _, [] => true
  | n, x :: xs => rok n x && rokAll n xs
end
mutual
theorem rok_show : ∀ (n : Nat) (d : PyData), rok n d = true → d.showable = true ∧ d.hasDict = false ∧ d.depth ≤ n ∧ d.shown.length ≤ rcost d
  | n, .none, h => ⟨rfl, rfl, Nat.zero_le _, by show (Str.length _) ≤ 4; decide⟩
  | n, .bool b, h => ⟨rfl, rfl, Nat.zero_le _, by cases b <;> (show (Str.length _) ≤ 5; decide)⟩
  | n, .int i, h => by
    have h' : i.natAbs.log2 < 1920 := of_decide_eq_true (by cases n <;> simpa [rok] using h)
    refine ⟨decide_eq_true h', rfl, Nat.zero_le _, ?_⟩
    have := int_text_length_le (by decide : 0 < 1920) h'
    show (Str.ofString (toString i)).length ≤ 1921
    exact Nat.le_trans (Nat.le_of_eq (ofString_length _)) this
  | n, .str x, h => by
    have h' : strSm x = true := by cases n <;> simpa [rok] using h
    refine ⟨rfl, rfl, Nat.zero_le _, ?_⟩
    exact StrLaws.reprText_len x fun c hc => of_decide_eq_true (List.all_eq_true.mp h' c hc)
  | 0, .list _, h => by simp [rok] at h
  | 0, .tuple _, h => by simp [rok] at h
  | n + 1, .list xs, h => by
    obtain ⟨h1, h2, h3, h4⟩ := rok_all n xs (by simpa [rok] using h)
    refine ⟨h1, h2, Nat.succ_le_succ h3, ?_⟩
    have := listText_len_le (PyData.shownAll xs)
    show (listText (PyData.shownAll xs)).length ≤ rcostAll xs + 3
    omega
  | n + 1, .tuple xs, h => by
    obtain ⟨h1, h2, h3, h4⟩ := rok_all n xs (by simpa [rok] using h)
    refine ⟨h1, h2, Nat.succ_le_succ h3, ?_⟩
    have := tupleText_len_le (PyData.shownAll xs)
    show (tupleText (PyData.shownAll xs)).length ≤ rcostAll xs + 3
    omega
  | n, .dict _, h => by cases n <;> simp [rok] at h
theorem rok_all : ∀ (n : Nat) (ds : List PyData), rokAll n ds = true → PyData.showableAll ds = true ∧ PyData.hasDictAll ds = false ∧ PyData.depthAll ds ≤ n ∧ ((PyData.shownAll ds).map (·.length)).sum + 2 * (PyData.shownAll ds).length ≤ rcostAll ds
  | n, [], _ => ⟨rfl, rfl, Nat.zero_le _, Nat.le_refl _⟩
  | n, x :: xs, h => by
    have h' : rok n x = true ∧ rokAll n xs = true := by simpa [rokAll] using h
    obtain ⟨a1, a2, a3, a4⟩ := rok_show n x h'.1
    obtain ⟨b1, b2, b3, b4⟩ := rok_all n xs h'.2
    refine ⟨by simp [PyData.showableAll, a1, b1], by simp [PyData.hasDictAll, a2, b2], by show max _ _ ≤ n; omega, ?_⟩
    show ((x.shown :: PyData.shownAll xs).map (·.length)).sum + 2 * (x.shown :: PyData.shownAll xs).length ≤ (rcost x + 2) + rcostAll xs
    simp only [List.map_cons, List.sum_cons, List.length_cons]
    omega
end
/-- repr of a list or a tuple -/
def gRepr : GN := fun ds μ R => match ds with
  | [d] => match pyM μ d with
    | some p => isDisp p = true ∧ rok 30 p = true ∧ rcost p ≤ sizeLine ∧ R (.str p.shown) μ
    | none => False
  | _ => False
where isDisp : PyData → Bool
  | .list _ => true
  | .tuple _ => true
  | _ => false
section
variable {cl : String → Addr} {E : XK} {X : Cx} {μ μ' : MH} {H H' : Hp}
theorem cd_repr (hg : X.A.guards = some []) (hu : X.A.units + 64 < cLine) : CallD cl X (.builtin "repr") gRepr := by
  rintro pins s σ H xs us Q I r ⟨ds, μ, R, c, rr, g, P⟩
  unfold gRepr at g
  split at g
  · obtain ⟨v, rfl, r1⟩ := one_rep rr
    split at g
    · rename_i p hp
      obtain ⟨g1, g2, g3, g4⟩ := g
      have dp : Dp X.K H v p := pyM_dp c r1 hp
      cases r with
      | @cons _ u _ us' rv t =>
        cases t
        obtain ⟨as, rd⟩ := Dp.reads I p v u dp rv
        obtain ⟨h1, h2, h3, h4⟩ := rok_show 30 p g2
        have fin : ∀ a, u = .ref a → wpAny (model X.prog X.w) X.A (call (.builtin "repr") [u]) (EP X pins σ Q) X.xe s := fun a e => by
          subst e
          refine repr_of_reads' rd h1 (PyData.noDict_hsm h2) hg (by omega) (fun _ _ e => e) (fun h' u tk hk => ?_) (Nat.le_trans h4 g3)
          exact ⟨.str p.shown, H, I.kept hk, ⟨u, rfl⟩, P.fin c g4 (Rep.leaf rfl)⟩
        cases p with
        | list _ => cases dp; obtain rfl := rv; exact fin _ rfl
        | tuple _ => cases dp; obtain rfl := rv; exact fin _ rfl
        | none => cases g1
        | bool _ => cases g1
        | int _ => cases g1
        | str _ => cases g1
        | dict _ => cases g1
    · exact g.elim
  · exact g.elim
end
end LF

/-! LFS: defs that need an empty guard; the law's end -/
namespace LF
open PySem PySem.Spec L2 LamX
/-- a def's promise where nothing is shown around it -/
structure FnG (P : Program) (w : World) (K : PySem.W.Frag) (mg : Str → Option Value) (base : Heap) (k : Nat) (f : Addr) (fd : FuncData) (ps : List Str) (sp : Sp) : Prop where
  go : ∀ (A : Around) (fr : List PySem.Env) (s : Shared) (H : Hp) (args : Args) (us : List Value) (vs : List V) (Q : VK) (E : XK), A.guards = some [] → Room k A → Env0 P w K mg base A fr s H →
    BindsTo s fd args (ps.zip us) → Vals vs us → sp vs H Q E → codeAny (model P w) A (.call (.ref f) args) (CR (L2.CX P w) fr P w H s Q E) s
theorem FnOk.toG {P : Program} {w : World} {K : PySem.W.Frag} {mg : Str → Option Value} {base : Heap} {k : Nat} {f : Addr} {fd : FuncData} {ps : List Str} {sp : Sp} (F : FnOk P w K mg base (L2.CX P w) k f fd ps sp) :
    FnG P w K mg base k f fd ps sp := ⟨fun A fr s H args us vs Q E _ hr e0 hb r q => F.run A fr s H args us vs Q E hr e0 hb r q⟩
section
variable {cl : String → Addr} {P : Program} {w : World} {K : PySem.W.Frag} {mg : Str → Option Value} {base : Heap}
theorem fd_okG {x qual : Str} {st : Stmt} {f : Addr} {fd : FuncData} {N ps : List Str} {k : Nat} {S : Sc} {fb : WS} (F : Fun K x qual st f fd) (Sc : FnScope N ps (defScope st))
    (hb : ∀ (cdv : Value) (A : Around) (outer : List PySem.Env) (s : Shared) (H : Hp) (E : XK), A.guards = some [] → (∃ oc od osl, K.lookup f = some ⟨oc, od, .func fd, osl⟩ ∧ fd.code = cdv) → Room k (A.deeper (PyProof.Rows.envOfC qual (defScope st) s.heap.objs.size f cdv)) → PSsD cl E (cxOf (L2.CX P w) P w K mg base N qual (defScope st) f cdv A outer s H E) (defBody st) fb)
    (hS : ∀ ds μ R RE, ds.length = ps.length → S ds μ R RE → fb (startD N.length ds) μ (EndsF R) (RetX RE)) : FnG P w K mg base (k + 1) f fd ps (spOf cl ps.length S) := by
  obtain ⟨oc, od, kV, doc, pm, an, cdv, ct, osl, rfl, lk, hcd⟩ := F.ex
  refine ⟨fun A fr s H args us vs Q E hg hr e0 hbind r h => ?_⟩
  obtain ⟨hl, ds, μ, R, RE, c, rr, q, PO, xx⟩ := h
  refine run_ofS lk hcd Sc hr e0 hbind r hl fun hrm => ?_
  refine ⟨_, hb cdv A fr s H E hg ⟨oc, od, osl, lk, rfl⟩ hrm, startD N.length ds, μ, EndsF R, RetX RE, ⟨c, ?_⟩, hS ds μ R RE (by rw [rr.length]; exact hl) q, ⟨?_, ?_, ?_, ?_⟩, ?_⟩
  · have e : ds.length = vs.length := rr.length
    show Paired _ (vs.map some ++ List.replicate (N.length - vs.length) none) (ds.map some ++ List.replicate (N.length - ds.length) none)
    rw [e]
    exact papp (slot_some rr) (slot_none _)
  · rintro δ' μ' σ' H' ⟨μ2, d', ⟨l, z⟩, k⟩ o e
    exact PO _ _ _ _ k (o.cpl.less l) (e.trans (Ext.less l)) (z cl H' _ o.cpl (Rep.leaf rfl))
  · rintro d μ' v H' ⟨μ2, d', ⟨l, z⟩, k⟩ c' e p
    exact PO _ _ _ _ k (c'.less l) (e.trans (Ext.less l)) (z cl H' _ c' p)
  · exact fun _ _ _ _ k => k.elim
  · exact fun _ _ _ _ k => k.elim
  · rintro ex μ' c' dd H' ⟨μ2, l, k⟩ cp e rx
    refine xx ex μ2 c' dd H' k (cp.less l) (e.trans (Ext.less l)) ⟨rx.1, rx.2.imp id fun ⟨d, vs, h1, hn, h2, h3⟩ => ⟨d, vs, h1, l.none hn, h2, RepF.ext h3 (Ext.less l)⟩⟩
end
/-- the tables of code objects at a law's start -/
def tabM (T : List (Addr × Str)) : MH := fun b => (T.find? fun p => decide (p.1 = b)).map fun p => .tab p.2
/-- what the law is asked -/
def lawSc (K : PySem.W.Frag) (T : List (Addr × Str)) (n : Nat) : Sc := fun ds μ R _ => ∃ a ns, ds = [.scr K a ns] ∧ μ = tabM T ∧ ns.length ≤ n ∧ (∀ z ∈ ns, Builtin.Int.intBits z ≤ 1048576) ∧ ∀ μ', R (.bl true) μ'
/-- the tracked objects at a law's start -/
def hp0 (K : PySem.W.Frag) (T : List (Addr × Str)) (a : Addr) (us : List Value) (ns : List Int) : Hp := fun b =>
  if (T.find? fun p => decide (p.1 = b)).isSome then some (.tbl #[]) else if b = a ∧ K.lookup a = none then some (.frz { cls := .type "list", data := .seq us.toArray } (.lst (ns.map V.int))) else none
/-- a law's def, with what the end wants of it -/
def LawG (P : Program) (w : World) (K : PySem.W.Frag) (k n : Nat) (x : Str) (mg : Str → Option Value) (fa : Addr) (h : Heap) : Prop :=
  ∃ (cl : String → Addr) (fd : FuncData) (T : List (Addr × Addr × Str)), (∀ p ∈ T, h.get? p.2.1 = some { cls := .none, data := .fields #[] }) ∧ (∀ p ∈ T, K.lookup p.2.1 = none) ∧ (∀ p ∈ T, PySem.W.CodeHd h p.1 p.2.1) ∧
    (∀ (s : Shared) (u : Value), BindsTo s fd ⟨[u], []⟩ [(x, u)]) ∧ ∀ base : Heap, K.In base → base.Ns mainGlobals mg → (∀ p ∈ T, TabB base mg p.1 p.2.1) → FnG P w K mg base k fa fd [x] (spOf cl 1 (lawSc K (T.map fun p => (p.2.1, p.2.2)) n))
section
variable {K : PySem.W.Frag} {T : List (Addr × Str)} {a b : Addr} {us : List Value} {ns : List Int}
theorem find_mem {p : Addr × Str} (h : p ∈ T) : (T.find? fun q => decide (q.1 = p.1)).isSome = true := by
  rw [List.find?_isSome]
  exact ⟨p, h, decide_eq_true rfl⟩
theorem mem_find (h : (T.find? fun p => decide (p.1 = b)).isSome = true) : ∃ p ∈ T, p.1 = b := by
  rw [List.find?_isSome] at h
  obtain ⟨p, h1, h2⟩ := h
  exact ⟨p, h1, of_decide_eq_true h2⟩
theorem hp0_tab {p : Addr × Str} (h : p ∈ T) : hp0 K T a us ns p.1 = some (.tbl #[]) := if_pos (find_mem h)
theorem hp0_cases (b : Addr) : hp0 K T a us ns b = none ∨ (hp0 K T a us ns b = some (.tbl #[]) ∧ ∃ p ∈ T, p.1 = b) ∨ (hp0 K T a us ns b = some (.frz { cls := .type "list", data := .seq us.toArray } (.lst (ns.map V.int))) ∧ b = a ∧ K.lookup a = none) := by
  unfold hp0
  by_cases h : (T.find? fun p => decide (p.1 = b)).isSome = true
  · rw [if_pos h]; exact .inr (.inl ⟨rfl, mem_find h⟩)
  · rw [if_neg h]
    by_cases h2 : b = a ∧ K.lookup a = none
    · rw [if_pos h2]; exact .inr (.inr ⟨rfl, h2⟩)
    · rw [if_neg h2]; exact .inl rfl
theorem tabM_some {m : MO} (h : tabM T b = some m) : ∃ p ∈ T, p.1 = b ∧ m = .tab p.2 := by
  unfold tabM at h
  cases e : T.find? fun p => decide (p.1 = b) with
  | none => rw [e] at h; cases h
  | some p =>
    rw [e] at h
    cases h
    exact ⟨p, List.mem_of_find?_eq_some e, of_decide_eq_true (List.find?_some (p := fun p : Addr × Str => decide (p.1 = b)) e), rfl⟩
theorem tabs_in (hu : ∀ p ∈ T, ∀ p' ∈ T, p.1 = p'.1 → p.2 = p'.2) : TabsIn T (tabM T) := by
  intro c q
  constructor
  · intro h
    obtain ⟨p, h1, h2, h3⟩ := tabM_some h
    cases h3
    rw [← h2]
    exact h1
  · intro h
    have h1 := find_mem h
    unfold tabM
    cases e : T.find? fun p => decide (p.1 = c) with
    | none => rw [e] at h1; cases h1
    | some p =>
      have e1 := of_decide_eq_true (List.find?_some (p := fun p : Addr × Str => decide (p.1 = c)) e)
      have e2 := hu p (List.mem_of_find?_eq_some e) _ h e1
      show some (MO.tab p.2) = _
      rw [e2]
theorem cpl0 {cl : String → Addr} : CplH cl (tabM T) (hp0 K T a us ns) := fun b m h => by
  obtain ⟨p, h1, rfl, rfl⟩ := tabM_some h
  exact ⟨#[], hp0_tab h1, trivial, fun pos cv hc => by cases hc⟩
end
end LF

/-! LFT: the law's end -/
namespace LF
open PySem PySem.Spec L2 LamX
open PyProof.Rows (AllBare)
theorem rooted {P : Program} {w : World} {K : PySem.W.Frag} {mg mb : Str → Option Value} {k n : Nat} {fa a : Addr} {x : Str} {s : Shared} {us : List Value} {ns : List Int}
    (KX : K.In s.heap) (g1 : s.heap.Ns mainGlobals mg) (g2 : s.heap.Ns builtinsNs mb) (g3 : ∀ y : Str, y ≠ "__name__" → mb y = bootBuiltins y) (g4 : s.heap.NoLimit) (g5 : s.gens = #[])
    (g6 : ∃ (bm : Addr) (ob : Obj), mg "__builtins__" = some (.ref bm) ∧ bm ≠ builtinsNs ∧ s.heap.get? bm = some ob ∧ ob.cls = .type "module" ∧ ob.dict = some builtinsNs ∧ ob.data = .plain)
    (ha : s.heap.get? a = some { cls := .type "list", data := .seq us.toArray }) (hi : PyProof.Rows.IntsAre us ns) (hl : ns.length ≤ sizeLine) (hn : ns.length ≤ n) (hbits : ∀ z ∈ ns, Builtin.Int.intBits z ≤ 1048576) (hr : Room k callerA)
    (L : LawG P w K k n x mg fa s.heap) :
    codeAny (model P w) callerA (.call (.ref fa) ⟨[.ref a], []⟩) (fun r t => r = .ok (.ret (.bool true)) ∧ OldK s.heap t.heap ∧ t.os = s.os ∧ AllBare t.gens) s := by
  obtain ⟨cl, fd, T3, t1, t2, t3, bind, law⟩ := L
  -- the tables by address
  let T : List (Addr × Str) := T3.map fun p => (p.2.1, p.2.2)
  have inT : ∀ q ∈ T, ∃ p ∈ T3, p.2.1 = q.1 := fun q hq => by
    obtain ⟨p, h1, h2⟩ := List.mem_map.mp hq
    exact ⟨p, h1, by rw [← h2]⟩
  have toT : ∀ p ∈ T3, (p.2.1, p.2.2) ∈ T := fun p hp => List.mem_map.mpr ⟨p, hp, rfl⟩
  have isTab : ∀ q ∈ T, s.heap.get? q.1 = some { cls := .none, data := .fields #[] } := fun q hq => by
    obtain ⟨p, h1, h2⟩ := inT q hq
    rw [← h2]; exact t1 p h1
  have rv := vals_ints hi
  have hlen := hi.length
  let H : Hp := hp0 K T a us ns
  -- what a tracked object is
  have real : ∀ b o, H b ≠ none → s.heap.get? b = some o → (∃ vs m, o.data = .seq vs m) ∨ o.data = .fields #[] := fun b o hb e => by
    rcases hp0_cases (K := K) (T := T) (a := a) (us := us) (ns := ns) b with h | ⟨_, q, hq, rfl⟩ | ⟨_, rfl, _⟩
    · exact absurd h hb
    · rw [isTab q hq] at e; cases e; exact .inr rfl
    · rw [ha] at e; cases e; exact .inl ⟨_, _, rfl⟩
  have off : ∀ {b : Addr} {o : Obj}, s.heap.get? b = some o → (∀ vs m, o.data ≠ .seq vs m) → o.data ≠ .fields #[] → H b = none := fun {b o} e h1 h2 => by
    cases q : H b with
    | none => rfl
    | some u =>
      rcases real b o (by rw [q]; simp) e with ⟨vs, m, z⟩ | z
      · exact absurd z (h1 vs m)
      · exact absurd z h2
  have ok : HOk P w H s.heap := fun b o e => by
    rcases hp0_cases (K := K) (T := T) (a := a) (us := us) (ns := ns) b with h | ⟨h, q, hq, rfl⟩ | ⟨h, rfl, _⟩
    · rw [show H b = none from h] at e; cases e
    · rw [show H q.1 = _ from h] at e; cases e; exact isTab q hq
    · rw [show H b = _ from h] at e; cases e
      exact ⟨ha, by rw [List.length_map]; exact hl, us, _, rv, ha⟩
  let B : Heap := hidT s.heap H
  have inB : ∀ {b : Addr} {o : Obj}, s.heap.get? b = some o → H b = none → B.get? b = some o := fun e z => hidT_get e z
  have nsB : ∀ {b : Addr} {m : Str → Option Value}, s.heap.Ns b m → B.Ns b m := fun {b m} ⟨o, es, ep, e, d, r⟩ => by
    refine ⟨o, es, ep, inB e (off e (fun vs k z => ?_) fun z => ?_), d, r⟩
    · rw [d] at z; cases z
    · rw [d] at z; cases z
  have kB : K.In B := fun b o e => by
    refine inB (KX b o e) ?_
    rcases hp0_cases (K := K) (T := T) (a := a) (us := us) (ns := ns) b with h | ⟨_, q, hq, rfl⟩ | ⟨_, rfl, h⟩
    · exact h
    · obtain ⟨p, h1, h2⟩ := inT q hq
      rw [← h2, t2 p h1] at e; cases e
    · rw [h] at e; cases e
  have md : L2.Mod K mg B := ⟨kB, nsB g1, ⟨mb, nsB g2, g3⟩, let ⟨mc, h1, h2⟩ := g4; ⟨mc, nsB h1, h2⟩⟩
  obtain ⟨og, eg, pg, gg1, gg2, gg3⟩ := g1
  have tb : ∀ p ∈ T3, TabB B mg p.1 p.2.1 := fun p hp => by
    have own := t1 p hp
    obtain ⟨bm, ob, b1, b2, b3, b4, b5, b6⟩ := g6
    refine ⟨?_, ⟨bm, ob, b1, b2, fun z => ?_, fun z => ?_, inB b3 (off b3 (fun vs m z => ?_) fun z => ?_), b4, b5, b6⟩, fun z => ?_⟩
    · obtain ⟨o, vs, file, tf, flags, tg, inF, text, tt, c1, c2, c3, c4, c5⟩ := t3 p hp
      refine ⟨o, vs, file, tf, flags, tg, inF, text, tt, inB c1 (off c1 (fun us m z => ?_) fun z => ?_), c2, c3, c4, c5⟩
      · rw [c3] at z; cases z
      · rw [c3] at z; cases z; simp at c4
    · rw [z, gg1] at b3; cases b3; rw [gg2] at b6; cases b6
    · rw [z, own] at b3; cases b3; cases b6
    · rw [b6] at z; cases z
    · rw [b6] at z; cases z
    · rw [z, own] at gg1; cases gg1; cases gg2
  have sq : SqL K H a (ns.map V.int) ∧ ((tabM T a = none ∧ Rd H a (.lst (ns.map V.int))) ∨ SqL K (fun _ => none) a (ns.map V.int)) := by
    have two : (T.find? fun p => decide (p.1 = a)).isSome = false := by
      cases q : (T.find? fun p => decide (p.1 = a)).isSome with
      | false => rfl
      | true =>
        obtain ⟨p, h1, rfl⟩ := mem_find q
        rw [isTab p h1] at ha
        have := congrArg Obj.data (Option.some.inj ha)
        cases this
    cases q : K.lookup a with
    | none =>
      have e : H a = some (.frz { cls := .type "list", data := .seq us.toArray } (.lst (ns.map V.int))) := by
        show hp0 K T a us ns a = _
        unfold hp0
        rw [two, if_neg (by simp), if_pos ⟨rfl, q⟩]
      have m : tabM T a = none := by
        unfold tabM
        cases r : T.find? fun p => decide (p.1 = a) with
        | none => rfl
        | some p => rw [r] at two; cases two
      exact ⟨.inl (.inr ⟨_, e⟩), .inl ⟨m, .inr ⟨_, e⟩⟩⟩
    | some o =>
      have e := KX a o q
      rw [ha] at e
      cases e
      have z : SqL K (fun _ => none) a (ns.map V.int) := .inr ⟨_, us.toArray, _, q, rfl, rfl, rfl, by rw [List.size_toArray, hlen]; exact hl, by simpa using rv⟩
      exact ⟨sq_any z, .inr z⟩
  have e0 : Env0 P w K mg B callerA [] s H := ⟨rfl, md, fun b o e => of_hidT e, Nat.le_of_eq (hidT_size _ _), trivial, fun b hb => absurd (show b ∈ ([] : List Addr) from hb) (by simp), ok, .of_eq g5⟩
  have asked : spOf cl 1 (lawSc K T n) [.ref a] H (fun v _ => v = .bl true) (fun _ _ _ => False) := by
    refine ⟨rfl, [.scr K a ns], tabM T, fun d _ => d = .bl true, fun _ _ => False, cpl0, .cons (Rep.scr_iff.mpr ⟨rfl, sq.2⟩) .nil, ⟨a, ns, rfl, rfl, hn, hbits, fun _ => rfl⟩, ?_, ExcOk.none⟩
    rintro d μ' v H' rfl _ _ r
    exact Rep.bl_iff.mp r
  refine codeAny_mono ((law B kB md.glob tb).go callerA [] s H ⟨[.ref a], []⟩ [.ref a] [.ref a] _ _ rfl hr e0 (bind s (.ref a)) (.cons rfl .nil) asked) fun r t h => ?_
  cases r with
  | error e =>
    obtain ⟨_, _, _, _, _, _, _, _, _, _, _, _, z⟩ := h
    exact z.elim
  | ok fl =>
    cases fl with
    | next => exact False.elim h
    | brk => exact False.elim h
    | cont => exact False.elim h
    | ret u =>
      obtain ⟨v, H', os, bare, un, ok', r', q⟩ := h
      cases (show v = .bl true from q)
      obtain rfl : u = Value.bool true := r'
      have stays : ∀ b o, (∀ p ∈ T, p.1 ≠ b) → s.heap.get? b = some o → t.heap.get? b = some o := fun b o nb e => by
        rcases hp0_cases (K := K) (T := T) (a := a) (us := us) (ns := ns) b with h | ⟨_, p, hp, z⟩ | ⟨h, rfl, _⟩
        · exact un.keep b o e h (fun z => absurd (show b ∈ ([] : List Addr) from z) (by simp)) (by simp)
        · exact absurd z (nb p hp)
        · obtain ⟨c1, _⟩ := ok' b _ (un.frzs b _ _ h)
          rw [ha] at e
          cases e
          exact c1
      have tabs : ∀ p ∈ T3, ∃ more : Array Value, t.heap.get? p.2.1 = some { cls := .none, data := .fields more } := fun p hp => by
        obtain ⟨more, z⟩ := un.tbls p.2.1 #[] (hp0_tab (toT p hp))
        exact ⟨_, ok' p.2.1 _ z⟩
      refine ⟨rfl, ⟨fun b o e => ?_, fun b o e => ?_⟩, os, bare⟩
      · by_cases hb : ∃ p ∈ T3, p.2.1 = b
        · obtain ⟨p, hp, rfl⟩ := hb
          obtain ⟨more, hm⟩ := tabs p hp
          rw [t1 p hp] at e
          cases e
          exact .inr (.inl ⟨((t3 p hp).tab (t1 p hp)).isCodeTable, rfl, #[], more, rfl, by rw [Array.empty_append]; exact hm⟩)
        · exact .inl (stays b o (fun q hq z => hb (by obtain ⟨p, h1, h2⟩ := inT q hq; exact ⟨p, h1, h2.trans z⟩)) e)
      · by_cases hb : ∃ p ∈ T3, p.2.1 = b
        · obtain ⟨p, hp, rfl⟩ := hb
          obtain ⟨more, hm⟩ := tabs p hp
          exact ⟨_, hm⟩
        · exact ⟨o, stays b o (fun q hq z => hb (by obtain ⟨p, h1, h2⟩ := inT q hq; exact ⟨p, h1, h2.trans z⟩)) e⟩
/-- the tables of the defs of the text -/
def TabsAt (q : Program) (mg : Str → Option Value) (h : Heap) : Prop := ∀ d ∈ PyProof.Rows.recsOf q, ∃ a o fd c P, mg d.name = some (.ref a) ∧ h.get? a = some o ∧ o.data = .func fd ∧ fd.code = .ref c ∧ h.IsCode c P #[] ∧ h.TableAt c P #[]
theorem walk_G {l : PySem.W.OpenLaw} {n k : Nat} {q : Program} {loose : List Str} {XP : (Str → Option Value) → Heap → Prop} {YP : World → Heap → Prop} {d : DefRec} {K : Params → PySem.W.Frag} {x : Str}
    (hn : l.most = some n) (hn2 : n ≤ sizeLine) (hdf : d.params.defaults = []) (hr : Room k callerA) (hY : ∀ (w : World) (h : Heap), YP w h → (K w.params).In h)
    (F : ∀ (w : World) (mg : Str → Option Value) (fa : Addr) (h : Heap), (K w.params).In h → h.Ns mainGlobals mg → mg d.name = some (.ref fa) → TabsAt q mg h → LawG l.prog w (K w.params) k n x mg fa h) :
    PySem.W.WalkO q loose XP YP l.row.toRowW d [] (fun f vs => PySem.call f vs) := by
  refine Att.attach_callB hn hdf fun w s₀ s₁ mg mb fa o pm cd doc a vs ns G Y ho hd hcd hmg hobj hints hlen hbits hg => ?_
  have KX := hY w _ Y
  exact rooted KX G.T.g G.T.b G.T.builtins G.T.nolimit hg G.T.bmain hobj hints (Nat.le_trans hlen hn2) hlen hbits hr (F w mg fa _ KX G.T.g hmg fun e he => G.T.tab e he)
/-- a def's table -/
theorem tab_at {q : Program} {mg : Str → Option Value} {h : Heap} {K : PySem.W.Frag} {x : Str} {f c P : Addr} {e ec : Value} {d dc : Option Addr} {fd : FuncData} {sl slc : Array (Option Value)} {vs : Array Value} (TA : TabsAt q mg h) (KX : K.In h) (hx : ((PyProof.Rows.recsOf q).any fun r => r.name == x) = true)
    (hm : mg x = some (.ref f)) (lk : K.lookup f = some ⟨e, d, .func fd, sl⟩) (hc : fd.code = .ref c) (lc : K.lookup c = some ⟨ec, dc, .fields vs, slc⟩) (hv : vs[11]? = some (.ref P)) :
    h.get? P = some { cls := .none, data := .fields #[] } ∧ PySem.W.CodeHd h c P := by
  obtain ⟨r, hr, hn⟩ := List.any_eq_true.mp hx
  have hn' : r.name = x := beq_iff_eq.mp hn
  obtain ⟨a', o', fd', c', P', h1, h2, h3, h4, h5, h6⟩ := TA r hr
  rw [hn', hm] at h1; cases h1
  rw [KX _ _ lk] at h2; cases h2
  cases h3
  rw [hc] at h4; cases h4
  have hcd := PySem.W.CodeHd.of h5 h6
  obtain ⟨⟨oc, vc, e1, _, e3, e4⟩, hP⟩ := h6
  rw [KX _ _ lc] at e1; cases e1
  cases e3
  rw [hv] at e4; cases e4
  exact ⟨hP, hcd⟩
end LF

/-! LFU: chains of comparisons, the pen as a dict -/
namespace LF
open PySem PySem.Spec L2
@[simp] def wChain (g g' : G2) (fa fb fc : WE) : WE := fun δ μ R RE => fa δ μ (fun x μ1 => fb δ μ1 (fun y μ2 => g x y μ2 (fun z μ3 => match z with
  | .bl k => if k = true then fc δ μ3 (fun w μ4 => g' y w μ4 R) RE else R (.bl false) μ3
  | _ => False)) RE) RE
section
variable {cl : String → Addr} {E : XK} {X : Cx} {a b c : Expr} {fa fb fc : WE} {g g' : G2} {op op' : CmpOp} {pos : Pos}
theorem chain_run {σ : St} {H : Hp} {δ : LF.Env} {μ : MH} {RE : EPost} {R : Post} {Q : VK} (ok : Ok cl δ μ σ H) (f : wChain g g' fa fb fc δ μ R RE) (x : ExcOk cl μ H RE E) (P : PostOk cl μ H R Q) :
    tChain (rOf cl g) (rOf cl g') (tOf cl E fa) (tOf cl E fb) (tOf cl E fc) σ H Q := by
  refine tOf_run ok f x fun dx μ1 vx H1 f1 c1 e1 r1 => ?_
  refine tOf_run (ok.ext e1 c1) f1 (x.ext e1) fun dy μ2 vy H2 f2 c2 e2 r2 => ?_
  refine ⟨dx, dy, μ2, _, c2, r1.ext e2, r2, f2, fun dz μ3 vz H3 f3 c3 e3 r3 => ?_⟩
  cases dz with
  | bl k =>
    refine ⟨k, Rep.bl_iff.mp r3, ?_⟩
    have e13 := e1.trans (e2.trans e3)
    cases k with
    | true =>
      refine tOf_run (ok.ext e13 c3) f3 (x.ext e13) fun dw μ4 vw H4 f4 c4 e4 r4 => ?_
      exact ⟨dy, dw, μ4, R, c4, r2.ext (e3.trans e4), r4, f4, P.ext (e13.trans e4)⟩
    | false => exact P _ _ _ _ f3 c3 e13 (Rep.leaf rfl)
  | _ => exact f3.elim
theorem pd_chain (ho : OpD cl X (compareOp op) g) (ho' : OpD cl X (compareOp op') g') (ha : PD cl E X a fa) (hb : PD cl E X b fb) (hc : PD cl E X c fc)
    (hm : lastMarks [op, op'] [b, c] = false := by with_unfolding_all rfl) : PD cl E X (.Compare a [op, op'] [b, c] pos) (wChain g g' fa fb fc) :=
  pe_imp (pe_chain ho ho' ha hb hc hm) fun σ H Q ⟨δ, μ, R, RE, ok, f, P, x⟩ => chain_run ok f x P
theorem ptd_chain (ho : OpD cl X (compareOp op) g) (ho' : OpD cl X (compareOp op') g') (ha : PD cl E X a fa) (hb : PD cl E X b fb) (hc : PD cl E X c fc)
    (hm : lastMarks [op, op'] [b, c] = false := by with_unfolding_all rfl) : PTD cl E X (.Compare a [op, op'] [b, c] pos) (wB (wChain g g' fa fb fc)) := by
  refine pt_imp (pt_chain ho ho' ha hb hc hm) fun σ H Q ⟨δ, μ, R, RE, ok, f, P, x⟩ => ?_
  exact chain_run ok f x (blR_ok P)
abbrev gLt : G2 := gCmp fun i j => decide (i < j)
theorem od_ltI : OpD cl X (compareOp .Lt) gLt := opB0_of op_lt
end
/-! ### the pen -/
/-- a pen seen as the dict that it is -/
theorem pen_open {cl : String → Addr} {μ : MH} {H : Hp} {p : Addr} (c : CplH cl μ H) (h : μ p = some .pen) : ∃ ns n d k f, PenC ns n d k f ∧ CplH cl (mup μ p (.dK (penK ns n d k f))) H := by
  obtain ⟨ns, n, d, k, f, q, vs, h1, r⟩ := c p _ h
  have e1 : Ext μ H (mup μ p (.dK (penK ns n d k f))) H := fun b o _ m hb => ⟨.inl hb, by
    rw [mup_ne]; exact m
    intro z; rw [z, h] at m; cases m⟩
  refine ⟨ns, n, d, k, f, q, fun a m hm => ?_⟩
  by_cases e : a = p
  · subst e
    rw [mup_same] at hm
    cases hm
    exact ⟨vs, h1, r.ext e1⟩
  · rw [mup_ne e] at hm
    exact (c a m hm).ext e1 rfl
theorem pen_close {cl : String → Addr} {μ : MH} {H : Hp} {p : Addr} {ns : List Int} {n d k f : Int} (c : CplH cl μ H) (h : μ p = some (.dK (penK ns n d k f))) (q : PenC ns n d k f) : CplH cl (mup μ p .pen) H := by
  obtain ⟨vs, h1, r⟩ := c p _ h
  have e1 : Ext μ H (mup μ p .pen) H := fun b o _ m hb => ⟨.inl hb, by
    rw [mup_ne]; exact m
    intro z; rw [z, h] at m; cases m⟩
  intro a m hm
  by_cases e : a = p
  · subst e
    rw [mup_same] at hm
    cases hm
    exact ⟨ns, n, d, k, f, q, vs, h1, r.ext e1⟩
  · rw [mup_ne e] at hm
    exact (c a m hm).ext e1 rfl
end LF

/-! LFI: the __init__ of the error classes -/
namespace LF
open PySem PySem.Spec L2
section
variable {K : PySem.W.Frag} {C : Addr} {H : Hp} {a : Addr}
/-- ValueError's own part -/
def tHead (K : PySem.W.Frag) (m : Str) : TS := tDrop (tVeI K (tCons (tVar 0) (tCons (tC (.str m)) tNil)))
theorem head_ok {m : Str} {σ : St} {D : Ends} (T : OexC K C) (ea : H a = some (exo a C none)) (h0 : σ[0]? = some (some (.ref a))) (q : D.nx σ H) : tHead K m D σ H :=
  ⟨_, h0, a, C, [.str m], rfl, by simp, T, ea, q⟩
theorem first_ok {f : Str} {i : Nat} {y : V} {σ : St} {D : Ends} (T : OexC K C) (hf : PySem.W.findIn K (.ref C) f = some none) (ea : H a = some (exo a C none)) (h0 : σ[0]? = some (some (.ref a))) (hi : σ[i]? = some (some y))
    (q : ∀ dx, H dx = none → dx ≠ a → D.nx σ (upd (upd H dx (exd dx [(f, y)])) a (exo a C (some dx)))) : tOst K f (tVar 0) (tVar i) D σ H :=
  ⟨y, hi, _, h0, a, C, rfl, T, hf, .inl ⟨ea, q⟩⟩
theorem more_ok {f : Str} {i : Nat} {y : V} {σ : St} {D : Ends} {dx : Addr} {fs : List (Str × V)} (T : OexC K C) (hf : PySem.W.findIn K (.ref C) f = some none) (ea : H a = some (exo a C (some dx))) (ed : H dx = some (exd dx fs)) (hl : fs.length ≤ 900)
    (h0 : σ[0]? = some (some (.ref a))) (hi : σ[i]? = some (some y)) (q : D.nx σ (upd H dx (exd dx ((f, y) :: fs)))) : tOst K f (tVar 0) (tVar i) D σ H :=
  ⟨y, hi, _, h0, a, C, rfl, T, hf, .inr ⟨dx, fs, ea, ed, hl, q⟩⟩
theorem err1 {m f : Str} {N : List Str} {vs : List V} {Q : VK} {E : XK} (h : spEx K C [f] vs H Q E) : tSeq (tHead K m) (tOst K f (tVar 0) (tVar 1)) { nx := fun _ H' => Q .non H', rt := Q } (start N vs) H := by
  obtain ⟨a, ws, rfl, hl, T, hf, ea, fin⟩ := h
  match ws, hl with
  | [w1], _ =>
    refine head_ok T ea rfl (first_ok T (hf _ (by simp)) ea rfl rfl fun dx hd ne => ?_)
    exact fin dx _ hd upd_same (by rw [upd_ne ne, upd_same]; rfl) fun b hb hb2 => by rw [upd_ne hb, upd_ne hb2]
theorem err2 {m f1 f2 : Str} {N : List Str} {vs : List V} {Q : VK} {E : XK} (h : spEx K C [f1, f2] vs H Q E) : tSeq (tHead K m) (tSeq (tOst K f1 (tVar 0) (tVar 1)) (tOst K f2 (tVar 0) (tVar 2))) { nx := fun _ H' => Q .non H', rt := Q } (start N vs) H := by
  obtain ⟨a, ws, rfl, hl, T, hf, ea, fin⟩ := h
  match ws, hl with
  | [w1, w2], _ =>
    refine head_ok T ea rfl (first_ok T (hf _ (by simp)) ea rfl rfl fun dx hd ne => ?_)
    refine more_ok (dx := dx) (fs := [(f1, w1)]) T (hf _ (by simp)) upd_same (by rw [upd_ne ne, upd_same]) (by simp) rfl rfl ?_
    exact fin dx _ hd (by rw [upd_ne (Ne.symm ne), upd_same]) (by rw [upd_same]; rfl) fun b hb hb2 => by rw [upd_ne hb2, upd_ne hb, upd_ne hb2]
theorem err3 {m f1 f2 f3 : Str} {N : List Str} {vs : List V} {Q : VK} {E : XK} (h : spEx K C [f1, f2, f3] vs H Q E) :
    tSeq (tHead K m) (tSeq (tOst K f1 (tVar 0) (tVar 1)) (tSeq (tOst K f2 (tVar 0) (tVar 2)) (tOst K f3 (tVar 0) (tVar 3)))) { nx := fun _ H' => Q .non H', rt := Q } (start N vs) H := by
  obtain ⟨a, ws, rfl, hl, T, hf, ea, fin⟩ := h
  match ws, hl with
  | [w1, w2, w3], _ =>
    refine head_ok T ea rfl (first_ok T (hf _ (by simp)) ea rfl rfl fun dx hd ne => ?_)
    refine more_ok (dx := dx) (fs := [(f1, w1)]) T (hf _ (by simp)) upd_same (by rw [upd_ne ne, upd_same]) (by simp) rfl rfl ?_
    refine more_ok (dx := dx) (fs := [(f2, w2), (f1, w1)]) T (hf _ (by simp)) (by rw [upd_ne (Ne.symm ne), upd_same]) (by rw [upd_same]) (by simp) rfl rfl ?_
    exact fin dx _ hd (by rw [upd_ne (Ne.symm ne), upd_ne (Ne.symm ne), upd_same]) (by rw [upd_same]; rfl) fun b hb hb2 => by rw [upd_ne hb2, upd_ne hb2, upd_ne hb, upd_ne hb2]
end
theorem len_ex {K : PySem.W.Frag} {C : Addr} {n : Nat} {fs : List Str} (hn : fs.length + 1 = n) : ∀ vs H Q E, spEx K C fs vs H Q E → vs.length = n := fun vs H Q E ⟨a, ws, h1, h2, _⟩ => by
  rw [h1, List.length_cons, h2, hn]
end LF

/-! LFV: words for the generated texts -/
namespace LF
open PySem PySem.Spec L2 LamX
/-- the classes of a law: all, and by field -/
structure Lw where
  ic : List String
  fc : String → List String
abbrev gInF : G2 := gInA false
abbrev gInT : G2 := gInA true
theorem un65 {A : Around} {k : Nat} (r : Room k A) : A.units + 65 < cLine := by have := r.un; omega
theorem hs_mono {A : Around} {j k : Nat} (r : Room k A) (h : j ≤ k) : Room j A := r.mono h
section
variable {P : Program} {w : World} {K : PySem.W.Frag} {mg : Str → Option Value} {base : Heap} {N : List Str} {qual : Str} {scope : Scope} {f : Addr} {cd : Value} {A : Around} {outer : List PySem.Env} {s : Shared} {H : Hp} {E : XK}
theorem lam_passesC {A' : Around} {outer' : List PySem.Env} {s' : Shared} {H' : Hp} {E' : XK} {scope' : Scope} {f' c' : Addr} : Passes (L2.CX P w) (lamCx (cxOf (L2.CX P w) P w K mg base N qual scope f cd A outer s H E) A' outer' s' H' E' scope' f' c') E' := lam_passes (X := cxOf (L2.CX P w) P w K mg base N qual scope f cd A outer s H E)
theorem cx_takes : Takes (cxOf (L2.CX P w) P w K mg base N qual scope f cd A outer s H E) (fun c d _ H => E c d H) := takes_of rfl rfl rfl rfl
end
section
variable {cl : String → Addr} {E : XK} {X : Cx} {CX : CXT} {k : Nat} {f : Addr} {fd : FuncData} {ps : List Str} {S Si : Sc} {x : Str} {p pos apos : Pos} {e o : Expr} {es : List Expr} {fa : WA} {fo : WE}
/-- a new instance; what its __init__ raises is raised without it -/
theorem pd_makeF {c : String} (M : Mk X.K (cl c) f) (F : FnOk X.prog X.w X.K X.mg X.base CX k f fd ps (spOf cl (es.length + 2) Si)) (hr : Room (k + 1) X.A) (hg : Gl X x) (hm : X.mg x = some (.ref (cl c))) (hb : Binds X.K fd ps []) (hx : Passes CX X E)
    (hS : ∀ ds μ R RE, S ds μ R RE → ∀ a, μ a = none → Si (.ref a :: ds) (mup μ a (.ins c [])) (fun d μ2 => d = .non ∧ ∃ fs, μ2 a = some (.ins c fs) ∧ R (.obj a c fs) (mdel μ2 a)) (fun ex μ2 => RE ex (mdel μ2 a)))
    (ha : PAD cl E X (e :: es) fa) (hdb : (x == ("__debug__" : Str)) = false := by decide) (he : starEach (e :: es) X.env = (false, eval e X.env) :: starEach es X.env := by rfl) (hpl : (backTo pos (starEach es X.env)).any (·.1) = false := by rfl) :
    PD cl E X (.Call (.Name x p) (e :: es) [] pos) (wCall S fa) := by
  refine pe_imp (pe_make (dvs := []) M F hr hg hm hb .nil hx ha hdb he hpl) fun σ H Q ⟨δ, μ, R, RE, ok, f, P, x⟩ => ?_
  refine taOf_run ok f x fun ds μ1 vs H1 l1 f1 c1 e1 r1 => fun a dx ha hdx ne => ?_
  have hna : μ1 a = none := c1.fresh ha
  have e2 : Ext μ1 H1 μ1 (upd H1 dx (.own a)) := Ext.new hdx
  have ha2 : upd H1 dx (.own a) a = none := by rw [upd_ne (Ne.symm ne)]; exact ha
  have e3 : Ext μ1 (upd H1 dx (.own a)) (mup μ1 a (.ins c [])) (upd (upd H1 dx (.own a)) a (.ins (cl c) dx [])) := Ext.newM ha2
  have c3 : CplH cl (mup μ1 a (.ins c [])) (upd (upd H1 dx (.own a)) a (.ins (cl c) dx [])) := (c1.new hdx).newM ha2 ⟨dx, [], upd_same, .nil⟩
  have e13 := e2.trans e3
  show spOf cl _ Si (V.ref a :: (vs ++ [])) _ _ E
  rw [List.append_nil]
  refine sp_ok (ds := .ref a :: ds) c3 (.cons (Rep.leaf rfl) (RepL.ext r1 e13)) (by rw [List.length_cons, l1]; rfl) (hS ds μ1 R RE f1 a hna) ?_ ?_
  · rintro d μ4 v H4 ⟨rfl, fs, h4, r4⟩ c4 e4 p4
    obtain ⟨dx', vs', h5, r5⟩ := c4 a _ h4
    have l4 : Ext μ4 H4 (mdel μ4 a) H4 := Ext.less MLe.del
    exact ⟨Rep.non_iff.mp p4, P _ _ _ _ r4 (c4.less MLe.del) (((e1.trans e13).trans e4).trans l4) (Rep.obj_iff.mpr ⟨rfl, mdel_same, dx', vs', h5, RepF.ext r5 l4⟩)⟩
  · rintro ex μ4 c4 dd H4 h4 cp4 e4 rx
    have l4 : Ext μ4 H4 (mdel μ4 a) H4 := Ext.less MLe.del
    exact x ex _ c4 dd H4 h4 (cp4.less MLe.del) (((e1.trans e13).trans e4).trans l4) ⟨rx.1, rx.2.imp id fun ⟨d, vs, h1, hn, h2, h3⟩ => ⟨d, vs, h1, MLe.del.none hn, h2, RepF.ext h3 l4⟩⟩
theorem psd_parF {i j : Nat} {x y : Str} {a b : Expr} {px py pt : Pos} {kt k2 pt2} (hc : X.calm = true) (hN : X.N.Nodup) (ha : PAD cl E X [a, b] fa) (hi : X.N[i]? = some x := by rfl) (hj : X.N[j]? = some y := by rfl) (hij : i ≠ j := by decide)
    (hx : X.env.scope.names.lookup x = some .local := by rfl) (hy : X.env.scope.names.lookup y = some .local := by rfl)
    (hw : swappedStores [.Tuple [.Name x px, .Name y py] kt pt] (.Tuple [a, b] k2 pt2) X.env = pure (some [x, y]) := by rfl)
    (hs : swapsWithSole [.Tuple [.Name x px, .Name y py] kt pt] (.Tuple [a, b] k2 pt2) pos.line X.env = pure false := by rfl) : PSD cl E X (.Assign [.Tuple [.Name x px, .Name y py] kt pt] (.Tuple [a, b] k2 pt2) pos) (wPar i j fa) :=
  psd_par hc hN ha hi hj hij hx hy (ps_par hc hN hi hj hij hx hy ha hw hs)
end
section
variable {cl : String → Addr} {E : XK} {X : Cx} {e : Expr} {fe : WE} {p p2 p3 p4 pos : Pos}
theorem pd_isT2F {T U : String} {x y : Str} {cs : List String} {kk : Nat} (F : IsTF X.K cl cs [T, U]) (hg : Gl X "isinstance") (hm : X.mg "isinstance" = none) (hgx : Gl X x) (hmx : X.mg x = none) (hv : bootBuiltins x = some (.type T)) (hgy : Gl X y) (hmy : X.mg y = none) (hvy : bootBuiltins y = some (.type U)) (he : PD cl E X e fe)
    (hn : x ≠ "__name__" := by decide) (hd : (x == ("__debug__" : Str)) = false := by decide) (hny : y ≠ "__name__" := by decide) (hdy : (y == ("__debug__" : Str)) = false := by decide)
    (hs : starEach [e, .Tuple [.Name x p2, .Name y p3] kk p4] X.env = (false, eval e X.env) :: starEach [.Tuple [.Name x p2, .Name y p3] kk p4] X.env := by rfl) (hs2 : starEach [.Tuple [.Name x p2, .Name y p3] kk p4] X.env = (false, eval (.Tuple [.Name x p2, .Name y p3] kk p4) X.env) :: starEach [] X.env := by rfl)
    (hpl : (backTo pos (starEach [.Tuple [.Name x p2, .Name y p3] kk p4] X.env)).any (·.1) = false := by rfl) :
    PD cl E X (.Call (.Name "isinstance" p) [e, .Tuple [.Name x p2, .Name y p3] kk p4] [] pos) (wIsT cs [T, U] fe) :=
  pd_isT2 F hg hm hgx hmx hv hgy hmy hvy he hn hd hny hdy (pa_cons (pe_bltn (v := .ty T) hgx hmx hv rfl hn hd) (pa_cons (pe_bltn (v := .ty U) hgy hmy hvy rfl hny hdy) pa_nil)) hs hs2 hpl
end
/-! ### the catcher -/
section
variable {cl : String → Addr} {X : Cx} {E : XK} {T : List (Addr × Str)}
theorem pd_caughtF {st : Stmt} {g c P : Addr} {fd : FuncData} {k : Nat} {params : Arguments} {body : Expr} {scope : Scope} {fb : WE} {p lpos pos : Pos} (F : Fun X.K "_law_caught" "_law_caught" st g fd) (hb : Binds X.K fd ["action"] []) (hg : Gl X "_law_caught") (hm : X.mg "_law_caught" = some (.ref g))
    (Sg : FnScope ["action", "e", "found"] ["action"] (defScope st)) (hva : Vis (defScope st) "action")
    (hG : ∀ cdv, GivesTo X ["action", "e", "found"] "_law_caught" (defScope st) g cdv (defBody st) "action" (X.env.qual ++ "<lambda>") (TTc cl))
    (TB : TabB X.base X.mg c P) (hcode : X.env.code = .ref c) (hmT : (P, X.env.qual ++ "<lambda>") ∈ T) (hu : ∀ p ∈ T, p.1 = P → p.2 = X.env.qual ++ "<lambda>") (hr : Room (k + 2) X.A)
    (hbody : ∀ (A : Around) (outer : List PySem.Env) (s : Shared) (H : Hp) (E : XK) (f c' : Addr), Room k (A.deeper (lamEnv X scope s.heap.objs.size f c')) → PD cl E (lamCx X A outer s H E scope f c') body fb)
    (L : LamS X.env.scope scope := by exact lamS_by (by decide +kernel)) (hdef : defaultsOf params X.env = ([], []) := by rfl)
    (hbind : ∀ (q : Str) (cl : List (Str × Addr)) (pm cv ctv : Value), bindArgs (PySem.W.kla_fn "<lambda>" q params body scope cl pm cv ctv) ⟨[], []⟩ = pure [] := by intro _ _ _ _ _; rfl) :
    PD cl E X (.Call (.Name "_law_caught" p) [.Lambda params body scope lpos] [] pos) (wCaught T fb) := by
  obtain ⟨oc, od, kV, doc, pm, an, cdv, ct, osl, rfl, lk, hcd⟩ := F.ex
  exact pd_caught hg hm F.kp lk hcd hb Sg rfl hva (hG cdv) TB hcode hmT hu hr L hdef hbind hbody
end
end LF

/-! LFW: how denotations are run -/
namespace LF
open PySem PySem.Spec L2
theorem mup_id {μ : MH} {p : Addr} {m : MO} (h : μ p = some m) : mup μ p m = μ := by
  funext b; unfold mup; split
  · rename_i e; rw [e, h]
  · rfl
theorem mdel_none {μ : MH} {p : Addr} (h : μ p = none) : mdel μ p = μ := by
  funext b; unfold mdel; split
  · rename_i e; rw [e, h]
  · rfl
@[simp] theorem mdel_mup_same {μ : MH} {p : Addr} {m : MO} : mdel (mup μ p m) p = mdel μ p := by
  funext b; unfold mdel mup; split <;> rfl
theorem mup_comm {μ : MH} {p q : Addr} {m n : MO} (h : p ≠ q) : mup (mup μ p m) q n = mup (mup μ q n) p m := by
  funext b; unfold mup
  by_cases h1 : b = q
  · subst h1; rw [if_pos rfl, if_neg (Ne.symm h), if_pos rfl]
  · by_cases h2 : b = p
    · subst h2; rw [if_neg h1, if_pos rfl, if_pos rfl]
    · rw [if_neg h1, if_neg h2, if_neg h2, if_neg h1]
theorem ne_live {μ : MH} {p q : Addr} {m : MO} (h : μ p = some m) (h' : μ q = none) : p ≠ q := fun e => by rw [e, h'] at h; cases h
/-- the end of a def: new live objects are forgotten -/
theorem ret_less {R : Post} {μ μ' : MH} {d : D} (l : MLe μ' μ) (h : R d μ') : Ret R d μ := ⟨μ', d, Fz.less l, h⟩
theorem ret_same {R : Post} {μ : MH} {d : D} (h : R d μ) : Ret R d μ := ret_less (MLe.refl μ) h
theorem retx_same {RE : EPost} {μ : MH} {ex : Ex} (h : RE ex μ) : RetX RE ex μ := ⟨μ, MLe.refl μ, h⟩
/-- a comprehension whose parts change nothing -/
theorem lc_run {S : MH → Prop} {p : Addr} {i : Nat} {tt : WT} {te : WE} {δ : LF.Env} {μ : MH} (F : D → D) (B : D → Bool) (hS : ∀ acc, S (mup μ p (.lst acc))) : ∀ {ds : List D},
    (∀ d ∈ ds, ∀ acc R RE, R (B d) (mup μ p (.lst acc)) → tt (δ.set i (some d)) (mup μ p (.lst acc)) R RE) →
    (∀ d ∈ ds, B d = true → ∀ acc R RE, R (F d) (mup μ p (.lst acc)) → te (δ.set i (some d)) (mup μ p (.lst acc)) R RE) →
    ∀ {acc : List D} {R : List D → MH → Prop}, acc.length + ds.length ≤ sizeLine → R (acc ++ (ds.filter B).map F) (mup μ p (.lst (acc ++ (ds.filter B).map F))) → wLcL S p (vName i) tt te δ ds acc (mup μ p (.lst acc)) R
  | [], _, _, acc, R, _, h => by
    simp only [List.filter_nil, List.map_nil, List.append_nil] at h
    exact ⟨hS acc, mup_same, h⟩
  | d :: ds, ht, he, acc, R, hl, h => by
    refine ⟨hS acc, ht d (by simp) acc _ _ ?_⟩
    have rest := fun acc' h1 h2 => lc_run (S := S) (p := p) (i := i) (tt := tt) (te := te) (δ := δ) (μ := μ) F B hS (ds := ds) (fun x hx => ht x (by simp [hx])) (fun x hx => he x (by simp [hx])) (acc := acc') (R := R) h1 h2
    rw [List.length_cons] at hl
    cases hb : B d with
    | true =>
      rw [if_pos rfl]
      refine he d (by simp) hb acc _ _ ⟨mup_same, by omega, ?_⟩
      rw [mup_mup]
      refine rest (acc ++ [F d]) (by rw [List.length_append]; simp; omega) ?_
      rw [List.filter_cons_of_pos hb] at h
      simpa using h
    | false =>
      rw [if_neg Bool.false_ne_true]
      refine rest acc (by omega) ?_
      rw [List.filter_cons_of_neg (by simp [hb])] at h
      exact h
/-- a walk over a list whose turns change nothing of the heap; the walk may be left -/
theorem for_run {S : MH → Prop} {g : GT} {body : WS} {K : SEnds} {RE : EPost} {μ : MH} (hS : S μ) (J : List D → LF.Env → Prop) (hend : ∀ δ, J [] δ → K.nx δ μ)
    (turn : ∀ d ds δ, J (d :: ds) δ → ∀ N : LF.Env → MH → Prop, (∀ δ', J ds δ' → N δ' μ) → g d δ μ fun δ1 μ1 => body δ1 μ1 { K with nx := N, ct := N, bk := K.nx } RE) : ∀ {ds : List D} {δ : LF.Env}, J ds δ → wForL S g body ds δ μ K RE
  | [], δ, h => ⟨hS, hend δ h⟩
  | d :: ds, δ, h => ⟨hS, turn d ds δ h _ fun δ' h' => for_run hS J hend turn h'⟩

/-! ### kinds -/
def isInt : D → Bool
  | .int _ => true
  | _ => false
def isBool : D → Bool
  | .bl _ => true
  | _ => false
def isStr : D → Bool
  | .str _ => true
  | _ => false
def isTup : D → Bool
  | .tup _ => true
  | _ => false
/-- of a built-in type -/
def Bt (μ : MH) (d : D) : Prop := ∃ a, tyN μ d = some (.inl a)
theorem bt_kinds {μ : MH} {d : D} {a : String} (h : tyN μ d = some (.inl a)) : isB a "int" = (isInt d || isBool d) ∧ isB a "bool" = isBool d ∧ isB a "str" = isStr d ∧ isB a "tuple" = isTup d ∧ isB a "list" = (lstOf μ d).isSome := by
  cases d with
  | non => cases h; exact ⟨by simp [isB, isInt, isBool], by simp [isB, isBool], by simp [isB, isStr], by simp [isB, isTup], by simp [isB, lstOf]⟩
  | bl b => cases h; exact ⟨by simp [isB, isInt, isBool], by simp [isB, isBool], by simp [isB, isStr], by simp [isB, isTup], by simp [isB, lstOf]⟩
  | int b => cases h; exact ⟨by simp [isB, isInt, isBool], by simp [isB, isBool], by simp [isB, isStr], by simp [isB, isTup], by simp [isB, lstOf]⟩
  | str b => cases h; exact ⟨by simp [isB, isInt, isBool], by simp [isB, isBool], by simp [isB, isStr], by simp [isB, isTup], by simp [isB, lstOf]⟩
  | tup ds => cases h; exact ⟨by simp [isB, isInt, isBool], by simp [isB, isBool], by simp [isB, isStr], by simp [isB, isTup], by simp [isB, lstOf]⟩
  | lst ds => cases h; exact ⟨by simp [isB, isInt, isBool], by simp [isB, isBool], by simp [isB, isStr], by simp [isB, isTup], by simp [isB, lstOf]⟩
  | ref p =>
    simp only [tyN] at h
    split at h <;> first | (cases h; done) | skip
    · rename_i hm; cases h; exact ⟨by simp [isB, isInt, isBool], by simp [isB, isBool], by simp [isB, isStr], by simp [isB, isTup], by simp [isB, lstOf, hm]⟩
    · rename_i hm; cases h; exact ⟨by simp [isB, isInt, isBool], by simp [isB, isBool], by simp [isB, isStr], by simp [isB, isTup], by simp [isB, lstOf, hm]⟩
    · rename_i hm; cases h; exact ⟨by simp [isB, isInt, isBool], by simp [isB, isBool], by simp [isB, isStr], by simp [isB, isTup], by simp [isB, lstOf, hm]⟩
  | ty _ => cases h
  | dK _ => cases h
  | dT _ => cases h
  | obj _ _ _ => cases h
  | scr _ _ _ => cases h
/-! ### operators on ints -/
section
variable {μ : MH} {R : Post} {i j : Int}
@[simp] theorem gI_i {f : Int → Int → Int} : gI f (.int i) (.int j) μ R = R (.int (f i j)) μ := rfl
@[simp] theorem gIc_i {C : Int → Int → Prop} {f : Int → Int → Int} : gIc C f (.int i) (.int j) μ R = (C i j ∧ R (.int (f i j)) μ) := rfl
@[simp] theorem gCmp_i {f : Int → Int → Bool} : gCmp f (.int i) (.int j) μ R = R (.bl (f i j)) μ := rfl
@[simp] theorem gAdd_i : gAdd (.int i) (.int j) μ R = R (.int (i + j)) μ := rfl
@[simp] theorem gMul_i : gMul (.int i) (.int j) μ R = (CM i j ∧ R (.int (i * j)) μ) := rfl
@[simp] theorem gInt_i : gInt [.int i] μ R = R (.int i) μ := rfl
@[simp] theorem gNeg_i : gNeg (.int i) μ R = R (.int (-i)) μ := rfl
theorem eqp {a b : Prop} (ha : a) (hb : b) {c : Prop} : (a ∧ b ∧ c) = c := propext ⟨fun h => h.2.2, fun h => ⟨ha, hb, h⟩⟩
@[simp] theorem gEq_i : gEq (.int i) (.int j) μ R = R (.bl (i == j)) μ := eqp rfl rfl
@[simp] theorem gNe_i : gNe (.int i) (.int j) μ R = R (.bl (!(i == j))) μ := eqp rfl rfl
end
theorem cm_r {i j : Int} (h : -(2 ^ 64) < j ∧ j < 2 ^ 64) : CM i j := .inr h
theorem cm_l {i j : Int} (h : -(2 ^ 64) < i ∧ i < 2 ^ 64) : CM i j := .inl h
theorem seq_ix {μ : MH} {x d : D} {xs : List D} {i : Int} {R : Post} (hs : seqOf μ x = some xs) (h : atI xs i = some d) (r : R d μ) : gIx x (.int i) μ R := by
  simp only [gIx, hs, h]
  exact r
/-- !=, == of texts -/
def gNeS : G2 := fun x y μ R => match x, y with
  | .str a, .str b => R (.bl (!decide (a = b))) μ
  | _, _ => False
def gEqS : G2 := fun x y μ R => match x, y with
  | .str a, .str b => R (.bl (decide (a = b))) μ
  | _, _ => False
theorem dec_strs {a b : Str} : decide (V.str a = V.str b) = decide (a = b) := by
  rw [Bool.eq_iff_iff]; simp
section
variable {cl : String → Addr} {X : Cx}
theorem od_neS : OpD cl X (compareOp .NotEq) gNeS := by
  rintro pins s σ H x y v u Q I rx ry ⟨dx, dy, μ, R, c, r1, r2, g, P⟩
  unfold gNeS at g
  split at g
  · exact op_ne pins s σ H x y v u Q I rx ry ⟨by rw [Rep.str_iff.mp r1, Rep.str_iff.mp r2]; rfl, by rw [Rep.str_iff.mp r1, Rep.str_iff.mp r2, dec_strs]; exact P.fin c g (Rep.leaf rfl)⟩
  · exact g.elim
theorem od_eqS : OpD cl X (compareOp .Eq) gEqS := by
  rintro pins s σ H x y v u Q I rx ry ⟨dx, dy, μ, R, c, r1, r2, g, P⟩
  unfold gEqS at g
  split at g
  · exact op_eq pins s σ H x y v u Q I rx ry ⟨by rw [Rep.str_iff.mp r1, Rep.str_iff.mp r2]; rfl, by rw [Rep.str_iff.mp r1, Rep.str_iff.mp r2, dec_strs]; exact P.fin c g (Rep.leaf rfl)⟩
  · exact g.elim
end
/-- a walk over a list whose turns change the heap -/
theorem for_runM {S : MH → Prop} {g : GT} {body : WS} {K : SEnds} {RE : EPost} (J : List D → LF.Env → MH → Prop) (hS : ∀ ds δ μ, J ds δ μ → S μ) (hend : ∀ δ μ, J [] δ μ → K.nx δ μ)
    (turn : ∀ d ds δ μ, J (d :: ds) δ μ → ∀ N : LF.Env → MH → Prop, (∀ δ' μ', J ds δ' μ' → N δ' μ') → g d δ μ fun δ1 μ1 => body δ1 μ1 { K with nx := N, ct := N, bk := K.nx } RE) : ∀ {ds : List D} {δ : LF.Env} {μ : MH}, J ds δ μ → wForL S g body ds δ μ K RE
  | [], δ, μ, h => ⟨hS _ _ _ h, hend δ μ h⟩
  | d :: ds, δ, μ, h => ⟨hS _ _ _ h, turn d ds δ μ h _ fun δ' μ' h' => for_runM J hS hend turn h'⟩
theorem TabsIn.up {T : List (Addr × Str)} {μ : MH} {p : Addr} {m : MO} (h : TabsIn T μ) (hp : ∀ q, μ p ≠ some (.tab q)) (hm : ∀ q, m ≠ .tab q) : TabsIn T (mup μ p m) := fun a q => by
  by_cases e : a = p
  · subst e
    rw [mup_same, ← h a q]
    exact ⟨fun z => absurd (Option.some.inj z) (hm q), fun z => absurd z (hp q)⟩
  · rw [mup_ne e]; exact h a q
/-- as for_runM, the ends of a turn hidden -/
theorem for_runK {S : MH → Prop} {g : GT} {body : WS} {K : SEnds} {RE : EPost} (J : List D → LF.Env → MH → Prop) (hS : ∀ ds δ μ, J ds δ μ → S μ) (hend : ∀ δ μ, J [] δ μ → K.nx δ μ)
    (turn : ∀ d ds δ μ, J (d :: ds) δ μ → ∀ K' : SEnds, K'.rt = K.rt → (∀ δ' μ', J ds δ' μ' → K'.nx δ' μ') → (∀ δ' μ', J ds δ' μ' → K'.ct δ' μ') → (∀ δ' μ', K.nx δ' μ' → K'.bk δ' μ') → g d δ μ fun δ1 μ1 => body δ1 μ1 K' RE) {ds : List D} {δ : LF.Env} {μ : MH} (h : J ds δ μ) : wForL S g body ds δ μ K RE :=
  for_runM J hS hend (fun d ds δ μ j N hN => turn d ds δ μ j { K with nx := N, ct := N, bk := K.nx } rfl hN hN fun _ _ z => z) h
end LF

/-! LFY: each denotation at its arguments (written by gen/mkx.py) -/
namespace LF
open PySem PySem.Spec L2
theorem x_wVar {i : Nat} {δ : LF.Env} {μ : MH} {R : Post} {RE : EPost} : wVar i δ μ R RE = (match δ[i]? with
  | some (some d) => R d μ
  | _ => False) := rfl
theorem x_wC {d : D} {δ : LF.Env} {μ : MH} {R : Post} {RE : EPost} : wC d δ μ R RE = (R d μ) := rfl
theorem x_wOp {g : G2} {fa fb : WE} {δ : LF.Env} {μ : MH} {R : Post} {RE : EPost} : wOp g fa fb δ μ R RE = (fa δ μ (fun x μ1 => fb δ μ1 (fun y μ2 => g x y μ2 R) RE) RE) := rfl
theorem x_wUn {g : G1} {fa : WE} {δ : LF.Env} {μ : MH} {R : Post} {RE : EPost} : wUn g fa δ μ R RE = (fa δ μ (fun x μ1 => g x μ1 R) RE) := rfl
theorem x_wNil {δ : LF.Env} {μ : MH} {R : List D → MH → Prop} {RE : EPost} : wNil δ μ R RE = (R [] μ) := rfl
theorem x_wCons {fa : WE} {fr : WA} {δ : LF.Env} {μ : MH} {R : List D → MH → Prop} {RE : EPost} : wCons fa fr δ μ R RE = (fa δ μ (fun x μ1 => fr δ μ1 (fun xs μ2 => R (x :: xs) μ2) RE) RE) := rfl
theorem x_wCB {g : GN} {fa : WA} {δ : LF.Env} {μ : MH} {R : Post} {RE : EPost} : wCB g fa δ μ R RE = (fa δ μ (fun xs μ1 => g xs μ1 R) RE) := rfl
theorem x_wTup {fa : WA} {δ : LF.Env} {μ : MH} {R : Post} {RE : EPost} : wTup fa δ μ R RE = (fa δ μ (fun xs μ1 => R (.tup xs) μ1) RE) := rfl
theorem x_wLst {fa : WA} {δ : LF.Env} {μ : MH} {R : Post} {RE : EPost} : wLst fa δ μ R RE = (fa δ μ (fun xs μ1 => R (.lst xs) μ1) RE) := rfl
theorem x_wLstL {fa : WA} {δ : LF.Env} {μ : MH} {R : Post} {RE : EPost} : wLstL fa δ μ R RE = (fa δ μ (fun xs μ1 => ∀ p, μ1 p = none → R (.ref p) (mup μ1 p (.lst xs))) RE) := rfl
theorem x_wIfE {fc : WT} {fa fb : WE} {δ : LF.Env} {μ : MH} {R : Post} {RE : EPost} : wIfE fc fa fb δ μ R RE = (fc δ μ (fun c μ1 => if c = true then fa δ μ1 R RE else fb δ μ1 R RE) RE) := rfl
theorem x_wAndV {fa fb : WE} {δ : LF.Env} {μ : MH} {R : Post} {RE : EPost} : wAndV fa fb δ μ R RE = (fa δ μ (fun x μ1 => match x with
  | .bl c => if c = true then fb δ μ1 R RE else R (.bl false) μ1
  | _ => False) RE) := rfl
theorem x_wOrV {fa fb : WE} {δ : LF.Env} {μ : MH} {R : Post} {RE : EPost} : wOrV fa fb δ μ R RE = (fa δ μ (fun x μ1 => match x with
  | .bl c => if c = true then R (.bl true) μ1 else fb δ μ1 R RE
  | _ => False) RE) := rfl
theorem x_wNotV {fa : WE} {δ : LF.Env} {μ : MH} {R : Post} {RE : EPost} : wNotV fa δ μ R RE = (fa δ μ (fun x μ1 => match x with
  | .bl c => R (.bl (!c)) μ1
  | _ => False) RE) := rfl
theorem x_wB {fa : WE} {δ : LF.Env} {μ : MH} {R : Bool → MH → Prop} {RE : EPost} : wB fa δ μ R RE = (fa δ μ (fun x μ1 => match x with
  | .bl c => R c μ1
  | _ => False) RE) := rfl
theorem x_wAnd {fa fb : WT} {δ : LF.Env} {μ : MH} {R : Bool → MH → Prop} {RE : EPost} : wAnd fa fb δ μ R RE = (fa δ μ (fun c μ1 => if c = true then fb δ μ1 R RE else R false μ1) RE) := rfl
theorem x_wOr {fa fb : WT} {δ : LF.Env} {μ : MH} {R : Bool → MH → Prop} {RE : EPost} : wOr fa fb δ μ R RE = (fa δ μ (fun c μ1 => if c = true then R true μ1 else fb δ μ1 R RE) RE) := rfl
theorem x_wNot {fa : WT} {δ : LF.Env} {μ : MH} {R : Bool → MH → Prop} {RE : EPost} : wNot fa δ μ R RE = (fa δ μ (fun c μ1 => R (!c) μ1) RE) := rfl
theorem x_wFld {cs : List String} {f : String} {fe : WE} {δ : LF.Env} {μ : MH} {R : Post} {RE : EPost} : wFld cs f fe δ μ R RE = (fe δ μ (fun d μ1 => match fldsOf μ1 d with
  | some (c, fs) => c ∈ cs ∧ match fs.lookup f with
    | some v => R v μ1
    | none => False
  | none => False) RE) := rfl
theorem x_wCall {S : Sc} {fa : WA} {δ : LF.Env} {μ : MH} {R : Post} {RE : EPost} : wCall S fa δ μ R RE = (fa δ μ (fun ds μ1 => S ds μ1 R RE) RE) := rfl
theorem x_wMeth {c m : String} {S : Sc} {fo : WE} {fa : WA} {δ : LF.Env} {μ : MH} {R : Post} {RE : EPost} : wMeth c m S fo fa δ μ R RE = (fo δ μ (fun o μ1 => match fldsOf μ1 o with
  | some (c', fs) => c' = c ∧ fs.lookup m = none ∧ fa δ μ1 (fun ds μ2 => S (o :: ds) μ2 R RE) RE
  | none => False) RE) := rfl
theorem x_wSkip {δ : LF.Env} {μ : MH} {K : SEnds} {RE : EPost} : wSkip δ μ K RE = (K.nx δ μ) := rfl
theorem x_wSeq {s t : WS} {δ : LF.Env} {μ : MH} {K : SEnds} {RE : EPost} : wSeq s t δ μ K RE = (s δ μ { K with nx := fun δ' μ' => t δ' μ' K RE } RE) := rfl
theorem x_wExpr {f : WE} {δ : LF.Env} {μ : MH} {K : SEnds} {RE : EPost} : wExpr f δ μ K RE = (f δ μ (fun _ μ' => K.nx δ μ') RE) := rfl
theorem x_wRet {f : WE} {δ : LF.Env} {μ : MH} {K : SEnds} {RE : EPost} : wRet f δ μ K RE = (f δ μ K.rt RE) := rfl
theorem x_wRetN {δ : LF.Env} {μ : MH} {K : SEnds} {RE : EPost} : wRetN δ μ K RE = (K.rt .non μ) := rfl
theorem x_wBrk {δ : LF.Env} {μ : MH} {K : SEnds} {RE : EPost} : wBrk δ μ K RE = (K.bk δ μ) := rfl
theorem x_wCnt {δ : LF.Env} {μ : MH} {K : SEnds} {RE : EPost} : wCnt δ μ K RE = (K.ct δ μ) := rfl
theorem x_wIf {c : WT} {s t : WS} {δ : LF.Env} {μ : MH} {K : SEnds} {RE : EPost} : wIf c s t δ μ K RE = (c δ μ (fun b μ' => if b = true then s δ μ' K RE else t δ μ' K RE) RE) := rfl
theorem x_vName {i : Nat} {d : D} {δ : LF.Env} {μ : MH} {R : LF.Env → MH → Prop} : vName i d δ μ R = (R (δ.set i (some d)) μ) := rfl
theorem x_vNil {ds : List D} {δ : LF.Env} {μ : MH} {R : LF.Env → MH → Prop} : vNil ds δ μ R = (match ds with
  | [] => R δ μ
  | _ => False) := rfl
theorem x_vCons {g : GT} {h : GTs} {ds : List D} {δ : LF.Env} {μ : MH} {R : LF.Env → MH → Prop} : vCons g h ds δ μ R = (match ds with
  | d :: r => g d δ μ fun δ' μ' => h r δ' μ' R
  | [] => False) := rfl
theorem x_vTup {n : Nat} {h : GTs} {d : D} {δ : LF.Env} {μ : MH} {R : LF.Env → MH → Prop} : vTup n h d δ μ R = (match d with
  | .tup ds => ds.length = n ∧ h ds δ μ R
  | _ => False) := rfl
theorem x_wAsg {f : WE} {g : GT} {δ : LF.Env} {μ : MH} {K : SEnds} {RE : EPost} : wAsg f g δ μ K RE = (f δ μ (fun d μ' => g d δ μ' K.nx) RE) := rfl
theorem x_wPar {i j : Nat} {fa : WA} {δ : LF.Env} {μ : MH} {K : SEnds} {RE : EPost} : wPar i j fa δ μ K RE = (fa δ μ (fun ds μ' => match ds with
  | [x, y] => K.nx ((δ.set i (some x)).set j (some y)) μ'
  | _ => False) RE) := rfl
theorem x_wSetF {cs : List String} {f : String} {fo fv : WE} {δ : LF.Env} {μ : MH} {K : SEnds} {RE : EPost} : wSetF cs f fo fv δ μ K RE = (fv δ μ (fun v μ1 => fo δ μ1 (fun o μ2 => match o with
  | .ref a => match μ2 a with
    | some (.ins c fs) => c ∈ cs ∧ fs.length < 900 ∧ K.nx δ (mup μ2 a (.ins c (putD f v fs)))
    | _ => False
  | _ => False) RE) RE) := rfl
theorem x_wTru {f : WE} {δ : LF.Env} {μ : MH} {R : Bool → MH → Prop} {RE : EPost} : wTru f δ μ R RE = (f δ μ (fun d μ1 => strOk d ∧ match truM μ1 d with
  | some b => R b μ1
  | none => False) RE) := rfl
theorem x_wIsi {cs : List String} {c : String} {fe : WE} {δ : LF.Env} {μ : MH} {R : Post} {RE : EPost} : wIsi cs c fe δ μ R RE = (fe δ μ (fun d μ1 => match tyN μ1 d with
  | some (.inl _) => R (.bl false) μ1
  | some (.inr c') => c' ∈ cs ∧ R (.bl (c' == c)) μ1
  | none => False) RE) := rfl
theorem x_wIsT {cs Ts : List String} {fe : WE} {δ : LF.Env} {μ : MH} {R : Post} {RE : EPost} : wIsT cs Ts fe δ μ R RE = (fe δ μ (fun d μ1 => match tyN μ1 d with
  | some (.inl a) => R (.bl (Ts.any (isB a))) μ1
  | some (.inr c') => c' ∈ cs ∧ R (.bl false) μ1
  | none => False) RE) := rfl
theorem x_wNoP {δ : LF.Env} {μ : MH} {R : Option Int → MH → Prop} {RE : EPost} : wNoP δ μ R RE = (R none μ) := rfl
theorem x_wPrt {f : WE} {δ : LF.Env} {μ : MH} {R : Option Int → MH → Prop} {RE : EPost} : wPrt f δ μ R RE = (f δ μ (fun d μ1 => match d with
  | .int i => R (some i) μ1
  | _ => False) RE) := rfl
theorem x_wSl {fe : WE} {fl fh : WO} {δ : LF.Env} {μ : MH} {R : Post} {RE : EPost} : wSl fe fl fh δ μ R RE = (fe δ μ (fun d μ1 => fl δ μ1 (fun lo μ2 => fh δ μ2 (fun hi μ3 => match d with
  | .tup ds => R (.tup (cutD ds lo hi)) μ3
  | d => match lstOf μ3 d with
    | some ds => R (.lst (cutD ds lo hi)) μ3
    | none => False) RE) RE) RE) := rfl
theorem x_wBM {g : GM} {fo : WE} {fa : WA} {δ : LF.Env} {μ : MH} {R : Post} {RE : EPost} : wBM g fo fa δ μ R RE = (fo δ μ (fun o μ1 => (lstOf μ1 o).isSome = true ∧ fa δ μ1 (fun ds μ2 => g o ds μ2 R) RE) RE) := rfl
theorem x_wBM0 {g : GM} {fo : WE} {δ : LF.Env} {μ : MH} {R : Post} {RE : EPost} : wBM0 g fo δ μ R RE = (fo δ μ (fun o μ1 => (lstOf μ1 o).isSome = true ∧ g o [] μ1 R) RE) := rfl
theorem x_wSetI {g : GS} {fv fo fi : WE} {δ : LF.Env} {μ : MH} {K : SEnds} {RE : EPost} : wSetI g fv fo fi δ μ K RE = (fv δ μ (fun v μ1 => fo δ μ1 (fun o μ2 => fi δ μ2 (fun i μ3 => g o i v μ3 (fun μ4 => K.nx δ μ4)) RE) RE) RE) := rfl
theorem x_wIt {fe : WE} {δ : LF.Env} {μ : MH} {R : Src → MH → Prop} {RE : EPost} : wIt fe δ μ R RE = (fe δ μ (fun d μ1 => match srcOf μ1 d with
  | some s => R s μ1
  | none => False) RE) := rfl
theorem x_wItS {K : PySem.W.Frag} {fe : WE} {δ : LF.Env} {μ : MH} {R : Src → MH → Prop} {RE : EPost} : wItS K fe δ μ R RE = (fe δ μ (fun d μ1 => ∃ a ns, d = .scr K a ns ∧ R ⟨ns.map D.int, none⟩ μ1) RE) := rfl
theorem x_wR1 {fa : WA} {δ : LF.Env} {μ : MH} {R : Src → MH → Prop} {RE : EPost} : wR1 fa δ μ R RE = (fa δ μ (fun ds μ1 => match ds with
  | [.int j] => -(2 ^ 62) ≤ j ∧ j < 2 ^ 62 ∧ R ⟨rngD 0 j.toNat, none⟩ μ1
  | _ => False) RE) := rfl
theorem x_wR2 {fa : WA} {δ : LF.Env} {μ : MH} {R : Src → MH → Prop} {RE : EPost} : wR2 fa δ μ R RE = (fa δ μ (fun ds μ1 => match ds with
  | [.int i, .int j] => (-(2 ^ 62) ≤ i ∧ i < 2 ^ 62 ∧ -(2 ^ 62) ≤ j ∧ j < 2 ^ 62) ∧ R ⟨rngD i (j - i).toNat, none⟩ μ1
  | _ => False) RE) := rfl
theorem x_wYes {δ : LF.Env} {μ : MH} {R : Bool → MH → Prop} {RE : EPost} : wYes δ μ R RE = (R true μ) := rfl
theorem x_wChain {g g' : G2} {fa fb fc : WE} {δ : LF.Env} {μ : MH} {R : Post} {RE : EPost} : wChain g g' fa fb fc δ μ R RE = (fa δ μ (fun x μ1 => fb δ μ1 (fun y μ2 => g x y μ2 (fun z μ3 => match z with
  | .bl k => if k = true then fc δ μ3 (fun w μ4 => g' y w μ4 R) RE else R (.bl false) μ3
  | _ => False)) RE) RE) := rfl
theorem x_wRaise {c : String} {fs : List String} {fa : WA} {δ : LF.Env} {μ : MH} {K : SEnds} {RE : EPost} : wRaise c fs fa δ μ K RE = (fa δ μ (fun ds μ1 => RE ⟨c, (fs.zip ds).reverse⟩ μ1) RE) := rfl
theorem x_wFor {fi : WI} {g : GT} {body : WS} {δ : LF.Env} {μ : MH} {K : SEnds} {RE : EPost} : wFor fi g body δ μ K RE = (fi δ μ (fun src μ1 => wForL src.stab g body src.ds δ μ1 K RE) RE) := rfl
theorem x_wLc {fi : WI} {g : GT} {tt : WT} {te : WE} {vs : List Nat} {δ : LF.Env} {μ : MH} {R : Post} {RE : EPost} : wLc fi g tt te vs δ μ R RE = (fi δ μ (fun src μ1 => ∀ p, μ1 p = none → wLcL src.stab p g tt te (wipeD δ vs) src.ds [] (mup μ1 p (.lst [])) fun acc μ2 => R (.lst acc) (mdel μ2 p)) RE) := rfl
theorem x_wLcV {fi : WI} {g : GT} {tt : WT} {te : WE} {vs : List Nat} {δ : LF.Env} {μ : MH} {R : Post} {RE : EPost} : wLcV fi g tt te vs δ μ R RE = (fi δ μ (fun src μ1 => ∀ p, μ1 p = none → wLcL src.stab p g tt te (wipeD δ vs) src.ds [] (mup μ1 p (.lst [])) fun acc μ2 => R (.ref p) μ2) RE) := rfl
theorem x_wWhile {c : WT} {body : WS} {δ : LF.Env} {μ : MH} {K : SEnds} {RE : EPost} : wWhile c body δ μ K RE = (∃ I : Nat → LF.Env → MH → Prop, (∃ m, I m δ μ) ∧ ∀ m δ μ, I m δ μ →
  c δ μ (fun b μ1 => if b = true then body δ μ1 { K with nx := fun δ2 μ2 => ∃ m', m' < m ∧ I m' δ2 μ2, ct := fun δ2 μ2 => ∃ m', m' < m ∧ I m' δ2 μ2, bk := K.nx } RE else K.nx δ μ1) RE) := rfl
theorem x_wCaught {T : List (Addr × Str)} {fb : WE} {δ : LF.Env} {μ : MH} {R : Post} {RE : EPost} : wCaught T fb δ μ R RE = (TabsIn T μ ∧ fb δ μ (fun _ μ' => R (.tup [.str (sk "none")]) μ') (fun ex μ' => ∃ d, caughtD ex = some d ∧ R d μ')) := rfl
theorem if_step {c : WT} {s : WS} {δ : LF.Env} {μ : MH} {K : SEnds} {RE : EPost} (hk : K.nx δ μ) (h : ∀ R : Bool → MH → Prop, R false μ → c δ μ R RE) : wIf c s wSkip δ μ K RE := h _ (by rw [if_neg Bool.false_ne_true]; exact hk)
theorem seq_if {c : WT} {s t : WS} {δ : LF.Env} {μ : MH} {K : SEnds} {RE : EPost} (hk : t δ μ K RE) (h : ∀ R : Bool → MH → Prop, R false μ → c δ μ R RE) : wSeq (wIf c s wSkip) t δ μ K RE := if_step hk h
theorem x_vTup2 {i j : Nat} {x y : D} {δ : LF.Env} {μ : MH} {R : LF.Env → MH → Prop} : vTup 2 (vCons (vName i) (vCons (vName j) vNil)) (.tup [x, y]) δ μ R = R ((δ.set i (some x)).set j (some y)) μ := propext ⟨fun h => h.2, fun h => ⟨rfl, h⟩⟩
theorem x_vTup3 {i j k : Nat} {x y z : D} {δ : LF.Env} {μ : MH} {R : LF.Env → MH → Prop} : vTup 3 (vCons (vName i) (vCons (vName j) (vCons (vName k) vNil))) (.tup [x, y, z]) δ μ R = R (((δ.set i (some x)).set j (some y)).set k (some z)) μ := propext ⟨fun h => h.2, fun h => ⟨rfl, h⟩⟩
theorem seq_of {s t : WS} {δ : LF.Env} {μ : MH} {K : SEnds} {RE : EPost} (h : s δ μ { K with nx := fun δ' μ' => t δ' μ' K RE } RE) : wSeq s t δ μ K RE := h
end LF

/-! SPA: values and the pen: what the defs do -/
namespace LF
open PySem PySem.Spec L2
section
variable {L : Lw}
/-! ### is_whole, is_index -/
def S_is_whole : Sc := fun ds μ R _ => ∃ d, ds = [d] ∧ Bt μ d ∧ R (.bl (isInt d)) μ
def w_is_whole (L : Lw) : WS :=
  (wRet (wAndV (wIsT L.ic ["int"] (wVar 0)) (wNotV (wIsT L.ic ["bool"] (wVar 0)))))
theorem isInt_not {d : D} : ((isInt d || isBool d) && !isBool d) = isInt d := by cases d <;> rfl
theorem pure_is_whole : ∀ ds μ R RE, ds.length = 1 → S_is_whole ds μ R RE → w_is_whole L (startD 1 ds) μ (EndsF R) (RetX RE) := by
  rintro ds μ R RE - ⟨d, rfl, ⟨a, ha⟩, h⟩
  obtain ⟨k1, k2, -⟩ := bt_kinds ha
  have e := @isInt_not d
  cases hi : isInt d <;> cases hb : isBool d <;> rw [hi, hb] at e k1 <;> rw [hb] at k2 <;> simp at e k1 k2 <;> rw [hi] at h <;> simp [w_is_whole, ha, k1, k2] <;> exact ret_same h
def isIdx (d : D) (m : Int) : Bool := match d with
  | .int i => decide (0 ≤ i) && decide (i < m)
  | _ => false
def S_is_index : Sc := fun ds μ R _ => ∃ d m, ds = [d, .int m] ∧ Bt μ d ∧ R (.bl (isIdx d m)) μ
def w_is_index (L : Lw) : WS :=
  (wRet (wAndV (wCall S_is_whole (wCons (wVar 0) wNil)) (wChain gLe gLt (wC (.int 0)) (wVar 0) (wVar 1))))
theorem pure_is_index : ∀ ds μ R RE, ds.length = 2 → S_is_index ds μ R RE → w_is_index L (startD 2 ds) μ (EndsF R) (RetX RE) := by
  rintro ds μ R RE - ⟨d, m, rfl, hb, h⟩
  simp only [w_is_index, wRet, wAndV, wCall, wVar, wCons, wNil, wChain, wC, startD, List.map, List.getElem?_cons_zero, List.getElem?_cons_succ, List.append_nil, EndsF, gCmp]
  refine ⟨d, rfl, hb, ?_⟩
  cases d with
  | int i =>
    simp only [isInt, isIdx] at h ⊢
    by_cases h0 : 0 ≤ i
    · simp [h0] at h ⊢; exact ret_same h
    · simp [h0] at h ⊢; exact ret_same h
  | _ => simp only [isInt, isIdx] at h ⊢; simp; exact ret_same h
/-! ### as_tuples -/
def asT : Nat → D → D
  | 0, d => d
  | n + 1, .tup ds => .tup (ds.map (asT n))
  | n + 1, .lst ds => .tup (ds.map (asT n))
  | _ + 1, d => d
def asOk : Nat → D → Bool
  | 0, _ => false
  | n + 1, .tup ds => decide (ds.length ≤ sizeLine) && ds.all (asOk n)
  | n + 1, .lst ds => decide (ds.length ≤ sizeLine) && ds.all (asOk n)
  | _ + 1, .non => true
  | _ + 1, .bl _ => true
  | _ + 1, .int _ => true
  | _ + 1, .str _ => true
  | _ + 1, _ => false
def Sr_as_tuples : Nat → Sc
  | 0 => fun _ _ _ _ => False
  | n + 1 => fun ds μ R _ => ∃ d, ds = [d] ∧ asOk (n + 1) d = true ∧ R (asT (n + 1) d) μ
def S_as_tuples : Sc := Sr_as_tuples 4
def w_as_tuples (L : Lw) (Srec : Sc) : WS :=
  (wSeq (wIf (wB (wIsT L.ic ["list", "tuple"] (wVar 0)))
  (wRet (wCB gTuple (wCons (wLc (wIt (wVar 0)) (vName 1) wYes (wCall Srec (wCons (wVar 1) wNil)) [1]) wNil)))
  wSkip)
  (wRet (wVar 0)))
theorem as_comp {n : Nat} {ds : List D} {δ : LF.Env} {μ : MH} {R : Post} {RE : EPost} (hl : δ.length = 2) (hz : ds.length ≤ sizeLine) (ha : ds.all (asOk n) = true) (h : R (.lst (ds.map (asT n))) μ) :
    ∀ p, μ p = none → wLcL (Src.stab ⟨ds, none⟩) p (vName 1) wYes (wCall (Sr_as_tuples n) (wCons (wVar 1) wNil)) (wipeD δ [1]) ds [] (mup μ p (.lst [])) fun acc μ2 => R (.lst acc) (mdel μ2 p) := by
  intro p hp
  match δ, hl with
  | [x, y], _ =>
    refine lc_run (asT n) (fun _ => true) (fun _ => trivial) (fun d hd acc R RE h => h) (fun d hd _ acc R RE h => ?_) (by simpa using hz) ?_
    · have hd' := List.all_eq_true.mp ha d hd
      cases n with
      | zero => simp [asOk] at hd'
      | succ n => exact ⟨d, rfl, hd', h⟩
    · rw [List.filter_eq_self.mpr (fun _ _ => rfl)]
      simp only [List.nil_append, mdel_mup_same, mdel_none hp]
      exact h
theorem pure_as_tuples (n : Nat) : ∀ ds μ R RE, ds.length = 1 → Sr_as_tuples (n + 1) ds μ R RE → w_as_tuples L (Sr_as_tuples n) (startD 2 ds) μ (EndsF R) (RetX RE) := by
  rintro ds μ R RE - ⟨d, rfl, ha, h⟩
  cases d with
  | tup xs =>
    simp only [asOk, Bool.and_eq_true, decide_eq_true_eq] at ha
    simp [w_as_tuples, tyN, isB, wLc, seqOf, srcOf]
    exact as_comp (R := fun d μ => match seqOf μ d with | some xs => (Ret R) (.tup xs) μ | none => False) (RE := RetX RE) rfl ha.1 ha.2 (ret_same h)
  | lst xs =>
    simp only [asOk, Bool.and_eq_true, decide_eq_true_eq] at ha
    simp [w_as_tuples, tyN, isB, wLc, seqOf, srcOf]
    exact as_comp (R := fun d μ => match seqOf μ d with | some xs => (Ret R) (.tup xs) μ | none => False) (RE := RetX RE) rfl ha.1 ha.2 (ret_same h)
  | non => simp [w_as_tuples, tyN, isB]; exact ret_same h
  | bl b => simp [w_as_tuples, tyN, isB]; exact ret_same h
  | int b => simp [w_as_tuples, tyN, isB]; exact ret_same h
  | str b => simp [w_as_tuples, tyN, isB]; exact ret_same h
  | ref _ => simp [asOk] at ha
  | ty _ => simp [asOk] at ha
  | dK _ => simp [asOk] at ha
  | dT _ => simp [asOk] at ha
  | obj _ _ _ => simp [asOk] at ha
  | scr _ _ _ => simp [asOk] at ha
/-! ### the pen -/
def S0_law_pen (K : PySem.W.Frag) : Sc := fun ds μ R _ => ∃ a ns, ds = [.scr K a ns] ∧ ∀ p f, μ p = none → R (.ref p) (mup μ p (.dK (penK ns 0 0 0 f)))
def S_law_pen (K : PySem.W.Frag) : Sc := fun ds μ R _ => ∃ a ns, ds = [.scr K a ns] ∧ ∀ p, μ p = none → R (.ref p) (mup μ p .pen)
def w_law_pen (L : Lw) (K : PySem.W.Frag) : WS :=
  (wSeq (wAsg (wC (.int 0)) (vName 1))
  (wSeq (wFor (wItS K (wVar 0)) (vName 2)
  (wAsg (wOp gMod (wCB gInt (wCons (wOp gAdd (wOp gMul (wVar 1) (wC (.int 47))) (wVar 2)) wNil)) (wC (.int 1000000007))) (vName 1)))
  (wRet (wDisp [("cells", (wCB (gListS K) (wCons (wVar 0) wNil))), ("at", (wC (.int 0))), ("digits", (wC (.int 0))), ("count", (wC (.int 0))), ("fold", (wVar 1))]))))
theorem pen_merge (ns : List Int) (f : Int) : mergeD [] [(Sum.inr (sk "cells"), D.lst (ns.map D.int)), (Sum.inr (sk "at"), D.int 0), (Sum.inr (sk "digits"), D.int 0), (Sum.inr (sk "count"), D.int 0), (Sum.inr (sk "fold"), D.int f)] = penK ns 0 0 0 f := by
  rfl
theorem pure_law_pen {K : PySem.W.Frag} : ∀ ds μ R RE, ds.length = 1 → S0_law_pen K ds μ R RE → w_law_pen L K (startD 3 ds) μ (EndsF R) (RetX RE) := by
  rintro ds μ R RE - ⟨a, ns, rfl, h⟩
  simp only [w_law_pen, wSeq, wAsg, wC, vName, startD, List.map, List.append_nil, wFor, wItS, wVar]
  refine ⟨a, ns, rfl, ?_⟩
  refine for_run (J := fun ds δ => (∃ ms : List Int, ds = ms.map D.int) ∧ ∃ f z, δ = [some (.scr K a ns), some (.int f), z]) trivial ?_ ?_ ⟨⟨ns, rfl⟩, 0, none, rfl⟩
  · rintro δ ⟨-, f, z, rfl⟩
    intro p hp
    simp only [wPairs, wCB, wCons, wVar, wNil, wC, List.getElem?_cons_zero, List.getElem?_cons_succ]
    refine ⟨a, ns, rfl, mup_same, ?_⟩
    rw [pen_merge, mup_mup]
    exact ret_same (h p f hp)
  · rintro d ds δ ⟨⟨ms, hm⟩, f, z, rfl⟩ N hN
    cases ms with
    | nil => cases hm
    | cons m ms =>
      cases hm
      simp only [vName, List.set_cons_succ, List.set_cons_zero, wAsg, wOp, wCB, wCons, wVar, wNil, wC, List.getElem?_cons_zero, List.getElem?_cons_succ, gMul, gAdd, gInt, gIc]
      exact ⟨cm_r (by decide), by decide, hN _ ⟨⟨ms, rfl⟩, _, _, rfl⟩⟩
/-- the pen as it is -/
def S0_law_draw : Sc := fun ds μ R _ => ∃ p m ns n d k f, ds = [.ref p, .int m] ∧ μ p = some (.dK (penK ns n d k f)) ∧ 0 ≤ n ∧ 0 < m ∧ m < 1073741824 ∧ ∀ i n' d' k' f', 0 ≤ i → i < m → 0 ≤ n' → R (.int i) (mup μ p (.dK (penK ns n' d' k' f')))
/-- the pen hidden -/
def S_law_draw : Sc := fun ds μ R _ => ∃ p m, ds = [.ref p, .int m] ∧ μ p = some .pen ∧ 0 < m ∧ m < 1073741824 ∧ ∀ i, 0 ≤ i → i < m → R (.int i) μ
def w_law_draw (L : Lw) : WS :=
  (wSeq (wSetI gSet (wOp gAdd (wOp gIx (wVar 0) (wC (.str (sk "count")))) (wC (.int 1))) (wVar 0) (wC (.str (sk "count"))))
  (wSeq (wIf (wAnd (wB (wOp gEq (wOp gIx (wVar 0) (wC (.str (sk "digits")))) (wC (.int 0)))) (wB (wOp gLt (wOp gIx (wVar 0) (wC (.str (sk "at")))) (wCB gLen (wCons (wOp gIx (wVar 0) (wC (.str (sk "cells")))) wNil)))))
  (wSeq (wAsg (wOp gIx (wOp gIx (wVar 0) (wC (.str (sk "cells")))) (wOp gIx (wVar 0) (wC (.str (sk "at"))))) (vName 2))
  (wSeq (wSetI gSet (wOp gAdd (wOp gIx (wVar 0) (wC (.str (sk "at")))) (wC (.int 1))) (wVar 0) (wC (.str (sk "at"))))
  (wIf (wB (wOp gGe (wVar 2) (wOp gPow (wC (.int 10)) (wC (.int 18)))))
  (wSetI gSet (wOp gSub (wVar 2) (wOp gPow (wC (.int 10)) (wC (.int 18)))) (wVar 0) (wC (.str (sk "digits"))))
  (wSetI gSet (wOp gMod (wCB gInt (wCons (wOp gAdd (wOp gMul (wOp gIx (wVar 0) (wC (.str (sk "fold")))) (wC (.int 69069))) (wVar 2)) wNil)) (wC (.int 2147483587))) (wVar 0) (wC (.str (sk "fold")))))))
  wSkip)
  (wSeq (wIf (wB (wOp gGt (wOp gIx (wVar 0) (wC (.str (sk "digits")))) (wC (.int 0))))
  (wSeq (wAsg (wOp gMod (wCB gInt (wCons (wOp gIx (wVar 0) (wC (.str (sk "digits")))) wNil)) (wVar 1)) (vName 3))
  (wSeq (wSetI gSet (wOp gFdiv (wOp gIx (wVar 0) (wC (.str (sk "digits")))) (wVar 1)) (wVar 0) (wC (.str (sk "digits"))))
  (wRet (wVar 3))))
  wSkip)
  (wSeq (wAsg (wOp gMod (wCB gInt (wCons (wOp gAdd (wOp gAdd (wOp gMul (wOp gIx (wVar 0) (wC (.str (sk "fold")))) (wC (.int 48271))) (wOp gMul (wOp gIx (wVar 0) (wC (.str (sk "count")))) (wC (.int 7919)))) (wC (.int 13))) wNil)) (wC (.int 2147483647))) (vName 4))
  (wSeq (wAsg (wOp gMod (wCB gInt (wCons (wOp gAdd (wOp gAdd (wOp gMul (wVar 4) (wVar 4)) (wOp gMul (wC (.int 31)) (wVar 4))) (wOp gIx (wVar 0) (wC (.str (sk "count"))))) wNil)) (wC (.int 2147483629))) (vName 4))
  (wSeq (wSetI gSet (wOp gMod (wCB gInt (wCons (wOp gAdd (wOp gMul (wVar 4) (wC (.int 16807))) (wC (.int 7))) wNil)) (wC (.int 2147483647))) (wVar 0) (wC (.str (sk "fold"))))
  (wRet (wOp gMod (wCB gInt (wCons (wOp gFdiv (wVar 4) (wC (.int 64))) wNil)) (wVar 1)))))))))
section
variable {ns : List Int} {n d k f : Int}
theorem pen_cells : valD (penK ns n d k f) (Sum.inr (sk "cells")) = some (.lst (ns.map D.int)) := rfl
theorem pen_at : valD (penK ns n d k f) (Sum.inr (sk "at")) = some (.int n) := rfl
theorem pen_digits : valD (penK ns n d k f) (Sum.inr (sk "digits")) = some (.int d) := rfl
theorem pen_count : valD (penK ns n d k f) (Sum.inr (sk "count")) = some (.int k) := rfl
theorem pen_fold : valD (penK ns n d k f) (Sum.inr (sk "fold")) = some (.int f) := rfl
theorem put_at (x : Int) : putKD (penK ns n d k f) (Sum.inr (sk "at")) (.int x) = penK ns x d k f := rfl
theorem put_digits (x : Int) : putKD (penK ns n d k f) (Sum.inr (sk "digits")) (.int x) = penK ns n x k f := rfl
theorem put_count (x : Int) : putKD (penK ns n d k f) (Sum.inr (sk "count")) (.int x) = penK ns n d x f := rfl
theorem put_fold (x : Int) : putKD (penK ns n d k f) (Sum.inr (sk "fold")) (.int x) = penK ns n d k x := rfl
theorem pen_len : (penK ns n d k f).length < sizeLine := by show 5 < 16777216; decide
end
theorem pen_ix {μ : MH} {p : Addr} {kvs : List (Key × D)} {x : String} {v : D} {R : Post} (h : μ p = some (.dK kvs)) (hv : valD kvs (Sum.inr (sk x)) = some v) (r : R v μ) : gIx (.ref p) (.str (sk x)) μ R := by
  simp only [gIx, seqOf, h, dkOf, keyD, hv]
  exact r
theorem pen_set {μ : MH} {p : Addr} {kvs kvs' : List (Key × D)} {x : String} {v : D} {R : MH → Prop} (h : μ p = some (.dK kvs)) (hl : kvs.length < sizeLine) (hv : putKD kvs (Sum.inr (sk x)) v = kvs') (r : R (mup μ p (.dK kvs'))) : gSet (.ref p) (.str (sk x)) v μ R := by
  simp only [gSet, h, keyD, hv]
  exact ⟨hl, r⟩
theorem eqv_int {i j : Int} {μ : MH} {R : Post} (r : R (.bl (i == j)) μ) : gEq (.int i) (.int j) μ R := ⟨rfl, rfl, r⟩
theorem int_at {ns : List Int} {i : Int} (h0 : 0 ≤ i) (h1 : i < ns.length) : ∃ c, atI (ns.map D.int) i = some (.int c) := by
  have : i.toNat < ns.length := by omega
  refine ⟨ns[i.toNat], ?_⟩
  unfold atI ixN
  rw [List.length_map, if_pos h0, if_pos h1]
  simp [this]
def w_draw_tail : WS :=
  wSeq (wIf (wB (wOp gGt (wOp gIx (wVar 0) (wC (.str (sk "digits")))) (wC (.int 0))))
    (wSeq (wAsg (wOp gMod (wCB gInt (wCons (wOp gIx (wVar 0) (wC (.str (sk "digits")))) wNil)) (wVar 1)) (vName 3))
      (wSeq (wSetI gSet (wOp gFdiv (wOp gIx (wVar 0) (wC (.str (sk "digits")))) (wVar 1)) (wVar 0) (wC (.str (sk "digits")))) (wRet (wVar 3)))) wSkip)
    (wSeq (wAsg (wOp gMod (wCB gInt (wCons (wOp gAdd (wOp gAdd (wOp gMul (wOp gIx (wVar 0) (wC (.str (sk "fold")))) (wC (.int 48271))) (wOp gMul (wOp gIx (wVar 0) (wC (.str (sk "count")))) (wC (.int 7919)))) (wC (.int 13))) wNil)) (wC (.int 2147483647))) (vName 4))
      (wSeq (wAsg (wOp gMod (wCB gInt (wCons (wOp gAdd (wOp gAdd (wOp gMul (wVar 4) (wVar 4)) (wOp gMul (wC (.int 31)) (wVar 4))) (wOp gIx (wVar 0) (wC (.str (sk "count"))))) wNil)) (wC (.int 2147483629))) (vName 4))
        (wSeq (wSetI gSet (wOp gMod (wCB gInt (wCons (wOp gAdd (wOp gMul (wVar 4) (wC (.int 16807))) (wC (.int 7))) wNil)) (wC (.int 2147483647))) (wVar 0) (wC (.str (sk "fold"))))
          (wRet (wOp gMod (wCB gInt (wCons (wOp gFdiv (wVar 4) (wC (.int 64))) wNil)) (wVar 1))))))
theorem draw_tail {p : Addr} {m : Int} {ns : List Int} {n d k f : Int} {z2 z3 z4 : Option D} {μ0 μ : MH} {R : Post} {RE : EPost} (hm : 0 < m) (hm2 : m < 1073741824) (hn : 0 ≤ n) (e : μ = mup μ0 p (.dK (penK ns n d k f)))
    (h : ∀ i n' d' k' f', 0 ≤ i → i < m → 0 ≤ n' → R (.int i) (mup μ0 p (.dK (penK ns n' d' k' f')))) : w_draw_tail [some (.ref p), some (.int m), z2, z3, z4] μ (EndsF R) (RetX RE) := by
  have hp : μ p = some (.dK (penK ns n d k f)) := by rw [e]; exact mup_same
  have md : ∀ x : Int, 0 ≤ x % m ∧ x % m < m := fun x => ⟨Int.emod_nonneg _ (by omega), Int.emod_lt_of_pos _ hm⟩
  simp only [w_draw_tail, wSeq, wIf, wB, wOp, wVar, wC, wAsg, wSetI, wCB, wCons, wNil, wRet, wAnd, wSkip, vName, startD, List.map, List.append_nil, List.length_cons, List.length_nil, List.replicate, List.cons_append, List.nil_append, List.getElem?_cons_zero, List.getElem?_cons_succ, List.set_cons_zero, List.set_cons_succ, Nat.reduceAdd, Nat.reduceSub]
  refine pen_ix hp pen_digits ?_
  show if decide ((0 : Int) < d) = true then _ else _
  by_cases hd : (0 : Int) < d
  · rw [if_pos (decide_eq_true hd)]
    refine pen_ix hp pen_digits ⟨hm, ?_⟩
    refine pen_ix hp pen_digits ⟨⟨hm, hm2⟩, ?_⟩
    refine pen_set hp pen_len (put_digits _) (ret_same ?_)
    rw [e, mup_mup]
    exact h _ _ _ _ _ (md d).1 (md d).2 hn
  · rw [if_neg (by simpa using hd)]
    refine pen_ix hp pen_fold ?_
    simp only [gMul_i]
    refine ⟨cm_r (by decide), pen_ix hp pen_count ?_⟩
    simp only [gMul_i, gAdd_i, gInt_i, gIc_i]
    generalize hx : (f * 48271 + k * 7919 + 13) % 2147483647 = x
    have b1 : 0 ≤ x ∧ x < 2147483647 := hx ▸ ⟨Int.emod_nonneg _ (by omega), Int.emod_lt_of_pos _ (by omega)⟩
    refine ⟨cm_r (by decide), by decide, cm_l ⟨by omega, by omega⟩, cm_l (by decide), pen_ix hp pen_count ?_⟩
    simp only [gMul_i, gAdd_i, gInt_i, gIc_i]
    refine ⟨by decide, cm_r (by decide), by decide, pen_set hp pen_len (put_fold _) ?_⟩
    refine ⟨by decide, hm, ret_same ?_⟩
    rw [e, mup_mup]
    exact h _ _ _ _ _ (md _).1 (md _).2 hn
theorem pure_law_draw : ∀ ds μ R RE, ds.length = 2 → S0_law_draw ds μ R RE → w_law_draw L (startD 5 ds) μ (EndsF R) (RetX RE) := by
  rintro ds μ R RE - ⟨p, m, ns, n, d, k, f, rfl, hp, hn, hm, hm2, h⟩
  have e0 : ∀ x, mup μ p x = mup μ p x := fun _ => rfl
  show (wSeq _ (wSeq _ w_draw_tail)) _ _ _ _
  simp only [wSeq, wIf, wB, wOp, wVar, wC, wAsg, wSetI, wCB, wCons, wNil, wRet, wAnd, wSkip, vName, startD, List.map, List.append_nil, List.length_cons, List.length_nil, List.replicate, List.cons_append, List.nil_append, List.getElem?_cons_zero, List.getElem?_cons_succ, List.set_cons_zero, List.set_cons_succ, Nat.reduceAdd, Nat.reduceSub]
  refine pen_ix hp pen_count ?_
  simp only [gAdd_i]
  refine pen_set hp pen_len (put_count _) ?_
  have h1 : mup μ p (.dK (penK ns n d (k + 1) f)) p = some (.dK (penK ns n d (k + 1) f)) := mup_same
  refine pen_ix h1 pen_digits (eqv_int ?_)
  show if (d == 0) = true then _ else _
  by_cases hd : (d == 0) = true
  · rw [if_pos hd]
    refine pen_ix h1 pen_at (pen_ix h1 pen_cells ?_)
    show if decide (n < ((ns.map D.int).length : Int)) = true then _ else _
    by_cases ha : n < ((ns.map D.int).length : Int)
    · rw [if_pos (decide_eq_true ha)]
      have hl : n < ns.length := by simpa using ha
      obtain ⟨c, hc⟩ := int_at hn hl
      refine pen_ix h1 pen_cells (pen_ix h1 pen_at ?_)
      refine seq_ix rfl hc ?_
      refine pen_ix h1 pen_at ?_
      simp only [gAdd_i]
      refine pen_set h1 pen_len (put_at _) ?_
      rw [mup_mup]
      have h2 : mup μ p (.dK (penK ns (n + 1) d (k + 1) f)) p = some (.dK (penK ns (n + 1) d (k + 1) f)) := mup_same
      refine ⟨⟨by decide, by decide, by decide⟩, ?_⟩
      show if decide ((10 : Int) ^ (18 : Int).toNat ≤ c) = true then _ else _
      by_cases hb : (10 : Int) ^ (18 : Int).toNat ≤ c
      · rw [if_pos (decide_eq_true hb)]
        refine ⟨⟨by decide, by decide, by decide⟩, ?_⟩
        simp only [gI_i]
        refine pen_set h2 pen_len (put_digits _) ?_
        rw [mup_mup]
        exact draw_tail (z2 := some (.int c)) (z3 := none) (z4 := none) hm hm2 (show 0 ≤ n + 1 by omega) rfl h
      · rw [if_neg (by simpa using hb)]
        refine pen_ix h2 pen_fold ?_
        simp only [gMul_i, gAdd_i, gInt_i, gIc_i]
        refine ⟨cm_r (by decide), by decide, pen_set h2 pen_len (put_fold _) ?_⟩
        rw [mup_mup]
        exact draw_tail (z2 := some (.int c)) (z3 := none) (z4 := none) hm hm2 (show 0 ≤ n + 1 by omega) rfl h
    · rw [if_neg (by simpa using ha)]
      exact draw_tail (z2 := none) (z3 := none) (z4 := none) hm hm2 hn rfl h
  · rw [if_neg hd]
    exact draw_tail (z2 := none) (z3 := none) (z4 := none) hm hm2 hn rfl h
/-! the pen hidden -/
theorem draw_hide {cl : String → Addr} : ∀ (vs : List V) (H : Hp) (Q : VK) (E : XK), spOf cl 2 S_law_draw vs H Q E → spOf cl 2 S0_law_draw vs H Q E := by
  rintro vs H Q E ⟨hl, ds, μ, R, RE, c, r, ⟨p, m, rfl, hp, hm, hm2, h⟩, PO, x⟩
  obtain ⟨ns, n, d, k, f, q, c1⟩ := pen_open c hp
  refine ⟨hl, [.ref p, .int m], _, fun d' μ' => ∃ ns n d k f, μ' p = some (.dK (penK ns n d k f)) ∧ PenC ns n d k f ∧ R d' (mup μ' p .pen), fun _ _ => False, c1, ?_, ⟨p, m, ns, n, d, k, f, rfl, mup_same, q, hm, hm2, ?_⟩, ?_, ExcOk.none⟩
  · cases r with
    | cons r1 r2 => cases r2 with
      | cons r2 r3 => cases r3; exact .cons (Rep.ref_iff.mpr (Rep.ref_iff.mp r1)) (.cons (Rep.int_iff.mpr (Rep.int_iff.mp r2)) .nil)
  · intro i n' d' k' f' h0 h1 h2
    refine ⟨ns, n', d', k', f', mup_same, h2, ?_⟩
    rw [mup_mup, mup_mup, mup_id hp]
    exact h i h0 h1
  · rintro d' μ' v H' ⟨ns', n', dd, k', f', hm', q', hr⟩ c' e' r'
    have e1 : Ext μ H (mup μ p (.dK (penK ns n d k f))) H := fun b o _ mm hb => ⟨.inl hb, by
      rw [mup_ne]; exact mm
      intro z; rw [z, hp] at mm; cases mm⟩
    have e2 : Ext μ' H' (mup μ' p .pen) H' := fun b o _ mm hb => ⟨.inl hb, by
      rw [mup_ne]; exact mm
      intro z; rw [z, hm'] at mm; cases mm⟩
    exact PO d' _ v H' hr (pen_close c' hm' q') ((e1.trans e').trans e2) (r'.ext e2)
theorem pen_hide {cl : String → Addr} {K : PySem.W.Frag} : ∀ (vs : List V) (H : Hp) (Q : VK) (E : XK), spOf cl 1 (S_law_pen K) vs H Q E → spOf cl 1 (S0_law_pen K) vs H Q E := by
  rintro vs H Q E ⟨hl, ds, μ, R, RE, c, r, ⟨a, ns, rfl, h⟩, PO, x⟩
  refine ⟨hl, _, μ, fun d' μ' => ∃ p ns n d k f, d' = .ref p ∧ μ' p = some (.dK (penK ns n d k f)) ∧ PenC ns n d k f ∧ R d' (mup μ' p .pen), fun _ _ => False, c, r, ⟨a, ns, rfl, fun p f hp => ⟨p, ns, 0, 0, 0, f, rfl, mup_same, Int.le_refl 0, ?_⟩⟩, ?_, ExcOk.none⟩
  · rw [mup_mup]; exact h p hp
  · rintro d' μ' v H' ⟨p, ns', n', dd, k', f', rfl, hm', q', hr⟩ c' e' r'
    have e2 : Ext μ' H' (mup μ' p .pen) H' := fun b o _ mm hb => ⟨.inl hb, by
      rw [mup_ne]; exact mm
      intro z; rw [z, hm'] at mm; cases mm⟩
    exact PO _ _ v H' hr (pen_close c' hm' q') (e'.trans e2) (r'.ext e2)
/-! ### _law_pick -/
def S_law_pick : Sc := fun ds μ R _ => ∃ p x xs, ds = [.ref p, x] ∧ μ p = some .pen ∧ seqOf μ x = some xs ∧ 0 < xs.length ∧ xs.length < 1073741824 ∧ ∀ d ∈ xs, R d μ
def w_law_pick (L : Lw) : WS :=
  (wRet (wOp gIx (wVar 1) (wCall S_law_draw (wCons (wVar 0) (wCons (wCB gLen (wCons (wVar 1) wNil)) wNil)))))
theorem pure_law_pick : ∀ ds μ R RE, ds.length = 2 → S_law_pick ds μ R RE → w_law_pick L (startD 2 ds) μ (EndsF R) (RetX RE) := by
  rintro ds μ R RE - ⟨p, x, xs, rfl, hp, hx, h0, h1, h⟩
  simp only [w_law_pick, wRet, wOp, wVar, wCall, wCons, wNil, wCB, startD, List.map, List.append_nil, List.length_cons, List.length_nil, List.replicate, List.getElem?_cons_zero, List.getElem?_cons_succ, Nat.reduceAdd, Nat.reduceSub, gLen, hx]
  refine ⟨p, (xs.length : Int), rfl, hp, by omega, by omega, fun i h2 h3 => ?_⟩
  have hi : i.toNat < xs.length := by omega
  refine seq_ix hx (d := xs[i.toNat]) ?_ (ret_same (h _ (List.getElem_mem hi)))
  unfold atI ixN
  rw [if_pos h2, if_pos h3]
  simp [hi]
/-! ### _law_is: what is told is what is due -/
def isOk : Nat → D → Bool
  | 0, _ => false
  | n + 1, .tup ds => decide (ds.length ≤ sizeLine) && ds.all (isOk n)
  | _ + 1, .non => true
  | _ + 1, .bl _ => true
  | _ + 1, .int _ => true
  | _ + 1, .str x => SeqAt.shaped (.str x)
  | _ + 1, _ => false
def Sr_law_is : Nat → Sc
  | 0 => fun _ _ _ _ => False
  | n + 1 => fun ds μ R _ => ∃ d, ds = [d, d] ∧ isOk (n + 1) d = true ∧ R (.bl true) μ
def S_law_is : Sc := Sr_law_is 6
def w_law_is (L : Lw) (Srec : Sc) : WS :=
  (wSeq (wIf (wB (wIsT L.ic ["tuple"] (wVar 1)))
  (wSeq (wIf (wOr (wNot (wB (wIsT L.ic ["tuple"] (wVar 0)))) (wB (wOp gNe (wCB gLen (wCons (wVar 0) wNil)) (wCB gLen (wCons (wVar 1) wNil)))))
  (wRet (wC (.bl false)))
  wSkip)
  (wRet (wOp gEq (wLc (wR1 (wCons (wCB gLen (wCons (wVar 1) wNil)) wNil)) (vName 2) (wNot (wB (wCall Srec (wCons (wOp gIx (wVar 0) (wVar 2)) (wCons (wOp gIx (wVar 1) (wVar 2)) wNil))))) (wVar 2) [2]) (wLst wNil))))
  wSkip)
  (wSeq (wIf (wB (wOp gIsN (wVar 1) (wC .non)))
  (wRet (wOp gIsN (wVar 0) (wC .non)))
  wSkip)
  (wSeq (wIf (wB (wOp (gIsB false) (wVar 1) (wC (.bl true))))
  (wRet (wOp (gIsB false) (wVar 0) (wC (.bl true))))
  wSkip)
  (wSeq (wIf (wB (wOp (gIsB false) (wVar 1) (wC (.bl false))))
  (wRet (wOp (gIsB false) (wVar 0) (wC (.bl false))))
  wSkip)
  (wSeq (wIf (wB (wIsT L.ic ["str"] (wVar 1)))
  (wRet (wAndV (wIsT L.ic ["str"] (wVar 0)) (wOp gEq (wVar 0) (wVar 1))))
  wSkip)
  (wRet (wAndV (wIsT L.ic ["int"] (wVar 0)) (wAndV (wNotV (wIsT L.ic ["bool"] (wVar 0))) (wOp gEq (wVar 0) (wVar 1))))))))))
theorem mem_rng {d : D} {n : Nat} (h : d ∈ rngD 0 n) : ∃ i : Nat, i < n ∧ d = .int i := by
  unfold rngD at h
  obtain ⟨i, hi, rfl⟩ := List.mem_map.mp h
  exact ⟨i, List.mem_range.mp hi, by simp⟩
theorem rng_len {lo : Int} {n : Nat} : (rngD lo n).length = n := by unfold rngD; simp
theorem tup_at {ds : List D} {i : Nat} (h : i < ds.length) : atI ds (i : Int) = some ds[i] := by
  unfold atI ixN
  rw [if_pos (by omega), if_pos (by omega)]
  simp [h]
theorem sl_62 {n : Nat} (h : n ≤ sizeLine) : (n : Int) < 2 ^ 62 := by
  rw [sizeLine_eq] at h; omega
theorem pure_law_is (n : Nat) : ∀ ds μ R RE, ds.length = 2 → Sr_law_is (n + 1) ds μ R RE → w_law_is L (Sr_law_is n) (startD 3 ds) μ (EndsF R) (RetX RE) := by
  rintro ds μ R RE - ⟨d, rfl, ha, h⟩
  cases d with
  | tup xs =>
    simp only [isOk, Bool.and_eq_true, decide_eq_true_eq] at ha
    have hz := sl_62 ha.1
    simp [w_law_is, tyN, isB, gLen, seqOf, wLc]
    refine ⟨by omega, ?_⟩
    intro p hp
    refine lc_run id (fun _ => false) (fun _ => trivial) (fun d hd acc R' RE' h' => ?_) (fun d hd hb => by cases hb) (by rw [rng_len]; simpa using ha.1) ?_
    · obtain ⟨i, hi, rfl⟩ := mem_rng hd
      have hm := List.all_eq_true.mp ha.2 xs[i] (List.getElem_mem hi)
      simp only [wipeD, List.set_cons_succ, List.set_cons_zero, wNot, wB, wCall, wCons, wNil, wOp, wVar, List.getElem?_cons_zero, List.getElem?_cons_succ]
      refine seq_ix (xs := xs) rfl (tup_at hi) (seq_ix (xs := xs) rfl (tup_at hi) ?_)
      cases n with
      | zero => simp [isOk] at hm
      | succ n => exact ⟨_, rfl, hm, h'⟩
    · rw [List.filter_eq_nil_iff.mpr (fun _ _ => by simp)]
      simp only [List.map_nil, List.append_nil, mdel_mup_same, mdel_none hp]
      exact ⟨rfl, rfl, ret_same h⟩
  | non => simp [w_law_is, tyN, isB, isNon]; exact ret_same h
  | bl b => cases b <;> simp [w_law_is, tyN, isB, isNon, isBl] <;> exact ret_same h
  | int b => simp [w_law_is, tyN, isB, isNon, isBl]; exact ret_same h
  | str b =>
    simp only [isOk] at ha
    simp [w_law_is, tyN, isB, isNon, isBl, gEq, pyM, py, ha, PyData.eqv]
    exact ret_same h
  | ref _ => simp [isOk] at ha
  | lst _ => simp [isOk] at ha
  | ty _ => simp [isOk] at ha
  | dK _ => simp [isOk] at ha
  | dT _ => simp [isOk] at ha
  | obj _ _ _ => simp [isOk] at ha
  | scr _ _ _ => simp [isOk] at ha
end
end LF

/-! SPB: Taken, Rooms, RoomCases: what they are made of, when they are equal -/
namespace LF
open PySem PySem.Spec L2
/-! ### errors -/
abbrev exNum (what : String) (d : D) : Ex := ⟨"BadNumber", [("number", d), ("what", .str (sk what))]⟩
abbrev exRow (what : String) (d : D) : Ex := ⟨"BadRow", [("row", d), ("what", .str (sk what))]⟩
/-! ### plain data -/
theorem Bt.fresh {μ : MH} {a : Addr} {m : MO} {d : D} (h : Bt μ d) (n : μ a = none) : Bt (mup μ a m) d ∧ seqOf (mup μ a m) d = seqOf μ d := by
  cases d with
  | ref b =>
    have ne : b ≠ a := fun e => by
      subst e
      obtain ⟨x, h⟩ := h
      simp [tyN, n] at h
    constructor
    · obtain ⟨x, h⟩ := h
      exact ⟨x, by simpa [tyN, mup_ne ne] using h⟩
    · simp [seqOf, mup_ne ne]
  | _ => exact ⟨h, rfl⟩
theorem isSeq {μ : MH} {d : D} {a : String} (h : tyN μ d = some (.inl a)) : ["list", "tuple"].any (isB a) = (seqOf μ d).isSome := by
  obtain ⟨-, -, -, k4, k5⟩ := bt_kinds h
  have e : (seqOf μ d).isSome = ((lstOf μ d).isSome || isTup d) := by
    cases d with
    | ref b => simp only [seqOf, lstOf, isTup]; split <;> simp
    | _ => simp [seqOf, lstOf, isTup]
  rw [e]
  simp [k4, k5]
section
variable {L : Lw}
/-! ### need_period, is_arc -/
def isPer : D → Bool
  | .int i => decide (2 ≤ i) && decide (i ≤ 1440)
  | _ => false
def S_need_period : Sc := fun ds μ R RE => ∃ d, ds = [d] ∧ Bt μ d ∧ (isPer d = true → R .non μ) ∧ (isPer d = false → RE (exNum "period" d) μ)
def w_need_period (L : Lw) : WS :=
  (wIf (wOr (wNot (wB (wCall S_is_whole (wCons (wVar 0) wNil)))) (wNot (wB (wChain gLe gLe (wC (.int 2)) (wVar 0) (wC (.int 1440))))))
  (wRaise "BadNumber" ["what", "number"] (wCons (wC (.str (sk "period"))) (wCons (wVar 0) wNil)))
  wSkip)
theorem pure_need_period : ∀ ds μ R RE, ds.length = 1 → S_need_period ds μ R RE → w_need_period L (startD 1 ds) μ (EndsF R) (RetX RE) := by
  rintro ds μ R RE - ⟨d, rfl, hb, h1, h2⟩
  simp only [w_need_period, wSeq, wIf, wOr, wNot, wB, wCall, wCons, wNil, wVar, wC, wRaise, wSkip, wChain, startD, List.map, List.append_nil, List.getElem?_cons_zero, EndsF]
  refine ⟨d, rfl, hb, ?_⟩
  cases d with
  | int i =>
    simp only [isInt, isPer] at h1 h2 ⊢
    by_cases a : 2 ≤ i
    · by_cases b : i ≤ 1440
      · simp [a, b] at h1 h2 ⊢; exact ret_same h1
      · simp [a, b] at h1 h2 ⊢; exact retx_same h2
    · simp [a] at h1 h2 ⊢; exact retx_same h2
  | _ => simp [isInt, isPer] at h1 h2 ⊢; exact retx_same h2
def isArc (p : Int) : D → Bool
  | .tup [a, b] => isIdx a p && isIdx b p
  | _ => false
def ArcBt (μ : MH) (d : D) : Prop := Bt μ d ∧ ∀ xs, d = .tup xs → ∀ x ∈ xs, Bt μ x
def S_is_arc : Sc := fun ds μ R _ => ∃ p d, ds = [.int p, d] ∧ ArcBt μ d ∧ R (.bl (isArc p d)) μ
def w_is_arc (L : Lw) : WS :=
  (wSeq (wIf (wOr (wNot (wB (wIsT L.ic ["tuple"] (wVar 1)))) (wOr (wB (wOp gNe (wCB gLen (wCons (wVar 1) wNil)) (wC (.int 2)))) (wNot (wB (wCall S_is_index (wCons (wOp gIx (wVar 1) (wC (.int 0))) (wCons (wVar 0) wNil)))))))
  (wRet (wC (.bl false)))
  wSkip)
  (wRet (wCall S_is_index (wCons (wOp gIx (wVar 1) (wC (.int 1))) (wCons (wVar 0) wNil)))))
theorem pure_is_arc : ∀ ds μ R RE, ds.length = 2 → S_is_arc ds μ R RE → w_is_arc L (startD 2 ds) μ (EndsF R) (RetX RE) := by
  rintro ds μ R RE - ⟨p, d, rfl, ⟨⟨a, ha⟩, hx⟩, h⟩
  obtain ⟨-, -, -, k4, -⟩ := bt_kinds ha
  cases d with
  | tup xs =>
    have hx := hx xs rfl
    simp only [isTup] at k4
    have k4' : ["tuple"].any (isB a) = true := by simp [k4]
    simp only [w_is_arc, wSeq, wIf, wOr, wNot, wB, wIsT, wCall, wCons, wNil, wVar, wC, wOp, wCB, wRet, wSkip, startD, List.map, List.append_nil, List.length_cons, List.length_nil, List.replicate, List.getElem?_cons_zero, List.getElem?_cons_succ, Nat.reduceAdd, Nat.reduceSub, ha, k4', gLen, seqOf, gNe_i]
    match xs, hx, h with
    | [x, y], hx, h =>
      simp only [isArc] at h
      simp
      refine seq_ix (xs := [x, y]) (d := x) (i := 0) rfl rfl ⟨x, p, rfl, hx x (by simp), ?_⟩
      cases hi : isIdx x p with
      | false => simp [hi] at h ⊢; exact ret_same h
      | true =>
        simp [hi] at h ⊢
        refine seq_ix (xs := [x, y]) (d := y) (i := 1) rfl rfl ⟨y, p, rfl, hx y (by simp), ret_same h⟩
    | [], hx, h => simp [isArc] at h ⊢; exact ret_same h
    | [x], hx, h => simp [isArc] at h ⊢; exact ret_same h
    | x :: y :: z :: r, hx, h =>
      have e : ((r.length : Int) + 1 + 1 + 1 == 2) = false := by
        rw [beq_eq_false_iff_ne]; omega
      simp [isArc, e] at h ⊢; exact ret_same h
  | _ =>
    simp only [isTup] at k4
    simp [w_is_arc, ha, k4]
    exact ret_same h
/-! ### Taken -/
def tkF (per : D) (xs : List D) : List (String × D) := [("period", per), ("arcs", .tup xs)]
def TakenAsk (μ : MH) (per arcs : D) (good : List D → Prop) (bad : Ex → Prop) : Prop := Bt μ per ∧ Bt μ arcs ∧ (isPer per = false → bad (exNum "period" per)) ∧
  (∀ p, per = .int p → isPer per = true → (seqOf μ arcs = none → bad (exRow "arcs" arcs)) ∧ ∀ xs, seqOf μ arcs = some xs → (∀ x ∈ xs, ArcBt μ x) ∧ (∀ x, xs.find? (fun x => !isArc p x) = some x → bad (exRow "arc" x)) ∧ (xs.find? (fun x => !isArc p x) = none → good xs))
def S_Taken___init__ : Sc := fun ds μ R RE => ∃ a per arcs, ds = [.ref a, per, arcs] ∧ μ a = some (.ins "Taken" []) ∧ TakenAsk μ per arcs (fun xs => R .non (mup μ a (.ins "Taken" (tkF per xs)))) (fun ex => RE ex μ)
def S_Taken : Sc := fun ds μ R RE => ∃ per arcs, ds = [per, arcs] ∧ TakenAsk μ per arcs (fun xs => ∀ a, R (.obj a "Taken" (tkF per xs)) μ) (fun ex => RE ex μ)
def w_Taken___init__ (L : Lw) : WS :=
  (wSeq (wExpr (wCall S_need_period (wCons (wVar 1) wNil)))
  (wSeq (wIf (wNot (wB (wIsT L.ic ["list", "tuple"] (wVar 2))))
  (wRaise "BadRow" ["what", "row"] (wCons (wC (.str (sk "arcs"))) (wCons (wVar 2) wNil)))
  wSkip)
  (wSeq (wFor (wIt (wVar 2)) (vName 3)
  (wIf (wNot (wB (wCall S_is_arc (wCons (wVar 1) (wCons (wVar 3) wNil)))))
  (wRaise "BadRow" ["what", "row"] (wCons (wC (.str (sk "arc"))) (wCons (wVar 3) wNil)))
  wSkip))
  (wSeq (wSetF (L.fc "period") "period" (wVar 0) (wVar 1))
  (wSetF (L.fc "arcs") "arcs" (wVar 0) (wCB gTuple (wCons (wVar 2) wNil)))))))
theorem arcBt_fresh {μ : MH} {a : Addr} {m : MO} {d : D} (h : ArcBt μ d) (n : μ a = none) : ArcBt (mup μ a m) d := ⟨(h.1.fresh n).1, fun xs e x hx => ((h.2 xs e x hx).fresh n).1⟩
theorem mk_Taken : ∀ ds μ R RE, S_Taken ds μ R RE → ∀ a, μ a = none → S_Taken___init__ (.ref a :: ds) (mup μ a (.ins "Taken" [])) (fun d μ2 => d = .non ∧ ∃ fs, μ2 a = some (.ins "Taken" fs) ∧ R (.obj a "Taken" fs) (mdel μ2 a)) (fun ex μ2 => RE ex (mdel μ2 a)) := by
  rintro ds μ R RE ⟨per, arcs, rfl, h1, h2, h3, h4⟩ a hn
  have em : mdel (mup μ a (.ins "Taken" [])) a = μ := mdel_mup hn
  refine ⟨a, per, arcs, rfl, mup_same, (h1.fresh hn).1, (h2.fresh hn).1, fun z => ?_, fun p e z => ?_⟩
  · show RE _ (mdel _ a); rw [em]; exact h3 z
  · obtain ⟨g1, g2⟩ := h4 p e z
    rw [(h2.fresh hn).2]
    refine ⟨fun z => ?_, fun xs z => ?_⟩
    · show RE _ (mdel _ a); rw [em]; exact g1 z
    · obtain ⟨k1, k2, k3⟩ := g2 xs z
      refine ⟨fun x hx => arcBt_fresh (k1 x hx) hn, fun x hx => ?_, fun hx => ⟨rfl, _, mup_same, ?_⟩⟩
      · show RE _ (mdel _ a); rw [em]; exact k2 x hx
      · rw [mdel_mup_same, em]; exact k3 hx a
theorem src_of {μ : MH} {d : D} {xs : List D} (h : seqOf μ d = some xs) : ∃ lv, srcOf μ d = some ⟨xs, lv⟩ ∧ Src.stab ⟨xs, lv⟩ μ := by
  cases d with
  | tup ds => cases h; exact ⟨none, rfl, trivial⟩
  | lst ds => cases h; exact ⟨none, rfl, trivial⟩
  | ref b =>
    simp only [seqOf] at h
    split at h
    · rename_i ds hm; cases h; exact ⟨some (b, .lst xs), by simp [srcOf, hm], hm⟩
    · cases h
  | _ => cases h
theorem seq_other {μ : MH} {a : Addr} {m m' : MO} {d : D} {xs : List D} (h : seqOf μ d = some xs) (ha : μ a = some m) (hm : ∀ ds, m ≠ .lst ds) : seqOf (mup μ a m') d = some xs := by
  cases d with
  | ref b =>
    have ne : b ≠ a := fun e => by
      subst e
      simp only [seqOf, ha] at h
      split at h
      · rename_i z; cases z; exact hm _ rfl
      · cases h
    simpa [seqOf, mup_ne ne] using h
  | _ => exact h
theorem pure_Taken___init__ (hP : "Taken" ∈ L.fc "period" := by decide) (hA : "Taken" ∈ L.fc "arcs" := by decide) : ∀ ds μ R RE, ds.length = 3 → S_Taken___init__ ds μ R RE → w_Taken___init__ L (startD 4 ds) μ (EndsF R) (RetX RE) := by
  rintro ds μ R RE - ⟨a, per, arcs, rfl, ha, h1, h2, h3, h4⟩
  simp only [w_Taken___init__, wSeq, wExpr, wIf, wNot, wB, wIsT, wCall, wCons, wNil, wVar, wC, wRaise, wSkip, wSetF, wCB, startD, List.map, List.append_nil, List.length_cons, List.length_nil, List.replicate, List.cons_append, List.nil_append, List.getElem?_cons_zero, List.getElem?_cons_succ, Nat.reduceAdd, Nat.reduceSub]
  refine ⟨per, rfl, h1, fun hp => ?_, fun hp => retx_same (h3 hp)⟩
  obtain ⟨p, rfl⟩ : ∃ p, per = .int p := by
    cases per <;> simp [isPer] at hp ⊢
  obtain ⟨g1, g2⟩ := h4 p rfl hp
  obtain ⟨t, ht⟩ := h2
  simp only [ht, isSeq ht]
  cases hs : seqOf μ arcs with
  | none => simp; exact retx_same (g1 hs)
  | some xs =>
    obtain ⟨k1, k2, k3⟩ := g2 xs hs
    obtain ⟨lv, hsrc, hst⟩ := src_of hs
    simp only [Option.isSome_some, Bool.not_true, Bool.false_eq_true, if_false, wFor, wIt, wVar, List.getElem?_cons_zero, List.getElem?_cons_succ, hsrc]
    refine for_run (J := fun ds δ => (∃ z, δ = [some (.ref a), some (.int p), some arcs, z]) ∧ (∀ x ∈ ds, ArcBt μ x) ∧ (∀ x, ds.find? (fun x => !isArc p x) = some x → xs.find? (fun x => !isArc p x) = some x) ∧ (ds.find? (fun x => !isArc p x) = none → xs.find? (fun x => !isArc p x) = none)) hst ?_ ?_ ⟨⟨none, rfl⟩, k1, fun _ h => h, fun h => h⟩
    · rintro δ ⟨⟨z, rfl⟩, -, -, hnone⟩
      simp only [List.getElem?_cons_zero, List.getElem?_cons_succ, ha, mup_same]
      refine ⟨hP, by simp, ?_⟩
      simp only [gTuple, seq_other hs ha (by intro _ e; cases e), mup_same]
      refine ⟨hA, by simp [putD], ?_⟩
      rw [mup_mup]
      exact ret_same (k3 (hnone rfl))
    · rintro d ds δ ⟨⟨z, rfl⟩, j1, j2, j3⟩ N hN
      simp only [vName, List.set_cons_succ, List.set_cons_zero, wIf, wNot, wB, wCall, wCons, wNil, wVar, wRaise, wSkip, wC, List.getElem?_cons_zero, List.getElem?_cons_succ]
      refine ⟨p, d, rfl, j1 d (by simp), ?_⟩
      cases hd : isArc p d with
      | true =>
        simp
        refine hN _ ⟨⟨_, rfl⟩, fun x hx => j1 x (by simp [hx]), fun x hx => j2 x ?_, fun hx => j3 ?_⟩
        · rw [List.find?_cons_of_neg (by simp [hd])]; exact hx
        · rw [List.find?_cons_of_neg (by simp [hd])]; exact hx
      | false =>
        simp
        refine retx_same (k2 d (j2 d ?_))
        rw [List.find?_cons_of_pos (by simp [hd])]
/-! ### == of own classes -/
def EqAsk (L : Lw) (c : String) (data : List (String × D) → Option D) (μ : MH) (x y : D) (k : Bool → Prop) : Prop := ∃ a fs, x = .obj a c fs ∧ ((Bt μ y ∧ k false) ∨ ∃ b c2 gs, y = .obj b c2 gs ∧ c2 ∈ L.ic ∧ ((c2 ≠ c ∧ k false) ∨ (c2 = c ∧ ∃ p q, (data fs).bind py = some p ∧ (data gs).bind py = some q ∧ SeqAt.shaped p = true ∧ SeqAt.shaped q = true ∧ k (PyData.eqv p q))))
def S_eqOf (L : Lw) (c : String) (data : List (String × D) → Option D) : Sc := fun ds μ R _ => ∃ x y, ds = [x, y] ∧ EqAsk L c data μ x y fun b => R (.bl b) μ
def S_neOf (L : Lw) (c : String) (data : List (String × D) → Option D) : Sc := fun ds μ R _ => ∃ x y, ds = [x, y] ∧ EqAsk L c data μ x y fun b => R (.bl (!b)) μ
theorem EqAsk.imp {c : String} {data : List (String × D) → Option D} {μ : MH} {x y : D} {k k' : Bool → Prop} (h : EqAsk L c data μ x y k) (i : ∀ b, k b → k' b) : EqAsk L c data μ x y k' := by
  obtain ⟨a, fs, e, h⟩ := h
  refine ⟨a, fs, e, h.imp (fun z => ⟨z.1, i _ z.2⟩) fun ⟨b, c2, gs, e2, hc, z⟩ => ⟨b, c2, gs, e2, hc, z.imp (fun z => ⟨z.1, i _ z.2⟩) fun ⟨e3, p, q, z1, z2, z3, z4, z5⟩ => ⟨e3, p, q, z1, z2, z3, z4, i _ z5⟩⟩⟩
theorem own_eq {c : String} {data : List (String × D) → Option D} {μ : MH} {x y : D} {R : Post} (h : EqAsk L c data μ x y fun b => R (.bl b) μ) : gOwn c L.ic (S_eqOf L c data) x y μ R := by
  have h' : S_eqOf L c data [x, y] μ (fun d μ' => (∃ b, d = .bl b) ∧ R d μ') (fun _ _ => False) := ⟨x, y, rfl, h.imp fun b z => ⟨⟨b, rfl⟩, z⟩⟩
  obtain ⟨a, fs, rfl, h⟩ := h
  refine ⟨rfl, ?_, h'⟩
  rcases h with ⟨⟨t, ht⟩, -⟩ | ⟨b, c2, gs, rfl, hc, -⟩
  · rw [ht]; trivial
  · exact hc
theorem own_ne {c : String} {data : List (String × D) → Option D} {μ : MH} {x y : D} {R : Post} (h : EqAsk L c data μ x y fun b => R (.bl (!b)) μ) : gOwn c L.ic (S_neOf L c data) x y μ R := by
  have h' : S_neOf L c data [x, y] μ (fun d μ' => (∃ b, d = .bl b) ∧ R d μ') (fun _ _ => False) := ⟨x, y, rfl, h.imp fun b z => ⟨⟨_, rfl⟩, z⟩⟩
  obtain ⟨a, fs, rfl, h⟩ := h
  refine ⟨rfl, ?_, h'⟩
  rcases h with ⟨⟨t, ht⟩, -⟩ | ⟨b, c2, gs, rfl, hc, -⟩
  · rw [ht]; trivial
  · exact hc
theorem pure_neOf {c : String} {data : List (String × D) → Option D} : ∀ ds μ R RE, ds.length = 2 → S_neOf L c data ds μ R RE → (wRet (wNotV (wOp (gOwn c L.ic (S_eqOf L c data)) (wVar 0) (wVar 1)))) (startD 2 ds) μ (EndsF R) (RetX RE) := by
  rintro ds μ R RE - ⟨x, y, rfl, h⟩
  exact own_eq (h.imp fun b z => ret_same z)
def dTaken (fs : List (String × D)) : Option D := match fs.lookup "period", fs.lookup "arcs" with
  | some p, some a => some (.tup [p, a])
  | _, _ => none
def dF (f : String) (fs : List (String × D)) : Option D := fs.lookup f
def S_Taken___eq__ (L : Lw) : Sc := S_eqOf L "Taken" dTaken
def S_Taken___ne__ (L : Lw) : Sc := S_neOf L "Taken" dTaken
def S_Rooms___eq__ (L : Lw) : Sc := S_eqOf L "Rooms" (dF "numbers")
def S_Rooms___ne__ (L : Lw) : Sc := S_neOf L "Rooms" (dF "numbers")
def S_RoomCases___eq__ (L : Lw) : Sc := S_eqOf L "RoomCases" (dF "root")
def S_RoomCases___ne__ (L : Lw) : Sc := S_neOf L "RoomCases" (dF "root")
def w_Taken___eq__ (L : Lw) : WS :=
  (wRet (wAndV (wIsi L.ic "Taken" (wVar 1)) (wOp gEq (wTup (wCons (wFld (L.fc "period") "period" (wVar 0)) (wCons (wFld (L.fc "arcs") "arcs" (wVar 0)) wNil))) (wTup (wCons (wFld (L.fc "period") "period" (wVar 1)) (wCons (wFld (L.fc "arcs") "arcs" (wVar 1)) wNil))))))
def w_Taken___ne__ (L : Lw) : WS :=
  (wRet (wNotV (wOp (gOwn "Taken" L.ic (S_Taken___eq__ L)) (wVar 0) (wVar 1))))
def w_Rooms___eq__ (L : Lw) : WS :=
  (wRet (wAndV (wIsi L.ic "Rooms" (wVar 1)) (wOp gEq (wFld (L.fc "numbers") "numbers" (wVar 0)) (wFld (L.fc "numbers") "numbers" (wVar 1)))))
def w_Rooms___ne__ (L : Lw) : WS :=
  (wRet (wNotV (wOp (gOwn "Rooms" L.ic (S_Rooms___eq__ L)) (wVar 0) (wVar 1))))
def w_RoomCases___eq__ (L : Lw) : WS :=
  (wRet (wAndV (wIsi L.ic "RoomCases" (wVar 1)) (wOp gEq (wFld (L.fc "root") "root" (wVar 0)) (wFld (L.fc "root") "root" (wVar 1)))))
def w_RoomCases___ne__ (L : Lw) : WS :=
  (wRet (wNotV (wOp (gOwn "RoomCases" L.ic (S_RoomCases___eq__ L)) (wVar 0) (wVar 1))))
theorem py_M {μ : MH} {v : D} {p : PyData} (h : py v = some p) : pyM μ v = some p := by
  cases v with
  | ref _ => simp [py] at h
  | _ => exact h
/-- == of a class with one field -/
theorem pure_eq1 {c f : String} (hc : c ∈ L.fc f) : ∀ ds μ R RE, ds.length = 2 → S_eqOf L c (dF f) ds μ R RE → (wRet (wAndV (wIsi L.ic c (wVar 1)) (wOp gEq (wFld (L.fc f) f (wVar 0)) (wFld (L.fc f) f (wVar 1))))) (startD 2 ds) μ (EndsF R) (RetX RE) := by
  rintro ds μ R RE - ⟨x, y, rfl, a, fs, rfl, h⟩
  rcases h with ⟨⟨t, ht⟩, h⟩ | ⟨b, c2, gs, rfl, hi, ⟨ne, h⟩ | ⟨rfl, p, q, e1, e2, s1, s2, h⟩⟩
  · simp [ht]; exact ret_same h
  · simp [tyN, hi, ne]; exact ret_same h
  · obtain ⟨v, hv, e1⟩ := Option.bind_eq_some_iff.mp e1
    obtain ⟨u, hu, e2⟩ := Option.bind_eq_some_iff.mp e2
    have hv : fs.lookup f = some v := hv
    have hu : gs.lookup f = some u := hu
    simp [tyN, hi, hc, fldsOf, hv, hu]
    simp only [gEq, py_M e1, py_M e2]
    exact ⟨s1, s2, ret_same h⟩
theorem pure_Taken___eq__ (hP : "Taken" ∈ L.fc "period" := by decide) (hA : "Taken" ∈ L.fc "arcs" := by decide) : ∀ ds μ R RE, ds.length = 2 → S_Taken___eq__ L ds μ R RE → w_Taken___eq__ L (startD 2 ds) μ (EndsF R) (RetX RE) := by
  rintro ds μ R RE - ⟨x, y, rfl, a, fs, rfl, h⟩
  rcases h with ⟨⟨t, ht⟩, h⟩ | ⟨b, c2, gs, rfl, hi, ⟨ne, h⟩ | ⟨rfl, p, q, e1, e2, s1, s2, h⟩⟩
  · simp [w_Taken___eq__, ht]; exact ret_same h
  · simp [w_Taken___eq__, tyN, hi, ne]; exact ret_same h
  · obtain ⟨v, hv, e1⟩ := Option.bind_eq_some_iff.mp e1
    obtain ⟨u, hu, e2⟩ := Option.bind_eq_some_iff.mp e2
    have key : ∀ {fs : List (String × D)} {v : D}, dTaken fs = some v → ∃ p a, fs.lookup "period" = some p ∧ fs.lookup "arcs" = some a ∧ v = .tup [p, a] := by
      intro fs v h
      unfold dTaken at h
      split at h
      · rename_i p a h1 h2; cases h; exact ⟨p, a, h1, h2, rfl⟩
      · cases h
    obtain ⟨p1, a1, h1, h2, rfl⟩ := key hv
    obtain ⟨p2, a2, h3, h4, rfl⟩ := key hu
    simp [w_Taken___eq__, tyN, hi, hP, hA, fldsOf, h1, h2, h3, h4]
    simp only [gEq, py_M e1, py_M e2]
    exact ⟨s1, s2, ret_same h⟩
theorem pure_Taken___ne__ : ∀ ds μ R RE, ds.length = 2 → S_Taken___ne__ L ds μ R RE → w_Taken___ne__ L (startD 2 ds) μ (EndsF R) (RetX RE) := pure_neOf
theorem pure_Rooms___eq__ (h : "Rooms" ∈ L.fc "numbers" := by decide) : ∀ ds μ R RE, ds.length = 2 → S_Rooms___eq__ L ds μ R RE → w_Rooms___eq__ L (startD 2 ds) μ (EndsF R) (RetX RE) := pure_eq1 h
theorem pure_Rooms___ne__ : ∀ ds μ R RE, ds.length = 2 → S_Rooms___ne__ L ds μ R RE → w_Rooms___ne__ L (startD 2 ds) μ (EndsF R) (RetX RE) := pure_neOf
theorem pure_RoomCases___eq__ (h : "RoomCases" ∈ L.fc "root" := by decide) : ∀ ds μ R RE, ds.length = 2 → S_RoomCases___eq__ L ds μ R RE → w_RoomCases___eq__ L (startD 2 ds) μ (EndsF R) (RetX RE) := pure_eq1 h
theorem pure_RoomCases___ne__ : ∀ ds μ R RE, ds.length = 2 → S_RoomCases___ne__ L ds μ R RE → w_RoomCases___ne__ L (startD 2 ds) μ (EndsF R) (RetX RE) := pure_neOf
/-! ### Rooms, RoomCases made -/
def S_one (c f : String) : Sc := fun ds μ R _ => ∃ a d, ds = [.ref a, d] ∧ μ a = some (.ins c []) ∧ asOk 4 d = true ∧ R .non (mup μ a (.ins c [(f, asT 4 d)]))
def S_oneM (c f : String) : Sc := fun ds μ R _ => ∃ d, ds = [d] ∧ asOk 4 d = true ∧ ∀ a, R (.obj a c [(f, asT 4 d)]) μ
theorem mk_one {c f : String} : ∀ ds μ R RE, S_oneM c f ds μ R RE → ∀ a, μ a = none → S_one c f (.ref a :: ds) (mup μ a (.ins c [])) (fun d μ2 => d = .non ∧ ∃ fs, μ2 a = some (.ins c fs) ∧ R (.obj a c fs) (mdel μ2 a)) (fun ex μ2 => RE ex (mdel μ2 a)) := by
  rintro ds μ R RE ⟨d, rfl, h1, h⟩ a hn
  refine ⟨a, d, rfl, mup_same, h1, rfl, _, mup_same, ?_⟩
  rw [mdel_mup_same, mdel_mup hn]
  exact h a
theorem pure_one {c f : String} (hc : c ∈ L.fc f) : ∀ ds μ R RE, ds.length = 2 → S_one c f ds μ R RE → (wSetF (L.fc f) f (wVar 0) (wCall S_as_tuples (wCons (wVar 1) wNil))) (startD 2 ds) μ (EndsF R) (RetX RE) := by
  rintro ds μ R RE - ⟨a, d, rfl, ha, h1, h⟩
  refine ⟨d, rfl, h1, ?_⟩
  simp [ha, hc, putD]
  exact ret_same h
def S_Rooms___init__ : Sc := S_one "Rooms" "numbers"
def S_Rooms : Sc := S_oneM "Rooms" "numbers"
def S_RoomCases___init__ : Sc := S_one "RoomCases" "root"
def S_RoomCases : Sc := S_oneM "RoomCases" "root"
def w_Rooms___init__ (L : Lw) : WS :=
  (wSetF (L.fc "numbers") "numbers" (wVar 0) (wCall S_as_tuples (wCons (wVar 1) wNil)))
def w_RoomCases___init__ (L : Lw) : WS :=
  (wSetF (L.fc "root") "root" (wVar 0) (wCall S_as_tuples (wCons (wVar 1) wNil)))
theorem mk_Rooms : ∀ ds μ R RE, S_Rooms ds μ R RE → ∀ a, μ a = none → S_Rooms___init__ (.ref a :: ds) (mup μ a (.ins "Rooms" [])) (fun d μ2 => d = .non ∧ ∃ fs, μ2 a = some (.ins "Rooms" fs) ∧ R (.obj a "Rooms" fs) (mdel μ2 a)) (fun ex μ2 => RE ex (mdel μ2 a)) := mk_one
theorem mk_RoomCases : ∀ ds μ R RE, S_RoomCases ds μ R RE → ∀ a, μ a = none → S_RoomCases___init__ (.ref a :: ds) (mup μ a (.ins "RoomCases" [])) (fun d μ2 => d = .non ∧ ∃ fs, μ2 a = some (.ins "RoomCases" fs) ∧ R (.obj a "RoomCases" fs) (mdel μ2 a)) (fun ex μ2 => RE ex (mdel μ2 a)) := mk_one
theorem pure_Rooms___init__ (h : "Rooms" ∈ L.fc "numbers" := by decide) : ∀ ds μ R RE, ds.length = 2 → S_Rooms___init__ ds μ R RE → w_Rooms___init__ L (startD 2 ds) μ (EndsF R) (RetX RE) := pure_one h
theorem pure_RoomCases___init__ (h : "RoomCases" ∈ L.fc "root" := by decide) : ∀ ds μ R RE, ds.length = 2 → S_RoomCases___init__ ds μ R RE → w_RoomCases___init__ L (startD 2 ds) μ (EndsF R) (RetX RE) := pure_one h
end
end LF

/-! SP57: the law -/
namespace LF
open PySem PySem.Spec L2
section
variable {L : Lw}
/-! ### arcs as data -/
def arcD (x : Int × Int) : D := .tup [.int x.1, .int x.2]
def arcsD (l : List (Int × Int)) : List D := l.map arcD
def arcP (x : Int × Int) : PyData := .tuple [.int x.1, .int x.2]
def ArcOk (p : Int) (x : Int × Int) : Prop := (0 ≤ x.1 ∧ x.1 < p) ∧ (0 ≤ x.2 ∧ x.2 < p)
theorem isArc_ok {p : Int} {x : Int × Int} (h : ArcOk p x) : isArc p (arcD x) = true := by
  obtain ⟨⟨h1, h2⟩, h3, h4⟩ := h
  simp [isArc, arcD, isIdx, h1, h2, h3, h4]
theorem arcBt {μ : MH} (x : Int × Int) : ArcBt μ (arcD x) := ⟨⟨_, rfl⟩, fun xs e y hy => by
  cases e
  simp at hy
  rcases hy with rfl | rfl <;> exact ⟨_, rfl⟩⟩
theorem arcs_bt {μ : MH} {l : List (Int × Int)} : ∀ x ∈ arcsD l, ArcBt μ x := fun x hx => by
  obtain ⟨y, -, rfl⟩ := List.mem_map.mp hx
  exact arcBt y
theorem arcs_find {p : Int} {l : List (Int × Int)} (h : ∀ x ∈ l, ArcOk p x) : (arcsD l).find? (fun x => !isArc p x) = none := by
  rw [List.find?_eq_none]
  intro x hx
  obtain ⟨y, hy, rfl⟩ := List.mem_map.mp hx
  simp [isArc_ok (h y hy)]
theorem py_arcs : ∀ l : List (Int × Int), pyAll (arcsD l) = some (l.map arcP)
  | [] => rfl
  | x :: l => by
    have ih := py_arcs l
    show (match py (arcD x), pyAll (arcsD l) with | some x, some xs => some (x :: xs) | _, _ => none) = _
    rw [ih]; rfl
theorem lay_arcs : ∀ l : List (Int × Int), PyData.canLayAll0 (l.map arcP) = true ∧ PyData.depthAll (l.map arcP) ≤ 1
  | [] => ⟨rfl, Nat.zero_le _⟩
  | x :: l => by
    obtain ⟨h1, h2⟩ := lay_arcs l
    refine ⟨by simp [PyData.canLayAll0, arcP, PyData.canLay0, h1], ?_⟩
    show max (PyData.depth (arcP x)) (PyData.depthAll (l.map arcP)) ≤ 1
    have : PyData.depth (arcP x) = 1 := rfl
    omega
theorem eqv_arcs : ∀ l m : List (Int × Int), PyData.eqvAll (l.map arcP) (m.map arcP) = decide (l = m)
  | [], [] => rfl
  | [], _ :: _ => rfl
  | _ :: _, [] => rfl
  | x :: l, y :: m => by
    show (PyData.eqv (arcP x) (arcP y) && PyData.eqvAll (l.map arcP) (m.map arcP)) = _
    rw [eqv_arcs l m]
    have : PyData.eqv (arcP x) (arcP y) = decide (x = y) := by
      show ((x.1 == y.1) && ((x.2 == y.2) && true)) = _
      rw [Bool.eq_iff_iff]
      simp [Prod.ext_iff]
    rw [this, Bool.eq_iff_iff]
    simp
/-! ### _law_drawn_arcs -/
def S_law_drawn_arcs : Sc := fun ds μ R _ => ∃ p per m, ds = [.ref p, .int per, .int m] ∧ μ p = some .pen ∧ 2 ≤ per ∧ per ≤ 1440 ∧ 0 ≤ m ∧ m ≤ 63 ∧ ∀ l : List (Int × Int), (∀ x ∈ l, ArcOk per x) → l.length = m.toNat → R (.tup (arcsD l)) μ
def w_law_drawn_arcs (L : Lw) : WS :=
  (wSeq (wAsg (wLstL wNil) (vName 3))
  (wSeq (wFor (wR1 (wCons (wVar 2) wNil)) (vName 4)
  (wSeq (wAsg (wCB gMin2 (wCons (wOp gSub (wVar 1) (wC (.int 1))) (wCons (wCall S_law_pick (wCons (wVar 0) (wCons (wLst (wCons (wC (.int 0)) (wCons (wC (.int 1)) (wCons (wC (.int 2)) (wCons (wC (.int 3)) (wCons (wOp gFdiv (wVar 1) (wC (.int 2))) (wCons (wCall S_law_draw (wCons (wVar 0) (wCons (wVar 1) wNil))) wNil))))))) wNil))) wNil))) (vName 5))
  (wExpr (wBM gApp (wVar 3) (wCons (wTup (wCons (wCall S_law_draw (wCons (wVar 0) (wCons (wVar 1) wNil))) (wCons (wVar 5) wNil))) wNil)))))
  (wRet (wCB gTuple (wCons (wVar 3) wNil)))))
theorem pure_law_drawn_arcs : ∀ ds μ R RE, ds.length = 3 → S_law_drawn_arcs ds μ R RE → w_law_drawn_arcs L (startD 6 ds) μ (EndsF R) (RetX RE) := by
  rintro ds μ R RE - ⟨p, per, m, rfl, hp, h2, h3, h4, h5, h⟩
  simp only [w_law_drawn_arcs, wSeq, wAsg, wLstL, wNil, vName, startD, List.map, List.append_nil, List.length_cons, List.length_nil, List.replicate, List.cons_append, List.nil_append, List.set_cons_succ, List.set_cons_zero, Nat.reduceAdd, Nat.reduceSub, wFor, wR1, wCons, wVar, List.getElem?_cons_zero, List.getElem?_cons_succ]
  intro q hq
  have pq : p ≠ q := ne_live hp hq
  refine ⟨by omega, by omega, ?_⟩
  refine for_runM (J := fun ds δ μ' => ∃ l z4 z5, (∀ x ∈ l, ArcOk per x) ∧ l.length + ds.length = m.toNat ∧ μ' = mup μ q (.lst (arcsD l)) ∧ δ = [some (.ref p), some (.int per), some (.int m), some (.ref q), z4, z5]) (fun _ _ _ _ => trivial) ?_ ?_
    ⟨[], none, none, by simp, by rw [rng_len]; simp, rfl, rfl⟩
  · rintro δ μ' ⟨l, z4, z5, hl, hn, rfl, rfl⟩
    simp only [wRet, wCB, wCons, wNil, wVar, gTuple, seqOf, mup_same, List.getElem?_cons_zero, List.getElem?_cons_succ]
    exact ret_less (MLe.up hq) (h l hl (by simpa using hn))
  · rintro d ds δ μ' ⟨l, z4, z5, hl, hn, rfl, rfl⟩ N hN
    have hp' : mup μ q (.lst (arcsD l)) p = some .pen := by rw [mup_ne pq]; exact hp
    simp only [vName, List.set_cons_succ, List.set_cons_zero, wSeq, wAsg, wCB, wCons, wNil, wOp, wVar, wC, wCall, wLst, wExpr, wBM, wTup, List.getElem?_cons_zero, List.getElem?_cons_succ, gI_i, gIc_i]
    refine ⟨by decide, p, per, rfl, hp', by omega, by omega, fun i i0 i1 => ?_⟩
    refine ⟨p, _, [.int 0, .int 1, .int 2, .int 3, .int (per / 2), .int i], rfl, hp', rfl, by simp, by simp, ?_⟩
    intro x hx
    obtain ⟨c, rfl, hc⟩ : ∃ c : Int, x = .int c ∧ 0 ≤ c := by
      simp only [List.mem_cons, List.not_mem_nil, or_false] at hx
      rcases hx with rfl | rfl | rfl | rfl | rfl | rfl
      · exact ⟨_, rfl, by decide⟩
      · exact ⟨_, rfl, by decide⟩
      · exact ⟨_, rfl, by decide⟩
      · exact ⟨_, rfl, by decide⟩
      · exact ⟨_, rfl, by omega⟩
      · exact ⟨_, rfl, i0⟩
    have hs : ∃ s : Int, (if c < per - 1 then c else per - 1) = s ∧ 0 ≤ s ∧ s < per := by
      by_cases h : c < per - 1
      · exact ⟨_, if_pos h, hc, by omega⟩
      · exact ⟨_, if_neg h, by omega, by omega⟩
    obtain ⟨s, es, s0, s1⟩ := hs
    simp only [gMin2, es, List.getElem?_cons_zero, List.getElem?_cons_succ, lstOf, mup_same, Option.isSome_some, true_and]
    refine ⟨p, per, rfl, hp', by omega, by omega, fun j j0 j1 => ?_⟩
    have hlen : (arcsD l).length = l.length := List.length_map _
    have hz : m.toNat ≤ 63 := by omega
    rw [List.length_cons] at hn
    simp only [gApp, mup_same, mup_mup]
    refine ⟨by rw [hlen, sizeLine_eq]; omega, hN _ _ ⟨l ++ [(j, s)], some d, some (.int s), ?_, by rw [List.length_append]; simp; omega, ?_, rfl⟩⟩
    · intro y hy
      rcases List.mem_append.mp hy with hy | hy
      · exact hl y hy
      · simp at hy; subst hy; exact ⟨⟨j0, j1⟩, s0, s1⟩
    · simp [arcsD, arcD]
theorem taken_ok {μ : MH} {per : Int} {d : D} {l : List (Int × Int)} {good : List D → Prop} {bad : Ex → Prop} (h2 : 2 ≤ per) (h3 : per ≤ 1440) (hb : Bt μ d) (hs : seqOf μ d = some (arcsD l)) (hl : ∀ x ∈ l, ArcOk per x) (g : good (arcsD l)) : TakenAsk μ (.int per) d good bad := by
  refine ⟨⟨_, rfl⟩, hb, fun z => ?_, fun p e _ => ?_⟩
  · simp [isPer, h2, h3] at z
  · cases e
    refine ⟨fun z => ?_, fun xs z => ?_⟩
    · rw [hs] at z; cases z
    · rw [hs] at z; cases z
      refine ⟨arcs_bt, fun x hx => ?_, fun _ => g⟩
      rw [arcs_find hl] at hx; cases hx
/-- two Takens -/
theorem tk_eq {μ : MH} {a b : Addr} {p p' : Int} {l m : List (Int × Int)} {k : Bool → Prop} (hc : "Taken" ∈ L.ic) (h : k (p == p' && (decide (l = m) && true))) : EqAsk L "Taken" dTaken μ (.obj a "Taken" (tkF (.int p) (arcsD l))) (.obj b "Taken" (tkF (.int p') (arcsD m))) k := by
  have data : ∀ (p : Int) (l : List (Int × Int)), (dTaken (tkF (.int p) (arcsD l))).bind py = some (.tuple [.int p, .tuple (l.map arcP)]) := fun p l => by
    show py (.tup [.int p, .tup (arcsD l)]) = _
    simp [py, pyAll, py_arcs l]
  have sh : ∀ (p : Int) (l : List (Int × Int)), SeqAt.shaped (.tuple [.int p, .tuple (l.map arcP)]) = true := fun p l => by
    obtain ⟨h1, h2⟩ := lay_arcs l
    have d : PyData.depth (.tuple [.int p, .tuple (l.map arcP)]) ≤ 64 := by
      show max 0 (max (PyData.depthAll (l.map arcP) + 1) 0) + 1 ≤ 64
      omega
    simp [SeqAt.shaped, PyData.canLay0, PyData.canLayAll0, h1, d]
  refine ⟨a, _, rfl, .inr ⟨b, "Taken", _, rfl, hc, .inr ⟨rfl, _, _, data p l, data p' m, sh p l, sh p' m, ?_⟩⟩⟩
  show k ((p == p') && (PyData.eqvAll (l.map arcP) (m.map arcP) && true))
  rw [eqv_arcs]
  exact h
theorem tk_same {μ : MH} {a b : Addr} {p : Int} {l : List (Int × Int)} {k : Bool → Prop} (hc : "Taken" ∈ L.ic) (h : k true) : EqAsk L "Taken" dTaken μ (.obj a "Taken" (tkF (.int p) (arcsD l))) (.obj b "Taken" (tkF (.int p) (arcsD l))) k :=
  tk_eq hc (by simpa using h)
theorem tk_diff {μ : MH} {a b : Addr} {p p' : Int} {l m : List (Int × Int)} {k : Bool → Prop} (hc : "Taken" ∈ L.ic) (ne : p ≠ p' ∨ l ≠ m) (h : k false) : EqAsk L "Taken" dTaken μ (.obj a "Taken" (tkF (.int p) (arcsD l))) (.obj b "Taken" (tkF (.int p') (arcsD m))) k := by
  refine tk_eq hc ?_
  have e : (p == p' && (decide (l = m) && true)) = false := by
    rcases ne with ne | ne
    · simp [ne]
    · simp [ne]
  rw [e]; exact h
theorem arcs_nil {l : List (Int × Int)} {μ : MH} {R : Post} (h : R (.bl (!decide (l = []))) μ) : gNe (.tup (arcsD l)) (.tup []) μ R := by
  obtain ⟨h1, h2⟩ := lay_arcs l
  have d : PyData.depth (.tuple (l.map arcP)) ≤ 64 := by show PyData.depthAll (l.map arcP) + 1 ≤ 64; omega
  simp only [gNe, pyM, py, py_arcs l, pyAll, Option.map_some]
  refine ⟨by simp [SeqAt.shaped, PyData.canLay0, h1, d], rfl, ?_⟩
  have e : PyData.eqv (.tuple (l.map arcP)) (.tuple []) = decide (l = []) := eqv_arcs l []
  rw [e]; exact h
theorem cut_from1 (l : List (Int × Int)) : cutD (arcsD l) (some 1) none = arcsD (l.drop 1) := by
  cases l with
  | nil => rfl
  | cons x l =>
    simp [cutD, HT.sIx, arcsD]
    exact List.take_of_length_le (by simp)
theorem cut_to1 (l : List (Int × Int)) : cutD (arcsD l) none (some 1) = arcsD (l.take 1) := by
  cases l with
  | nil => rfl
  | cons x l =>
    simp [cutD, HT.sIx, arcsD]
theorem tk_no {μ : MH} {a : Addr} {fs : List (String × D)} {y : D} {k : Bool → Prop} (hy : Bt μ y) (h : k false) : EqAsk L "Taken" dTaken μ (.obj a "Taken" fs) y k := ⟨a, fs, rfl, .inl ⟨hy, h⟩⟩
theorem taken_badP {μ : MH} {per d : D} {good : List D → Prop} {bad : Ex → Prop} (hb : Bt μ per) (hd : Bt μ d) (h : isPer per = false) (g : bad (exNum "period" per)) : TakenAsk μ per d good bad :=
  ⟨hb, hd, fun _ => g, fun p e z => by rw [h] at z; cases z⟩
theorem taken_badS {μ : MH} {per : Int} {d : D} {good : List D → Prop} {bad : Ex → Prop} (h2 : 2 ≤ per) (h3 : per ≤ 1440) (hd : Bt μ d) (h : seqOf μ d = none) (g : bad (exRow "arcs" d)) : TakenAsk μ (.int per) d good bad := by
  refine ⟨⟨_, rfl⟩, hd, fun z => ?_, fun p e _ => ⟨fun _ => g, fun xs z => ?_⟩⟩
  · simp [isPer, h2, h3] at z
  · rw [h] at z; cases z
theorem taken_badA {μ : MH} {per : Int} {l : List (Int × Int)} {x : D} {r : List D} {good : List D → Prop} {bad : Ex → Prop} (h2 : 2 ≤ per) (h3 : per ≤ 1440) (hl : ∀ x ∈ l, ArcOk per x) (hx : ArcBt μ x) (hr : ∀ x ∈ r, ArcBt μ x) (h : isArc per x = false) (g : bad (exRow "arc" x)) :
    TakenAsk μ (.int per) (.tup (arcsD l ++ [x] ++ r)) good bad := by
  have hf : (arcsD l ++ [x] ++ r).find? (fun x => !isArc per x) = some x := by
    rw [List.append_assoc, List.find?_append, arcs_find hl]
    simp [h]
  refine ⟨⟨_, rfl⟩, ⟨_, rfl⟩, fun z => ?_, fun p e _ => ⟨(fun z => by cases z), fun xs z => ?_⟩⟩
  · simp [isPer, h2, h3] at z
  · cases e
    cases z
    refine ⟨fun y hy => ?_, fun y hy => ?_, fun z => ?_⟩
    · rcases List.mem_append.mp hy with hy | hy
      · rcases List.mem_append.mp hy with hy | hy
        · exact arcs_bt y hy
        · simp at hy; subst hy; exact hx
      · exact hr y hy
    · rw [hf] at hy; cases hy; exact g
    · rw [hf] at z; cases z
theorem caught_num {w : String} {d : D} : caughtD (exNum w d) = some (.tup [.str (sk "number"), .str (sk w), d]) := rfl
theorem caught_row {w : String} {d : D} : caughtD (exRow w d) = some (.tup [.str (sk "row"), .str (sk w), d]) := rfl
theorem repr_pair {μ : MH} {r : Addr} {ds : List D} {ps : List PyData} {R : Post} (hp : pyAll ds = some ps) (hk : rokAll 29 ps = true) (hc : rcostAll ps + 3 ≤ sizeLine) (hr : μ r = some (.lst ds)) (h : R (.bl false) μ) :
    gRepr [.ref r] μ fun x μ1 => gRepr [.lst ds] μ1 fun y μ2 => gNeS x y μ2 R := by
  have h1 : pyM μ (.ref r) = some (.list ps) := by simp [pyM, hr, hp]
  have h2 : pyM μ (.lst ds) = some (.list ps) := by simp [pyM, py, hp]
  simp only [gRepr, h1, h2]
  refine ⟨rfl, hk, hc, rfl, hk, hc, ?_⟩
  show R (.bl (!decide _)) μ
  rw [decide_eq_true rfl]
  exact h
/-- may be shown, small -/
def Sm (d : D) : Prop := ∃ p, py d = some p ∧ rok 9 p = true ∧ rcost p ≤ 10000
theorem rok_up : ∀ (n m : Nat) (p : PyData), n ≤ m → rok n p = true → rok m p = true := by
  intro n
  induction n with
  | zero =>
    intro m p _ h
    cases p with
    | none => cases m <;> rfl
    | bool _ => cases m <;> rfl
    | int _ => cases m <;> simpa [rok] using h
    | str _ => cases m <;> simpa [rok] using h
    | list _ => simp [rok] at h
    | tuple _ => simp [rok] at h
    | dict _ => simp [rok] at h
  | succ n ih =>
    intro m p hm h
    have all : ∀ ps : List PyData, rokAll n ps = true → ∀ k, n ≤ k → rokAll k ps = true := by
      intro ps
      induction ps with
      | nil => intro _ k _; simp [rokAll]
      | cons x xs ihx =>
        intro hx k hk
        simp only [rokAll, Bool.and_eq_true] at hx ⊢
        exact ⟨ih k x hk hx.1, ihx hx.2 k hk⟩
    match m, hm with
    | m + 1, hm =>
      cases p with
      | none => rfl
      | bool _ => rfl
      | int _ => simpa [rok] using h
      | str _ => simpa [rok] using h
      | list ps => simp only [rok] at h ⊢; exact all ps h m (by omega)
      | tuple ps => simp only [rok] at h ⊢; exact all ps h m (by omega)
      | dict _ => simp [rok] at h
theorem three_shown {t1 t2 t3 w1 w2 w3 : String} {a b c : D} (ha : Sm a) (hb : Sm b) (hc : Sm c) (hs : ∀ t ∈ [t1, t2, t3, w1, w2, w3], strSm (sk t) = true ∧ (sk t).length ≤ 20) :
    ∃ ps, pyAll [.tup [.str (sk t1), .str (sk w1), a], .tup [.str (sk t2), .str (sk w2), b], .tup [.str (sk t3), .str (sk w3), c]] = some ps ∧ rokAll 29 ps = true ∧ rcostAll ps + 3 ≤ sizeLine := by
  obtain ⟨pa, a1, a2, a3⟩ := ha
  obtain ⟨pb, b1, b2, b3⟩ := hb
  obtain ⟨pc, c1, c2, c3⟩ := hc
  have s1 := hs t1 (by simp); have s2 := hs t2 (by simp); have s3 := hs t3 (by simp); have s4 := hs w1 (by simp); have s5 := hs w2 (by simp); have s6 := hs w3 (by simp)
  refine ⟨[.tuple [.str (sk t1), .str (sk w1), pa], .tuple [.str (sk t2), .str (sk w2), pb], .tuple [.str (sk t3), .str (sk w3), pc]], by simp [pyAll, py, a1, b1, c1], ?_, ?_⟩
  · simp only [rokAll, rok, s1.1, s2.1, s3.1, s4.1, s5.1, s6.1, rok_up 9 28 _ (by decide) a2, rok_up 9 28 _ (by decide) b2, rok_up 9 28 _ (by decide) c2, Bool.and_self]
  · simp only [rcostAll, rcost]
    rw [sizeLine_eq]
    omega
theorem one_no {c f : String} {μ : MH} {a : Addr} {fs : List (String × D)} {y : D} {k : Bool → Prop} (hy : Bt μ y) (h : k false) : EqAsk L c (dF f) μ (.obj a c fs) y k := ⟨a, fs, rfl, .inl ⟨hy, h⟩⟩
theorem one_other {c c2 f : String} {μ : MH} {a b : Addr} {fs gs : List (String × D)} {k : Bool → Prop} (hi : c2 ∈ L.ic) (ne : c2 ≠ c) (h : k false) : EqAsk L c (dF f) μ (.obj a c fs) (.obj b c2 gs) k := ⟨a, fs, rfl, .inr ⟨b, c2, gs, rfl, hi, .inl ⟨ne, h⟩⟩⟩
theorem one_eq {c f : String} {μ : MH} {a b : Addr} {v u : D} {p q : PyData} {k : Bool → Prop} (hi : c ∈ L.ic) (h1 : py v = some p) (h2 : py u = some q) (s1 : SeqAt.shaped p = true) (s2 : SeqAt.shaped q = true) (h : k (PyData.eqv p q)) : EqAsk L c (dF f) μ (.obj a c [(f, v)]) (.obj b c [(f, u)]) k := by
  have l : ∀ v : D, dF f [(f, v)] = some v := fun v => by simp [dF, List.lookup]
  exact ⟨a, _, rfl, .inr ⟨b, c, _, rfl, hi, .inr ⟨rfl, p, q, by rw [l]; exact h1, by rw [l]; exact h2, s1, s2, h⟩⟩⟩
def w_law (L : Lw) (TT : List (Addr × Str)) (K : PySem.W.Frag) : WS :=
  (wSeq (wAsg (wCall (S_law_pen K) (wCons (wVar 0) wNil)) (vName 1))
  (wSeq (wFor (wR1 (wCons (wC (.int 5)) wNil)) (vName 2)
  (wSeq (wAsg (wCall S_law_pick (wCons (wVar 1) (wCons (wLst (wCons (wC (.int 2)) (wCons (wC (.int 3)) (wCons (wC (.int 10)) (wCons (wC (.int 60)) (wCons (wC (.int 1440)) wNil)))))) wNil))) (vName 3))
  (wSeq (wAsg (wCall S_law_drawn_arcs (wCons (wVar 1) (wCons (wVar 3) (wCons (wCall S_law_draw (wCons (wVar 1) (wCons (wC (.int 6)) wNil))) wNil)))) (vName 4))
  (wSeq (wAsg (wCB gListL (wCons (wVar 4) wNil)) (vName 5))
  (wSeq (wPar 6 7 (wCons (wCall S_Taken (wCons (wVar 3) (wCons (wVar 5) wNil))) (wCons (wCall S_Taken (wCons (wVar 3) (wCons (wVar 4) wNil))) wNil)))
  (wSeq (wExpr (wBM gApp (wVar 5) (wCons (wC .non) wNil)))
  (wSeq (wIf (wOr (wNot (wB (wCall S_law_is (wCons (wTup (wCons (wFld (L.fc "period") "period" (wVar 6)) (wCons (wFld (L.fc "arcs") "arcs" (wVar 6)) wNil))) (wCons (wTup (wCons (wVar 3) (wCons (wVar 4) wNil))) wNil))))) (wOr (wNot (wB (wOp (gOwn "Taken" L.ic (S_Taken___eq__ L)) (wVar 6) (wVar 7)))) (wOr (wB (wOp (gOwn "Taken" L.ic (S_Taken___ne__ L)) (wVar 6) (wVar 7))) (wB (wOp (gOwn "Taken" L.ic (S_Taken___eq__ L)) (wVar 6) (wVar 4))))))
  (wRet (wC (.bl false)))
  wSkip)
  (wSeq (wIf (wAnd (wB (wOp gNe (wVar 4) (wTup wNil))) (wOr (wB (wOp (gOwn "Taken" L.ic (S_Taken___eq__ L)) (wVar 6) (wCall S_Taken (wCons (wVar 3) (wCons (wSl (wVar 4) (wPrt (wC (.int 1))) wNoP) wNil))))) (wNot (wB (wOp (gOwn "Taken" L.ic (S_Taken___ne__ L)) (wVar 6) (wCall S_Taken (wCons (wVar 3) (wCons (wOp gAdd (wVar 4) (wSl (wVar 4) wNoP (wPrt (wC (.int 1))))) wNil))))))))
  (wRet (wC (.bl false)))
  wSkip)
  (wSeq (wIf (wAnd (wB (wOp gLt (wVar 3) (wC (.int 1440)))) (wB (wOp (gOwn "Taken" L.ic (S_Taken___eq__ L)) (wVar 6) (wCall S_Taken (wCons (wOp gAdd (wVar 3) (wC (.int 1))) (wCons (wVar 4) wNil))))))
  (wRet (wC (.bl false)))
  wSkip)
  (wSeq (wAsg (wTup (wCons (wCall S_law_pick (wCons (wVar 1) (wCons (wLst (wCons (wC (.int 1)) (wCons (wC (.int 0)) (wCons (wUn gNeg (wC (.int 5))) (wCons (wC (.int 1441)) (wCons (wC .non) (wCons (wC (.bl true)) (wCons (wC (.str (sk "60"))) wNil)))))))) wNil))) (wCons (wCall S_law_pick (wCons (wVar 1) (wCons (wLst (wCons (wC .non) (wCons (wC (.int 5)) (wCons (wC (.str (sk "ab"))) (wCons (wC (.bl true)) wNil))))) wNil))) wNil))) (vTup 2 (vCons (vName 8) (vCons (vName 9) vNil))))
  (wSeq (wAsg (wLst (wCons (wC .non) (wCons (wC (.int 5)) (wCons (wTup (wCons (wC (.int 0)) wNil)) (wCons (wTup (wCons (wC (.int 0)) (wCons (wC (.int 0)) (wCons (wC (.int 0)) wNil)))) (wCons (wTup (wCons (wVar 3) (wCons (wC (.int 0)) wNil))) (wCons (wTup (wCons (wC (.int 0)) (wCons (wVar 3) wNil))) (wCons (wTup (wCons (wUn gNeg (wC (.int 1))) (wCons (wC (.int 0)) wNil))) (wCons (wTup (wCons (wC (.int 0)) (wCons (wUn gNeg (wC (.int 1))) wNil))) (wCons (wTup (wCons (wC (.bl true)) (wCons (wC (.int 0)) wNil))) (wCons (wTup (wCons (wC (.int 0)) (wCons (wC .non) wNil))) (wCons (wLst (wCons (wC (.int 0)) (wCons (wC (.int 0)) wNil))) wNil)))))))))))) (vName 10))
  (wSeq (wAsg (wCall S_law_pick (wCons (wVar 1) (wCons (wVar 10) wNil))) (vName 10))
  (wSeq (wAsg (wOp gAdd (wOp gAdd (wVar 4) (wTup (wCons (wVar 10) wNil))) (wVar 4)) (vName 11))
  (wSeq (wAsg (wLstL (wCons (wCaught TT (wCall S_Taken (wCons (wVar 8) (wCons (wVar 9) wNil)))) (wCons (wC .non) (wCons (wC .non) wNil)))) (vName 12))
  (wSeq (wSetI gSet (wCaught TT (wCall S_Taken (wCons (wVar 3) (wCons (wVar 9) wNil)))) (wVar 12) (wC (.int 1)))
  (wSeq (wSetI gSet (wCaught TT (wCall S_Taken (wCons (wVar 3) (wCons (wVar 11) wNil)))) (wVar 12) (wC (.int 2)))
  (wIf (wB (wOp gNeS (wCB gRepr (wCons (wVar 12) wNil)) (wCB gRepr (wCons (wLst (wCons (wTup (wCons (wC (.str (sk "number"))) (wCons (wC (.str (sk "period"))) (wCons (wVar 8) wNil)))) (wCons (wTup (wCons (wC (.str (sk "row"))) (wCons (wC (.str (sk "arcs"))) (wCons (wVar 9) wNil)))) (wCons (wTup (wCons (wC (.str (sk "row"))) (wCons (wC (.str (sk "arc"))) (wCons (wVar 10) wNil)))) wNil)))) wNil))))
  (wRet (wC (.bl false)))
  wSkip)))))))))))))))))
  (wSeq (wPar 13 14 (wCons (wCall S_Rooms (wCons (wLst (wCons (wC (.int 0)) (wCons (wC (.int 1)) wNil))) wNil)) (wCons (wCall S_RoomCases (wCons (wLst (wCons (wC (.str (sk "arc"))) (wCons (wC (.int 0)) (wCons (wLst wNil) wNil)))) wNil)) wNil)))
  (wSeq (wIf (wOr (wNot (wB (wOp (gOwn "Rooms" L.ic (S_Rooms___eq__ L)) (wVar 13) (wCall S_Rooms (wCons (wTup (wCons (wC (.int 0)) (wCons (wC (.int 1)) wNil))) wNil))))) (wOr (wB (wOp (gOwn "Rooms" L.ic (S_Rooms___ne__ L)) (wVar 13) (wCall S_Rooms (wCons (wTup (wCons (wC (.int 0)) (wCons (wC (.int 1)) wNil))) wNil)))) (wOr (wB (wOp (gOwn "Rooms" L.ic (S_Rooms___eq__ L)) (wVar 13) (wCall S_Rooms (wCons (wTup (wCons (wC (.int 0)) wNil)) wNil)))) (wNot (wB (wOp (gOwn "Rooms" L.ic (S_Rooms___ne__ L)) (wVar 13) (wTup (wCons (wC (.int 0)) (wCons (wC (.int 1)) wNil)))))))))
  (wRet (wC (.bl false)))
  wSkip)
  (wRet (wAndV (wOp (gOwn "RoomCases" L.ic (S_RoomCases___eq__ L)) (wVar 14) (wCall S_RoomCases (wCons (wTup (wCons (wC (.str (sk "arc"))) (wCons (wC (.int 0)) (wCons (wTup wNil) wNil)))) wNil))) (wAndV (wOp (gOwn "RoomCases" L.ic (S_RoomCases___ne__ L)) (wVar 14) (wCall S_RoomCases (wCons (wTup (wCons (wC (.str (sk "arc"))) (wCons (wC (.int 1)) (wCons (wTup wNil) wNil)))) wNil))) (wNotV (wOp (gOwn "RoomCases" L.ic (S_RoomCases___eq__ L)) (wVar 14) (wVar 13))))))))))
theorem pure_law {K : PySem.W.Frag} {T : List (Addr × Str)} (hT : TabsIn T (tabM T)) (hTk : "Taken" ∈ L.ic) (hRm : "Rooms" ∈ L.ic) (hRc : "RoomCases" ∈ L.ic) (hP : "Taken" ∈ L.fc "period") (hA : "Taken" ∈ L.fc "arcs") : ∀ ds μ R RE, ds.length = 1 → lawSc K T 63 ds μ R RE → w_law L T K (startD 15 ds) μ (EndsF R) (RetX RE) := by
  rintro ds μ R RE - ⟨a, ns, rfl, rfl, -, -, h⟩
  unfold w_law
  refine seq_of ?_
  simp only [ x_wIf, x_wOr, x_wAnd, x_wNot, x_wB, x_wOp, x_wVar, x_wC, x_wAsg, x_wSetI, x_wCB, x_wCons, x_wNil, x_wTup, x_wLst, x_wLstL, x_wRet, x_wSkip, x_wCall, x_wPar, x_wExpr, x_wBM, x_wFld, x_wSl, x_wPrt, x_wNoP, x_wUn, x_vName, x_vTup2, x_wCaught, List.getElem?_cons_zero, List.getElem?_cons_succ, List.set_cons_zero, List.set_cons_succ, gI_i, gIc_i, gCmp_i, gAdd_i, gNeg_i, startD, List.map, List.append_nil, List.length_cons, List.length_nil, List.replicate, List.cons_append, List.nil_append, Nat.reduceAdd, Nat.reduceSub]
  refine ⟨a, ns, rfl, fun p hp => seq_of ?_⟩
  simp only [x_wFor, x_wR1, x_wIf, x_wOr, x_wAnd, x_wNot, x_wB, x_wOp, x_wVar, x_wC, x_wAsg, x_wSetI, x_wCB, x_wCons, x_wNil, x_wTup, x_wLst, x_wLstL, x_wRet, x_wSkip, x_wCall, x_wPar, x_wExpr, x_wBM, x_wFld, x_wSl, x_wPrt, x_wNoP, x_wUn, x_vName, x_vTup2, x_wCaught, List.getElem?_cons_zero, List.getElem?_cons_succ, List.set_cons_zero, List.set_cons_succ, gI_i, gIc_i, gCmp_i, gAdd_i, gNeg_i]
  refine ⟨by decide, by decide, ?_⟩
  refine for_runK (J := fun _ δ μ => (∃ z2 z3 z4 z5 z6 z7 z8 z9 z10 z11 z12, δ = [some (.scr K a ns), some (.ref p), z2, z3, z4, z5, z6, z7, z8, z9, z10, z11, z12, none, none]) ∧ TabsIn T μ ∧ μ p = some .pen) (fun _ _ _ _ => trivial) ?_ ?_
    ⟨⟨none, none, none, none, none, none, none, none, none, none, none, rfl⟩, hT.up (fun q z => by rw [hp] at z; cases z) (fun q z => by cases z), mup_same⟩
  · rintro δ μ ⟨⟨z2, z3, z4, z5, z6, z7, z8, z9, z10, z11, z12, rfl⟩, hT, hp⟩
    dsimp only
    refine seq_of ?_
    simp only [x_wIf, x_wOr, x_wAnd, x_wNot, x_wB, x_wOp, x_wVar, x_wC, x_wAsg, x_wSetI, x_wCB, x_wCons, x_wNil, x_wTup, x_wLst, x_wLstL, x_wRet, x_wSkip, x_wCall, x_wPar, x_wExpr, x_wBM, x_wFld, x_wSl, x_wPrt, x_wNoP, x_wUn, x_vName, x_vTup2, x_wCaught, List.getElem?_cons_zero, List.getElem?_cons_succ, List.set_cons_zero, List.set_cons_succ, gI_i, gIc_i, gCmp_i, gAdd_i, gNeg_i]
    refine ⟨_, rfl, by decide, fun a1 => ?_⟩
    refine ⟨_, rfl, by decide, fun a2 => ?_⟩
    simp only [x_wIf, x_wOr, x_wAnd, x_wNot, x_wB, x_wOp, x_wVar, x_wC, x_wAsg, x_wSetI, x_wCB, x_wCons, x_wNil, x_wTup, x_wLst, x_wLstL, x_wRet, x_wSkip, x_wCall, x_wPar, x_wExpr, x_wBM, x_wFld, x_wSl, x_wPrt, x_wNoP, x_wUn, x_vName, x_vTup2, x_wCaught, List.getElem?_cons_zero, List.getElem?_cons_succ, List.set_cons_zero, List.set_cons_succ, gI_i, gIc_i, gCmp_i, gAdd_i, gNeg_i]
    have t1 : asT 4 (.lst [.int 0, .int 1]) = .tup [.int 0, .int 1] := rfl
    have t2 : asT 4 (.tup [.int 0, .int 1]) = .tup [.int 0, .int 1] := rfl
    have t3 : asT 4 (.tup [.int 0]) = .tup [.int 0] := rfl
    have t4 : ∀ i, asT 4 (.tup [.str (sk "arc"), .int i, .tup []]) = .tup [.str (sk "arc"), .int i, .tup []] := fun i => rfl
    have t5 : asT 4 (.lst [.str (sk "arc"), .int 0, .lst []]) = .tup [.str (sk "arc"), .int 0, .tup []] := rfl
    refine seq_if ?_ fun R hR => ?_
    rotate_left
    · simp only [x_wIf, x_wOr, x_wAnd, x_wNot, x_wB, x_wOp, x_wVar, x_wC, x_wAsg, x_wSetI, x_wCB, x_wCons, x_wNil, x_wTup, x_wLst, x_wLstL, x_wRet, x_wSkip, x_wCall, x_wPar, x_wExpr, x_wBM, x_wFld, x_wSl, x_wPrt, x_wNoP, x_wUn, x_vName, x_vTup2, x_wCaught, List.getElem?_cons_zero, List.getElem?_cons_succ, List.set_cons_zero, List.set_cons_succ, gI_i, gIc_i, gCmp_i, gAdd_i, gNeg_i, t1]
      refine ⟨_, rfl, by decide, fun b1 => ?_⟩
      refine own_eq (one_eq (v := .tup [.int 0, .int 1]) (u := .tup [.int 0, .int 1]) hRm rfl rfl rfl rfl ?_)
      simp only [x_wIf, x_wOr, x_wAnd, x_wNot, x_wB, x_wOp, x_wVar, x_wC, x_wAsg, x_wSetI, x_wCB, x_wCons, x_wNil, x_wTup, x_wLst, x_wLstL, x_wRet, x_wSkip, x_wCall, x_wPar, x_wExpr, x_wBM, x_wFld, x_wSl, x_wPrt, x_wNoP, x_wUn, x_vName, x_vTup2, x_wCaught, List.getElem?_cons_zero, List.getElem?_cons_succ, List.set_cons_zero, List.set_cons_succ, gI_i, gIc_i, gCmp_i, gAdd_i, gNeg_i, Bool.not_true, Bool.not_false, Bool.false_eq_true, if_true, if_false, t2]
      refine ⟨_, rfl, by decide, fun b2 => ?_⟩
      refine own_ne (one_eq (v := .tup [.int 0, .int 1]) (u := .tup [.int 0, .int 1]) hRm rfl rfl rfl rfl ?_)
      simp only [x_wIf, x_wOr, x_wAnd, x_wNot, x_wB, x_wOp, x_wVar, x_wC, x_wAsg, x_wSetI, x_wCB, x_wCons, x_wNil, x_wTup, x_wLst, x_wLstL, x_wRet, x_wSkip, x_wCall, x_wPar, x_wExpr, x_wBM, x_wFld, x_wSl, x_wPrt, x_wNoP, x_wUn, x_vName, x_vTup2, x_wCaught, List.getElem?_cons_zero, List.getElem?_cons_succ, List.set_cons_zero, List.set_cons_succ, gI_i, gIc_i, gCmp_i, gAdd_i, gNeg_i, Bool.not_true, Bool.not_false, Bool.false_eq_true, if_true, if_false, t2]
      refine ⟨_, rfl, by decide, fun b3 => ?_⟩
      refine own_eq (one_eq (v := .tup [.int 0, .int 1]) (u := .tup [.int 0]) hRm rfl rfl rfl rfl ?_)
      simp only [x_wIf, x_wOr, x_wAnd, x_wNot, x_wB, x_wOp, x_wVar, x_wC, x_wAsg, x_wSetI, x_wCB, x_wCons, x_wNil, x_wTup, x_wLst, x_wLstL, x_wRet, x_wSkip, x_wCall, x_wPar, x_wExpr, x_wBM, x_wFld, x_wSl, x_wPrt, x_wNoP, x_wUn, x_vName, x_vTup2, x_wCaught, List.getElem?_cons_zero, List.getElem?_cons_succ, List.set_cons_zero, List.set_cons_succ, gI_i, gIc_i, gCmp_i, gAdd_i, gNeg_i, Bool.not_true, Bool.not_false, Bool.false_eq_true, if_true, if_false]
      refine own_ne (one_no (y := .tup [.int 0, .int 1]) ⟨"tuple", rfl⟩ ?_)
      exact hR
    simp only [x_wIf, x_wOr, x_wAnd, x_wNot, x_wB, x_wOp, x_wVar, x_wC, x_wAsg, x_wSetI, x_wCB, x_wCons, x_wNil, x_wTup, x_wLst, x_wLstL, x_wRet, x_wSkip, x_wCall, x_wPar, x_wExpr, x_wBM, x_wFld, x_wSl, x_wPrt, x_wNoP, x_wUn, x_vName, x_vTup2, x_wCaught, List.getElem?_cons_zero, List.getElem?_cons_succ, List.set_cons_zero, List.set_cons_succ, gI_i, gIc_i, gCmp_i, gAdd_i, gNeg_i, x_wAndV, x_wNotV, t5]
    refine ⟨_, rfl, by decide, fun b1 => ?_⟩
    refine own_eq (one_eq (v := .tup [.str (sk "arc"), .int 0, .tup []]) (u := .tup [.str (sk "arc"), .int 0, .tup []]) hRc rfl rfl (by decide +kernel) (by decide +kernel) ?_)
    rw [show PyData.eqv _ _ = true from by decide]
    simp only [x_wIf, x_wOr, x_wAnd, x_wNot, x_wB, x_wOp, x_wVar, x_wC, x_wAsg, x_wSetI, x_wCB, x_wCons, x_wNil, x_wTup, x_wLst, x_wLstL, x_wRet, x_wSkip, x_wCall, x_wPar, x_wExpr, x_wBM, x_wFld, x_wSl, x_wPrt, x_wNoP, x_wUn, x_vName, x_vTup2, x_wCaught, List.getElem?_cons_zero, List.getElem?_cons_succ, List.set_cons_zero, List.set_cons_succ, gI_i, gIc_i, gCmp_i, gAdd_i, gNeg_i, Bool.not_true, Bool.not_false, Bool.false_eq_true, if_true, if_false, t4]
    refine ⟨_, rfl, by decide, fun b2 => ?_⟩
    refine own_ne (one_eq (v := .tup [.str (sk "arc"), .int 0, .tup []]) (u := .tup [.str (sk "arc"), .int 1, .tup []]) hRc rfl rfl (by decide +kernel) (by decide +kernel) ?_)
    rw [show PyData.eqv _ _ = false from by decide]
    simp only [x_wIf, x_wOr, x_wAnd, x_wNot, x_wB, x_wOp, x_wVar, x_wC, x_wAsg, x_wSetI, x_wCB, x_wCons, x_wNil, x_wTup, x_wLst, x_wLstL, x_wRet, x_wSkip, x_wCall, x_wPar, x_wExpr, x_wBM, x_wFld, x_wSl, x_wPrt, x_wNoP, x_wUn, x_vName, x_vTup2, x_wCaught, List.getElem?_cons_zero, List.getElem?_cons_succ, List.set_cons_zero, List.set_cons_succ, gI_i, gIc_i, gCmp_i, gAdd_i, gNeg_i, Bool.not_true, Bool.not_false, Bool.false_eq_true, if_true, if_false]
    refine own_eq (one_other hRm (by decide) ?_)
    simp only [Bool.not_true, Bool.not_false, Bool.false_eq_true, if_true, if_false]
    exact ret_same (h _)
  · rintro d ds δ μ ⟨⟨z2, z3, z4, z5, z6, z7, z8, z9, z10, z11, z12, rfl⟩, hT, hp⟩ K' hrt hN - -
    refine seq_of ?_
    simp only [x_wIf, x_wOr, x_wAnd, x_wNot, x_wB, x_wOp, x_wVar, x_wC, x_wAsg, x_wSetI, x_wCB, x_wCons, x_wNil, x_wTup, x_wLst, x_wLstL, x_wRet, x_wSkip, x_wCall, x_wPar, x_wExpr, x_wBM, x_wFld, x_wSl, x_wPrt, x_wNoP, x_wUn, x_vName, x_vTup2, x_wCaught, List.getElem?_cons_zero, List.getElem?_cons_succ, List.set_cons_zero, List.set_cons_succ, gI_i, gIc_i, gCmp_i, gAdd_i, gNeg_i]
    refine ⟨p, _, _, rfl, hp, rfl, by simp, by simp, fun d hd => ?_⟩
    obtain ⟨per, rfl, h2, h3⟩ : ∃ per : Int, d = .int per ∧ 2 ≤ per ∧ per ≤ 1440 := by
      simp only [List.mem_cons, List.not_mem_nil, or_false] at hd
      rcases hd with rfl | rfl | rfl | rfl | rfl <;> exact ⟨_, rfl, by decide, by decide⟩
    refine seq_of ?_
    simp only [x_wIf, x_wOr, x_wAnd, x_wNot, x_wB, x_wOp, x_wVar, x_wC, x_wAsg, x_wSetI, x_wCB, x_wCons, x_wNil, x_wTup, x_wLst, x_wLstL, x_wRet, x_wSkip, x_wCall, x_wPar, x_wExpr, x_wBM, x_wFld, x_wSl, x_wPrt, x_wNoP, x_wUn, x_vName, x_vTup2, x_wCaught, List.getElem?_cons_zero, List.getElem?_cons_succ, List.set_cons_zero, List.set_cons_succ, gI_i, gIc_i, gCmp_i, gAdd_i, gNeg_i]
    refine ⟨p, 6, rfl, hp, by decide, by decide, fun m m0 m1 => ?_⟩
    refine ⟨p, per, m, rfl, hp, h2, h3, m0, by omega, fun l hl hlen => ?_⟩
    refine seq_of ?_
    simp only [x_wIf, x_wOr, x_wAnd, x_wNot, x_wB, x_wOp, x_wVar, x_wC, x_wAsg, x_wSetI, x_wCB, x_wCons, x_wNil, x_wTup, x_wLst, x_wLstL, x_wRet, x_wSkip, x_wCall, x_wPar, x_wExpr, x_wBM, x_wFld, x_wSl, x_wPrt, x_wNoP, x_wUn, x_vName, x_vTup2, x_wCaught, List.getElem?_cons_zero, List.getElem?_cons_succ, List.set_cons_zero, List.set_cons_succ, gI_i, gIc_i, gCmp_i, gAdd_i, gNeg_i]
    intro q hq
    have pq : p ≠ q := ne_live hp hq
    refine seq_of ?_
    simp only [x_wIf, x_wOr, x_wAnd, x_wNot, x_wB, x_wOp, x_wVar, x_wC, x_wAsg, x_wSetI, x_wCB, x_wCons, x_wNil, x_wTup, x_wLst, x_wLstL, x_wRet, x_wSkip, x_wCall, x_wPar, x_wExpr, x_wBM, x_wFld, x_wSl, x_wPrt, x_wNoP, x_wUn, x_vName, x_vTup2, x_wCaught, List.getElem?_cons_zero, List.getElem?_cons_succ, List.set_cons_zero, List.set_cons_succ, gI_i, gIc_i, gCmp_i, gAdd_i, gNeg_i]
    refine ⟨_, _, rfl, taken_ok h2 h3 ⟨"list", by simp [tyN]⟩ (by simp [seqOf]) hl fun a1 => ?_⟩
    refine ⟨_, _, rfl, taken_ok h2 h3 ⟨_, rfl⟩ rfl hl fun a2 => ?_⟩
    refine seq_of ?_
    simp only [x_wIf, x_wOr, x_wAnd, x_wNot, x_wB, x_wOp, x_wVar, x_wC, x_wAsg, x_wSetI, x_wCB, x_wCons, x_wNil, x_wTup, x_wLst, x_wLstL, x_wRet, x_wSkip, x_wCall, x_wPar, x_wExpr, x_wBM, x_wFld, x_wSl, x_wPrt, x_wNoP, x_wUn, x_vName, x_vTup2, x_wCaught, List.getElem?_cons_zero, List.getElem?_cons_succ, List.set_cons_zero, List.set_cons_succ, gI_i, gIc_i, gCmp_i, gAdd_i, gNeg_i, gApp, lstOf, mup_same, mup_mup, Option.isSome_some, true_and]
    have hz : l.length ≤ 5 := by omega
    have hz2 : (arcsD l).length = l.length := List.length_map _
    refine ⟨by rw [hz2, sizeLine_eq]; omega, ?_⟩
    -- all told as it is
    have f1 : (tkF (.int per) (arcsD l)).lookup "period" = some (.int per) := rfl
    have f2 : (tkF (.int per) (arcsD l)).lookup "arcs" = some (.tup (arcsD l)) := rfl
    refine seq_if ?_ fun R hR => ?_
    rotate_left
    · simp only [x_wIf, x_wOr, x_wAnd, x_wNot, x_wB, x_wOp, x_wVar, x_wC, x_wAsg, x_wSetI, x_wCB, x_wCons, x_wNil, x_wTup, x_wLst, x_wLstL, x_wRet, x_wSkip, x_wCall, x_wPar, x_wExpr, x_wBM, x_wFld, x_wSl, x_wPrt, x_wNoP, x_wUn, x_vName, x_vTup2, x_wCaught, List.getElem?_cons_zero, List.getElem?_cons_succ, List.set_cons_zero, List.set_cons_succ, gI_i, gIc_i, gCmp_i, gAdd_i, gNeg_i, fldsOf, f1, f2]
      refine ⟨hP, hA, _, rfl, ?_, ?_⟩
      · have e1 : ∀ x ∈ arcsD l, isOk 4 x = true := fun x hx => by
          obtain ⟨y, -, rfl⟩ := List.mem_map.mp hx
          simp [arcD, isOk, sizeLine_eq]
        simp [isOk, hz2, sizeLine_eq]
        exact ⟨by omega, e1⟩
      simp only [Bool.not_true, Bool.not_false, Bool.false_eq_true, if_true, if_false]
      refine own_eq (tk_same hTk ?_)
      simp only [Bool.not_true, Bool.not_false, Bool.false_eq_true, if_true, if_false]
      refine own_ne (tk_same hTk ?_)
      simp only [Bool.not_true, Bool.not_false, Bool.false_eq_true, if_true, if_false]
      refine own_eq (tk_no ⟨_, rfl⟩ ?_)
      exact hR
    refine seq_if ?_ fun R hR => ?_
    rotate_left
    · simp only [x_wIf, x_wOr, x_wAnd, x_wNot, x_wB, x_wOp, x_wVar, x_wC, x_wAsg, x_wSetI, x_wCB, x_wCons, x_wNil, x_wTup, x_wLst, x_wLstL, x_wRet, x_wSkip, x_wCall, x_wPar, x_wExpr, x_wBM, x_wFld, x_wSl, x_wPrt, x_wNoP, x_wUn, x_vName, x_vTup2, x_wCaught, List.getElem?_cons_zero, List.getElem?_cons_succ, List.set_cons_zero, List.set_cons_succ, gI_i, gIc_i, gCmp_i, gAdd_i, gNeg_i]
      refine arcs_nil ?_
      cases l with
      | nil => simp only [decide_true, Bool.not_true, Bool.not_false, Bool.false_eq_true, if_true, if_false]; exact hR
      | cons x l =>
        simp only [reduceCtorEq, decide_false, Bool.not_true, Bool.not_false, Bool.false_eq_true, if_true, if_false, cut_from1, cut_to1, List.drop_succ_cons, List.drop_zero, List.take_succ_cons, List.take_zero]
        refine ⟨_, _, rfl, taken_ok h2 h3 ⟨_, rfl⟩ rfl (fun y hy => hl y (by simp [hy])) fun a3 => ?_⟩
        refine own_eq (tk_diff hTk (.inr (by intro e; have := congrArg List.length e; simp at this)) ?_)
        simp only [Bool.not_true, Bool.not_false, Bool.false_eq_true, if_true, if_false, gAdd]
        refine ⟨by rw [hz2, sizeLine_eq]; simp only [arcsD, List.length_map, List.length_cons, List.length_nil] at hz ⊢; omega, ?_⟩
        rw [show arcsD (x :: l) ++ arcsD [x] = arcsD (x :: l ++ [x]) from by simp [arcsD]]
        refine ⟨_, _, rfl, taken_ok h2 h3 ⟨_, rfl⟩ rfl (fun y hy => hl y (by simpa [or_comm] using hy)) fun a4 => ?_⟩
        refine own_ne (tk_diff hTk (.inr (by intro e; have := congrArg List.length e; simp at this)) ?_)
        simp only [Bool.not_true, Bool.not_false, Bool.false_eq_true, if_true, if_false]
        exact hR
    refine seq_if ?_ fun R hR => ?_
    rotate_left
    · simp only [x_wIf, x_wOr, x_wAnd, x_wNot, x_wB, x_wOp, x_wVar, x_wC, x_wAsg, x_wSetI, x_wCB, x_wCons, x_wNil, x_wTup, x_wLst, x_wLstL, x_wRet, x_wSkip, x_wCall, x_wPar, x_wExpr, x_wBM, x_wFld, x_wSl, x_wPrt, x_wNoP, x_wUn, x_vName, x_vTup2, x_wCaught, List.getElem?_cons_zero, List.getElem?_cons_succ, List.set_cons_zero, List.set_cons_succ, gI_i, gIc_i, gCmp_i, gAdd_i, gNeg_i]
      by_cases hlt : per < 1440
      · simp only [hlt, decide_true, Bool.not_true, Bool.not_false, Bool.false_eq_true, if_true, if_false]
        refine ⟨_, _, rfl, taken_ok (by omega) (by omega) ⟨_, rfl⟩ rfl (fun y hy => ⟨⟨(hl y hy).1.1, by have := (hl y hy).1.2; omega⟩, (hl y hy).2.1, by have := (hl y hy).2.2; omega⟩) fun a3 => ?_⟩
        refine own_eq (tk_diff hTk (.inl (by omega)) ?_)
        exact hR
      · simp only [hlt, decide_false, Bool.not_true, Bool.not_false, Bool.false_eq_true, if_true, if_false]
        exact hR
    refine seq_of ?_
    simp only [x_wIf, x_wOr, x_wAnd, x_wNot, x_wB, x_wOp, x_wVar, x_wC, x_wAsg, x_wSetI, x_wCB, x_wCons, x_wNil, x_wTup, x_wLst, x_wLstL, x_wRet, x_wSkip, x_wCall, x_wPar, x_wExpr, x_wBM, x_wFld, x_wSl, x_wPrt, x_wNoP, x_wUn, x_vName, x_vTup2, x_wCaught, List.getElem?_cons_zero, List.getElem?_cons_succ, List.set_cons_zero, List.set_cons_succ, gI_i, gIc_i, gCmp_i, gAdd_i, gNeg_i]
    have hp1 : mup μ q (.lst (arcsD l ++ [.non])) p = some .pen := by rw [mup_ne pq]; exact hp
    have hT1 : TabsIn T (mup μ q (.lst (arcsD l ++ [.non]))) := hT.up (fun r z => by rw [hq] at z; cases z) (fun r z => by cases z)
    generalize mup μ q (.lst (arcsD l ++ [.non])) = μ1 at hp1 hT1 ⊢
    refine ⟨p, _, _, rfl, hp1, rfl, by simp, by simp, fun odd hodd => ?_⟩
    refine ⟨p, _, _, rfl, hp1, rfl, by simp, by simp, fun lot hlot => ?_⟩
    simp only [x_wIf, x_wOr, x_wAnd, x_wNot, x_wB, x_wOp, x_wVar, x_wC, x_wAsg, x_wSetI, x_wCB, x_wCons, x_wNil, x_wTup, x_wLst, x_wLstL, x_wRet, x_wSkip, x_wCall, x_wPar, x_wExpr, x_wBM, x_wFld, x_wSl, x_wPrt, x_wNoP, x_wUn, x_vName, x_vTup2, x_wCaught, List.getElem?_cons_zero, List.getElem?_cons_succ, List.set_cons_zero, List.set_cons_succ, gI_i, gIc_i, gCmp_i, gAdd_i, gNeg_i]
    refine seq_of ?_
    simp only [x_wIf, x_wOr, x_wAnd, x_wNot, x_wB, x_wOp, x_wVar, x_wC, x_wAsg, x_wSetI, x_wCB, x_wCons, x_wNil, x_wTup, x_wLst, x_wLstL, x_wRet, x_wSkip, x_wCall, x_wPar, x_wExpr, x_wBM, x_wFld, x_wSl, x_wPrt, x_wNoP, x_wUn, x_vName, x_vTup2, x_wCaught, List.getElem?_cons_zero, List.getElem?_cons_succ, List.set_cons_zero, List.set_cons_succ, gI_i, gIc_i, gCmp_i, gAdd_i, gNeg_i]
    refine seq_of ?_
    simp only [x_wIf, x_wOr, x_wAnd, x_wNot, x_wB, x_wOp, x_wVar, x_wC, x_wAsg, x_wSetI, x_wCB, x_wCons, x_wNil, x_wTup, x_wLst, x_wLstL, x_wRet, x_wSkip, x_wCall, x_wPar, x_wExpr, x_wBM, x_wFld, x_wSl, x_wPrt, x_wNoP, x_wUn, x_vName, x_vTup2, x_wCaught, List.getElem?_cons_zero, List.getElem?_cons_succ, List.set_cons_zero, List.set_cons_succ, gI_i, gIc_i, gCmp_i, gAdd_i, gNeg_i]
    refine ⟨p, _, _, rfl, hp1, rfl, by simp, by simp, fun arc harc => ?_⟩
    refine seq_of ?_
    simp only [x_wIf, x_wOr, x_wAnd, x_wNot, x_wB, x_wOp, x_wVar, x_wC, x_wAsg, x_wSetI, x_wCB, x_wCons, x_wNil, x_wTup, x_wLst, x_wLstL, x_wRet, x_wSkip, x_wCall, x_wPar, x_wExpr, x_wBM, x_wFld, x_wSl, x_wPrt, x_wNoP, x_wUn, x_vName, x_vTup2, x_wCaught, List.getElem?_cons_zero, List.getElem?_cons_succ, List.set_cons_zero, List.set_cons_succ, gI_i, gIc_i, gCmp_i, gAdd_i, gNeg_i]
    clear hrt
    have ho : ∀ μ, Bt μ odd := fun μ => by
      simp only [List.mem_cons, List.not_mem_nil, or_false] at hodd
      rcases hodd with rfl | rfl | rfl | rfl | rfl | rfl | rfl <;> exact ⟨_, rfl⟩
    have ho2 : isPer odd = false ∧ Sm odd := by
      simp only [List.mem_cons, List.not_mem_nil, or_false] at hodd
      rcases hodd with rfl | rfl | rfl | rfl | rfl | rfl | rfl <;> exact ⟨by decide, _, rfl, by decide, by decide⟩
    have hlt : ∀ μ, Bt μ lot ∧ seqOf μ lot = none := fun μ => by
      simp only [List.mem_cons, List.not_mem_nil, or_false] at hlot
      rcases hlot with rfl | rfl | rfl | rfl <;> exact ⟨⟨_, rfl⟩, rfl⟩
    have hlt2 : Sm lot := by
      simp only [List.mem_cons, List.not_mem_nil, or_false] at hlot
      rcases hlot with rfl | rfl | rfl | rfl <;> exact ⟨_, rfl, by decide, by decide⟩
    have smi : ∀ i : Int, -1500 ≤ i → i ≤ 1500 → i.natAbs.log2 < 1920 := fun i h1 h2 => Nat.lt_of_le_of_lt (Nat.log2_le_self _) (by omega)
    have har : (∀ μ, ArcBt μ arc) ∧ isArc per arc = false ∧ Sm arc := by
      have at0 : ∀ d : D, (∀ xs, d ≠ .tup xs) → (∀ μ, Bt μ d) → ∀ μ, ArcBt μ d := fun d h1 h2 μ => ⟨h2 μ, fun xs e => absurd e (h1 xs)⟩
      have at2 : ∀ xs : List D, (∀ x ∈ xs, ∀ μ, Bt μ x) → ∀ μ, ArcBt μ (.tup xs) := fun xs h μ => ⟨⟨_, rfl⟩, fun ys e y hy => by cases e; exact h y hy μ⟩
      have bi : ∀ (i : Int) (μ : MH), Bt μ (.int i) := fun i μ => ⟨_, rfl⟩
      have sp := smi per (by omega) (by omega)
      simp only [List.mem_cons, List.not_mem_nil, or_false] at harc
      rcases harc with rfl | rfl | rfl | rfl | rfl | rfl | rfl | rfl | rfl | rfl | rfl
      · exact ⟨at0 _ (fun xs e => by cases e) fun μ => ⟨_, rfl⟩, rfl, _, rfl, by decide, by decide⟩
      · exact ⟨at0 _ (fun xs e => by cases e) fun μ => ⟨_, rfl⟩, rfl, _, rfl, by decide, by decide⟩
      · exact ⟨at2 _ (by simp [bi]), rfl, _, rfl, by decide, by decide⟩
      · exact ⟨at2 _ (by simp [bi]), rfl, _, rfl, by decide, by decide⟩
      · exact ⟨at2 _ (by simp [bi]), by simp [isArc, isIdx], _, rfl, by simp [rok, rokAll, sp], by simp [rcost, rcostAll]⟩
      · exact ⟨at2 _ (by simp [bi]), by simp [isArc, isIdx], _, rfl, by simp [rok, rokAll, sp], by simp [rcost, rcostAll]⟩
      · exact ⟨at2 _ (by simp [bi]), by simp [isArc, isIdx], _, rfl, by decide, by decide⟩
      · exact ⟨at2 _ (by simp [bi]), by simp [isArc, isIdx], _, rfl, by decide, by decide⟩
      · exact ⟨at2 _ (by simp [bi]; exact fun μ => ⟨_, rfl⟩), by simp [isArc, isIdx], _, rfl, by decide, by decide⟩
      · exact ⟨at2 _ (by simp [bi]; exact fun μ => ⟨_, rfl⟩), by simp [isArc, isIdx], _, rfl, by decide, by decide⟩
      · exact ⟨at0 _ (fun xs e => by cases e) fun μ => ⟨_, rfl⟩, rfl, _, rfl, by decide, by decide⟩
    refine ⟨by rw [hz2, sizeLine_eq]; simp; omega, by rw [List.length_append, hz2, sizeLine_eq]; simp; omega, seq_of ?_⟩
    simp only [x_wIf, x_wOr, x_wAnd, x_wNot, x_wB, x_wOp, x_wVar, x_wC, x_wAsg, x_wSetI, x_wCB, x_wCons, x_wNil, x_wTup, x_wLst, x_wLstL, x_wRet, x_wSkip, x_wCall, x_wPar, x_wExpr, x_wBM, x_wFld, x_wSl, x_wPrt, x_wNoP, x_wUn, x_vName, x_vTup2, x_wCaught, List.getElem?_cons_zero, List.getElem?_cons_succ, List.set_cons_zero, List.set_cons_succ, gI_i, gIc_i, gCmp_i, gAdd_i, gNeg_i]
    refine ⟨hT1, odd, lot, rfl, taken_badP (ho _) (hlt _).1 ho2.1 ⟨_, caught_num, fun r hr => ?_⟩⟩
    have hT2 : ∀ ds, TabsIn T (mup μ1 r (.lst ds)) := fun ds => hT1.up (fun q z => by rw [hr] at z; cases z) (fun q z => by cases z)
    refine seq_of ?_
    simp only [x_wIf, x_wOr, x_wAnd, x_wNot, x_wB, x_wOp, x_wVar, x_wC, x_wAsg, x_wSetI, x_wCB, x_wCons, x_wNil, x_wTup, x_wLst, x_wLstL, x_wRet, x_wSkip, x_wCall, x_wPar, x_wExpr, x_wBM, x_wFld, x_wSl, x_wPrt, x_wNoP, x_wUn, x_vName, x_vTup2, x_wCaught, List.getElem?_cons_zero, List.getElem?_cons_succ, List.set_cons_zero, List.set_cons_succ, gI_i, gIc_i, gCmp_i, gAdd_i, gNeg_i]
    refine ⟨hT2 _, .int per, lot, rfl, taken_badS h2 h3 (hlt _).1 (hlt _).2 ⟨_, caught_row, ?_⟩⟩
    simp only [x_wIf, x_wOr, x_wAnd, x_wNot, x_wB, x_wOp, x_wVar, x_wC, x_wAsg, x_wSetI, x_wCB, x_wCons, x_wNil, x_wTup, x_wLst, x_wLstL, x_wRet, x_wSkip, x_wCall, x_wPar, x_wExpr, x_wBM, x_wFld, x_wSl, x_wPrt, x_wNoP, x_wUn, x_vName, x_vTup2, x_wCaught, List.getElem?_cons_zero, List.getElem?_cons_succ, List.set_cons_zero, List.set_cons_succ, gI_i, gIc_i, gCmp_i, gAdd_i, gNeg_i, gSet, mup_same, mup_mup, List.length_cons, List.length_nil]
    refine seq_of ?_
    simp only [x_wIf, x_wOr, x_wAnd, x_wNot, x_wB, x_wOp, x_wVar, x_wC, x_wAsg, x_wSetI, x_wCB, x_wCons, x_wNil, x_wTup, x_wLst, x_wLstL, x_wRet, x_wSkip, x_wCall, x_wPar, x_wExpr, x_wBM, x_wFld, x_wSl, x_wPrt, x_wNoP, x_wUn, x_vName, x_vTup2, x_wCaught, List.getElem?_cons_zero, List.getElem?_cons_succ, List.set_cons_zero, List.set_cons_succ, gI_i, gIc_i, gCmp_i, gAdd_i, gNeg_i]
    refine ⟨hT2 _, .int per, _, rfl, taken_badA h2 h3 hl (har.1 _) arcs_bt har.2.1 ⟨_, caught_row, ?_⟩⟩
    simp only [x_wIf, x_wOr, x_wAnd, x_wNot, x_wB, x_wOp, x_wVar, x_wC, x_wAsg, x_wSetI, x_wCB, x_wCons, x_wNil, x_wTup, x_wLst, x_wLstL, x_wRet, x_wSkip, x_wCall, x_wPar, x_wExpr, x_wBM, x_wFld, x_wSl, x_wPrt, x_wNoP, x_wUn, x_vName, x_vTup2, x_wCaught, List.getElem?_cons_zero, List.getElem?_cons_succ, List.set_cons_zero, List.set_cons_succ, gI_i, gIc_i, gCmp_i, gAdd_i, gNeg_i, gSet, mup_same, mup_mup, List.length_cons, List.length_nil]
    simp only [List.length_set, List.length_cons, List.length_nil, show ixN (0 + 1 + 1 + 1) 2 = some 2 from rfl]
    obtain ⟨ps, q1, q2, q3⟩ := three_shown (t1 := "number") (t2 := "row") (t3 := "row") (w1 := "period") (w2 := "arcs") (w3 := "arc") ho2.2 hlt2 har.2.2 (by decide)
    refine repr_pair q1 q2 q3 mup_same ?_
    simp only [Bool.not_true, Bool.not_false, Bool.false_eq_true, if_true, if_false]
    exact hN _ _ ⟨⟨_, _, _, _, _, _, _, _, _, _, _, rfl⟩, hT2 _, by rw [mup_ne (ne_live hp1 hr)]; exact hp1⟩
end
end LF

/-! the law: derivations, facts, the end (written by gen/mklaw.py) -/
namespace LF.K57
open PySem PySem.Spec L2 LF LamX
def top (i : Nat) : Stmt := PySem.Challenge.pw_everyhour_k57_taken_made_and_refused.main.body.getD i (.Pass ⟨0, 0, 0, 0⟩)
abbrev s_BadNumber___init__ : Stmt := inClass (top 4) 0
abbrev s_BadRow___init__ : Stmt := inClass (top 5) 0
abbrev s_is_whole : Stmt := top 13
abbrev s_as_tuples : Stmt := top 14
abbrev s_is_index : Stmt := top 15
abbrev s_need_period : Stmt := top 20
abbrev s_is_arc : Stmt := top 21
abbrev s_Taken___init__ : Stmt := inClass (top 17) 0
abbrev s_Taken___eq__ : Stmt := inClass (top 17) 1
abbrev s_Taken___ne__ : Stmt := inClass (top 17) 2
abbrev s_Rooms___init__ : Stmt := inClass (top 18) 0
abbrev s_Rooms___eq__ : Stmt := inClass (top 18) 1
abbrev s_Rooms___ne__ : Stmt := inClass (top 18) 2
abbrev s_RoomCases___init__ : Stmt := inClass (top 19) 0
abbrev s_RoomCases___eq__ : Stmt := inClass (top 19) 1
abbrev s_RoomCases___ne__ : Stmt := inClass (top 19) 2
abbrev s_law_pen : Stmt := top 23
abbrev s_law_draw : Stmt := top 24
abbrev s_law_pick : Stmt := top 25
abbrev s_law_is : Stmt := top 26
abbrev s_law_drawn_arcs : Stmt := top 28
abbrev s_law : Stmt := top 29
abbrev s_law_caught : Stmt := top 27
abbrev L : Lw := ⟨["Taken", "Rooms", "RoomCases"], fun f => (List.lookup f [("period", ["Taken"]), ("arcs", ["Taken"]), ("numbers", ["Rooms"]), ("root", ["RoomCases"])]).getD []⟩
abbrev errFl : List String := ["line", "word", "name", "what", "number", "row", "event", "many", "limit"]
structure Txt (K : PySem.W.Frag) (mg : Str → Option Value) (cl : String → Addr) (ad : String → Addr) (fdt : String → FuncData) : Prop where
  F_BadNumber___init__ : Fun K "__init__" "BadNumber.__init__" s_BadNumber___init__ (ad "BadNumber___init__") (fdt "BadNumber___init__")
  b_BadNumber___init__ : Binds K (fdt "BadNumber___init__") ["self", "what", "number"] []
  hb : BaseF K (cl "HourError")
  gc_HourError : mg "HourError" = some (.ref (cl "HourError"))
  F_BadRow___init__ : Fun K "__init__" "BadRow.__init__" s_BadRow___init__ (ad "BadRow___init__") (fdt "BadRow___init__")
  b_BadRow___init__ : Binds K (fdt "BadRow___init__") ["self", "what", "row"] []
  F_is_whole : Fun K "is_whole" "is_whole" s_is_whole (ad "is_whole") (fdt "is_whole")
  b_is_whole : Binds K (fdt "is_whole") ["value"] []
  g_is_whole : mg "is_whole" = some (.ref (ad "is_whole"))
  z_isinstance : mg "isinstance" = none
  z_int : mg "int" = none
  it_int : IsTF K cl L.ic ["int"]
  z_bool : mg "bool" = none
  it_bool : IsTF K cl L.ic ["bool"]
  F_as_tuples : Fun K "as_tuples" "as_tuples" s_as_tuples (ad "as_tuples") (fdt "as_tuples")
  b_as_tuples : Binds K (fdt "as_tuples") ["value"] []
  g_as_tuples : mg "as_tuples" = some (.ref (ad "as_tuples"))
  z_list : mg "list" = none
  z_tuple : mg "tuple" = none
  it_list_tuple : IsTF K cl L.ic ["list", "tuple"]
  F_is_index : Fun K "is_index" "is_index" s_is_index (ad "is_index") (fdt "is_index")
  b_is_index : Binds K (fdt "is_index") ["value", "many"] []
  g_is_index : mg "is_index" = some (.ref (ad "is_index"))
  F_need_period : Fun K "need_period" "need_period" s_need_period (ad "need_period") (fdt "need_period")
  b_need_period : Binds K (fdt "need_period") ["period"] []
  g_need_period : mg "need_period" = some (.ref (ad "need_period"))
  er_BadNumber : ErrF K mg cl "BadNumber" ["what", "number"] "BadNumber"
  ei_BadNumber : PySem.W.findIn K (.ref (cl "BadNumber")) "__init__" = some (some (.ref (ad "BadNumber___init__")))
  et_BadNumber : PySem.W.typeIn K (.ref (ad "BadNumber___init__")) = some (.type "function")
  F_is_arc : Fun K "is_arc" "is_arc" s_is_arc (ad "is_arc") (fdt "is_arc")
  b_is_arc : Binds K (fdt "is_arc") ["period", "arc"] []
  g_is_arc : mg "is_arc" = some (.ref (ad "is_arc"))
  it_tuple : IsTF K cl L.ic ["tuple"]
  z_len : mg "len" = none
  F_Taken___init__ : Fun K "__init__" "Taken.__init__" s_Taken___init__ (ad "Taken___init__") (fdt "Taken___init__")
  b_Taken___init__ : Binds K (fdt "Taken___init__") ["self", "period", "arcs"] []
  er_BadRow : ErrF K mg cl "BadRow" ["what", "row"] "BadRow"
  ei_BadRow : PySem.W.findIn K (.ref (cl "BadRow")) "__init__" = some (some (.ref (ad "BadRow___init__")))
  et_BadRow : PySem.W.typeIn K (.ref (ad "BadRow___init__")) = some (.type "function")
  fl_period : ∀ c ∈ L.fc "period", FldOk K cl c "period"
  fl_arcs : ∀ c ∈ L.fc "arcs", FldOk K cl c "arcs"
  F_Taken___eq__ : Fun K "__eq__" "Taken.__eq__" s_Taken___eq__ (ad "Taken___eq__") (fdt "Taken___eq__")
  b_Taken___eq__ : Binds K (fdt "Taken___eq__") ["self", "other"] []
  gc_Taken : mg "Taken" = some (.ref (cl "Taken"))
  is_Taken : IsF K cl L.ic "Taken"
  F_Taken___ne__ : Fun K "__ne__" "Taken.__ne__" s_Taken___ne__ (ad "Taken___ne__") (fdt "Taken___ne__")
  b_Taken___ne__ : Binds K (fdt "Taken___ne__") ["self", "other"] []
  cm_Taken___eq__ : CmpF K cl "Taken" L.ic "__eq__" (ad "Taken___eq__")
  F_Rooms___init__ : Fun K "__init__" "Rooms.__init__" s_Rooms___init__ (ad "Rooms___init__") (fdt "Rooms___init__")
  b_Rooms___init__ : Binds K (fdt "Rooms___init__") ["self", "numbers"] []
  fl_numbers : ∀ c ∈ L.fc "numbers", FldOk K cl c "numbers"
  F_Rooms___eq__ : Fun K "__eq__" "Rooms.__eq__" s_Rooms___eq__ (ad "Rooms___eq__") (fdt "Rooms___eq__")
  b_Rooms___eq__ : Binds K (fdt "Rooms___eq__") ["self", "other"] []
  gc_Rooms : mg "Rooms" = some (.ref (cl "Rooms"))
  is_Rooms : IsF K cl L.ic "Rooms"
  F_Rooms___ne__ : Fun K "__ne__" "Rooms.__ne__" s_Rooms___ne__ (ad "Rooms___ne__") (fdt "Rooms___ne__")
  b_Rooms___ne__ : Binds K (fdt "Rooms___ne__") ["self", "other"] []
  cm_Rooms___eq__ : CmpF K cl "Rooms" L.ic "__eq__" (ad "Rooms___eq__")
  F_RoomCases___init__ : Fun K "__init__" "RoomCases.__init__" s_RoomCases___init__ (ad "RoomCases___init__") (fdt "RoomCases___init__")
  b_RoomCases___init__ : Binds K (fdt "RoomCases___init__") ["self", "root"] []
  fl_root : ∀ c ∈ L.fc "root", FldOk K cl c "root"
  F_RoomCases___eq__ : Fun K "__eq__" "RoomCases.__eq__" s_RoomCases___eq__ (ad "RoomCases___eq__") (fdt "RoomCases___eq__")
  b_RoomCases___eq__ : Binds K (fdt "RoomCases___eq__") ["self", "other"] []
  gc_RoomCases : mg "RoomCases" = some (.ref (cl "RoomCases"))
  is_RoomCases : IsF K cl L.ic "RoomCases"
  F_RoomCases___ne__ : Fun K "__ne__" "RoomCases.__ne__" s_RoomCases___ne__ (ad "RoomCases___ne__") (fdt "RoomCases___ne__")
  b_RoomCases___ne__ : Binds K (fdt "RoomCases___ne__") ["self", "other"] []
  cm_RoomCases___eq__ : CmpF K cl "RoomCases" L.ic "__eq__" (ad "RoomCases___eq__")
  F_law_pen : Fun K "_law_pen" "_law_pen" s_law_pen (ad "law_pen") (fdt "law_pen")
  b_law_pen : Binds K (fdt "law_pen") ["script"] []
  g_law_pen : mg "_law_pen" = some (.ref (ad "law_pen"))
  F_law_draw : Fun K "_law_draw" "_law_draw" s_law_draw (ad "law_draw") (fdt "law_draw")
  b_law_draw : Binds K (fdt "law_draw") ["pen", "many"] []
  g_law_draw : mg "_law_draw" = some (.ref (ad "law_draw"))
  F_law_pick : Fun K "_law_pick" "_law_pick" s_law_pick (ad "law_pick") (fdt "law_pick")
  b_law_pick : Binds K (fdt "law_pick") ["pen", "some"] []
  g_law_pick : mg "_law_pick" = some (.ref (ad "law_pick"))
  F_law_is : Fun K "_law_is" "_law_is" s_law_is (ad "law_is") (fdt "law_is")
  b_law_is : Binds K (fdt "law_is") ["told", "due"] []
  g_law_is : mg "_law_is" = some (.ref (ad "law_is"))
  z_range : mg "range" = none
  z_str : mg "str" = none
  it_str : IsTF K cl L.ic ["str"]
  F_law_drawn_arcs : Fun K "_law_drawn_arcs" "_law_drawn_arcs" s_law_drawn_arcs (ad "law_drawn_arcs") (fdt "law_drawn_arcs")
  b_law_drawn_arcs : Binds K (fdt "law_drawn_arcs") ["pen", "period", "many"] []
  g_law_drawn_arcs : mg "_law_drawn_arcs" = some (.ref (ad "law_drawn_arcs"))
  z_min : mg "min" = none
  F_law : Fun K "law" "law" s_law (ad "law") (fdt "law")
  b_law : Binds K (fdt "law") ["script"] []
  g_law : mg "law" = some (.ref (ad "law"))
  M_Taken : Mk K (cl "Taken") (ad "Taken___init__")
  cm_Taken___ne__ : CmpF K cl "Taken" L.ic "__ne__" (ad "Taken___ne__")
  F_law_caught : Fun K "_law_caught" "_law_caught" s_law_caught (ad "law_caught") (fdt "law_caught")
  b_law_caught : Binds K (fdt "law_caught") ["action"] []
  g_law_caught : mg "_law_caught" = some (.ref (ad "law_caught"))
  z_repr : mg "repr" = none
  M_Rooms : Mk K (cl "Rooms") (ad "Rooms___init__")
  M_RoomCases : Mk K (cl "RoomCases") (ad "RoomCases___init__")
  cm_Rooms___ne__ : CmpF K cl "Rooms" L.ic "__ne__" (ad "Rooms___ne__")
  cm_RoomCases___ne__ : CmpF K cl "RoomCases" L.ic "__ne__" (ad "RoomCases___ne__")
  exA : ExcAll K cl
  exNa : ∀ c ∈ errNames, ∀ f ∈ errFl, PySem.W.findIn K (.ref (cl c)) (sk f) = some none
  exm : ∀ c ∈ errNames, PySem.W.exmOne K (.ref (cl c)) (.ref (cl "HourError")) = some true
  ge_BadText : mg "BadText" = some (.ref (cl "BadText"))
  ge_BadName : mg "BadName" = some (.ref (cl "BadName"))
  ge_BadNumber : mg "BadNumber" = some (.ref (cl "BadNumber"))
  ge_BadRow : mg "BadRow" = some (.ref (cl "BadRow"))
  ge_NoEvent : mg "NoEvent" = some (.ref (cl "NoEvent"))
  ge_NoBond : mg "NoBond" = some (.ref (cl "NoBond"))
  ge_TakenName : mg "TakenName" = some (.ref (cl "TakenName"))
  ge_Unlike : mg "Unlike" = some (.ref (cl "Unlike"))
  ge_NoTimes : mg "NoTimes" = some (.ref (cl "NoTimes"))
  ge_TooMany : mg "TooMany" = some (.ref (cl "TooMany"))
section
variable {P : Program} {w : World} {K : PySem.W.Frag} {mg : Str → Option Value} {base : Heap} {cl ad : String → Addr} {fdt : String → FuncData}
theorem sc_BadNumber___init__ : FnScope ["self", "what", "number"] ["self", "what", "number"] (defScope s_BadNumber___init__) := ⟨rfl, rfl, rfl, by decide +kernel, rfl, by decide +kernel, by decide +kernel⟩
theorem ok_BadNumber___init__ (T : Txt K mg cl ad fdt) : FnOk P w K mg base (L2.CX P w) 1 (ad "BadNumber___init__") (fdt "BadNumber___init__") ["self", "what", "number"] (spEx K (cl "BadNumber") (["what", "number"].map sk)) :=
  Fun.okX T.F_BadNumber___init__ sc_BadNumber___init__ (len_ex rfl) fun cdv A outer s H vs Q E hr h => ⟨_, (pss_cons (ps_expr (pe_hinit T.hb rfl T.gc_HourError (pa_cons (pv 0) (pa_cons pe_str pa_nil)))) (pss_cons (ps_ost (pv 0) (pv 1)) (pss_one (ps_ost (pv 0) (pv 2))))), err2 h⟩
theorem sc_BadRow___init__ : FnScope ["self", "what", "row"] ["self", "what", "row"] (defScope s_BadRow___init__) := ⟨rfl, rfl, rfl, by decide +kernel, rfl, by decide +kernel, by decide +kernel⟩
theorem ok_BadRow___init__ (T : Txt K mg cl ad fdt) : FnOk P w K mg base (L2.CX P w) 1 (ad "BadRow___init__") (fdt "BadRow___init__") ["self", "what", "row"] (spEx K (cl "BadRow") (["what", "row"].map sk)) :=
  Fun.okX T.F_BadRow___init__ sc_BadRow___init__ (len_ex rfl) fun cdv A outer s H vs Q E hr h => ⟨_, (pss_cons (ps_expr (pe_hinit T.hb rfl T.gc_HourError (pa_cons (pv 0) (pa_cons pe_str pa_nil)))) (pss_cons (ps_ost (pv 0) (pv 1)) (pss_one (ps_ost (pv 0) (pv 2))))), err2 h⟩
theorem sc_is_whole : FnScope ["value"] ["value"] (defScope s_is_whole) := ⟨rfl, rfl, rfl, by decide +kernel, rfl, by decide +kernel, by decide +kernel⟩
theorem ok_is_whole (T : Txt K mg cl ad fdt) : FnOk P w K mg base (L2.CX P w) 1 (ad "is_whole") (fdt "is_whole") ["value"] (spOf cl 1 S_is_whole) :=
  fd_ok T.F_is_whole sc_is_whole (fb := w_is_whole L) (fun cdv A outer s H E hr => (pssd_one (psd_ret (pd_and (pd_isT1 T.it_int rfl T.z_isinstance rfl T.z_int (by decide +kernel) pd_var) (pd_one (pd_not (pd_isT1 T.it_bool rfl T.z_isinstance rfl T.z_bool (by decide +kernel) pd_var))))))) pure_is_whole
theorem sc_as_tuples : FnScope ["value", "one"] ["value"] (defScope s_as_tuples) := ⟨rfl, rfl, rfl, by decide +kernel, rfl, by decide +kernel, by decide +kernel⟩
theorem okr_as_tuples (T : Txt K mg cl ad fdt) : ∀ n, FnOk P w K mg base (L2.CX P w) (1 + n) (ad "as_tuples") (fdt "as_tuples") ["value"] (spOf cl 1 (Sr_as_tuples n))
  | 0 => ⟨fun vs H Q E h => h.1, fun A outer s H args us vs Q E hr he hb hv h => by obtain ⟨_, _, _, _, _, _, _, z, _⟩ := h; exact z.elim⟩
  | n + 1 => by
    have ih := okr_as_tuples (T : Txt K mg cl ad fdt) n
    exact fd_ok T.F_as_tuples sc_as_tuples (fb := w_as_tuples L (Sr_as_tuples n)) (fun cdv A outer s H E hr => (pssd_cons (psd_if (ptd_val (pd_isT2F T.it_list_tuple rfl T.z_isinstance rfl T.z_list (by decide +kernel) rfl T.z_tuple (by decide +kernel) pd_var))
    (pssd_one (psd_ret (pd_callTy cd_tuple rfl T.z_tuple (by decide +kernel) (pad_cons (pd_lc rfl sc_as_tuples.nd (pid_seq pd_var) (own := [("one", 1)]) (show blkC ["value", "one"] (defScope s_as_tuples) _ [("one", 1)] = true from by decide +kernel) (fun _ _ _ _ _ => (pgd_name sc_as_tuples.nd)) (fun _ _ _ _ _ => ptsd_nil) (fun _ _ _ _ _ => (pd_call ih (hr.mono (Nat.le_refl _)) rfl T.g_as_tuples T.F_as_tuples.kp T.b_as_tuples passL (pad_cons pd_var pad_nil)))) pad_nil)))) pssd_nil)
    (pssd_one (psd_ret pd_var)))) (pure_as_tuples n)
theorem ok_as_tuples (T : Txt K mg cl ad fdt) : FnOk P w K mg base (L2.CX P w) 5 (ad "as_tuples") (fdt "as_tuples") ["value"] (spOf cl 1 S_as_tuples) := okr_as_tuples T 4
theorem sc_is_index : FnScope ["value", "many"] ["value", "many"] (defScope s_is_index) := ⟨rfl, rfl, rfl, by decide +kernel, rfl, by decide +kernel, by decide +kernel⟩
theorem ok_is_index (T : Txt K mg cl ad fdt) : FnOk P w K mg base (L2.CX P w) 2 (ad "is_index") (fdt "is_index") ["value", "many"] (spOf cl 2 S_is_index) :=
  fd_ok T.F_is_index sc_is_index (fb := w_is_index L) (fun cdv A outer s H E hr => (pssd_one (psd_ret (pd_and (pd_call (ok_is_whole T) (hr.mono (by omega)) rfl T.g_is_whole T.F_is_whole.kp T.b_is_whole cx_passes (pad_cons pd_var pad_nil)) (pd_one (pd_chain od_leI od_ltI pd_int pd_var pd_var)))))) pure_is_index
theorem sc_need_period : FnScope ["period"] ["period"] (defScope s_need_period) := ⟨rfl, rfl, rfl, by decide +kernel, rfl, by decide +kernel, by decide +kernel⟩
theorem ok_need_period (T : Txt K mg cl ad fdt) : FnOk P w K mg base (L2.CX P w) 3 (ad "need_period") (fdt "need_period") ["period"] (spOf cl 1 S_need_period) :=
  fd_ok T.F_need_period sc_need_period (fb := w_need_period L) (fun cdv A outer s H E hr => (pssd_one (psd_if (ptd_w (pwd_or (ptd_not (ptd_val (pd_call (ok_is_whole T) (hr.mono (by omega)) rfl T.g_is_whole T.F_is_whole.kp T.b_is_whole cx_passes (pad_cons pd_var pad_nil)))) (pwd_or1 (ptd_not (ptd_chain od_leI od_leI pd_int pd_var pd_int)))))
    (pssd_one (psd_raise T.er_BadNumber T.ei_BadNumber T.et_BadNumber (ok_BadNumber___init__ T) (hr.mono (by omega)) T.b_BadNumber___init__ rfl cx_takes rfl (pad_cons pd_str (pad_cons pd_var pad_nil)))) pssd_nil))) pure_need_period
theorem sc_is_arc : FnScope ["period", "arc"] ["period", "arc"] (defScope s_is_arc) := ⟨rfl, rfl, rfl, by decide +kernel, rfl, by decide +kernel, by decide +kernel⟩
theorem ok_is_arc (T : Txt K mg cl ad fdt) : FnOk P w K mg base (L2.CX P w) 3 (ad "is_arc") (fdt "is_arc") ["period", "arc"] (spOf cl 2 S_is_arc) :=
  fd_ok T.F_is_arc sc_is_arc (fb := w_is_arc L) (fun cdv A outer s H E hr => (pssd_cons (psd_if (ptd_w (pwd_or (ptd_not (ptd_val (pd_isT1 T.it_tuple rfl T.z_isinstance rfl T.z_tuple (by decide +kernel) pd_var))) (pwd_or (ptd_cmp (od_ne hr.units) (pd_callB cd_len rfl T.z_len (by decide +kernel) (pad_cons pd_var pad_nil)) pd_int (by first | exact nobehind _ (by decide) (by decide) | rfl)) (pwd_or1 (ptd_not (ptd_val (pd_call (ok_is_index T) (hr.mono (by omega)) rfl T.g_is_index T.F_is_index.kp T.b_is_index cx_passes (pad_cons (pd_ix (xd_ix (hu_of hr)) pd_var pd_int) (pad_cons pd_var pad_nil)))))))))
    (pssd_one (psd_ret pd_bl)) pssd_nil)
    (pssd_one (psd_ret (pd_call (ok_is_index T) (hr.mono (by omega)) rfl T.g_is_index T.F_is_index.kp T.b_is_index cx_passes (pad_cons (pd_ix (xd_ix (hu_of hr)) pd_var pd_int) (pad_cons pd_var pad_nil))))))) pure_is_arc
theorem sc_Taken___init__ : FnScope ["self", "period", "arcs", "arc"] ["self", "period", "arcs"] (defScope s_Taken___init__) := ⟨rfl, rfl, rfl, by decide +kernel, rfl, by decide +kernel, by decide +kernel⟩
theorem ok_Taken___init__ (T : Txt K mg cl ad fdt) : FnOk P w K mg base (L2.CX P w) 4 (ad "Taken___init__") (fdt "Taken___init__") ["self", "period", "arcs"] (spOf cl 3 S_Taken___init__) :=
  fd_ok T.F_Taken___init__ sc_Taken___init__ (fb := w_Taken___init__ L) (fun cdv A outer s H E hr => (pssd_cons (psd_ex (pd_call (ok_need_period T) (hr.mono (by omega)) rfl T.g_need_period T.F_need_period.kp T.b_need_period cx_passes (pad_cons pd_var pad_nil)))
    (pssd_cons (psd_if (ptd_not (ptd_val (pd_isT2F T.it_list_tuple rfl T.z_isinstance rfl T.z_list (by decide +kernel) rfl T.z_tuple (by decide +kernel) pd_var)))
    (pssd_one (psd_raise T.er_BadRow T.ei_BadRow T.et_BadRow (ok_BadRow___init__ T) (hr.mono (by omega)) T.b_BadRow___init__ rfl cx_takes rfl (pad_cons pd_str (pad_cons pd_var pad_nil)))) pssd_nil)
    (pssd_cons (psd_for cx_own rfl (pid_seq pd_var) (pgd_name sc_Taken___init__.nd)
    (pssd_one (psd_if (ptd_not (ptd_val (pd_call (ok_is_arc T) (hr.mono (by omega)) rfl T.g_is_arc T.F_is_arc.kp T.b_is_arc cx_passes (pad_cons pd_var (pad_cons pd_var pad_nil)))))
    (pssd_one (psd_raise T.er_BadRow T.ei_BadRow T.et_BadRow (ok_BadRow___init__ T) (hr.mono (by omega)) T.b_BadRow___init__ rfl cx_takes rfl (pad_cons pd_str (pad_cons pd_var pad_nil)))) pssd_nil)))
    (pssd_cons (psd_setF pd_var pd_var T.fl_period)
    (pssd_one (psd_setF pd_var (pd_callTy cd_tuple rfl T.z_tuple (by decide +kernel) (pad_cons pd_var pad_nil)) T.fl_arcs))))))) pure_Taken___init__
theorem sc_Taken___eq__ : FnScope ["self", "other"] ["self", "other"] (defScope s_Taken___eq__) := ⟨rfl, rfl, rfl, by decide +kernel, rfl, by decide +kernel, by decide +kernel⟩
theorem ok_Taken___eq__ (T : Txt K mg cl ad fdt) : FnOk P w K mg base (L2.CX P w) 1 (ad "Taken___eq__") (fdt "Taken___eq__") ["self", "other"] (spOf cl 2 (S_Taken___eq__ L)) :=
  fd_ok T.F_Taken___eq__ sc_Taken___eq__ (fb := w_Taken___eq__ L) (fun cdv A outer s H E hr => (pssd_one (psd_ret (pd_and (pd_isi T.is_Taken rfl T.z_isinstance rfl T.gc_Taken pd_var) (pd_one (pd_cmp (od_eq hr.units) (pd_tup (pad_cons (pd_fld pd_var T.fl_period) (pad_cons (pd_fld pd_var T.fl_arcs) pad_nil))) (pd_tup (pad_cons (pd_fld pd_var T.fl_period) (pad_cons (pd_fld pd_var T.fl_arcs) pad_nil))) (by first | exact nobehind _ (by decide) (by decide) | rfl))))))) pure_Taken___eq__
theorem sc_Taken___ne__ : FnScope ["self", "other"] ["self", "other"] (defScope s_Taken___ne__) := ⟨rfl, rfl, rfl, by decide +kernel, rfl, by decide +kernel, by decide +kernel⟩
theorem ok_Taken___ne__ (T : Txt K mg cl ad fdt) : FnOk P w K mg base (L2.CX P w) 2 (ad "Taken___ne__") (fdt "Taken___ne__") ["self", "other"] (spOf cl 2 (S_Taken___ne__ L)) :=
  fd_ok T.F_Taken___ne__ sc_Taken___ne__ (fb := w_Taken___ne__ L) (fun cdv A outer s H E hr => (pssd_one (psd_ret (pd_not (pd_cmp (od_eqOwn T.cm_Taken___eq__ (ok_Taken___eq__ T) T.b_Taken___eq__ (hr.mono (by omega))) pd_var pd_var (by first | exact nobehind _ (by decide) (by decide) | rfl)))))) pure_Taken___ne__
theorem sc_Rooms___init__ : FnScope ["self", "numbers"] ["self", "numbers"] (defScope s_Rooms___init__) := ⟨rfl, rfl, rfl, by decide +kernel, rfl, by decide +kernel, by decide +kernel⟩
theorem ok_Rooms___init__ (T : Txt K mg cl ad fdt) : FnOk P w K mg base (L2.CX P w) 6 (ad "Rooms___init__") (fdt "Rooms___init__") ["self", "numbers"] (spOf cl 2 S_Rooms___init__) :=
  fd_ok T.F_Rooms___init__ sc_Rooms___init__ (fb := w_Rooms___init__ L) (fun cdv A outer s H E hr => (pssd_one (psd_setF pd_var (pd_call (ok_as_tuples T) (hr.mono (by omega)) rfl T.g_as_tuples T.F_as_tuples.kp T.b_as_tuples cx_passes (pad_cons pd_var pad_nil)) T.fl_numbers))) pure_Rooms___init__
theorem sc_Rooms___eq__ : FnScope ["self", "other"] ["self", "other"] (defScope s_Rooms___eq__) := ⟨rfl, rfl, rfl, by decide +kernel, rfl, by decide +kernel, by decide +kernel⟩
theorem ok_Rooms___eq__ (T : Txt K mg cl ad fdt) : FnOk P w K mg base (L2.CX P w) 1 (ad "Rooms___eq__") (fdt "Rooms___eq__") ["self", "other"] (spOf cl 2 (S_Rooms___eq__ L)) :=
  fd_ok T.F_Rooms___eq__ sc_Rooms___eq__ (fb := w_Rooms___eq__ L) (fun cdv A outer s H E hr => (pssd_one (psd_ret (pd_and (pd_isi T.is_Rooms rfl T.z_isinstance rfl T.gc_Rooms pd_var) (pd_one (pd_cmp (od_eq hr.units) (pd_fld pd_var T.fl_numbers) (pd_fld pd_var T.fl_numbers) (by first | exact nobehind _ (by decide) (by decide) | rfl))))))) pure_Rooms___eq__
theorem sc_Rooms___ne__ : FnScope ["self", "other"] ["self", "other"] (defScope s_Rooms___ne__) := ⟨rfl, rfl, rfl, by decide +kernel, rfl, by decide +kernel, by decide +kernel⟩
theorem ok_Rooms___ne__ (T : Txt K mg cl ad fdt) : FnOk P w K mg base (L2.CX P w) 2 (ad "Rooms___ne__") (fdt "Rooms___ne__") ["self", "other"] (spOf cl 2 (S_Rooms___ne__ L)) :=
  fd_ok T.F_Rooms___ne__ sc_Rooms___ne__ (fb := w_Rooms___ne__ L) (fun cdv A outer s H E hr => (pssd_one (psd_ret (pd_not (pd_cmp (od_eqOwn T.cm_Rooms___eq__ (ok_Rooms___eq__ T) T.b_Rooms___eq__ (hr.mono (by omega))) pd_var pd_var (by first | exact nobehind _ (by decide) (by decide) | rfl)))))) pure_Rooms___ne__
theorem sc_RoomCases___init__ : FnScope ["self", "root"] ["self", "root"] (defScope s_RoomCases___init__) := ⟨rfl, rfl, rfl, by decide +kernel, rfl, by decide +kernel, by decide +kernel⟩
theorem ok_RoomCases___init__ (T : Txt K mg cl ad fdt) : FnOk P w K mg base (L2.CX P w) 6 (ad "RoomCases___init__") (fdt "RoomCases___init__") ["self", "root"] (spOf cl 2 S_RoomCases___init__) :=
  fd_ok T.F_RoomCases___init__ sc_RoomCases___init__ (fb := w_RoomCases___init__ L) (fun cdv A outer s H E hr => (pssd_one (psd_setF pd_var (pd_call (ok_as_tuples T) (hr.mono (by omega)) rfl T.g_as_tuples T.F_as_tuples.kp T.b_as_tuples cx_passes (pad_cons pd_var pad_nil)) T.fl_root))) pure_RoomCases___init__
theorem sc_RoomCases___eq__ : FnScope ["self", "other"] ["self", "other"] (defScope s_RoomCases___eq__) := ⟨rfl, rfl, rfl, by decide +kernel, rfl, by decide +kernel, by decide +kernel⟩
theorem ok_RoomCases___eq__ (T : Txt K mg cl ad fdt) : FnOk P w K mg base (L2.CX P w) 1 (ad "RoomCases___eq__") (fdt "RoomCases___eq__") ["self", "other"] (spOf cl 2 (S_RoomCases___eq__ L)) :=
  fd_ok T.F_RoomCases___eq__ sc_RoomCases___eq__ (fb := w_RoomCases___eq__ L) (fun cdv A outer s H E hr => (pssd_one (psd_ret (pd_and (pd_isi T.is_RoomCases rfl T.z_isinstance rfl T.gc_RoomCases pd_var) (pd_one (pd_cmp (od_eq hr.units) (pd_fld pd_var T.fl_root) (pd_fld pd_var T.fl_root) (by first | exact nobehind _ (by decide) (by decide) | rfl))))))) pure_RoomCases___eq__
theorem sc_RoomCases___ne__ : FnScope ["self", "other"] ["self", "other"] (defScope s_RoomCases___ne__) := ⟨rfl, rfl, rfl, by decide +kernel, rfl, by decide +kernel, by decide +kernel⟩
theorem ok_RoomCases___ne__ (T : Txt K mg cl ad fdt) : FnOk P w K mg base (L2.CX P w) 2 (ad "RoomCases___ne__") (fdt "RoomCases___ne__") ["self", "other"] (spOf cl 2 (S_RoomCases___ne__ L)) :=
  fd_ok T.F_RoomCases___ne__ sc_RoomCases___ne__ (fb := w_RoomCases___ne__ L) (fun cdv A outer s H E hr => (pssd_one (psd_ret (pd_not (pd_cmp (od_eqOwn T.cm_RoomCases___eq__ (ok_RoomCases___eq__ T) T.b_RoomCases___eq__ (hr.mono (by omega))) pd_var pd_var (by first | exact nobehind _ (by decide) (by decide) | rfl)))))) pure_RoomCases___ne__
theorem sc_law_pen : FnScope ["script", "fold", "cell"] ["script"] (defScope s_law_pen) := ⟨rfl, rfl, rfl, by decide +kernel, rfl, by decide +kernel, by decide +kernel⟩
theorem ok_law_pen (T : Txt K mg cl ad fdt) : FnOk P w K mg base (L2.CX P w) 1 (ad "law_pen") (fdt "law_pen") ["script"] (spOf cl 1 (S_law_pen K)) :=
  (fd_ok (S := S0_law_pen K) T.F_law_pen sc_law_pen (fb := w_law_pen L K) (fun cdv A outer s H E hr => (pssd_cons (psd_set sc_law_pen.nd pd_int)
    (pssd_cons (psd_for cx_own rfl (pid_scr pd_var) (pgd_name sc_law_pen.nd)
    (pssd_one (psd_set sc_law_pen.nd (pd_op od_mod (pd_callTy cd_int rfl T.z_int (by decide +kernel) (pad_cons (pd_op od_add (pd_op od_mul pd_var pd_int) pd_var) pad_nil)) pd_int))))
    (pssd_one (psd_ret (pd_disp (ppd_cons (pd_callTy cd_listS rfl T.z_list (by decide +kernel) (pad_cons pd_var pad_nil)) (ppd_cons pd_int (ppd_cons pd_int (ppd_cons pd_int (ppd_cons pd_var ppd_nil))))) (by simp) (by decide))))))) pure_law_pen).imp pen_hide
theorem sc_law_draw : FnScope ["pen", "many", "cell", "digit", "blend"] ["pen", "many"] (defScope s_law_draw) := ⟨rfl, rfl, rfl, by decide +kernel, rfl, by decide +kernel, by decide +kernel⟩
theorem ok_law_draw (T : Txt K mg cl ad fdt) : FnOk P w K mg base (L2.CX P w) 1 (ad "law_draw") (fdt "law_draw") ["pen", "many"] (spOf cl 2 S_law_draw) :=
  (fd_ok (S := S0_law_draw) T.F_law_draw sc_law_draw (fb := w_law_draw L) (fun cdv A outer s H E hr => (pssd_cons (psd_setI (sd_set (hu_of hr)) (pd_op od_add (pd_ix (xd_ix (hu_of hr)) pd_var pd_str) pd_int) pd_var pd_str)
    (pssd_cons (psd_if (ptd_w (pwd_and (ptd_cmp (od_eq hr.units) (pd_ix (xd_ix (hu_of hr)) pd_var pd_str) pd_int (by first | exact nobehind _ (by decide) (by decide) | rfl)) (pwd_and1 (ptd_cmp od_ltI (pd_ix (xd_ix (hu_of hr)) pd_var pd_str) (pd_callB cd_len rfl T.z_len (by decide +kernel) (pad_cons (pd_ix (xd_ix (hu_of hr)) pd_var pd_str) pad_nil)) (by first | exact nobehind _ (by decide) (by decide) | rfl)))))
    (pssd_cons (psd_set sc_law_draw.nd (pd_ix (xd_ix (hu_of hr)) (pd_ix (xd_ix (hu_of hr)) pd_var pd_str) (pd_ix (xd_ix (hu_of hr)) pd_var pd_str)))
    (pssd_cons (psd_setI (sd_set (hu_of hr)) (pd_op od_add (pd_ix (xd_ix (hu_of hr)) pd_var pd_str) pd_int) pd_var pd_str)
    (pssd_one (psd_if (ptd_cmp od_geI pd_var (pd_op od_pow pd_int pd_int) (by first | exact nobehind _ (by decide) (by decide) | rfl))
    (pssd_one (psd_setI (sd_set (hu_of hr)) (pd_op od_sub pd_var (pd_op od_pow pd_int pd_int)) pd_var pd_str)) (pssd_one (psd_setI (sd_set (hu_of hr)) (pd_op od_mod (pd_callTy cd_int rfl T.z_int (by decide +kernel) (pad_cons (pd_op od_add (pd_op od_mul (pd_ix (xd_ix (hu_of hr)) pd_var pd_str) pd_int) pd_var) pad_nil)) pd_int) pd_var pd_str)))))) pssd_nil)
    (pssd_cons (psd_if (ptd_cmp od_gtI (pd_ix (xd_ix (hu_of hr)) pd_var pd_str) pd_int (by first | exact nobehind _ (by decide) (by decide) | rfl))
    (pssd_cons (psd_set sc_law_draw.nd (pd_op od_mod (pd_callTy cd_int rfl T.z_int (by decide +kernel) (pad_cons (pd_ix (xd_ix (hu_of hr)) pd_var pd_str) pad_nil)) pd_var))
    (pssd_cons (psd_setI (sd_set (hu_of hr)) (pd_op od_fdiv (pd_ix (xd_ix (hu_of hr)) pd_var pd_str) pd_var) pd_var pd_str)
    (pssd_one (psd_ret pd_var)))) pssd_nil)
    (pssd_cons (psd_set sc_law_draw.nd (pd_op od_mod (pd_callTy cd_int rfl T.z_int (by decide +kernel) (pad_cons (pd_op od_add (pd_op od_add (pd_op od_mul (pd_ix (xd_ix (hu_of hr)) pd_var pd_str) pd_int) (pd_op od_mul (pd_ix (xd_ix (hu_of hr)) pd_var pd_str) pd_int)) pd_int) pad_nil)) pd_int))
    (pssd_cons (psd_set sc_law_draw.nd (pd_op od_mod (pd_callTy cd_int rfl T.z_int (by decide +kernel) (pad_cons (pd_op od_add (pd_op od_add (pd_op od_mul pd_var pd_var) (pd_op od_mul pd_int pd_var)) (pd_ix (xd_ix (hu_of hr)) pd_var pd_str)) pad_nil)) pd_int))
    (pssd_cons (psd_setI (sd_set (hu_of hr)) (pd_op od_mod (pd_callTy cd_int rfl T.z_int (by decide +kernel) (pad_cons (pd_op od_add (pd_op od_mul pd_var pd_int) pd_int) pad_nil)) pd_int) pd_var pd_str)
    (pssd_one (psd_ret (pd_op od_mod (pd_callTy cd_int rfl T.z_int (by decide +kernel) (pad_cons (pd_op od_fdiv pd_var pd_int) pad_nil)) pd_var)))))))))) pure_law_draw).imp draw_hide
theorem sc_law_pick : FnScope ["pen", "some"] ["pen", "some"] (defScope s_law_pick) := ⟨rfl, rfl, rfl, by decide +kernel, rfl, by decide +kernel, by decide +kernel⟩
theorem ok_law_pick (T : Txt K mg cl ad fdt) : FnOk P w K mg base (L2.CX P w) 2 (ad "law_pick") (fdt "law_pick") ["pen", "some"] (spOf cl 2 S_law_pick) :=
  fd_ok T.F_law_pick sc_law_pick (fb := w_law_pick L) (fun cdv A outer s H E hr => (pssd_one (psd_ret (pd_ix (xd_ix (hu_of hr)) pd_var (pd_call (ok_law_draw T) (hr.mono (by omega)) rfl T.g_law_draw T.F_law_draw.kp T.b_law_draw cx_passes (pad_cons pd_var (pad_cons (pd_callB cd_len rfl T.z_len (by decide +kernel) (pad_cons pd_var pad_nil)) pad_nil))))))) pure_law_pick
theorem sc_law_is : FnScope ["told", "due", "at"] ["told", "due"] (defScope s_law_is) := ⟨rfl, rfl, rfl, by decide +kernel, rfl, by decide +kernel, by decide +kernel⟩
theorem okr_law_is (T : Txt K mg cl ad fdt) : ∀ n, FnOk P w K mg base (L2.CX P w) (1 + n) (ad "law_is") (fdt "law_is") ["told", "due"] (spOf cl 2 (Sr_law_is n))
  | 0 => ⟨fun vs H Q E h => h.1, fun A outer s H args us vs Q E hr he hb hv h => by obtain ⟨_, _, _, _, _, _, _, z, _⟩ := h; exact z.elim⟩
  | n + 1 => by
    have ih := okr_law_is (T : Txt K mg cl ad fdt) n
    exact fd_ok T.F_law_is sc_law_is (fb := w_law_is L (Sr_law_is n)) (fun cdv A outer s H E hr => (pssd_cons (psd_if (ptd_val (pd_isT1 T.it_tuple rfl T.z_isinstance rfl T.z_tuple (by decide +kernel) pd_var))
    (pssd_cons (psd_if (ptd_w (pwd_or (ptd_not (ptd_val (pd_isT1 T.it_tuple rfl T.z_isinstance rfl T.z_tuple (by decide +kernel) pd_var))) (pwd_or1 (ptd_cmp (od_ne hr.units) (pd_callB cd_len rfl T.z_len (by decide +kernel) (pad_cons pd_var pad_nil)) (pd_callB cd_len rfl T.z_len (by decide +kernel) (pad_cons pd_var pad_nil)) (by first | exact nobehind _ (by decide) (by decide) | rfl)))))
    (pssd_one (psd_ret pd_bl)) pssd_nil)
    (pssd_one (psd_ret (pd_cmp (od_eq hr.units) (pd_lc rfl sc_law_is.nd (pid_r1 rfl T.z_range (pad_cons (pd_callB cd_len rfl T.z_len (by decide +kernel) (pad_cons pd_var pad_nil)) pad_nil)) (own := [("at", 2)]) (show blkC ["told", "due", "at"] (defScope s_law_is) _ [("at", 2)] = true from by decide +kernel) (fun _ _ _ _ _ => (pgd_name sc_law_is.nd)) (fun _ _ _ _ _ => (ptsd_one (ptd_not (ptd_val (pd_call ih (hr.mono (Nat.le_refl _)) rfl T.g_law_is T.F_law_is.kp T.b_law_is passL (pad_cons (pd_ix (xd_ix (hu_of hr)) pd_var pd_var) (pad_cons (pd_ix (xd_ix (hu_of hr)) pd_var pd_var) pad_nil))))))) (fun _ _ _ _ _ => pd_var)) (pd_lst pad_nil) (by first | exact nobehind _ (by decide) (by decide) | rfl))))) pssd_nil)
    (pssd_cons (psd_if (ptd_cmp od_isN pd_var pd_non (by first | exact nobehind _ (by decide) (by decide) | rfl))
    (pssd_one (psd_ret (pd_cmp od_isN pd_var pd_non (by first | exact nobehind _ (by decide) (by decide) | rfl)))) pssd_nil)
    (pssd_cons (psd_if (ptd_cmp od_isB pd_var pd_bl (by first | exact nobehind _ (by decide) (by decide) | rfl))
    (pssd_one (psd_ret (pd_cmp od_isB pd_var pd_bl (by first | exact nobehind _ (by decide) (by decide) | rfl)))) pssd_nil)
    (pssd_cons (psd_if (ptd_cmp od_isB pd_var pd_bl (by first | exact nobehind _ (by decide) (by decide) | rfl))
    (pssd_one (psd_ret (pd_cmp od_isB pd_var pd_bl (by first | exact nobehind _ (by decide) (by decide) | rfl)))) pssd_nil)
    (pssd_cons (psd_if (ptd_val (pd_isT1 T.it_str rfl T.z_isinstance rfl T.z_str (by decide +kernel) pd_var))
    (pssd_one (psd_ret (pd_and (pd_isT1 T.it_str rfl T.z_isinstance rfl T.z_str (by decide +kernel) pd_var) (pd_one (pd_cmp (od_eq hr.units) pd_var pd_var (by first | exact nobehind _ (by decide) (by decide) | rfl)))))) pssd_nil)
    (pssd_one (psd_ret (pd_and (pd_isT1 T.it_int rfl T.z_isinstance rfl T.z_int (by decide +kernel) pd_var) (pd_and (pd_not (pd_isT1 T.it_bool rfl T.z_isinstance rfl T.z_bool (by decide +kernel) pd_var)) (pd_one (pd_cmp (od_eq hr.units) pd_var pd_var (by first | exact nobehind _ (by decide) (by decide) | rfl))))))))))))) (pure_law_is n)
theorem ok_law_is (T : Txt K mg cl ad fdt) : FnOk P w K mg base (L2.CX P w) 7 (ad "law_is") (fdt "law_is") ["told", "due"] (spOf cl 2 S_law_is) := okr_law_is T 6
theorem sc_law_drawn_arcs : FnScope ["pen", "period", "many", "found", "at", "stay"] ["pen", "period", "many"] (defScope s_law_drawn_arcs) := ⟨rfl, rfl, rfl, by decide +kernel, rfl, by decide +kernel, by decide +kernel⟩
theorem ok_law_drawn_arcs (T : Txt K mg cl ad fdt) : FnOk P w K mg base (L2.CX P w) 3 (ad "law_drawn_arcs") (fdt "law_drawn_arcs") ["pen", "period", "many"] (spOf cl 3 S_law_drawn_arcs) :=
  fd_ok T.F_law_drawn_arcs sc_law_drawn_arcs (fb := w_law_drawn_arcs L) (fun cdv A outer s H E hr => (pssd_cons (psd_set sc_law_drawn_arcs.nd (pd_lstL pad_nil))
    (pssd_cons (psd_for cx_own rfl (pid_r1 rfl T.z_range (pad_cons pd_var pad_nil)) (pgd_name sc_law_drawn_arcs.nd)
    (pssd_cons (psd_set sc_law_drawn_arcs.nd (pd_callB (cd_min2 rfl) rfl T.z_min (by decide +kernel) (pad_cons (pd_op od_sub pd_var pd_int) (pad_cons (pd_call (ok_law_pick T) (hr.mono (by omega)) rfl T.g_law_pick T.F_law_pick.kp T.b_law_pick cx_passes (pad_cons pd_var (pad_cons (pd_lst (pad_cons pd_int (pad_cons pd_int (pad_cons pd_int (pad_cons pd_int (pad_cons (pd_op od_fdiv pd_var pd_int) (pad_cons (pd_call (ok_law_draw T) (hr.mono (by omega)) rfl T.g_law_draw T.F_law_draw.kp T.b_law_draw cx_passes (pad_cons pd_var (pad_cons pd_var pad_nil))) pad_nil))))))) pad_nil))) pad_nil))))
    (pssd_one (psd_ex (pd_bm F.slot_list_append rfl md_app pd_var (pad_cons (pd_tup (pad_cons (pd_call (ok_law_draw T) (hr.mono (by omega)) rfl T.g_law_draw T.F_law_draw.kp T.b_law_draw cx_passes (pad_cons pd_var (pad_cons pd_var pad_nil))) (pad_cons pd_var pad_nil))) pad_nil))))))
    (pssd_one (psd_ret (pd_callTy cd_tuple rfl T.z_tuple (by decide +kernel) (pad_cons pd_var pad_nil))))))) pure_law_drawn_arcs
theorem sc_law : FnScope ["script", "pen", "lap", "period", "arcs", "handed", "made", "same", "odd", "lot", "arc", "some", "told", "one", "other"] ["script"] (defScope s_law) := ⟨rfl, rfl, rfl, by decide +kernel, rfl, by decide +kernel, by decide +kernel⟩
theorem sc_law_caught : FnScope ["action", "e", "found"] ["action"] (defScope s_law_caught) := ⟨rfl, rfl, rfl, by decide +kernel, rfl, by decide +kernel, by decide +kernel⟩
def sufx : List Stmt := match defBody s_law_caught with
  | .Try _ (.ExceptHandler _ _ b _ :: _) _ _ _ :: _ => b
  | _ => []
theorem suite_ok (T : Txt K mg cl ad fdt) {Z : Cx} (hK : Z.K = K) (hm : Z.mg = mg) (hN : Z.N = (["action", "e", "found"] : List Str)) (hs : Z.env.scope = defScope s_law_caught) (hu : Z.A.units + 64 < cLine) (a : Addr) (oe : Obj) (c : String) (d : Option Addr) (pn : List (Addr × Obj)) (hc : c ∈ errNames) (hz : Zc (.ref (cl c)) d oe) (hf : ∃ vs, oe.data = .fields vs) :
    PSsD cl E0 (Z.suite a ((a, oe) :: pn)) sufx (wSuiteX c d 1 2 a) := by
  obtain ⟨prog, w, K0, mg0, base, A, N0, s0, H0, env, outer, stack, ex, fn, calm, pn0, xe⟩ := Z
  obtain ⟨scope, locals, globals, cells, qual, func, code, frame, builtins⟩ := env
  cases hK; cases hm; cases hN; cases hs
  exact (pssd_cons (psd_set (show List.Nodup (["action", "e", "found"] : List Str) from by decide +kernel) (pd_lstL pad_nil))
    (pssd_cons (psd_if (ptd_val (pd_isX T.exA hc (by decide) hz hf rfl T.z_isinstance rfl T.ge_BadName (fun _ _ _ _ _ => trivial) (pv 1))) (pssd_one (psd_ex (pd_bm F.slot_list_append rfl md_app pd_var (pad_cons (pd_tup (pad_cons pd_str (pad_cons (pd_xf T.exA hc (T.exNa c hc "name" (by decide)) hz hf (pv 1)) pad_nil))) pad_nil)))) pssd_nil)
    (pssd_cons (psd_if (ptd_val (pd_isX T.exA hc (by decide) hz hf rfl T.z_isinstance rfl T.ge_BadNumber (fun _ _ _ _ _ => trivial) (pv 1))) (pssd_one (psd_ex (pd_bm F.slot_list_append rfl md_app pd_var (pad_cons (pd_tup (pad_cons pd_str (pad_cons (pd_xf T.exA hc (T.exNa c hc "what" (by decide)) hz hf (pv 1)) (pad_cons (pd_xf T.exA hc (T.exNa c hc "number" (by decide)) hz hf (pv 1)) pad_nil)))) pad_nil)))) pssd_nil)
    (pssd_cons (psd_if (ptd_val (pd_isX T.exA hc (by decide) hz hf rfl T.z_isinstance rfl T.ge_BadRow (fun _ _ _ _ _ => trivial) (pv 1))) (pssd_one (psd_ex (pd_bm F.slot_list_append rfl md_app pd_var (pad_cons (pd_tup (pad_cons pd_str (pad_cons (pd_xf T.exA hc (T.exNa c hc "what" (by decide)) hz hf (pv 1)) (pad_cons (pd_xf T.exA hc (T.exNa c hc "row" (by decide)) hz hf (pv 1)) pad_nil)))) pad_nil)))) pssd_nil)
    (pssd_cons (psd_if (ptd_val (pd_isX T.exA hc (by decide) hz hf rfl T.z_isinstance rfl T.ge_NoEvent (fun _ _ _ _ _ => trivial) (pv 1))) (pssd_one (psd_ex (pd_bm F.slot_list_append rfl md_app pd_var (pad_cons (pd_tup (pad_cons pd_str (pad_cons (pd_xf T.exA hc (T.exNa c hc "event" (by decide)) hz hf (pv 1)) pad_nil))) pad_nil)))) pssd_nil)
    (pssd_cons (psd_if (ptd_val (pd_isX T.exA hc (by decide) hz hf rfl T.z_isinstance rfl T.ge_NoBond (fun _ _ _ _ _ => trivial) (pv 1))) (pssd_one (psd_ex (pd_bm F.slot_list_append rfl md_app pd_var (pad_cons (pd_tup (pad_cons pd_str (pad_cons (pd_xf T.exA hc (T.exNa c hc "name" (by decide)) hz hf (pv 1)) pad_nil))) pad_nil)))) pssd_nil)
    (pssd_cons (psd_if (ptd_val (pd_isX T.exA hc (by decide) hz hf rfl T.z_isinstance rfl T.ge_NoTimes (fun _ _ _ _ _ => trivial) (pv 1))) (pssd_one (psd_ex (pd_bm F.slot_list_append rfl md_app pd_var (pad_cons (pd_tup (pad_cons pd_str pad_nil)) pad_nil)))) pssd_nil)
    (pssd_cons (psd_if (ptd_val (pd_isX T.exA hc (by decide) hz hf rfl T.z_isinstance rfl T.ge_TakenName (fun _ _ _ _ _ => trivial) (pv 1))) (pssd_one (psd_ex (pd_bm F.slot_list_append rfl md_app pd_var (pad_cons (pd_tup (pad_cons pd_str (pad_cons (pd_xf T.exA hc (T.exNa c hc "name" (by decide)) hz hf (pv 1)) pad_nil))) pad_nil)))) pssd_nil)
    (pssd_cons (psd_if (ptd_val (pd_isX T.exA hc (by decide) hz hf rfl T.z_isinstance rfl T.ge_TooMany (fun _ _ _ _ _ => trivial) (pv 1))) (pssd_one (psd_ex (pd_bm F.slot_list_append rfl md_app pd_var (pad_cons (pd_tup (pad_cons pd_str (pad_cons (pd_xf T.exA hc (T.exNa c hc "what" (by decide)) hz hf (pv 1)) (pad_cons (pd_xf T.exA hc (T.exNa c hc "many" (by decide)) hz hf (pv 1)) (pad_cons (pd_xf T.exA hc (T.exNa c hc "limit" (by decide)) hz hf (pv 1)) pad_nil))))) pad_nil)))) pssd_nil)
    (pssd_cons (psd_if (ptd_val (pd_isX T.exA hc (by decide) hz hf rfl T.z_isinstance rfl T.ge_Unlike (fun _ _ _ _ _ => trivial) (pv 1))) (pssd_one (psd_ex (pd_bm F.slot_list_append rfl md_app pd_var (pad_cons (pd_tup (pad_cons pd_str (pad_cons (pd_xf T.exA hc (T.exNa c hc "what" (by decide)) hz hf (pv 1)) pad_nil))) pad_nil)))) pssd_nil)
    (pssd_cons (psd_if (ptd_val (pd_isX T.exA hc (by decide) hz hf rfl T.z_isinstance rfl T.ge_BadText (fun _ _ _ _ _ => trivial) (pv 1))) (pssd_one (psd_ex (pd_bm F.slot_list_append rfl md_app pd_var (pad_cons (pd_tup (pad_cons pd_str (pad_cons (pd_xf T.exA hc (T.exNa c hc "line" (by decide)) hz hf (pv 1)) (pad_cons (pd_xf T.exA hc (T.exNa c hc "word" (by decide)) hz hf (pv 1)) pad_nil)))) pad_nil)))) pssd_nil)
    (pssd_one (psd_ret (pd_ife (ptd_cmp (od_eq hu) (pd_callB cd_len rfl T.z_len (by decide +kernel) (pad_cons pd_var pad_nil)) pd_int (by first | exact nobehind _ (by decide) (by decide) | rfl)) (pd_ix (xd_ix (Nat.lt_of_le_of_lt (Nat.add_le_add_left (by decide) _) hu)) pd_var pd_int) (pd_tup (pad_cons pd_str pad_nil))))))))))))))))
set_option maxHeartbeats 0 in
theorem ok_law (T : Txt K mg cl ad fdt) {cL pL : Addr} (hc : (fdt "law").code = .ref cL) (TB : TabB base mg cL pL) : FnG P w K mg base 8 (ad "law") (fdt "law") ["script"] (spOf cl 1 (lawSc K [(pL, (PyProof.Rows.envOfC "law" (defScope s_law) 0 0 .none).qual ++ "<lambda>")] 63)) := by
  refine fd_okG T.F_law sc_law (fb := w_law L [(pL, (PyProof.Rows.envOfC "law" (defScope s_law) 0 0 .none).qual ++ "<lambda>")] K) (fun cdv A outer s H E hg hK hr => ?_) (pure_law (tabs_in (by simp)) (by decide) (by decide) (by decide) (by decide) (by decide))
  obtain ⟨_, _, _, _, e⟩ := hK
  rw [hc] at e
  subst e
  have hG : ∀ cdv, GivesTo (cxOf (L2.CX P w) P w K mg base ["script", "pen", "lap", "period", "arcs", "handed", "made", "same", "odd", "lot", "arc", "some", "told", "one", "other"] "law" (defScope s_law) (ad "law") (.ref cL) A outer s H E) ["action", "e", "found"] "_law_caught" (defScope s_law_caught) (ad "law_caught") cdv (defBody s_law_caught) "action" ((PyProof.Rows.envOfC "law" (defScope s_law) 0 0 .none).qual ++ "<lambda>") (TTc cl) := fun cdv =>
    caught_gives rfl rfl T.gc_HourError rfl T.exm (by decide +kernel) fun Z hK hm hN hs hu a oe c d pn hc hz hf => suite_ok T hK hm hN hs (by rw [hu]; have := hr.un; show A.units + 3 + 3 + 64 < cLine; have : A.units + 3 + 16 * 7 + 200 < cLine := hr.un; omega) a oe c d pn hc hz hf
  refine pssd_cons ?_ ?_
  · exact (psd_set sc_law.nd (pd_call (ok_law_pen T) (hr.mono (by omega)) rfl T.g_law_pen T.F_law_pen.kp T.b_law_pen cx_passes (pad_cons pd_var pad_nil)))
  refine pssd_cons ?_ ?_
  · refine psd_for cx_own rfl (pid_r1 rfl T.z_range (pad_cons pd_int pad_nil)) (pgd_name sc_law.nd) ?_
    refine pssd_cons ?_ ?_
    · exact (psd_set sc_law.nd (pd_call (ok_law_pick T) (hr.mono (by omega)) rfl T.g_law_pick T.F_law_pick.kp T.b_law_pick cx_passes (pad_cons pd_var (pad_cons (pd_lst (pad_cons pd_int (pad_cons pd_int (pad_cons pd_int (pad_cons pd_int (pad_cons pd_int pad_nil)))))) pad_nil))))
    refine pssd_cons ?_ ?_
    · exact (psd_set sc_law.nd (pd_call (ok_law_drawn_arcs T) (hr.mono (by omega)) rfl T.g_law_drawn_arcs T.F_law_drawn_arcs.kp T.b_law_drawn_arcs cx_passes (pad_cons pd_var (pad_cons pd_var (pad_cons (pd_call (ok_law_draw T) (hr.mono (by omega)) rfl T.g_law_draw T.F_law_draw.kp T.b_law_draw cx_passes (pad_cons pd_var (pad_cons pd_int pad_nil))) pad_nil)))))
    refine pssd_cons ?_ ?_
    · exact (psd_set sc_law.nd (pd_callTy cd_listL rfl T.z_list (by decide +kernel) (pad_cons pd_var pad_nil)))
    refine pssd_cons ?_ ?_
    · exact (psd_parF rfl sc_law.nd (pad_cons (pd_makeF T.M_Taken (ok_Taken___init__ T) (hr.mono (by omega)) rfl T.gc_Taken T.b_Taken___init__ cx_passes mk_Taken (pad_cons pd_var (pad_cons pd_var pad_nil))) (pad_cons (pd_makeF T.M_Taken (ok_Taken___init__ T) (hr.mono (by omega)) rfl T.gc_Taken T.b_Taken___init__ cx_passes mk_Taken (pad_cons pd_var (pad_cons pd_var pad_nil))) pad_nil)))
    refine pssd_cons ?_ ?_
    · exact (psd_ex (pd_bm F.slot_list_append rfl md_app pd_var (pad_cons pd_non pad_nil)))
    refine pssd_cons ?_ ?_
    · refine psd_if ?_ ?_ ?_
      · exact (ptd_w (pwd_or (ptd_not (ptd_val (pd_call (ok_law_is T) (hr.mono (by omega)) rfl T.g_law_is T.F_law_is.kp T.b_law_is cx_passes (pad_cons (pd_tup (pad_cons (pd_fld pd_var T.fl_period) (pad_cons (pd_fld pd_var T.fl_arcs) pad_nil))) (pad_cons (pd_tup (pad_cons pd_var (pad_cons pd_var pad_nil))) pad_nil))))) (pwd_or (ptd_not (ptd_cmp (od_eqOwn T.cm_Taken___eq__ (ok_Taken___eq__ T) T.b_Taken___eq__ (hr.mono (by omega))) pd_var pd_var (by first | exact nobehind _ (by decide) (by decide) | rfl))) (pwd_or (ptd_cmp (od_neOwn T.cm_Taken___ne__ (ok_Taken___ne__ T) T.b_Taken___ne__ (hr.mono (by omega))) pd_var pd_var (by first | exact nobehind _ (by decide) (by decide) | rfl)) (pwd_or1 (ptd_cmp (od_eqOwn T.cm_Taken___eq__ (ok_Taken___eq__ T) T.b_Taken___eq__ (hr.mono (by omega))) pd_var pd_var (by first | exact nobehind _ (by decide) (by decide) | rfl)))))))
      ·
        refine pssd_one ?_
        · exact (psd_ret pd_bl)
      ·
        exact pssd_nil
    refine pssd_cons ?_ ?_
    · refine psd_if ?_ ?_ ?_
      · exact (ptd_w (pwd_and (ptd_cmp (od_ne hr.units) pd_var (pd_tup pad_nil) (by first | exact nobehind _ (by decide) (by decide) | rfl)) (pwd_and1 (ptd_w (pwd_or (ptd_cmp (od_eqOwn T.cm_Taken___eq__ (ok_Taken___eq__ T) T.b_Taken___eq__ (hr.mono (by omega))) pd_var (pd_makeF T.M_Taken (ok_Taken___init__ T) (hr.mono (by omega)) rfl T.gc_Taken T.b_Taken___init__ cx_passes mk_Taken (pad_cons pd_var (pad_cons (pd_slice pd_var (pod_some pd_int) pod_none) pad_nil))) (by first | exact nobehind _ (by decide) (by decide) | rfl)) (pwd_or1 (ptd_not (ptd_cmp (od_neOwn T.cm_Taken___ne__ (ok_Taken___ne__ T) T.b_Taken___ne__ (hr.mono (by omega))) pd_var (pd_makeF T.M_Taken (ok_Taken___init__ T) (hr.mono (by omega)) rfl T.gc_Taken T.b_Taken___init__ cx_passes mk_Taken (pad_cons pd_var (pad_cons (pd_op od_add pd_var (pd_slice pd_var pod_none (pod_some pd_int))) pad_nil))) (by first | exact nobehind _ (by decide) (by decide) | rfl)))))))))
      ·
        refine pssd_one ?_
        · exact (psd_ret pd_bl)
      ·
        exact pssd_nil
    refine pssd_cons ?_ ?_
    · refine psd_if ?_ ?_ ?_
      · exact (ptd_w (pwd_and (ptd_cmp od_ltI pd_var pd_int (by first | exact nobehind _ (by decide) (by decide) | rfl)) (pwd_and1 (ptd_cmp (od_eqOwn T.cm_Taken___eq__ (ok_Taken___eq__ T) T.b_Taken___eq__ (hr.mono (by omega))) pd_var (pd_makeF T.M_Taken (ok_Taken___init__ T) (hr.mono (by omega)) rfl T.gc_Taken T.b_Taken___init__ cx_passes mk_Taken (pad_cons (pd_op od_add pd_var pd_int) (pad_cons pd_var pad_nil))) (by first | exact nobehind _ (by decide) (by decide) | rfl)))))
      ·
        refine pssd_one ?_
        · exact (psd_ret pd_bl)
      ·
        exact pssd_nil
    refine pssd_cons ?_ ?_
    · exact (psd_asg (pd_tup (pad_cons (pd_call (ok_law_pick T) (hr.mono (by omega)) rfl T.g_law_pick T.F_law_pick.kp T.b_law_pick cx_passes (pad_cons pd_var (pad_cons (pd_lst (pad_cons pd_int (pad_cons pd_int (pad_cons (pd_un od_neg pd_int) (pad_cons pd_int (pad_cons pd_non (pad_cons pd_bl (pad_cons pd_str pad_nil)))))))) pad_nil))) (pad_cons (pd_call (ok_law_pick T) (hr.mono (by omega)) rfl T.g_law_pick T.F_law_pick.kp T.b_law_pick cx_passes (pad_cons pd_var (pad_cons (pd_lst (pad_cons pd_non (pad_cons pd_int (pad_cons pd_str (pad_cons pd_bl pad_nil))))) pad_nil))) pad_nil))) (pgd_tup rfl (pgsd_cons (pgd_name sc_law.nd) (pgsd_cons (pgd_name sc_law.nd) pgsd_nil))))
    refine pssd_cons ?_ ?_
    · exact (psd_set sc_law.nd (pd_lst (pad_cons pd_non (pad_cons pd_int (pad_cons (pd_tup (pad_cons pd_int pad_nil)) (pad_cons (pd_tup (pad_cons pd_int (pad_cons pd_int (pad_cons pd_int pad_nil)))) (pad_cons (pd_tup (pad_cons pd_var (pad_cons pd_int pad_nil))) (pad_cons (pd_tup (pad_cons pd_int (pad_cons pd_var pad_nil))) (pad_cons (pd_tup (pad_cons (pd_un od_neg pd_int) (pad_cons pd_int pad_nil))) (pad_cons (pd_tup (pad_cons pd_int (pad_cons (pd_un od_neg pd_int) pad_nil))) (pad_cons (pd_tup (pad_cons pd_bl (pad_cons pd_int pad_nil))) (pad_cons (pd_tup (pad_cons pd_int (pad_cons pd_non pad_nil))) (pad_cons (pd_lst (pad_cons pd_int (pad_cons pd_int pad_nil))) pad_nil)))))))))))))
    refine pssd_cons ?_ ?_
    · exact (psd_set sc_law.nd (pd_call (ok_law_pick T) (hr.mono (by omega)) rfl T.g_law_pick T.F_law_pick.kp T.b_law_pick cx_passes (pad_cons pd_var (pad_cons pd_var pad_nil))))
    refine pssd_cons ?_ ?_
    · exact (psd_set sc_law.nd (pd_op od_add (pd_op od_add pd_var (pd_tup (pad_cons pd_var pad_nil))) pd_var))
    refine pssd_cons ?_ ?_
    · exact (psd_set sc_law.nd (pd_lstL (pad_cons (pd_caughtF (k := 5) T.F_law_caught T.b_law_caught rfl T.g_law_caught sc_law_caught (Or.inl rfl) hG TB rfl (List.Mem.head _) (fun p hp _ => by cases List.mem_singleton.mp hp; rfl) (hr.mono (by omega)) (L := lamS_by (show lamSB (defScope s_law) _ = true from by decide +kernel)) (fun A outer s H E f c2 hrl => (pd_makeF T.M_Taken (ok_Taken___init__ T) (hrl.mono (by omega)) rfl T.gc_Taken T.b_Taken___init__ lam_passesC mk_Taken (pad_cons pd_var (pad_cons pd_var pad_nil))))) (pad_cons pd_non (pad_cons pd_non pad_nil)))))
    refine pssd_cons ?_ ?_
    · exact (psd_setI (sd_set (hu_of hr)) (pd_caughtF (k := 5) T.F_law_caught T.b_law_caught rfl T.g_law_caught sc_law_caught (Or.inl rfl) hG TB rfl (List.Mem.head _) (fun p hp _ => by cases List.mem_singleton.mp hp; rfl) (hr.mono (by omega)) (L := lamS_by (show lamSB (defScope s_law) _ = true from by decide +kernel)) (fun A outer s H E f c2 hrl => (pd_makeF T.M_Taken (ok_Taken___init__ T) (hrl.mono (by omega)) rfl T.gc_Taken T.b_Taken___init__ lam_passesC mk_Taken (pad_cons pd_var (pad_cons pd_var pad_nil))))) pd_var pd_int)
    refine pssd_cons ?_ ?_
    · exact (psd_setI (sd_set (hu_of hr)) (pd_caughtF (k := 5) T.F_law_caught T.b_law_caught rfl T.g_law_caught sc_law_caught (Or.inl rfl) hG TB rfl (List.Mem.head _) (fun p hp _ => by cases List.mem_singleton.mp hp; rfl) (hr.mono (by omega)) (L := lamS_by (show lamSB (defScope s_law) _ = true from by decide +kernel)) (fun A outer s H E f c2 hrl => (pd_makeF T.M_Taken (ok_Taken___init__ T) (hrl.mono (by omega)) rfl T.gc_Taken T.b_Taken___init__ lam_passesC mk_Taken (pad_cons pd_var (pad_cons pd_var pad_nil))))) pd_var pd_int)
    refine pssd_one ?_
    · refine psd_if ?_ ?_ ?_
      · exact (ptd_cmp od_neS (pd_callB (cd_repr hg (hr).units) rfl T.z_repr (by decide +kernel) (pad_cons pd_var pad_nil)) (pd_callB (cd_repr hg (hr).units) rfl T.z_repr (by decide +kernel) (pad_cons (pd_lst (pad_cons (pd_tup (pad_cons pd_str (pad_cons pd_str (pad_cons pd_var pad_nil)))) (pad_cons (pd_tup (pad_cons pd_str (pad_cons pd_str (pad_cons pd_var pad_nil)))) (pad_cons (pd_tup (pad_cons pd_str (pad_cons pd_str (pad_cons pd_var pad_nil)))) pad_nil)))) pad_nil)) (by first | exact nobehind _ (by decide) (by decide) | rfl))
      ·
        refine pssd_one ?_
        · exact (psd_ret pd_bl)
      ·
        exact pssd_nil
  refine pssd_cons ?_ ?_
  · exact (psd_parF rfl sc_law.nd (pad_cons (pd_makeF T.M_Rooms (ok_Rooms___init__ T) (hr.mono (by omega)) rfl T.gc_Rooms T.b_Rooms___init__ cx_passes mk_Rooms (pad_cons (pd_lst (pad_cons pd_int (pad_cons pd_int pad_nil))) pad_nil)) (pad_cons (pd_makeF T.M_RoomCases (ok_RoomCases___init__ T) (hr.mono (by omega)) rfl T.gc_RoomCases T.b_RoomCases___init__ cx_passes mk_RoomCases (pad_cons (pd_lst (pad_cons pd_str (pad_cons pd_int (pad_cons (pd_lst pad_nil) pad_nil)))) pad_nil)) pad_nil)))
  refine pssd_cons ?_ ?_
  · refine psd_if ?_ ?_ ?_
    · exact (ptd_w (pwd_or (ptd_not (ptd_cmp (od_eqOwn T.cm_Rooms___eq__ (ok_Rooms___eq__ T) T.b_Rooms___eq__ (hr.mono (by omega))) pd_var (pd_makeF T.M_Rooms (ok_Rooms___init__ T) (hr.mono (by omega)) rfl T.gc_Rooms T.b_Rooms___init__ cx_passes mk_Rooms (pad_cons (pd_tup (pad_cons pd_int (pad_cons pd_int pad_nil))) pad_nil)) (by first | exact nobehind _ (by decide) (by decide) | rfl))) (pwd_or (ptd_cmp (od_neOwn T.cm_Rooms___ne__ (ok_Rooms___ne__ T) T.b_Rooms___ne__ (hr.mono (by omega))) pd_var (pd_makeF T.M_Rooms (ok_Rooms___init__ T) (hr.mono (by omega)) rfl T.gc_Rooms T.b_Rooms___init__ cx_passes mk_Rooms (pad_cons (pd_tup (pad_cons pd_int (pad_cons pd_int pad_nil))) pad_nil)) (by first | exact nobehind _ (by decide) (by decide) | rfl)) (pwd_or (ptd_cmp (od_eqOwn T.cm_Rooms___eq__ (ok_Rooms___eq__ T) T.b_Rooms___eq__ (hr.mono (by omega))) pd_var (pd_makeF T.M_Rooms (ok_Rooms___init__ T) (hr.mono (by omega)) rfl T.gc_Rooms T.b_Rooms___init__ cx_passes mk_Rooms (pad_cons (pd_tup (pad_cons pd_int pad_nil)) pad_nil)) (by first | exact nobehind _ (by decide) (by decide) | rfl)) (pwd_or1 (ptd_not (ptd_cmp (od_neOwn T.cm_Rooms___ne__ (ok_Rooms___ne__ T) T.b_Rooms___ne__ (hr.mono (by omega))) pd_var (pd_tup (pad_cons pd_int (pad_cons pd_int pad_nil))) (by first | exact nobehind _ (by decide) (by decide) | rfl))))))))
    ·
      refine pssd_one ?_
      · exact (psd_ret pd_bl)
    ·
      exact pssd_nil
  refine pssd_one ?_
  · exact (psd_ret (pd_and (pd_cmp (od_eqOwn T.cm_RoomCases___eq__ (ok_RoomCases___eq__ T) T.b_RoomCases___eq__ (hr.mono (by omega))) pd_var (pd_makeF T.M_RoomCases (ok_RoomCases___init__ T) (hr.mono (by omega)) rfl T.gc_RoomCases T.b_RoomCases___init__ cx_passes mk_RoomCases (pad_cons (pd_tup (pad_cons pd_str (pad_cons pd_int (pad_cons (pd_tup pad_nil) pad_nil)))) pad_nil)) (by first | exact nobehind _ (by decide) (by decide) | rfl)) (pd_and (pd_cmp (od_neOwn T.cm_RoomCases___ne__ (ok_RoomCases___ne__ T) T.b_RoomCases___ne__ (hr.mono (by omega))) pd_var (pd_makeF T.M_RoomCases (ok_RoomCases___init__ T) (hr.mono (by omega)) rfl T.gc_RoomCases T.b_RoomCases___init__ cx_passes mk_RoomCases (pad_cons (pd_tup (pad_cons pd_str (pad_cons pd_int (pad_cons (pd_tup pad_nil) pad_nil)))) pad_nil)) (by first | exact nobehind _ (by decide) (by decide) | rfl)) (pd_one (pd_not (pd_cmp (od_eqOwn T.cm_RoomCases___eq__ (ok_RoomCases___eq__ T) T.b_RoomCases___eq__ (hr.mono (by omega))) pd_var pd_var (by first | exact nobehind _ (by decide) (by decide) | rfl)))))))

end
theorem all_cons {α : Type} {p : α → Prop} {a : α} {l : List α} (h : p a) (t : ∀ x ∈ l, p x) : ∀ x ∈ a :: l, p x := fun x hx => by
  rcases List.mem_cons.mp hx with rfl | hx
  · exact h
  · exact t x hx
theorem all_nil {α : Type} {p : α → Prop} : ∀ x ∈ ([] : List α), p x := fun x hx => by cases hx
theorem of_all {α : Type} {l : List α} {f : α → Bool} (h : l.all f = true) : ∀ x ∈ l, f x = true := fun x hx => List.all_eq_true.mp h x hx
theorem of_all2 {α β : Type} {l : List α} {m : List β} {f : α → β → Bool} (h : (l.all fun a => m.all fun b => f a b) = true) : ∀ x ∈ l, ∀ y ∈ m, f x y = true := fun x hx y hy => List.all_eq_true.mp (List.all_eq_true.mp h x hx) y hy
set_option maxHeartbeats 0 in
theorem law_mk {P : Program} {w : World} {K : PySem.W.Frag} {h : Heap} {mg : Str → Option Value} {fa : Addr} {qq : Program} (X : K.In h) (G : h.Ns mainGlobals mg) (hfa : mg "law" = some (.ref fa)) (TA : TabsAt qq mg h) (rT : ((PyProof.Rows.recsOf qq).any fun r => r.name == ("law" : Str)) = true)
    {C_Taken C_Rooms C_RoomCases C_HourError C_BadText C_BadName C_BadNumber C_BadRow C_NoEvent C_NoBond C_TakenName C_Unlike C_NoTimes C_TooMany : Addr}
    {A_BadNumber___init__ : Addr} {od_BadNumber___init__ an_BadNumber___init__ : Option Addr} {sl_BadNumber___init__ : Array (Option Value)} {oc_BadNumber___init__ kV_BadNumber___init__ dc_BadNumber___init__ pm_BadNumber___init__ ct_BadNumber___init__ : Value}
    {cd_BadNumber___init__ : Value}
    {A_BadRow___init__ : Addr} {od_BadRow___init__ an_BadRow___init__ : Option Addr} {sl_BadRow___init__ : Array (Option Value)} {oc_BadRow___init__ kV_BadRow___init__ dc_BadRow___init__ pm_BadRow___init__ ct_BadRow___init__ : Value}
    {cd_BadRow___init__ : Value}
    {A_is_whole : Addr} {od_is_whole an_is_whole : Option Addr} {sl_is_whole : Array (Option Value)} {oc_is_whole kV_is_whole dc_is_whole pm_is_whole ct_is_whole : Value}
    {cd_is_whole : Value}
    {A_as_tuples : Addr} {od_as_tuples an_as_tuples : Option Addr} {sl_as_tuples : Array (Option Value)} {oc_as_tuples kV_as_tuples dc_as_tuples pm_as_tuples ct_as_tuples : Value}
    {cd_as_tuples : Value}
    {A_is_index : Addr} {od_is_index an_is_index : Option Addr} {sl_is_index : Array (Option Value)} {oc_is_index kV_is_index dc_is_index pm_is_index ct_is_index : Value}
    {cd_is_index : Value}
    {A_need_period : Addr} {od_need_period an_need_period : Option Addr} {sl_need_period : Array (Option Value)} {oc_need_period kV_need_period dc_need_period pm_need_period ct_need_period : Value}
    {cd_need_period : Value}
    {A_is_arc : Addr} {od_is_arc an_is_arc : Option Addr} {sl_is_arc : Array (Option Value)} {oc_is_arc kV_is_arc dc_is_arc pm_is_arc ct_is_arc : Value}
    {cd_is_arc : Value}
    {A_Taken___init__ : Addr} {od_Taken___init__ an_Taken___init__ : Option Addr} {sl_Taken___init__ : Array (Option Value)} {oc_Taken___init__ kV_Taken___init__ dc_Taken___init__ pm_Taken___init__ ct_Taken___init__ : Value}
    {cd_Taken___init__ : Value}
    {A_Taken___eq__ : Addr} {od_Taken___eq__ an_Taken___eq__ : Option Addr} {sl_Taken___eq__ : Array (Option Value)} {oc_Taken___eq__ kV_Taken___eq__ dc_Taken___eq__ pm_Taken___eq__ ct_Taken___eq__ : Value}
    {cd_Taken___eq__ : Value}
    {A_Taken___ne__ : Addr} {od_Taken___ne__ an_Taken___ne__ : Option Addr} {sl_Taken___ne__ : Array (Option Value)} {oc_Taken___ne__ kV_Taken___ne__ dc_Taken___ne__ pm_Taken___ne__ ct_Taken___ne__ : Value}
    {cd_Taken___ne__ : Value}
    {A_Rooms___init__ : Addr} {od_Rooms___init__ an_Rooms___init__ : Option Addr} {sl_Rooms___init__ : Array (Option Value)} {oc_Rooms___init__ kV_Rooms___init__ dc_Rooms___init__ pm_Rooms___init__ ct_Rooms___init__ : Value}
    {cd_Rooms___init__ : Value}
    {A_Rooms___eq__ : Addr} {od_Rooms___eq__ an_Rooms___eq__ : Option Addr} {sl_Rooms___eq__ : Array (Option Value)} {oc_Rooms___eq__ kV_Rooms___eq__ dc_Rooms___eq__ pm_Rooms___eq__ ct_Rooms___eq__ : Value}
    {cd_Rooms___eq__ : Value}
    {A_Rooms___ne__ : Addr} {od_Rooms___ne__ an_Rooms___ne__ : Option Addr} {sl_Rooms___ne__ : Array (Option Value)} {oc_Rooms___ne__ kV_Rooms___ne__ dc_Rooms___ne__ pm_Rooms___ne__ ct_Rooms___ne__ : Value}
    {cd_Rooms___ne__ : Value}
    {A_RoomCases___init__ : Addr} {od_RoomCases___init__ an_RoomCases___init__ : Option Addr} {sl_RoomCases___init__ : Array (Option Value)} {oc_RoomCases___init__ kV_RoomCases___init__ dc_RoomCases___init__ pm_RoomCases___init__ ct_RoomCases___init__ : Value}
    {cd_RoomCases___init__ : Value}
    {A_RoomCases___eq__ : Addr} {od_RoomCases___eq__ an_RoomCases___eq__ : Option Addr} {sl_RoomCases___eq__ : Array (Option Value)} {oc_RoomCases___eq__ kV_RoomCases___eq__ dc_RoomCases___eq__ pm_RoomCases___eq__ ct_RoomCases___eq__ : Value}
    {cd_RoomCases___eq__ : Value}
    {A_RoomCases___ne__ : Addr} {od_RoomCases___ne__ an_RoomCases___ne__ : Option Addr} {sl_RoomCases___ne__ : Array (Option Value)} {oc_RoomCases___ne__ kV_RoomCases___ne__ dc_RoomCases___ne__ pm_RoomCases___ne__ ct_RoomCases___ne__ : Value}
    {cd_RoomCases___ne__ : Value}
    {A_law_pen : Addr} {od_law_pen an_law_pen : Option Addr} {sl_law_pen : Array (Option Value)} {oc_law_pen kV_law_pen dc_law_pen pm_law_pen ct_law_pen : Value}
    {cd_law_pen : Value}
    {A_law_draw : Addr} {od_law_draw an_law_draw : Option Addr} {sl_law_draw : Array (Option Value)} {oc_law_draw kV_law_draw dc_law_draw pm_law_draw ct_law_draw : Value}
    {cd_law_draw : Value}
    {A_law_pick : Addr} {od_law_pick an_law_pick : Option Addr} {sl_law_pick : Array (Option Value)} {oc_law_pick kV_law_pick dc_law_pick pm_law_pick ct_law_pick : Value}
    {cd_law_pick : Value}
    {A_law_is : Addr} {od_law_is an_law_is : Option Addr} {sl_law_is : Array (Option Value)} {oc_law_is kV_law_is dc_law_is pm_law_is ct_law_is : Value}
    {cd_law_is : Value}
    {A_law_drawn_arcs : Addr} {od_law_drawn_arcs an_law_drawn_arcs : Option Addr} {sl_law_drawn_arcs : Array (Option Value)} {oc_law_drawn_arcs kV_law_drawn_arcs dc_law_drawn_arcs pm_law_drawn_arcs ct_law_drawn_arcs : Value}
    {cd_law_drawn_arcs : Value}
    {A_law : Addr} {od_law an_law : Option Addr} {sl_law : Array (Option Value)} {oc_law kV_law dc_law pm_law ct_law : Value}
    {A_law_caught : Addr} {od_law_caught an_law_caught : Option Addr} {sl_law_caught : Array (Option Value)} {oc_law_caught kV_law_caught dc_law_caught pm_law_caught ct_law_caught : Value}
    {cd_law_caught : Value}
    {cL pL : Addr} {vsT : Array Value} {ecT : Value} {dcT : Option Addr} {slT : Array (Option Value)}
    {nm_BadNumber q_BadNumber : Str} {N_BadNumber : Addr} {bs_BadNumber bm_BadNumber : List Value} {sn_BadNumber : List Str} {sub_BadNumber : List Value} {ab_BadNumber : Bool} {col_BadNumber : Option Bool} {dd_BadNumber : Option Addr} {m0_BadNumber m1_BadNumber m2_BadNumber m3_BadNumber m5_BadNumber : Option Value}
    {nm_BadRow q_BadRow : Str} {N_BadRow : Addr} {bs_BadRow bm_BadRow : List Value} {sn_BadRow : List Str} {sub_BadRow : List Value} {ab_BadRow : Bool} {col_BadRow : Option Bool} {dd_BadRow : Option Addr} {m0_BadRow m1_BadRow m2_BadRow m3_BadRow m5_BadRow : Option Value}
    (a_Taken : PySem.W.nsIn K mainGlobals "Taken" = some (some (.ref C_Taken)))
    (a_Rooms : PySem.W.nsIn K mainGlobals "Rooms" = some (some (.ref C_Rooms)))
    (a_RoomCases : PySem.W.nsIn K mainGlobals "RoomCases" = some (some (.ref C_RoomCases)))
    (a_HourError : PySem.W.nsIn K mainGlobals "HourError" = some (some (.ref C_HourError)))
    (a_BadText : PySem.W.nsIn K mainGlobals "BadText" = some (some (.ref C_BadText)))
    (a_BadName : PySem.W.nsIn K mainGlobals "BadName" = some (some (.ref C_BadName)))
    (a_BadNumber : PySem.W.nsIn K mainGlobals "BadNumber" = some (some (.ref C_BadNumber)))
    (a_BadRow : PySem.W.nsIn K mainGlobals "BadRow" = some (some (.ref C_BadRow)))
    (a_NoEvent : PySem.W.nsIn K mainGlobals "NoEvent" = some (some (.ref C_NoEvent)))
    (a_NoBond : PySem.W.nsIn K mainGlobals "NoBond" = some (some (.ref C_NoBond)))
    (a_TakenName : PySem.W.nsIn K mainGlobals "TakenName" = some (some (.ref C_TakenName)))
    (a_Unlike : PySem.W.nsIn K mainGlobals "Unlike" = some (some (.ref C_Unlike)))
    (a_NoTimes : PySem.W.nsIn K mainGlobals "NoTimes" = some (some (.ref C_NoTimes)))
    (a_TooMany : PySem.W.nsIn K mainGlobals "TooMany" = some (some (.ref C_TooMany)))
    (a_BadNumber___init__ : PySem.W.findIn K (.ref C_BadNumber) "__init__" = some (some (.ref A_BadNumber___init__)))
    (n_BadNumber___init__ : PySem.W.isFn K (.ref A_BadNumber___init__) = true)
    (l_BadNumber___init__ : K.lookup A_BadNumber___init__ = some ⟨oc_BadNumber___init__, od_BadNumber___init__, .func (PySem.W.fnOf "__init__" "BadNumber.__init__" (defArgs s_BadNumber___init__) (defBody s_BadNumber___init__) (defScope s_BadNumber___init__) .none kV_BadNumber___init__ dc_BadNumber___init__ pm_BadNumber___init__ an_BadNumber___init__ cd_BadNumber___init__ ct_BadNumber___init__), sl_BadNumber___init__⟩)
    (c_BadNumber___init__ : PySem.W.codeIn K cd_BadNumber___init__ "BadNumber.__init__" = true)
    (k_BadNumber___init__ : PySem.W.keepIn K (.ref A_BadNumber___init__) = true)
    (t_BadNumber___init__ : PySem.W.typeIn K (.ref A_BadNumber___init__) = some (.type "function"))
    (a_BadRow___init__ : PySem.W.findIn K (.ref C_BadRow) "__init__" = some (some (.ref A_BadRow___init__)))
    (n_BadRow___init__ : PySem.W.isFn K (.ref A_BadRow___init__) = true)
    (l_BadRow___init__ : K.lookup A_BadRow___init__ = some ⟨oc_BadRow___init__, od_BadRow___init__, .func (PySem.W.fnOf "__init__" "BadRow.__init__" (defArgs s_BadRow___init__) (defBody s_BadRow___init__) (defScope s_BadRow___init__) .none kV_BadRow___init__ dc_BadRow___init__ pm_BadRow___init__ an_BadRow___init__ cd_BadRow___init__ ct_BadRow___init__), sl_BadRow___init__⟩)
    (c_BadRow___init__ : PySem.W.codeIn K cd_BadRow___init__ "BadRow.__init__" = true)
    (k_BadRow___init__ : PySem.W.keepIn K (.ref A_BadRow___init__) = true)
    (t_BadRow___init__ : PySem.W.typeIn K (.ref A_BadRow___init__) = some (.type "function"))
    (a_is_whole : PySem.W.nsIn K mainGlobals "is_whole" = some (some (.ref A_is_whole)))
    (l_is_whole : K.lookup A_is_whole = some ⟨oc_is_whole, od_is_whole, .func (PySem.W.fnOf "is_whole" "is_whole" (defArgs s_is_whole) (defBody s_is_whole) (defScope s_is_whole) .none kV_is_whole dc_is_whole pm_is_whole an_is_whole cd_is_whole ct_is_whole), sl_is_whole⟩)
    (c_is_whole : PySem.W.codeIn K cd_is_whole "is_whole" = true)
    (k_is_whole : PySem.W.keepIn K (.ref A_is_whole) = true)
    (a_as_tuples : PySem.W.nsIn K mainGlobals "as_tuples" = some (some (.ref A_as_tuples)))
    (l_as_tuples : K.lookup A_as_tuples = some ⟨oc_as_tuples, od_as_tuples, .func (PySem.W.fnOf "as_tuples" "as_tuples" (defArgs s_as_tuples) (defBody s_as_tuples) (defScope s_as_tuples) .none kV_as_tuples dc_as_tuples pm_as_tuples an_as_tuples cd_as_tuples ct_as_tuples), sl_as_tuples⟩)
    (c_as_tuples : PySem.W.codeIn K cd_as_tuples "as_tuples" = true)
    (k_as_tuples : PySem.W.keepIn K (.ref A_as_tuples) = true)
    (a_is_index : PySem.W.nsIn K mainGlobals "is_index" = some (some (.ref A_is_index)))
    (l_is_index : K.lookup A_is_index = some ⟨oc_is_index, od_is_index, .func (PySem.W.fnOf "is_index" "is_index" (defArgs s_is_index) (defBody s_is_index) (defScope s_is_index) .none kV_is_index dc_is_index pm_is_index an_is_index cd_is_index ct_is_index), sl_is_index⟩)
    (c_is_index : PySem.W.codeIn K cd_is_index "is_index" = true)
    (k_is_index : PySem.W.keepIn K (.ref A_is_index) = true)
    (a_need_period : PySem.W.nsIn K mainGlobals "need_period" = some (some (.ref A_need_period)))
    (l_need_period : K.lookup A_need_period = some ⟨oc_need_period, od_need_period, .func (PySem.W.fnOf "need_period" "need_period" (defArgs s_need_period) (defBody s_need_period) (defScope s_need_period) .none kV_need_period dc_need_period pm_need_period an_need_period cd_need_period ct_need_period), sl_need_period⟩)
    (c_need_period : PySem.W.codeIn K cd_need_period "need_period" = true)
    (k_need_period : PySem.W.keepIn K (.ref A_need_period) = true)
    (a_is_arc : PySem.W.nsIn K mainGlobals "is_arc" = some (some (.ref A_is_arc)))
    (l_is_arc : K.lookup A_is_arc = some ⟨oc_is_arc, od_is_arc, .func (PySem.W.fnOf "is_arc" "is_arc" (defArgs s_is_arc) (defBody s_is_arc) (defScope s_is_arc) .none kV_is_arc dc_is_arc pm_is_arc an_is_arc cd_is_arc ct_is_arc), sl_is_arc⟩)
    (c_is_arc : PySem.W.codeIn K cd_is_arc "is_arc" = true)
    (k_is_arc : PySem.W.keepIn K (.ref A_is_arc) = true)
    (a_Taken___init__ : PySem.W.findIn K (.ref C_Taken) "__init__" = some (some (.ref A_Taken___init__)))
    (n_Taken___init__ : PySem.W.isFn K (.ref A_Taken___init__) = true)
    (l_Taken___init__ : K.lookup A_Taken___init__ = some ⟨oc_Taken___init__, od_Taken___init__, .func (PySem.W.fnOf "__init__" "Taken.__init__" (defArgs s_Taken___init__) (defBody s_Taken___init__) (defScope s_Taken___init__) .none kV_Taken___init__ dc_Taken___init__ pm_Taken___init__ an_Taken___init__ cd_Taken___init__ ct_Taken___init__), sl_Taken___init__⟩)
    (c_Taken___init__ : PySem.W.codeIn K cd_Taken___init__ "Taken.__init__" = true)
    (k_Taken___init__ : PySem.W.keepIn K (.ref A_Taken___init__) = true)
    (a_Taken___eq__ : PySem.W.findIn K (.ref C_Taken) "__eq__" = some (some (.ref A_Taken___eq__)))
    (n_Taken___eq__ : PySem.W.isFn K (.ref A_Taken___eq__) = true)
    (l_Taken___eq__ : K.lookup A_Taken___eq__ = some ⟨oc_Taken___eq__, od_Taken___eq__, .func (PySem.W.fnOf "__eq__" "Taken.__eq__" (defArgs s_Taken___eq__) (defBody s_Taken___eq__) (defScope s_Taken___eq__) .none kV_Taken___eq__ dc_Taken___eq__ pm_Taken___eq__ an_Taken___eq__ cd_Taken___eq__ ct_Taken___eq__), sl_Taken___eq__⟩)
    (c_Taken___eq__ : PySem.W.codeIn K cd_Taken___eq__ "Taken.__eq__" = true)
    (k_Taken___eq__ : PySem.W.keepIn K (.ref A_Taken___eq__) = true)
    (a_Taken___ne__ : PySem.W.findIn K (.ref C_Taken) "__ne__" = some (some (.ref A_Taken___ne__)))
    (n_Taken___ne__ : PySem.W.isFn K (.ref A_Taken___ne__) = true)
    (l_Taken___ne__ : K.lookup A_Taken___ne__ = some ⟨oc_Taken___ne__, od_Taken___ne__, .func (PySem.W.fnOf "__ne__" "Taken.__ne__" (defArgs s_Taken___ne__) (defBody s_Taken___ne__) (defScope s_Taken___ne__) .none kV_Taken___ne__ dc_Taken___ne__ pm_Taken___ne__ an_Taken___ne__ cd_Taken___ne__ ct_Taken___ne__), sl_Taken___ne__⟩)
    (c_Taken___ne__ : PySem.W.codeIn K cd_Taken___ne__ "Taken.__ne__" = true)
    (k_Taken___ne__ : PySem.W.keepIn K (.ref A_Taken___ne__) = true)
    (a_Rooms___init__ : PySem.W.findIn K (.ref C_Rooms) "__init__" = some (some (.ref A_Rooms___init__)))
    (n_Rooms___init__ : PySem.W.isFn K (.ref A_Rooms___init__) = true)
    (l_Rooms___init__ : K.lookup A_Rooms___init__ = some ⟨oc_Rooms___init__, od_Rooms___init__, .func (PySem.W.fnOf "__init__" "Rooms.__init__" (defArgs s_Rooms___init__) (defBody s_Rooms___init__) (defScope s_Rooms___init__) .none kV_Rooms___init__ dc_Rooms___init__ pm_Rooms___init__ an_Rooms___init__ cd_Rooms___init__ ct_Rooms___init__), sl_Rooms___init__⟩)
    (c_Rooms___init__ : PySem.W.codeIn K cd_Rooms___init__ "Rooms.__init__" = true)
    (k_Rooms___init__ : PySem.W.keepIn K (.ref A_Rooms___init__) = true)
    (a_Rooms___eq__ : PySem.W.findIn K (.ref C_Rooms) "__eq__" = some (some (.ref A_Rooms___eq__)))
    (n_Rooms___eq__ : PySem.W.isFn K (.ref A_Rooms___eq__) = true)
    (l_Rooms___eq__ : K.lookup A_Rooms___eq__ = some ⟨oc_Rooms___eq__, od_Rooms___eq__, .func (PySem.W.fnOf "__eq__" "Rooms.__eq__" (defArgs s_Rooms___eq__) (defBody s_Rooms___eq__) (defScope s_Rooms___eq__) .none kV_Rooms___eq__ dc_Rooms___eq__ pm_Rooms___eq__ an_Rooms___eq__ cd_Rooms___eq__ ct_Rooms___eq__), sl_Rooms___eq__⟩)
    (c_Rooms___eq__ : PySem.W.codeIn K cd_Rooms___eq__ "Rooms.__eq__" = true)
    (k_Rooms___eq__ : PySem.W.keepIn K (.ref A_Rooms___eq__) = true)
    (a_Rooms___ne__ : PySem.W.findIn K (.ref C_Rooms) "__ne__" = some (some (.ref A_Rooms___ne__)))
    (n_Rooms___ne__ : PySem.W.isFn K (.ref A_Rooms___ne__) = true)
    (l_Rooms___ne__ : K.lookup A_Rooms___ne__ = some ⟨oc_Rooms___ne__, od_Rooms___ne__, .func (PySem.W.fnOf "__ne__" "Rooms.__ne__" (defArgs s_Rooms___ne__) (defBody s_Rooms___ne__) (defScope s_Rooms___ne__) .none kV_Rooms___ne__ dc_Rooms___ne__ pm_Rooms___ne__ an_Rooms___ne__ cd_Rooms___ne__ ct_Rooms___ne__), sl_Rooms___ne__⟩)
    (c_Rooms___ne__ : PySem.W.codeIn K cd_Rooms___ne__ "Rooms.__ne__" = true)
    (k_Rooms___ne__ : PySem.W.keepIn K (.ref A_Rooms___ne__) = true)
    (a_RoomCases___init__ : PySem.W.findIn K (.ref C_RoomCases) "__init__" = some (some (.ref A_RoomCases___init__)))
    (n_RoomCases___init__ : PySem.W.isFn K (.ref A_RoomCases___init__) = true)
    (l_RoomCases___init__ : K.lookup A_RoomCases___init__ = some ⟨oc_RoomCases___init__, od_RoomCases___init__, .func (PySem.W.fnOf "__init__" "RoomCases.__init__" (defArgs s_RoomCases___init__) (defBody s_RoomCases___init__) (defScope s_RoomCases___init__) .none kV_RoomCases___init__ dc_RoomCases___init__ pm_RoomCases___init__ an_RoomCases___init__ cd_RoomCases___init__ ct_RoomCases___init__), sl_RoomCases___init__⟩)
    (c_RoomCases___init__ : PySem.W.codeIn K cd_RoomCases___init__ "RoomCases.__init__" = true)
    (k_RoomCases___init__ : PySem.W.keepIn K (.ref A_RoomCases___init__) = true)
    (a_RoomCases___eq__ : PySem.W.findIn K (.ref C_RoomCases) "__eq__" = some (some (.ref A_RoomCases___eq__)))
    (n_RoomCases___eq__ : PySem.W.isFn K (.ref A_RoomCases___eq__) = true)
    (l_RoomCases___eq__ : K.lookup A_RoomCases___eq__ = some ⟨oc_RoomCases___eq__, od_RoomCases___eq__, .func (PySem.W.fnOf "__eq__" "RoomCases.__eq__" (defArgs s_RoomCases___eq__) (defBody s_RoomCases___eq__) (defScope s_RoomCases___eq__) .none kV_RoomCases___eq__ dc_RoomCases___eq__ pm_RoomCases___eq__ an_RoomCases___eq__ cd_RoomCases___eq__ ct_RoomCases___eq__), sl_RoomCases___eq__⟩)
    (c_RoomCases___eq__ : PySem.W.codeIn K cd_RoomCases___eq__ "RoomCases.__eq__" = true)
    (k_RoomCases___eq__ : PySem.W.keepIn K (.ref A_RoomCases___eq__) = true)
    (a_RoomCases___ne__ : PySem.W.findIn K (.ref C_RoomCases) "__ne__" = some (some (.ref A_RoomCases___ne__)))
    (n_RoomCases___ne__ : PySem.W.isFn K (.ref A_RoomCases___ne__) = true)
    (l_RoomCases___ne__ : K.lookup A_RoomCases___ne__ = some ⟨oc_RoomCases___ne__, od_RoomCases___ne__, .func (PySem.W.fnOf "__ne__" "RoomCases.__ne__" (defArgs s_RoomCases___ne__) (defBody s_RoomCases___ne__) (defScope s_RoomCases___ne__) .none kV_RoomCases___ne__ dc_RoomCases___ne__ pm_RoomCases___ne__ an_RoomCases___ne__ cd_RoomCases___ne__ ct_RoomCases___ne__), sl_RoomCases___ne__⟩)
    (c_RoomCases___ne__ : PySem.W.codeIn K cd_RoomCases___ne__ "RoomCases.__ne__" = true)
    (k_RoomCases___ne__ : PySem.W.keepIn K (.ref A_RoomCases___ne__) = true)
    (a_law_pen : PySem.W.nsIn K mainGlobals "_law_pen" = some (some (.ref A_law_pen)))
    (l_law_pen : K.lookup A_law_pen = some ⟨oc_law_pen, od_law_pen, .func (PySem.W.fnOf "_law_pen" "_law_pen" (defArgs s_law_pen) (defBody s_law_pen) (defScope s_law_pen) .none kV_law_pen dc_law_pen pm_law_pen an_law_pen cd_law_pen ct_law_pen), sl_law_pen⟩)
    (c_law_pen : PySem.W.codeIn K cd_law_pen "_law_pen" = true)
    (k_law_pen : PySem.W.keepIn K (.ref A_law_pen) = true)
    (a_law_draw : PySem.W.nsIn K mainGlobals "_law_draw" = some (some (.ref A_law_draw)))
    (l_law_draw : K.lookup A_law_draw = some ⟨oc_law_draw, od_law_draw, .func (PySem.W.fnOf "_law_draw" "_law_draw" (defArgs s_law_draw) (defBody s_law_draw) (defScope s_law_draw) .none kV_law_draw dc_law_draw pm_law_draw an_law_draw cd_law_draw ct_law_draw), sl_law_draw⟩)
    (c_law_draw : PySem.W.codeIn K cd_law_draw "_law_draw" = true)
    (k_law_draw : PySem.W.keepIn K (.ref A_law_draw) = true)
    (a_law_pick : PySem.W.nsIn K mainGlobals "_law_pick" = some (some (.ref A_law_pick)))
    (l_law_pick : K.lookup A_law_pick = some ⟨oc_law_pick, od_law_pick, .func (PySem.W.fnOf "_law_pick" "_law_pick" (defArgs s_law_pick) (defBody s_law_pick) (defScope s_law_pick) .none kV_law_pick dc_law_pick pm_law_pick an_law_pick cd_law_pick ct_law_pick), sl_law_pick⟩)
    (c_law_pick : PySem.W.codeIn K cd_law_pick "_law_pick" = true)
    (k_law_pick : PySem.W.keepIn K (.ref A_law_pick) = true)
    (a_law_is : PySem.W.nsIn K mainGlobals "_law_is" = some (some (.ref A_law_is)))
    (l_law_is : K.lookup A_law_is = some ⟨oc_law_is, od_law_is, .func (PySem.W.fnOf "_law_is" "_law_is" (defArgs s_law_is) (defBody s_law_is) (defScope s_law_is) .none kV_law_is dc_law_is pm_law_is an_law_is cd_law_is ct_law_is), sl_law_is⟩)
    (c_law_is : PySem.W.codeIn K cd_law_is "_law_is" = true)
    (k_law_is : PySem.W.keepIn K (.ref A_law_is) = true)
    (a_law_drawn_arcs : PySem.W.nsIn K mainGlobals "_law_drawn_arcs" = some (some (.ref A_law_drawn_arcs)))
    (l_law_drawn_arcs : K.lookup A_law_drawn_arcs = some ⟨oc_law_drawn_arcs, od_law_drawn_arcs, .func (PySem.W.fnOf "_law_drawn_arcs" "_law_drawn_arcs" (defArgs s_law_drawn_arcs) (defBody s_law_drawn_arcs) (defScope s_law_drawn_arcs) .none kV_law_drawn_arcs dc_law_drawn_arcs pm_law_drawn_arcs an_law_drawn_arcs cd_law_drawn_arcs ct_law_drawn_arcs), sl_law_drawn_arcs⟩)
    (c_law_drawn_arcs : PySem.W.codeIn K cd_law_drawn_arcs "_law_drawn_arcs" = true)
    (k_law_drawn_arcs : PySem.W.keepIn K (.ref A_law_drawn_arcs) = true)
    (a_law : PySem.W.nsIn K mainGlobals "law" = some (some (.ref A_law)))
    (l_law : K.lookup A_law = some ⟨oc_law, od_law, .func (PySem.W.fnOf "law" "law" (defArgs s_law) (defBody s_law) (defScope s_law) .none kV_law dc_law pm_law an_law (.ref cL) ct_law), sl_law⟩)
    (c_law : PySem.W.codeIn K (.ref cL) "law" = true)
    (k_law : PySem.W.keepIn K (.ref A_law) = true)
    (a_law_caught : PySem.W.nsIn K mainGlobals "_law_caught" = some (some (.ref A_law_caught)))
    (l_law_caught : K.lookup A_law_caught = some ⟨oc_law_caught, od_law_caught, .func (PySem.W.fnOf "_law_caught" "_law_caught" (defArgs s_law_caught) (defBody s_law_caught) (defScope s_law_caught) .none kV_law_caught dc_law_caught pm_law_caught an_law_caught cd_law_caught ct_law_caught), sl_law_caught⟩)
    (c_law_caught : PySem.W.codeIn K cd_law_caught "_law_caught" = true)
    (k_law_caught : PySem.W.keepIn K (.ref A_law_caught) = true)
    (bz_isinstance : PySem.W.nsIn K mainGlobals "isinstance" = some none)
    (bz_int : PySem.W.nsIn K mainGlobals "int" = some none)
    (bz_bool : PySem.W.nsIn K mainGlobals "bool" = some none)
    (bz_list : PySem.W.nsIn K mainGlobals "list" = some none)
    (bz_tuple : PySem.W.nsIn K mainGlobals "tuple" = some none)
    (bz_len : PySem.W.nsIn K mainGlobals "len" = some none)
    (bz_range : PySem.W.nsIn K mainGlobals "range" = some none)
    (bz_str : PySem.W.nsIn K mainGlobals "str" = some none)
    (bz_min : PySem.W.nsIn K mainGlobals "min" = some none)
    (bz_repr : PySem.W.nsIn K mainGlobals "repr" = some none)
    (gHN : PySem.W.specialIn K (.builtin "object.__class__") "__get__" = some (some (.builtin "getset_descriptor.__get__")))
    (gTK : PySem.W.takesIn K (.builtin "object.__class__") = some true)
    (pg_Taken : PySem.W.plainGet K C_Taken Str.empty = true)
    (hd_Taken : PySem.W.hasDictIn K C_Taken = true)
    (po_Taken : PySem.W.plainOver K C_Taken = true)
    (sa_Taken : PySem.W.findIn K (.ref C_Taken) "__setattr__" = some (some (.builtin "object.__setattr__")))
    (mk_Taken : PySem.W.makesIn K C_Taken = true)
    (kc_Taken : PySem.W.keepIn K (.ref C_Taken) = true)
    (ha_Taken : PySem.W.findIn K (.ref C_Taken) "__class__" = some (some (.builtin "object.__class__")))
    (hm_Taken : PySem.W.mroIn K C_Taken (.type "object") = some true)
    (it_Taken : (btys.all fun T => decide (PySem.W.kitOne K (.type T) (.ref C_Taken) = some false)) = true)
    (ti_Taken : (btys.all fun T => decide (PySem.W.kitOne K (.ref C_Taken) (.type T) = some false)) = true)
    (nb_Taken : (btys.all fun T => PySem.W.notFirst K C_Taken (.type T)) = true)
    (pg_Rooms : PySem.W.plainGet K C_Rooms Str.empty = true)
    (hd_Rooms : PySem.W.hasDictIn K C_Rooms = true)
    (po_Rooms : PySem.W.plainOver K C_Rooms = true)
    (sa_Rooms : PySem.W.findIn K (.ref C_Rooms) "__setattr__" = some (some (.builtin "object.__setattr__")))
    (mk_Rooms : PySem.W.makesIn K C_Rooms = true)
    (kc_Rooms : PySem.W.keepIn K (.ref C_Rooms) = true)
    (ha_Rooms : PySem.W.findIn K (.ref C_Rooms) "__class__" = some (some (.builtin "object.__class__")))
    (hm_Rooms : PySem.W.mroIn K C_Rooms (.type "object") = some true)
    (it_Rooms : (btys.all fun T => decide (PySem.W.kitOne K (.type T) (.ref C_Rooms) = some false)) = true)
    (ti_Rooms : (btys.all fun T => decide (PySem.W.kitOne K (.ref C_Rooms) (.type T) = some false)) = true)
    (nb_Rooms : (btys.all fun T => PySem.W.notFirst K C_Rooms (.type T)) = true)
    (pg_RoomCases : PySem.W.plainGet K C_RoomCases Str.empty = true)
    (hd_RoomCases : PySem.W.hasDictIn K C_RoomCases = true)
    (po_RoomCases : PySem.W.plainOver K C_RoomCases = true)
    (sa_RoomCases : PySem.W.findIn K (.ref C_RoomCases) "__setattr__" = some (some (.builtin "object.__setattr__")))
    (mk_RoomCases : PySem.W.makesIn K C_RoomCases = true)
    (kc_RoomCases : PySem.W.keepIn K (.ref C_RoomCases) = true)
    (ha_RoomCases : PySem.W.findIn K (.ref C_RoomCases) "__class__" = some (some (.builtin "object.__class__")))
    (hm_RoomCases : PySem.W.mroIn K C_RoomCases (.type "object") = some true)
    (it_RoomCases : (btys.all fun T => decide (PySem.W.kitOne K (.type T) (.ref C_RoomCases) = some false)) = true)
    (ti_RoomCases : (btys.all fun T => decide (PySem.W.kitOne K (.ref C_RoomCases) (.type T) = some false)) = true)
    (nb_RoomCases : (btys.all fun T => PySem.W.notFirst K C_RoomCases (.type T)) = true)
    (oo : ((["Taken", "Rooms", "RoomCases"] : List String).all fun c => (["Taken", "Rooms", "RoomCases"] : List String).all fun d => decide (PySem.W.kitOne K (.ref ((fun s : String => ((List.lookup s [("Taken", C_Taken), ("Rooms", C_Rooms), ("RoomCases", C_RoomCases), ("HourError", C_HourError), ("BadText", C_BadText), ("BadName", C_BadName), ("BadNumber", C_BadNumber), ("BadRow", C_BadRow), ("NoEvent", C_NoEvent), ("NoBond", C_NoBond), ("TakenName", C_TakenName), ("Unlike", C_Unlike), ("NoTimes", C_NoTimes), ("TooMany", C_TooMany)]).getD 0)) c)) (.ref ((fun s : String => ((List.lookup s [("Taken", C_Taken), ("Rooms", C_Rooms), ("RoomCases", C_RoomCases), ("HourError", C_HourError), ("BadText", C_BadText), ("BadName", C_BadName), ("BadNumber", C_BadNumber), ("BadRow", C_BadRow), ("NoEvent", C_NoEvent), ("NoBond", C_NoBond), ("TakenName", C_TakenName), ("Unlike", C_Unlike), ("NoTimes", C_NoTimes), ("TooMany", C_TooMany)]).getD 0)) d)) = some (c == d)) && PySem.W.notFirst K ((fun s : String => ((List.lookup s [("Taken", C_Taken), ("Rooms", C_Rooms), ("RoomCases", C_RoomCases), ("HourError", C_HourError), ("BadText", C_BadText), ("BadName", C_BadName), ("BadNumber", C_BadNumber), ("BadRow", C_BadRow), ("NoEvent", C_NoEvent), ("NoBond", C_NoBond), ("TakenName", C_TakenName), ("Unlike", C_Unlike), ("NoTimes", C_NoTimes), ("TooMany", C_TooMany)]).getD 0)) c) (.ref ((fun s : String => ((List.lookup s [("Taken", C_Taken), ("Rooms", C_Rooms), ("RoomCases", C_RoomCases), ("HourError", C_HourError), ("BadText", C_BadText), ("BadName", C_BadName), ("BadNumber", C_BadNumber), ("BadRow", C_BadRow), ("NoEvent", C_NoEvent), ("NoBond", C_NoBond), ("TakenName", C_TakenName), ("Unlike", C_Unlike), ("NoTimes", C_NoTimes), ("TooMany", C_TooMany)]).getD 0)) d))) = true)
    (nf_Taken_period : PySem.W.findIn K (.ref C_Taken) "period" = some none)
    (nf_Taken_arcs : PySem.W.findIn K (.ref C_Taken) "arcs" = some none)
    (nf_Rooms_numbers : PySem.W.findIn K (.ref C_Rooms) "numbers" = some none)
    (nf_RoomCases_root : PySem.W.findIn K (.ref C_RoomCases) "root" = some none)
    (hsp : PySem.W.specialIn K (.ref C_HourError) "__getattribute__" = some (some (.builtin "type.__getattribute__")))
    (hrd : PySem.W.readsIn K C_HourError (.type "type") = true)
    (hfc : PySem.W.findCls K (.ref C_HourError) (.type "type") "__init__" = some (.val (.builtin "ValueError.__init__")))
    (eB : (errNames.all fun c => xfB K ((fun s : String => ((List.lookup s [("Taken", C_Taken), ("Rooms", C_Rooms), ("RoomCases", C_RoomCases), ("HourError", C_HourError), ("BadText", C_BadText), ("BadName", C_BadName), ("BadNumber", C_BadNumber), ("BadRow", C_BadRow), ("NoEvent", C_NoEvent), ("NoBond", C_NoBond), ("TakenName", C_TakenName), ("Unlike", C_Unlike), ("NoTimes", C_NoTimes), ("TooMany", C_TooMany)]).getD 0)) c) && decide (PySem.W.findIn K (.ref ((fun s : String => ((List.lookup s [("Taken", C_Taken), ("Rooms", C_Rooms), ("RoomCases", C_RoomCases), ("HourError", C_HourError), ("BadText", C_BadText), ("BadName", C_BadName), ("BadNumber", C_BadNumber), ("BadRow", C_BadRow), ("NoEvent", C_NoEvent), ("NoBond", C_NoBond), ("TakenName", C_TakenName), ("Unlike", C_Unlike), ("NoTimes", C_NoTimes), ("TooMany", C_TooMany)]).getD 0)) c)) "__class__" = some (some (.builtin "object.__class__"))) && decide (PySem.W.mroIn K ((fun s : String => ((List.lookup s [("Taken", C_Taken), ("Rooms", C_Rooms), ("RoomCases", C_RoomCases), ("HourError", C_HourError), ("BadText", C_BadText), ("BadName", C_BadName), ("BadNumber", C_BadNumber), ("BadRow", C_BadRow), ("NoEvent", C_NoEvent), ("NoBond", C_NoBond), ("TakenName", C_TakenName), ("Unlike", C_Unlike), ("NoTimes", C_NoTimes), ("TooMany", C_TooMany)]).getD 0)) c) (.type "object") = some true)) = true)
    (eK : (errNames.all fun c => errNames.all fun d => decide (PySem.W.kitOne K (.ref ((fun s : String => ((List.lookup s [("Taken", C_Taken), ("Rooms", C_Rooms), ("RoomCases", C_RoomCases), ("HourError", C_HourError), ("BadText", C_BadText), ("BadName", C_BadName), ("BadNumber", C_BadNumber), ("BadRow", C_BadRow), ("NoEvent", C_NoEvent), ("NoBond", C_NoBond), ("TakenName", C_TakenName), ("Unlike", C_Unlike), ("NoTimes", C_NoTimes), ("TooMany", C_TooMany)]).getD 0)) c)) (.ref ((fun s : String => ((List.lookup s [("Taken", C_Taken), ("Rooms", C_Rooms), ("RoomCases", C_RoomCases), ("HourError", C_HourError), ("BadText", C_BadText), ("BadName", C_BadName), ("BadNumber", C_BadNumber), ("BadRow", C_BadRow), ("NoEvent", C_NoEvent), ("NoBond", C_NoBond), ("TakenName", C_TakenName), ("Unlike", C_Unlike), ("NoTimes", C_NoTimes), ("TooMany", C_TooMany)]).getD 0)) d)) = some (c == d))) = true)
    (eN : (errNames.all fun c => errFl.all fun f => decide (PySem.W.findIn K (.ref ((fun s : String => ((List.lookup s [("Taken", C_Taken), ("Rooms", C_Rooms), ("RoomCases", C_RoomCases), ("HourError", C_HourError), ("BadText", C_BadText), ("BadName", C_BadName), ("BadNumber", C_BadNumber), ("BadRow", C_BadRow), ("NoEvent", C_NoEvent), ("NoBond", C_NoBond), ("TakenName", C_TakenName), ("Unlike", C_Unlike), ("NoTimes", C_NoTimes), ("TooMany", C_TooMany)]).getD 0)) c)) (sk f) = some none)) = true)
    (eM : (errNames.all fun c => decide (PySem.W.exmOne K (.ref ((fun s : String => ((List.lookup s [("Taken", C_Taken), ("Rooms", C_Rooms), ("RoomCases", C_RoomCases), ("HourError", C_HourError), ("BadText", C_BadText), ("BadName", C_BadName), ("BadNumber", C_BadNumber), ("BadRow", C_BadRow), ("NoEvent", C_NoEvent), ("NoBond", C_NoBond), ("TakenName", C_TakenName), ("Unlike", C_Unlike), ("NoTimes", C_NoTimes), ("TooMany", C_TooMany)]).getD 0)) c)) (.ref C_HourError) = some true)) = true)
    (xl_BadNumber : K.lookup C_BadNumber = some (excClassObj nm_BadNumber q_BadNumber C_BadNumber N_BadNumber bs_BadNumber bm_BadNumber true sn_BadNumber sub_BadNumber ab_BadNumber col_BadNumber dd_BadNumber m0_BadNumber m1_BadNumber m2_BadNumber m3_BadNumber m5_BadNumber "ValueError.__new__"))
    (xr_BadNumber : PySem.HandSPX.refsVE bm_BadNumber = true)
    (xs_BadNumber : PySem.W.findIn K (.ref C_BadNumber) "__setattr__" = some (some (.builtin "object.__setattr__")))
    (xe_BadNumber : PySem.W.subIn K (.ref C_BadNumber) (.type "BaseException") = some true)
    (xt_BadNumber : PySem.W.typeIn K (.ref C_BadNumber) = some (.type "type"))
    (xk_BadNumber : PySem.W.keepIn K (.ref C_BadNumber) = true)
    (xn_BadNumber_what : PySem.W.findIn K (.ref C_BadNumber) "what" = some none)
    (xn_BadNumber_number : PySem.W.findIn K (.ref C_BadNumber) "number" = some none)
    (xl_BadRow : K.lookup C_BadRow = some (excClassObj nm_BadRow q_BadRow C_BadRow N_BadRow bs_BadRow bm_BadRow true sn_BadRow sub_BadRow ab_BadRow col_BadRow dd_BadRow m0_BadRow m1_BadRow m2_BadRow m3_BadRow m5_BadRow "ValueError.__new__"))
    (xr_BadRow : PySem.HandSPX.refsVE bm_BadRow = true)
    (xs_BadRow : PySem.W.findIn K (.ref C_BadRow) "__setattr__" = some (some (.builtin "object.__setattr__")))
    (xe_BadRow : PySem.W.subIn K (.ref C_BadRow) (.type "BaseException") = some true)
    (xt_BadRow : PySem.W.typeIn K (.ref C_BadRow) = some (.type "type"))
    (xk_BadRow : PySem.W.keepIn K (.ref C_BadRow) = true)
    (xn_BadRow_what : PySem.W.findIn K (.ref C_BadRow) "what" = some none)
    (xn_BadRow_row : PySem.W.findIn K (.ref C_BadRow) "row" = some none)
    (tL : K.lookup cL = some ⟨ecT, dcT, .fields vsT, slT⟩)
    (vT : vsT[11]? = some (.ref pL))
    (nT : K.lookup pL = none) :
    LawG P w K 8 63 "script" mg fa h := by
  have e0 := hfa.symm.trans (PySem.W.mg_of X G a_law)
  have e1 : A_law = fa := by cases e0; rfl
  subst e1
  let cl : String → Addr := (fun s : String => ((List.lookup s [("Taken", C_Taken), ("Rooms", C_Rooms), ("RoomCases", C_RoomCases), ("HourError", C_HourError), ("BadText", C_BadText), ("BadName", C_BadName), ("BadNumber", C_BadNumber), ("BadRow", C_BadRow), ("NoEvent", C_NoEvent), ("NoBond", C_NoBond), ("TakenName", C_TakenName), ("Unlike", C_Unlike), ("NoTimes", C_NoTimes), ("TooMany", C_TooMany)]).getD 0))
  let ad : String → Addr := (fun s : String => ((List.lookup s [("BadNumber___init__", A_BadNumber___init__), ("BadRow___init__", A_BadRow___init__), ("is_whole", A_is_whole), ("as_tuples", A_as_tuples), ("is_index", A_is_index), ("need_period", A_need_period), ("is_arc", A_is_arc), ("Taken___init__", A_Taken___init__), ("Taken___eq__", A_Taken___eq__), ("Taken___ne__", A_Taken___ne__), ("Rooms___init__", A_Rooms___init__), ("Rooms___eq__", A_Rooms___eq__), ("Rooms___ne__", A_Rooms___ne__), ("RoomCases___init__", A_RoomCases___init__), ("RoomCases___eq__", A_RoomCases___eq__), ("RoomCases___ne__", A_RoomCases___ne__), ("law_pen", A_law_pen), ("law_draw", A_law_draw), ("law_pick", A_law_pick), ("law_is", A_law_is), ("law_drawn_arcs", A_law_drawn_arcs), ("law", A_law), ("law_caught", A_law_caught)]).getD 0))
  let fdt : String → FuncData := (fun s : String => ((List.lookup s [("BadNumber___init__", (PySem.W.fnOf "__init__" "BadNumber.__init__" (defArgs s_BadNumber___init__) (defBody s_BadNumber___init__) (defScope s_BadNumber___init__) .none kV_BadNumber___init__ dc_BadNumber___init__ pm_BadNumber___init__ an_BadNumber___init__ cd_BadNumber___init__ ct_BadNumber___init__)), ("BadRow___init__", (PySem.W.fnOf "__init__" "BadRow.__init__" (defArgs s_BadRow___init__) (defBody s_BadRow___init__) (defScope s_BadRow___init__) .none kV_BadRow___init__ dc_BadRow___init__ pm_BadRow___init__ an_BadRow___init__ cd_BadRow___init__ ct_BadRow___init__)), ("is_whole", (PySem.W.fnOf "is_whole" "is_whole" (defArgs s_is_whole) (defBody s_is_whole) (defScope s_is_whole) .none kV_is_whole dc_is_whole pm_is_whole an_is_whole cd_is_whole ct_is_whole)), ("as_tuples", (PySem.W.fnOf "as_tuples" "as_tuples" (defArgs s_as_tuples) (defBody s_as_tuples) (defScope s_as_tuples) .none kV_as_tuples dc_as_tuples pm_as_tuples an_as_tuples cd_as_tuples ct_as_tuples)), ("is_index", (PySem.W.fnOf "is_index" "is_index" (defArgs s_is_index) (defBody s_is_index) (defScope s_is_index) .none kV_is_index dc_is_index pm_is_index an_is_index cd_is_index ct_is_index)), ("need_period", (PySem.W.fnOf "need_period" "need_period" (defArgs s_need_period) (defBody s_need_period) (defScope s_need_period) .none kV_need_period dc_need_period pm_need_period an_need_period cd_need_period ct_need_period)), ("is_arc", (PySem.W.fnOf "is_arc" "is_arc" (defArgs s_is_arc) (defBody s_is_arc) (defScope s_is_arc) .none kV_is_arc dc_is_arc pm_is_arc an_is_arc cd_is_arc ct_is_arc)), ("Taken___init__", (PySem.W.fnOf "__init__" "Taken.__init__" (defArgs s_Taken___init__) (defBody s_Taken___init__) (defScope s_Taken___init__) .none kV_Taken___init__ dc_Taken___init__ pm_Taken___init__ an_Taken___init__ cd_Taken___init__ ct_Taken___init__)), ("Taken___eq__", (PySem.W.fnOf "__eq__" "Taken.__eq__" (defArgs s_Taken___eq__) (defBody s_Taken___eq__) (defScope s_Taken___eq__) .none kV_Taken___eq__ dc_Taken___eq__ pm_Taken___eq__ an_Taken___eq__ cd_Taken___eq__ ct_Taken___eq__)), ("Taken___ne__", (PySem.W.fnOf "__ne__" "Taken.__ne__" (defArgs s_Taken___ne__) (defBody s_Taken___ne__) (defScope s_Taken___ne__) .none kV_Taken___ne__ dc_Taken___ne__ pm_Taken___ne__ an_Taken___ne__ cd_Taken___ne__ ct_Taken___ne__)), ("Rooms___init__", (PySem.W.fnOf "__init__" "Rooms.__init__" (defArgs s_Rooms___init__) (defBody s_Rooms___init__) (defScope s_Rooms___init__) .none kV_Rooms___init__ dc_Rooms___init__ pm_Rooms___init__ an_Rooms___init__ cd_Rooms___init__ ct_Rooms___init__)), ("Rooms___eq__", (PySem.W.fnOf "__eq__" "Rooms.__eq__" (defArgs s_Rooms___eq__) (defBody s_Rooms___eq__) (defScope s_Rooms___eq__) .none kV_Rooms___eq__ dc_Rooms___eq__ pm_Rooms___eq__ an_Rooms___eq__ cd_Rooms___eq__ ct_Rooms___eq__)), ("Rooms___ne__", (PySem.W.fnOf "__ne__" "Rooms.__ne__" (defArgs s_Rooms___ne__) (defBody s_Rooms___ne__) (defScope s_Rooms___ne__) .none kV_Rooms___ne__ dc_Rooms___ne__ pm_Rooms___ne__ an_Rooms___ne__ cd_Rooms___ne__ ct_Rooms___ne__)), ("RoomCases___init__", (PySem.W.fnOf "__init__" "RoomCases.__init__" (defArgs s_RoomCases___init__) (defBody s_RoomCases___init__) (defScope s_RoomCases___init__) .none kV_RoomCases___init__ dc_RoomCases___init__ pm_RoomCases___init__ an_RoomCases___init__ cd_RoomCases___init__ ct_RoomCases___init__)), ("RoomCases___eq__", (PySem.W.fnOf "__eq__" "RoomCases.__eq__" (defArgs s_RoomCases___eq__) (defBody s_RoomCases___eq__) (defScope s_RoomCases___eq__) .none kV_RoomCases___eq__ dc_RoomCases___eq__ pm_RoomCases___eq__ an_RoomCases___eq__ cd_RoomCases___eq__ ct_RoomCases___eq__)), ("RoomCases___ne__", (PySem.W.fnOf "__ne__" "RoomCases.__ne__" (defArgs s_RoomCases___ne__) (defBody s_RoomCases___ne__) (defScope s_RoomCases___ne__) .none kV_RoomCases___ne__ dc_RoomCases___ne__ pm_RoomCases___ne__ an_RoomCases___ne__ cd_RoomCases___ne__ ct_RoomCases___ne__)), ("law_pen", (PySem.W.fnOf "_law_pen" "_law_pen" (defArgs s_law_pen) (defBody s_law_pen) (defScope s_law_pen) .none kV_law_pen dc_law_pen pm_law_pen an_law_pen cd_law_pen ct_law_pen)), ("law_draw", (PySem.W.fnOf "_law_draw" "_law_draw" (defArgs s_law_draw) (defBody s_law_draw) (defScope s_law_draw) .none kV_law_draw dc_law_draw pm_law_draw an_law_draw cd_law_draw ct_law_draw)), ("law_pick", (PySem.W.fnOf "_law_pick" "_law_pick" (defArgs s_law_pick) (defBody s_law_pick) (defScope s_law_pick) .none kV_law_pick dc_law_pick pm_law_pick an_law_pick cd_law_pick ct_law_pick)), ("law_is", (PySem.W.fnOf "_law_is" "_law_is" (defArgs s_law_is) (defBody s_law_is) (defScope s_law_is) .none kV_law_is dc_law_is pm_law_is an_law_is cd_law_is ct_law_is)), ("law_drawn_arcs", (PySem.W.fnOf "_law_drawn_arcs" "_law_drawn_arcs" (defArgs s_law_drawn_arcs) (defBody s_law_drawn_arcs) (defScope s_law_drawn_arcs) .none kV_law_drawn_arcs dc_law_drawn_arcs pm_law_drawn_arcs an_law_drawn_arcs cd_law_drawn_arcs ct_law_drawn_arcs)), ("law", (PySem.W.fnOf "law" "law" (defArgs s_law) (defBody s_law) (defScope s_law) .none kV_law dc_law pm_law an_law (.ref cL) ct_law)), ("law_caught", (PySem.W.fnOf "_law_caught" "_law_caught" (defArgs s_law_caught) (defBody s_law_caught) (defScope s_law_caught) .none kV_law_caught dc_law_caught pm_law_caught an_law_caught cd_law_caught ct_law_caught))]).getD (PySem.W.fnOf "law" "law" (defArgs s_law) (defBody s_law) (defScope s_law) .none kV_law dc_law pm_law an_law (.ref cL) ct_law)))
  have ct_Taken : ClsT K C_Taken := ⟨⟨pg_Taken, hd_Taken, po_Taken, sa_Taken⟩, ha_Taken, gHN, gTK, hm_Taken⟩
  have ct_Rooms : ClsT K C_Rooms := ⟨⟨pg_Rooms, hd_Rooms, po_Rooms, sa_Rooms⟩, ha_Rooms, gHN, gTK, hm_Rooms⟩
  have ct_RoomCases : ClsT K C_RoomCases := ⟨⟨pg_RoomCases, hd_RoomCases, po_RoomCases, sa_RoomCases⟩, ha_RoomCases, gHN, gTK, hm_RoomCases⟩
  have cts : ∀ c ∈ L.ic, ClsT K (cl c) := all_cons ct_Taken (all_cons ct_Rooms (all_cons ct_RoomCases (all_nil)))
  have tis : ∀ c ∈ L.ic, ∀ T ∈ btys, PySem.W.kitOne K (.ref (cl c)) (.type T) = some false := all_cons (fun T hT => of_decide_eq_true (of_all ti_Taken T hT)) (all_cons (fun T hT => of_decide_eq_true (of_all ti_Rooms T hT)) (all_cons (fun T hT => of_decide_eq_true (of_all ti_RoomCases T hT)) (all_nil)))
  have err_fl : ∀ t ∈ errTab, ∀ f ∈ t.2.2, f ∈ errFl := by decide
  have T : Txt K mg cl ad fdt := {
    F_BadNumber___init__ := fun_mk l_BadNumber___init__ c_BadNumber___init__ k_BadNumber___init__
    b_BadNumber___init__ := Fun.binds (st := s_BadNumber___init__) (fun_mk l_BadNumber___init__ c_BadNumber___init__ k_BadNumber___init__) fun _ _ _ _ _ _ us hl => match us, hl with | [_, _, _], _ => rfl
    hb := ⟨hsp, hrd, hfc⟩
    gc_HourError := PySem.W.mg_of X G a_HourError
    F_BadRow___init__ := fun_mk l_BadRow___init__ c_BadRow___init__ k_BadRow___init__
    b_BadRow___init__ := Fun.binds (st := s_BadRow___init__) (fun_mk l_BadRow___init__ c_BadRow___init__ k_BadRow___init__) fun _ _ _ _ _ _ us hl => match us, hl with | [_, _, _], _ => rfl
    F_is_whole := fun_mk l_is_whole c_is_whole k_is_whole
    b_is_whole := Fun.binds (st := s_is_whole) (fun_mk l_is_whole c_is_whole k_is_whole) fun _ _ _ _ _ _ us hl => match us, hl with | [_], _ => rfl
    g_is_whole := PySem.W.mg_of X G a_is_whole
    z_isinstance := PySem.W.mg_none_of X G bz_isinstance
    z_int := PySem.W.mg_none_of X G bz_int
    it_int := ⟨by decide, fun c hc => ⟨cts c hc, all_cons (tis c hc "int" (by decide)) (all_nil)⟩⟩
    z_bool := PySem.W.mg_none_of X G bz_bool
    it_bool := ⟨by decide, fun c hc => ⟨cts c hc, all_cons (tis c hc "bool" (by decide)) (all_nil)⟩⟩
    F_as_tuples := fun_mk l_as_tuples c_as_tuples k_as_tuples
    b_as_tuples := Fun.binds (st := s_as_tuples) (fun_mk l_as_tuples c_as_tuples k_as_tuples) fun _ _ _ _ _ _ us hl => match us, hl with | [_], _ => rfl
    g_as_tuples := PySem.W.mg_of X G a_as_tuples
    z_list := PySem.W.mg_none_of X G bz_list
    z_tuple := PySem.W.mg_none_of X G bz_tuple
    it_list_tuple := ⟨by decide, fun c hc => ⟨cts c hc, all_cons (tis c hc "list" (by decide)) (all_cons (tis c hc "tuple" (by decide)) (all_nil))⟩⟩
    F_is_index := fun_mk l_is_index c_is_index k_is_index
    b_is_index := Fun.binds (st := s_is_index) (fun_mk l_is_index c_is_index k_is_index) fun _ _ _ _ _ _ us hl => match us, hl with | [_, _], _ => rfl
    g_is_index := PySem.W.mg_of X G a_is_index
    F_need_period := fun_mk l_need_period c_need_period k_need_period
    b_need_period := Fun.binds (st := s_need_period) (fun_mk l_need_period c_need_period k_need_period) fun _ _ _ _ _ _ us hl => match us, hl with | [_], _ => rfl
    g_need_period := PySem.W.mg_of X G a_need_period
    er_BadNumber := ⟨⟨⟨_, _, _, _, _, _, _, _, _, _, _, _, _, _, _, xl_BadNumber, xr_BadNumber⟩, xs_BadNumber, xe_BadNumber, xt_BadNumber, xk_BadNumber⟩, all_cons xn_BadNumber_what (all_cons xn_BadNumber_number (all_nil)), PySem.W.mg_of X G a_BadNumber⟩
    ei_BadNumber := a_BadNumber___init__
    et_BadNumber := t_BadNumber___init__
    F_is_arc := fun_mk l_is_arc c_is_arc k_is_arc
    b_is_arc := Fun.binds (st := s_is_arc) (fun_mk l_is_arc c_is_arc k_is_arc) fun _ _ _ _ _ _ us hl => match us, hl with | [_, _], _ => rfl
    g_is_arc := PySem.W.mg_of X G a_is_arc
    it_tuple := ⟨by decide, fun c hc => ⟨cts c hc, all_cons (tis c hc "tuple" (by decide)) (all_nil)⟩⟩
    z_len := PySem.W.mg_none_of X G bz_len
    F_Taken___init__ := fun_mk l_Taken___init__ c_Taken___init__ k_Taken___init__
    b_Taken___init__ := Fun.binds (st := s_Taken___init__) (fun_mk l_Taken___init__ c_Taken___init__ k_Taken___init__) fun _ _ _ _ _ _ us hl => match us, hl with | [_, _, _], _ => rfl
    er_BadRow := ⟨⟨⟨_, _, _, _, _, _, _, _, _, _, _, _, _, _, _, xl_BadRow, xr_BadRow⟩, xs_BadRow, xe_BadRow, xt_BadRow, xk_BadRow⟩, all_cons xn_BadRow_what (all_cons xn_BadRow_row (all_nil)), PySem.W.mg_of X G a_BadRow⟩
    ei_BadRow := a_BadRow___init__
    et_BadRow := t_BadRow___init__
    fl_period := all_cons ⟨ct_Taken.cls, nf_Taken_period⟩ (all_nil)
    fl_arcs := all_cons ⟨ct_Taken.cls, nf_Taken_arcs⟩ (all_nil)
    F_Taken___eq__ := fun_mk l_Taken___eq__ c_Taken___eq__ k_Taken___eq__
    b_Taken___eq__ := Fun.binds (st := s_Taken___eq__) (fun_mk l_Taken___eq__ c_Taken___eq__ k_Taken___eq__) fun _ _ _ _ _ _ us hl => match us, hl with | [_, _], _ => rfl
    gc_Taken := PySem.W.mg_of X G a_Taken
    is_Taken := ⟨fun T hT => of_decide_eq_true (of_all it_Taken T hT), fun c hc => ⟨cts c hc, of_decide_eq_true (Bool.and_eq_true_iff.mp (of_all2 oo c hc "Taken" (by decide))).1⟩⟩
    F_Taken___ne__ := fun_mk l_Taken___ne__ c_Taken___ne__ k_Taken___ne__
    b_Taken___ne__ := Fun.binds (st := s_Taken___ne__) (fun_mk l_Taken___ne__ c_Taken___ne__ k_Taken___ne__) fun _ _ _ _ _ _ us hl => match us, hl with | [_, _], _ => rfl
    cm_Taken___eq__ := ⟨a_Taken___eq__, n_Taken___eq__, of_all nb_Taken, fun c hc => ⟨cts c hc, (Bool.and_eq_true_iff.mp (of_all2 oo "Taken" (by decide) c hc)).2⟩⟩
    F_Rooms___init__ := fun_mk l_Rooms___init__ c_Rooms___init__ k_Rooms___init__
    b_Rooms___init__ := Fun.binds (st := s_Rooms___init__) (fun_mk l_Rooms___init__ c_Rooms___init__ k_Rooms___init__) fun _ _ _ _ _ _ us hl => match us, hl with | [_, _], _ => rfl
    fl_numbers := all_cons ⟨ct_Rooms.cls, nf_Rooms_numbers⟩ (all_nil)
    F_Rooms___eq__ := fun_mk l_Rooms___eq__ c_Rooms___eq__ k_Rooms___eq__
    b_Rooms___eq__ := Fun.binds (st := s_Rooms___eq__) (fun_mk l_Rooms___eq__ c_Rooms___eq__ k_Rooms___eq__) fun _ _ _ _ _ _ us hl => match us, hl with | [_, _], _ => rfl
    gc_Rooms := PySem.W.mg_of X G a_Rooms
    is_Rooms := ⟨fun T hT => of_decide_eq_true (of_all it_Rooms T hT), fun c hc => ⟨cts c hc, of_decide_eq_true (Bool.and_eq_true_iff.mp (of_all2 oo c hc "Rooms" (by decide))).1⟩⟩
    F_Rooms___ne__ := fun_mk l_Rooms___ne__ c_Rooms___ne__ k_Rooms___ne__
    b_Rooms___ne__ := Fun.binds (st := s_Rooms___ne__) (fun_mk l_Rooms___ne__ c_Rooms___ne__ k_Rooms___ne__) fun _ _ _ _ _ _ us hl => match us, hl with | [_, _], _ => rfl
    cm_Rooms___eq__ := ⟨a_Rooms___eq__, n_Rooms___eq__, of_all nb_Rooms, fun c hc => ⟨cts c hc, (Bool.and_eq_true_iff.mp (of_all2 oo "Rooms" (by decide) c hc)).2⟩⟩
    F_RoomCases___init__ := fun_mk l_RoomCases___init__ c_RoomCases___init__ k_RoomCases___init__
    b_RoomCases___init__ := Fun.binds (st := s_RoomCases___init__) (fun_mk l_RoomCases___init__ c_RoomCases___init__ k_RoomCases___init__) fun _ _ _ _ _ _ us hl => match us, hl with | [_, _], _ => rfl
    fl_root := all_cons ⟨ct_RoomCases.cls, nf_RoomCases_root⟩ (all_nil)
    F_RoomCases___eq__ := fun_mk l_RoomCases___eq__ c_RoomCases___eq__ k_RoomCases___eq__
    b_RoomCases___eq__ := Fun.binds (st := s_RoomCases___eq__) (fun_mk l_RoomCases___eq__ c_RoomCases___eq__ k_RoomCases___eq__) fun _ _ _ _ _ _ us hl => match us, hl with | [_, _], _ => rfl
    gc_RoomCases := PySem.W.mg_of X G a_RoomCases
    is_RoomCases := ⟨fun T hT => of_decide_eq_true (of_all it_RoomCases T hT), fun c hc => ⟨cts c hc, of_decide_eq_true (Bool.and_eq_true_iff.mp (of_all2 oo c hc "RoomCases" (by decide))).1⟩⟩
    F_RoomCases___ne__ := fun_mk l_RoomCases___ne__ c_RoomCases___ne__ k_RoomCases___ne__
    b_RoomCases___ne__ := Fun.binds (st := s_RoomCases___ne__) (fun_mk l_RoomCases___ne__ c_RoomCases___ne__ k_RoomCases___ne__) fun _ _ _ _ _ _ us hl => match us, hl with | [_, _], _ => rfl
    cm_RoomCases___eq__ := ⟨a_RoomCases___eq__, n_RoomCases___eq__, of_all nb_RoomCases, fun c hc => ⟨cts c hc, (Bool.and_eq_true_iff.mp (of_all2 oo "RoomCases" (by decide) c hc)).2⟩⟩
    F_law_pen := fun_mk l_law_pen c_law_pen k_law_pen
    b_law_pen := Fun.binds (st := s_law_pen) (fun_mk l_law_pen c_law_pen k_law_pen) fun _ _ _ _ _ _ us hl => match us, hl with | [_], _ => rfl
    g_law_pen := PySem.W.mg_of X G a_law_pen
    F_law_draw := fun_mk l_law_draw c_law_draw k_law_draw
    b_law_draw := Fun.binds (st := s_law_draw) (fun_mk l_law_draw c_law_draw k_law_draw) fun _ _ _ _ _ _ us hl => match us, hl with | [_, _], _ => rfl
    g_law_draw := PySem.W.mg_of X G a_law_draw
    F_law_pick := fun_mk l_law_pick c_law_pick k_law_pick
    b_law_pick := Fun.binds (st := s_law_pick) (fun_mk l_law_pick c_law_pick k_law_pick) fun _ _ _ _ _ _ us hl => match us, hl with | [_, _], _ => rfl
    g_law_pick := PySem.W.mg_of X G a_law_pick
    F_law_is := fun_mk l_law_is c_law_is k_law_is
    b_law_is := Fun.binds (st := s_law_is) (fun_mk l_law_is c_law_is k_law_is) fun _ _ _ _ _ _ us hl => match us, hl with | [_, _], _ => rfl
    g_law_is := PySem.W.mg_of X G a_law_is
    z_range := PySem.W.mg_none_of X G bz_range
    z_str := PySem.W.mg_none_of X G bz_str
    it_str := ⟨by decide, fun c hc => ⟨cts c hc, all_cons (tis c hc "str" (by decide)) (all_nil)⟩⟩
    F_law_drawn_arcs := fun_mk l_law_drawn_arcs c_law_drawn_arcs k_law_drawn_arcs
    b_law_drawn_arcs := Fun.binds (st := s_law_drawn_arcs) (fun_mk l_law_drawn_arcs c_law_drawn_arcs k_law_drawn_arcs) fun _ _ _ _ _ _ us hl => match us, hl with | [_, _, _], _ => rfl
    g_law_drawn_arcs := PySem.W.mg_of X G a_law_drawn_arcs
    z_min := PySem.W.mg_none_of X G bz_min
    F_law := fun_mk l_law c_law k_law
    b_law := Fun.binds (st := s_law) (fun_mk l_law c_law k_law) fun _ _ _ _ _ _ us hl => match us, hl with | [_], _ => rfl
    g_law := PySem.W.mg_of X G a_law
    M_Taken := ⟨mk_Taken, a_Taken___init__, n_Taken___init__, kc_Taken⟩
    cm_Taken___ne__ := ⟨a_Taken___ne__, n_Taken___ne__, of_all nb_Taken, fun c hc => ⟨cts c hc, (Bool.and_eq_true_iff.mp (of_all2 oo "Taken" (by decide) c hc)).2⟩⟩
    F_law_caught := fun_mk l_law_caught c_law_caught k_law_caught
    b_law_caught := Fun.binds (st := s_law_caught) (fun_mk l_law_caught c_law_caught k_law_caught) fun _ _ _ _ _ _ us hl => match us, hl with | [_], _ => rfl
    g_law_caught := PySem.W.mg_of X G a_law_caught
    z_repr := PySem.W.mg_none_of X G bz_repr
    M_Rooms := ⟨mk_Rooms, a_Rooms___init__, n_Rooms___init__, kc_Rooms⟩
    M_RoomCases := ⟨mk_RoomCases, a_RoomCases___init__, n_RoomCases___init__, kc_RoomCases⟩
    cm_Rooms___ne__ := ⟨a_Rooms___ne__, n_Rooms___ne__, of_all nb_Rooms, fun c hc => ⟨cts c hc, (Bool.and_eq_true_iff.mp (of_all2 oo "Rooms" (by decide) c hc)).2⟩⟩
    cm_RoomCases___ne__ := ⟨a_RoomCases___ne__, n_RoomCases___ne__, of_all nb_RoomCases, fun c hc => ⟨cts c hc, (Bool.and_eq_true_iff.mp (of_all2 oo "RoomCases" (by decide) c hc)).2⟩⟩
    exA := ⟨fun c hc => by
        obtain ⟨h1, h3⟩ := Bool.and_eq_true_iff.mp (of_all eB c hc)
        obtain ⟨h1, h2⟩ := Bool.and_eq_true_iff.mp h1
        have x := xfB_ok h1
        exact ⟨x.ga, x.gg, x.exC, x.hdC, of_decide_eq_true h2, gHN, gTK, of_decide_eq_true h3⟩, fun c hc d hd => of_decide_eq_true (of_all2 eK c hc d hd), fun c hc => xfB_ok (Bool.and_eq_true_iff.mp (Bool.and_eq_true_iff.mp (of_all eB c hc)).1).1, fun c hc t ht _ f hf => of_decide_eq_true (of_all2 eN c hc f (err_fl t ht f hf))⟩
    exNa := fun c hc f hf => of_decide_eq_true (of_all2 eN c hc f hf)
    exm := fun c hc => of_decide_eq_true (of_all eM c hc)
    ge_BadText := PySem.W.mg_of X G a_BadText
    ge_BadName := PySem.W.mg_of X G a_BadName
    ge_BadNumber := PySem.W.mg_of X G a_BadNumber
    ge_BadRow := PySem.W.mg_of X G a_BadRow
    ge_NoEvent := PySem.W.mg_of X G a_NoEvent
    ge_NoBond := PySem.W.mg_of X G a_NoBond
    ge_TakenName := PySem.W.mg_of X G a_TakenName
    ge_Unlike := PySem.W.mg_of X G a_Unlike
    ge_NoTimes := PySem.W.mg_of X G a_NoTimes
    ge_TooMany := PySem.W.mg_of X G a_TooMany
  }
  obtain ⟨hP, hC⟩ := tab_at TA X rT (PySem.W.mg_of X G a_law) l_law rfl tL vT
  refine ⟨cl, fdt "law", [(cL, pL, (PyProof.Rows.envOfC "law" (defScope s_law) 0 0 .none).qual ++ "<lambda>")], all_cons hP all_nil, all_cons nT all_nil, all_cons hC all_nil, fun s v => .of_eq rfl, fun base _ _ TB => ?_⟩
  exact ok_law T rfl (TB _ (List.Mem.head _))
end LF.K57
open PySem PySem.W PyProof.Rows in
set_option maxRecDepth 100000 in
set_option maxHeartbeats 0 in
theorem PySem.Challenge.cw_everyhour_k57_taken_made_and_refused_holds : PySem.Challenge.rw_everyhour_k57_taken_made_and_refused.Holds := by
  w_on; o_law; k_head; (case hw => w_witness2)
  k_fill
  refine LF.walk_G (n := 63) (k := 8) (x := "script") rfl (by decide) rfl ⟨rfl, by decide, by decide⟩ (fun w h Y => PySem.W.km_in_of Y) ?F
  case F =>
    intro w mg fa h KX G hmg TA
    refine' LF.K57.law_mk KX G hmg TA (by kernel_rfl) ?a_Taken ?a_Rooms ?a_RoomCases ?a_HourError ?a_BadText ?a_BadName ?a_BadNumber ?a_BadRow ?a_NoEvent ?a_NoBond ?a_TakenName ?a_Unlike ?a_NoTimes ?a_TooMany ?a_BadNumber___init__ ?n_BadNumber___init__ ?l_BadNumber___init__ ?c_BadNumber___init__ ?k_BadNumber___init__ ?t_BadNumber___init__ ?a_BadRow___init__ ?n_BadRow___init__ ?l_BadRow___init__ ?c_BadRow___init__ ?k_BadRow___init__ ?t_BadRow___init__ ?a_is_whole ?l_is_whole ?c_is_whole ?k_is_whole ?a_as_tuples ?l_as_tuples ?c_as_tuples ?k_as_tuples ?a_is_index ?l_is_index ?c_is_index ?k_is_index ?a_need_period ?l_need_period ?c_need_period ?k_need_period ?a_is_arc ?l_is_arc ?c_is_arc ?k_is_arc ?a_Taken___init__ ?n_Taken___init__ ?l_Taken___init__ ?c_Taken___init__ ?k_Taken___init__ ?a_Taken___eq__ ?n_Taken___eq__ ?l_Taken___eq__ ?c_Taken___eq__ ?k_Taken___eq__ ?a_Taken___ne__ ?n_Taken___ne__ ?l_Taken___ne__ ?c_Taken___ne__ ?k_Taken___ne__ ?a_Rooms___init__ ?n_Rooms___init__ ?l_Rooms___init__ ?c_Rooms___init__ ?k_Rooms___init__ ?a_Rooms___eq__ ?n_Rooms___eq__ ?l_Rooms___eq__ ?c_Rooms___eq__ ?k_Rooms___eq__ ?a_Rooms___ne__ ?n_Rooms___ne__ ?l_Rooms___ne__ ?c_Rooms___ne__ ?k_Rooms___ne__ ?a_RoomCases___init__ ?n_RoomCases___init__ ?l_RoomCases___init__ ?c_RoomCases___init__ ?k_RoomCases___init__ ?a_RoomCases___eq__ ?n_RoomCases___eq__ ?l_RoomCases___eq__ ?c_RoomCases___eq__ ?k_RoomCases___eq__ ?a_RoomCases___ne__ ?n_RoomCases___ne__ ?l_RoomCases___ne__ ?c_RoomCases___ne__ ?k_RoomCases___ne__ ?a_law_pen ?l_law_pen ?c_law_pen ?k_law_pen ?a_law_draw ?l_law_draw ?c_law_draw ?k_law_draw ?a_law_pick ?l_law_pick ?c_law_pick ?k_law_pick ?a_law_is ?l_law_is ?c_law_is ?k_law_is ?a_law_drawn_arcs ?l_law_drawn_arcs ?c_law_drawn_arcs ?k_law_drawn_arcs ?a_law ?l_law ?c_law ?k_law ?a_law_caught ?l_law_caught ?c_law_caught ?k_law_caught ?bz_isinstance ?bz_int ?bz_bool ?bz_list ?bz_tuple ?bz_len ?bz_range ?bz_str ?bz_min ?bz_repr ?gHN ?gTK ?pg_Taken ?hd_Taken ?po_Taken ?sa_Taken ?mk_Taken ?kc_Taken ?ha_Taken ?hm_Taken ?it_Taken ?ti_Taken ?nb_Taken ?pg_Rooms ?hd_Rooms ?po_Rooms ?sa_Rooms ?mk_Rooms ?kc_Rooms ?ha_Rooms ?hm_Rooms ?it_Rooms ?ti_Rooms ?nb_Rooms ?pg_RoomCases ?hd_RoomCases ?po_RoomCases ?sa_RoomCases ?mk_RoomCases ?kc_RoomCases ?ha_RoomCases ?hm_RoomCases ?it_RoomCases ?ti_RoomCases ?nb_RoomCases ?oo ?nf_Taken_period ?nf_Taken_arcs ?nf_Rooms_numbers ?nf_RoomCases_root ?hsp ?hrd ?hfc ?eB ?eK ?eN ?eM ?xl_BadNumber ?xr_BadNumber ?xs_BadNumber ?xe_BadNumber ?xt_BadNumber ?xk_BadNumber ?xn_BadNumber_what ?xn_BadNumber_number ?xl_BadRow ?xr_BadRow ?xs_BadRow ?xe_BadRow ?xt_BadRow ?xk_BadRow ?xn_BadRow_what ?xn_BadRow_row ?tL ?vT ?nT
    (case a_Taken => k_is)
    (case a_Rooms => k_is)
    (case a_RoomCases => k_is)
    (case a_HourError => k_is)
    (case a_BadText => k_is)
    (case a_BadName => k_is)
    (case a_BadNumber => k_is)
    (case a_BadRow => k_is)
    (case a_NoEvent => k_is)
    (case a_NoBond => k_is)
    (case a_TakenName => k_is)
    (case a_Unlike => k_is)
    (case a_NoTimes => k_is)
    (case a_TooMany => k_is)
    (case a_BadNumber___init__ => k_is)
    (case n_BadNumber___init__ => k_is)
    (case l_BadNumber___init__ => k_is)
    (case c_BadNumber___init__ => k_is)
    (case k_BadNumber___init__ => k_is)
    (case t_BadNumber___init__ => k_is)
    (case a_BadRow___init__ => k_is)
    (case n_BadRow___init__ => k_is)
    (case l_BadRow___init__ => k_is)
    (case c_BadRow___init__ => k_is)
    (case k_BadRow___init__ => k_is)
    (case t_BadRow___init__ => k_is)
    (case a_is_whole => k_is)
    (case l_is_whole => k_is)
    (case c_is_whole => k_is)
    (case k_is_whole => k_is)
    (case a_as_tuples => k_is)
    (case l_as_tuples => k_is)
    (case c_as_tuples => k_is)
    (case k_as_tuples => k_is)
    (case a_is_index => k_is)
    (case l_is_index => k_is)
    (case c_is_index => k_is)
    (case k_is_index => k_is)
    (case a_need_period => k_is)
    (case l_need_period => k_is)
    (case c_need_period => k_is)
    (case k_need_period => k_is)
    (case a_is_arc => k_is)
    (case l_is_arc => k_is)
    (case c_is_arc => k_is)
    (case k_is_arc => k_is)
    (case a_Taken___init__ => k_is)
    (case n_Taken___init__ => k_is)
    (case l_Taken___init__ => k_is)
    (case c_Taken___init__ => k_is)
    (case k_Taken___init__ => k_is)
    (case a_Taken___eq__ => k_is)
    (case n_Taken___eq__ => k_is)
    (case l_Taken___eq__ => k_is)
    (case c_Taken___eq__ => k_is)
    (case k_Taken___eq__ => k_is)
    (case a_Taken___ne__ => k_is)
    (case n_Taken___ne__ => k_is)
    (case l_Taken___ne__ => k_is)
    (case c_Taken___ne__ => k_is)
    (case k_Taken___ne__ => k_is)
    (case a_Rooms___init__ => k_is)
    (case n_Rooms___init__ => k_is)
    (case l_Rooms___init__ => k_is)
    (case c_Rooms___init__ => k_is)
    (case k_Rooms___init__ => k_is)
    (case a_Rooms___eq__ => k_is)
    (case n_Rooms___eq__ => k_is)
    (case l_Rooms___eq__ => k_is)
    (case c_Rooms___eq__ => k_is)
    (case k_Rooms___eq__ => k_is)
    (case a_Rooms___ne__ => k_is)
    (case n_Rooms___ne__ => k_is)
    (case l_Rooms___ne__ => k_is)
    (case c_Rooms___ne__ => k_is)
    (case k_Rooms___ne__ => k_is)
    (case a_RoomCases___init__ => k_is)
    (case n_RoomCases___init__ => k_is)
    (case l_RoomCases___init__ => k_is)
    (case c_RoomCases___init__ => k_is)
    (case k_RoomCases___init__ => k_is)
    (case a_RoomCases___eq__ => k_is)
    (case n_RoomCases___eq__ => k_is)
    (case l_RoomCases___eq__ => k_is)
    (case c_RoomCases___eq__ => k_is)
    (case k_RoomCases___eq__ => k_is)
    (case a_RoomCases___ne__ => k_is)
    (case n_RoomCases___ne__ => k_is)
    (case l_RoomCases___ne__ => k_is)
    (case c_RoomCases___ne__ => k_is)
    (case k_RoomCases___ne__ => k_is)
    (case a_law_pen => k_is)
    (case l_law_pen => k_is)
    (case c_law_pen => k_is)
    (case k_law_pen => k_is)
    (case a_law_draw => k_is)
    (case l_law_draw => k_is)
    (case c_law_draw => k_is)
    (case k_law_draw => k_is)
    (case a_law_pick => k_is)
    (case l_law_pick => k_is)
    (case c_law_pick => k_is)
    (case k_law_pick => k_is)
    (case a_law_is => k_is)
    (case l_law_is => k_is)
    (case c_law_is => k_is)
    (case k_law_is => k_is)
    (case a_law_drawn_arcs => k_is)
    (case l_law_drawn_arcs => k_is)
    (case c_law_drawn_arcs => k_is)
    (case k_law_drawn_arcs => k_is)
    (case a_law => k_is)
    (case l_law => k_is)
    (case c_law => k_is)
    (case k_law => k_is)
    (case a_law_caught => k_is)
    (case l_law_caught => k_is)
    (case c_law_caught => k_is)
    (case k_law_caught => k_is)
    (case bz_isinstance => k_is)
    (case bz_int => k_is)
    (case bz_bool => k_is)
    (case bz_list => k_is)
    (case bz_tuple => k_is)
    (case bz_len => k_is)
    (case bz_range => k_is)
    (case bz_str => k_is)
    (case bz_min => k_is)
    (case bz_repr => k_is)
    (case gHN => k_is)
    (case gTK => k_is)
    (case pg_Taken => k_is)
    (case hd_Taken => k_is)
    (case po_Taken => k_is)
    (case sa_Taken => k_is)
    (case mk_Taken => k_is)
    (case kc_Taken => k_is)
    (case ha_Taken => k_is)
    (case hm_Taken => k_is)
    (case it_Taken => kernel_rfl)
    (case ti_Taken => kernel_rfl)
    (case nb_Taken => kernel_rfl)
    (case pg_Rooms => k_is)
    (case hd_Rooms => k_is)
    (case po_Rooms => k_is)
    (case sa_Rooms => k_is)
    (case mk_Rooms => k_is)
    (case kc_Rooms => k_is)
    (case ha_Rooms => k_is)
    (case hm_Rooms => k_is)
    (case it_Rooms => kernel_rfl)
    (case ti_Rooms => kernel_rfl)
    (case nb_Rooms => kernel_rfl)
    (case pg_RoomCases => k_is)
    (case hd_RoomCases => k_is)
    (case po_RoomCases => k_is)
    (case sa_RoomCases => k_is)
    (case mk_RoomCases => k_is)
    (case kc_RoomCases => k_is)
    (case ha_RoomCases => k_is)
    (case hm_RoomCases => k_is)
    (case it_RoomCases => kernel_rfl)
    (case ti_RoomCases => kernel_rfl)
    (case nb_RoomCases => kernel_rfl)
    (case oo => kernel_rfl)
    (case nf_Taken_period => k_is)
    (case nf_Taken_arcs => k_is)
    (case nf_Rooms_numbers => k_is)
    (case nf_RoomCases_root => k_is)
    (case hsp => k_is)
    (case hrd => k_is)
    (case hfc => k_is)
    (case eB => kernel_rfl)
    (case eK => kernel_rfl)
    (case eN => kernel_rfl)
    (case eM => kernel_rfl)
    (case xl_BadNumber => k_is)
    (case xr_BadNumber => kernel_rfl)
    (case xs_BadNumber => k_is)
    (case xe_BadNumber => k_is)
    (case xt_BadNumber => k_is)
    (case xk_BadNumber => k_is)
    (case xn_BadNumber_what => k_is)
    (case xn_BadNumber_number => k_is)
    (case xl_BadRow => k_is)
    (case xr_BadRow => kernel_rfl)
    (case xs_BadRow => k_is)
    (case xe_BadRow => k_is)
    (case xt_BadRow => k_is)
    (case xk_BadRow => k_is)
    (case xn_BadRow_what => k_is)
    (case xn_BadRow_row => k_is)
    (case tL => k_is)
    (case vT => rfl)
    (case nT => kernel_rfl)

