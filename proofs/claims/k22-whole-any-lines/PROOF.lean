import PyProof.Rows.All
import Wide.All
import OpenK.AllK
import Wide.FinOn
import HandS.ForMost
import HandS.ForExc
import HandS.Deep
import KE.SortData
import PySem.Challenge.RW_quiltward_k22_whole_any_lines_are_read_o
import KE.IntTextText
import HandS.ExcInit
import HandS.ExcField
import HandS.ExcIs
import HandS.More
import HandS.TupMul
import HandS.IsInst
import KE.KExcIs
import PyProof.P3Eq
import OpenRun
set_option Elab.async false
set_option linter.all false
set_option maxRecDepth 100000
set_option maxHeartbeats 4000000
/-! The data layer: what the heap holds, seen as plain data; expressions by what they evaluate to. -/
namespace QL
open PySem PySem.Spec PyProof.Rows L2

/-! ### data on the heap -/
mutual
inductive Dq (H : Hp) : V → PyData → Prop
  | non : Dq H .non .none
  | bl (b : Bool) : Dq H (.bl b) (.bool b)
  | int (i : Int) : Dq H (.int i) (.int i)
  | str (x : Str) : Dq H (.str x) (.str x)
  | lst {a : Addr} {xs : List V} {ds : List PyData} : H a = some (.lst xs) → DqAll H xs ds → Dq H (.ref a) (.list ds)
  | tup {a : Addr} {xs : List V} {ds : List PyData} : H a = some (.tup xs) → DqAll H xs ds → Dq H (.ref a) (.tuple ds)
inductive DqAll (H : Hp) : List V → List PyData → Prop
  | nil : DqAll H [] []
  | cons {v : V} {vs : List V} {d : PyData} {ds : List PyData} : Dq H v d → DqAll H vs ds → DqAll H (v :: vs) (d :: ds)
end
mutual
theorem Dq.mono {H H' : Hp} (e : Same H H') : ∀ {d : PyData} {v : V}, Dq H v d → Dq H' v d
  | .none, _, h => by cases h; exact .non
  | .bool b, _, h => by cases h; exact .bl b
  | .int i, _, h => by cases h; exact .int i
  | .str x, _, h => by cases h; exact .str x
  | .list ds, _, h => by
    cases h with
    | lst h1 h2 => exact .lst (e _ _ h1) (DqAll.mono e h2)
  | .tuple ds, _, h => by
    cases h with
    | tup h1 h2 => exact .tup (e _ _ h1) (DqAll.mono e h2)
  | .dict _, _, h => by cases h
theorem DqAll.mono {H H' : Hp} (e : Same H H') : ∀ {ds : List PyData} {vs : List V}, DqAll H vs ds → DqAll H' vs ds
  | [], _, h => by cases h; exact .nil
  | d :: ds, _, h => by
    cases h with
    | cons h1 h2 => exact .cons (Dq.mono e h1) (DqAll.mono e h2)
end
mutual
theorem Dq.dp {K : PySem.W.Frag} {H : Hp} : ∀ {d : PyData} {v : V}, Dq H v d → Dp K H v d
  | .none, _, h => by cases h; exact .non
  | .bool b, _, h => by cases h; exact .bl b
  | .int i, _, h => by cases h; exact .int i
  | .str x, _, h => by cases h; exact .str x
  | .list ds, _, h => by
    cases h with
    | lst h1 h2 => exact .lst (SqL.of h1) (DqAll.dp h2)
  | .tuple ds, _, h => by
    cases h with
    | tup h1 h2 => exact .tup (SqT.of h1) (DqAll.dp h2)
  | .dict _, _, h => by cases h
theorem DqAll.dp {K : PySem.W.Frag} {H : Hp} : ∀ {ds : List PyData} {vs : List V}, DqAll H vs ds → DpAll K H vs ds
  | [], _, h => by cases h; exact .nil
  | d :: ds, _, h => by
    cases h with
    | cons h1 h2 => exact .cons (Dq.dp h1) (DqAll.dp h2)
end
theorem DqAll.len {H : Hp} : ∀ {vs : List V} {ds : List PyData}, DqAll H vs ds → vs.length = ds.length
  | _, _, .nil => rfl
  | _, _, .cons _ h => congrArg (· + 1) h.len
theorem DqAll.at {H : Hp} : ∀ {vs : List V} {ds : List PyData} {i : Nat} {d : PyData}, DqAll H vs ds → ds[i]? = some d → ∃ v, vs[i]? = some v ∧ Dq H v d
  | _, _, _, _, .nil, e => by simp at e
  | _, _, 0, _, .cons r _, e => by simp at e; subst e; exact ⟨_, rfl, r⟩
  | _, _, i + 1, d, .cons _ t, e => by
    obtain ⟨u, h1, h2⟩ := DqAll.at (i := i) (d := d) t (by simpa using e)
    exact ⟨u, by simpa using h1, h2⟩
theorem DqAll.at' {H : Hp} : ∀ {vs : List V} {ds : List PyData} {i : Nat} {v : V}, DqAll H vs ds → vs[i]? = some v → ∃ d, ds[i]? = some d ∧ Dq H v d
  | _, _, _, _, .nil, e => by simp at e
  | _, _, 0, _, .cons r _, e => by simp at e; subst e; exact ⟨_, rfl, r⟩
  | _, _, i + 1, d, .cons _ t, e => by
    obtain ⟨u, h1, h2⟩ := DqAll.at' (i := i) (v := d) t (by simpa using e)
    exact ⟨u, by simpa using h1, h2⟩
theorem DqAll.app {H : Hp} : ∀ {vs ws : List V} {ds es : List PyData}, DqAll H vs ds → DqAll H ws es → DqAll H (vs ++ ws) (ds ++ es)
  | _, _, _, _, .nil, s => s
  | _, _, _, _, .cons r t, s => .cons r (t.app s)
theorem DqAll.take {H : Hp} : ∀ {vs : List V} {ds : List PyData} (n : Nat), DqAll H vs ds → DqAll H (vs.take n) (ds.take n)
  | _, _, 0, _ => .nil
  | _, _, _ + 1, .nil => .nil
  | _, _, n + 1, .cons r t => .cons r (t.take n)
theorem DqAll.drop {H : Hp} : ∀ {vs : List V} {ds : List PyData} (n : Nat), DqAll H vs ds → DqAll H (vs.drop n) (ds.drop n)
  | _, _, 0, r => r
  | _, _, _ + 1, .nil => .nil
  | _, _, n + 1, .cons _ t => t.drop n
theorem DqAll.set {H : Hp} {v : V} {d : PyData} (r : Dq H v d) : ∀ {vs : List V} {ds : List PyData} (i : Nat), DqAll H vs ds → DqAll H (vs.set i v) (ds.set i d)
  | _, _, _, .nil => .nil
  | _, _, 0, .cons _ t => .cons r t
  | _, _, i + 1, .cons q t => .cons q (DqAll.set r i t)
theorem DqAll.strs {H : Hp} : ∀ (xs : List Str), DqAll H (xs.map V.str) (xs.map PyData.str)
  | [] => .nil
  | x :: r => .cons (.str x) (DqAll.strs r)
theorem DqAll.ints {H : Hp} : ∀ (xs : List Int), DqAll H (xs.map V.int) (xs.map PyData.int)
  | [] => .nil
  | x :: r => .cons (.int x) (DqAll.ints r)
theorem DqAll.strs_inv {H : Hp} : ∀ {xs : List Str} {vs : List V}, DqAll H vs (xs.map PyData.str) → vs = xs.map V.str
  | [], _, h => by cases h; rfl
  | x :: r, _, h => by
    cases h with
    | cons h1 h2 =>
      cases h1
      rw [DqAll.strs_inv h2]; rfl
theorem DqAll.ints_inv {H : Hp} : ∀ {xs : List Int} {vs : List V}, DqAll H vs (xs.map PyData.int) → vs = xs.map V.int
  | [], _, h => by cases h; rfl
  | x :: r, _, h => by
    cases h with
    | cons h1 h2 =>
      cases h1
      rw [DqAll.ints_inv h2]; rfl

/-! ### what is known of a value -/
inductive Sl where
  | d (x : PyData)
  | v (x : V)
  | q (K : PySem.W.Frag) (a : Addr) (xs : List V)
  | no
def Sl.ok (I : Hp) (u : V) : Sl → Prop
  | .d x => Dq I u x
  | .v y => u = y
  | .q K a xs => u = .ref a ∧ SqL K I a xs
  | .no => True
theorem Sl.ok.mono {I I' : Hp} (e : Same I I') {u : V} : ∀ {s : Sl}, s.ok I u → s.ok I' u
  | .d _, h => Dq.mono e h
  | .v _, h => h
  | .q _ _ _, h => ⟨h.1, h.2.elim (fun r => .inl (r.elim (fun z => .inl (e _ _ z)) (fun ⟨o, z⟩ => .inr ⟨o, e _ _ z⟩))) .inr⟩
  | .no, h => h

/-- the draw's state: (s, c), or none in hand -/
abbrev Cs := Option (Addr × Addr)
def dom (C : Cs) (a : Addr) : Prop := match C with
  | none => False
  | some (s, c) => a = s ∨ a = c
/-- the state as the draws keep it -/
def StOk (C : Cs) (I H : Hp) : Prop := match C with
  | none => True
  | some (s, c) => s ≠ c ∧ I s = none ∧ I c = none ∧ ∃ (z : Int) (ns : List Int), H s = some (.lst [.ref c, .int z]) ∧ H c = some (.lst (ns.map V.int)) ∧ 0 ≤ z ∧ z < 2147483648
theorem StOk.has {C : Cs} {I H : Hp} (h : StOk C I H) {a : Addr} (d : dom C a) : I a = none ∧ H a ≠ none := by
  cases C with
  | none => exact d.elim
  | some p =>
    obtain ⟨s, c⟩ := p
    obtain ⟨_, h1, h2, z, ns, h3, h4, _⟩ := h
    rcases d with rfl | rfl
    · exact ⟨h1, by rw [h3]; exact fun z => by cases z⟩
    · exact ⟨h2, by rw [h4]; exact fun z => by cases z⟩

/-- from (I, H) to (I', H'): I the part of the heap that never changes, H all that is tracked -/
structure Ext (C : Cs) (I H I' H' : Hp) : Prop where
  im : Same I I'
  sub : Same I' H'
  keep : ∀ a o, ¬ dom C a → H a = some o → H' a = some o
  there : ∀ a, H a ≠ none → H' a ≠ none
  new : ∀ a, I' a ≠ none → I a ≠ none ∨ H a = none
theorem Ext.refl {C : Cs} {I H : Hp} (h : Same I H) : Ext C I H I H := ⟨Same.refl I, h, fun _ _ _ e => e, fun _ e => e, fun _ e => .inl e⟩
theorem Ext.free {C : Cs} {I H I' H' : Hp} (e : Ext C I H I' H') {a : Addr} (h : H' a = none) : H a = none := by
  cases q : H a with
  | none => rfl
  | some o => exact absurd h (e.there a (by rw [q]; exact fun z => by cases z))
theorem Ext.trans {C : Cs} {I H I1 H1 I2 H2 : Hp} (a : Ext C I H I1 H1) (b : Ext C I1 H1 I2 H2) : Ext C I H I2 H2 :=
  ⟨a.im.trans b.im, b.sub, fun x o n h => b.keep x o n (a.keep x o n h), fun x h => b.there x (a.there x h), fun x h => by
    rcases b.new x h with h | h
    · exact a.new x h
    · exact .inr (a.free h)⟩
theorem Ext.of0 {C : Cs} {I H I' H' : Hp} (e : Ext none I H I' H') : Ext C I H I' H' := ⟨e.im, e.sub, fun a o _ h => e.keep a o (fun z => z) h, e.there, e.new⟩
/-- what H tracks and I does not hold stays out of I -/
theorem Ext.out {C : Cs} {I H I' H' : Hp} (e : Ext C I H I' H') {a : Addr} (h1 : I a = none) (h2 : H a ≠ none) : I' a = none := by
  cases q : I' a with
  | none => rfl
  | some o =>
    rcases e.new a (by rw [q]; exact fun z => by cases z) with z | z
    · exact absurd h1 z
    · exact absurd z h2
theorem StOk.ext0 {C : Cs} {I H I' H' : Hp} (h : StOk C I H) (e : Ext none I H I' H') : StOk C I' H' := by
  cases C with
  | none => trivial
  | some p =>
    obtain ⟨s, c⟩ := p
    have k1 := (h.has (C := some (s, c)) (a := s) (.inl rfl))
    have k2 := (h.has (C := some (s, c)) (a := c) (.inr rfl))
    obtain ⟨hne, h1, h2, z, ns, h3, h4, h5⟩ := h
    exact ⟨hne, e.out k1.1 k1.2, e.out k2.1 k2.2, z, ns, e.keep _ _ (fun z => z) h3, e.keep _ _ (fun z => z) h4, h5⟩
theorem ne_of_dom {C : Cs} {I H : Hp} (h : StOk C I H) {p : Addr} (n : H p = none) : ¬ dom C p := fun d => (h.has d).2 n

/-- a new object, of the part that never changes -/
theorem Ext.imm {C : Cs} {I H : Hp} {p : Addr} {o : HO} (s : Same I H) (n : H p = none) : Ext C I H (upd I p o) (upd H p o) := by
  have nI : I p = none := s.free n
  refine ⟨fun a u h => ?_, fun a u h => ?_, fun a u _ h => ?_, fun a h => ?_, fun a h => ?_⟩
  · rw [upd_ne (ne_of_none h nI)]; exact h
  · by_cases e : a = p
    · subst e; rw [upd_same] at h ⊢; exact h
    · rw [upd_ne e] at h ⊢; exact s a u h
  · rw [upd_ne (ne_of_none h n)]; exact h
  · by_cases e : a = p
    · subst e; rw [upd_same]; exact fun z => by cases z
    · rw [upd_ne e]; exact h
  · by_cases e : a = p
    · subst e; exact .inr n
    · rw [upd_ne e] at h; exact .inl h
/-- a new object, that may change -/
theorem Ext.mut {C : Cs} {I H : Hp} {p : Addr} {o : HO} (s : Same I H) (n : H p = none) : Ext C I H I (upd H p o) := by
  refine ⟨Same.refl I, fun a u h => ?_, fun a u _ h => ?_, fun a h => ?_, fun a h => .inl h⟩
  · rw [upd_ne (ne_of_none (s a u h) n)]; exact s a u h
  · rw [upd_ne (ne_of_none h n)]; exact h
  · by_cases e : a = p
    · subst e; rw [upd_same]; exact fun z => by cases z
    · rw [upd_ne e]; exact h

/-! ### environments -/
def EnvOk (σ : L2.St) (G : List Sl) (I : Hp) : Prop := σ.length = G.length ∧ ∀ (i : Nat) (r : Sl), G[i]? = some r → (r = .no ∨ ∃ v, σ[i]? = some (some v) ∧ r.ok I v)
theorem EnvOk.mono {σ : L2.St} {G : List Sl} {I I' : Hp} (h : EnvOk σ G I) (e : Same I I') : EnvOk σ G I' := ⟨h.1, fun i r g => by
  rcases h.2 i r g with z | ⟨v, h1, h2⟩
  · exact .inl z
  · exact .inr ⟨v, h1, h2.mono e⟩⟩
theorem EnvOk.set {σ : L2.St} {G : List Sl} {I : Hp} {v : V} {r : Sl} (i : Nat) (h : EnvOk σ G I) (hv : r.ok I v) : EnvOk (σ.set i (some v)) (G.set i r) I := by
  refine ⟨by simpa using h.1, fun j q g => ?_⟩
  by_cases e : i = j
  · subst e
    by_cases hi : i < G.length
    · rw [List.getElem?_set_self hi] at g
      cases g
      exact .inr ⟨v, List.getElem?_set_self (by rw [h.1]; exact hi), hv⟩
    · rw [List.getElem?_eq_none (by simpa using hi)] at g; cases g
  · rw [List.getElem?_set_ne e] at g
    rw [List.getElem?_set_ne e]
    exact h.2 j q g
theorem EnvOk.clr {σ : L2.St} {G : List Sl} {I : Hp} (i : Nat) (x : Option V) (h : EnvOk σ G I) : EnvOk (σ.set i x) (G.set i .no) I := by
  refine ⟨by simpa using h.1, fun j q g => ?_⟩
  by_cases e : i = j
  · subst e
    by_cases hi : i < G.length
    · rw [List.getElem?_set_self hi] at g
      cases g
      exact .inl rfl
    · rw [List.getElem?_eq_none (by simpa using hi)] at g; cases g
  · rw [List.getElem?_set_ne e] at g
    rw [List.getElem?_set_ne e]
    exact h.2 j q g
/-- forget a slot -/
theorem EnvOk.forget {σ : L2.St} {G : List Sl} {I : Hp} (i : Nat) (h : EnvOk σ G I) : EnvOk σ (G.set i .no) I := by
  refine ⟨by simpa using h.1, fun j q g => ?_⟩
  by_cases e : i = j
  · subst e
    by_cases hi : i < G.length
    · rw [List.getElem?_set_self hi] at g
      cases g
      exact .inl rfl
    · rw [List.getElem?_eq_none (by simpa using hi)] at g; cases g
  · rw [List.getElem?_set_ne e] at g
    exact h.2 j q g
theorem EnvOk.get {σ : L2.St} {G : List Sl} {I : Hp} {i : Nat} {r : Sl} (h : EnvOk σ G I) (g : G[i]? = some r) (n : r ≠ .no) : ∃ v, σ[i]? = some (some v) ∧ r.ok I v := (h.2 i r g).resolve_left n

/-! ### the readings as they are -/
section
variable (X : Cx)
structure wpE (e : Expr) (σ : L2.St) (H : Hp) (Q : VK) : Prop where
  run : ∀ (pins : List (Addr × Obj)) (s : Shared), Inv X pins σ H s → wpAny (model X.prog X.w) X.A (eval e X.env) (EP X pins σ Q) X.xe s
structure wpT (e : Expr) (σ : L2.St) (H : Hp) (Q : Bool → Hp → Prop) : Prop where
  run : ∀ (pins : List (Addr × Obj)) (s : Shared), Inv X pins σ H s → wpAny (model X.prog X.w) X.A (isTrue e X.env (eval e X.env)) (TP X pins σ Q) X.xe s
structure wpW (e : Expr) (σ : L2.St) (H : Hp) (Q : Bool → Hp → Prop) : Prop where
  run : ∀ (whole : Sem Value) (pins : List (Addr × Obj)) (s : Shared), Inv X pins σ H s → wpAny (model X.prog X.w) X.A (isTrue e X.env whole) (TP X pins σ Q) X.xe s
structure wpA (es : List Expr) (σ : L2.St) (H : Hp) (Q : List V → Hp → Prop) : Prop where
  run : ∀ (pos : Pos) (pins : List (Addr × Obj)) (s : Shared), Inv X pins σ H s → wpAny (model X.prog X.w) X.A (spliced (backTo pos (starEach es X.env))) (AP X pins σ Q) X.xe s
def wp1 (st : Stmt) : TS := fun D σ H => ∀ (pins : List (Addr × Obj)) (s : Shared), Inv X pins σ H s → wpAny (model X.prog X.w) X.A (exec st X.env) (SP X pins D) X.xe s
def wpS (st : List Stmt) : TS := fun D σ H => ∀ (pins : List (Addr × Obj)) (s : Shared), Inv X pins σ H s → wpAny (model X.prog X.w) X.A (execs st X.env) (SP X pins D) X.xe s
end
section
variable {X : Cx} {σ : L2.St} {H : Hp}
theorem pe_wp {e : Expr} : PE X e (wpE X e) := ⟨fun pins s σ H Q I h => h.run pins s I⟩
theorem pt_wp {e : Expr} : PT X e (wpT X e) := ⟨fun pins s σ H Q I h => h.run pins s I⟩
theorem pw_wp {e : Expr} : PW X e (wpW X e) := ⟨fun wh pins s σ H Q I h => h.run wh pins s I⟩
theorem pa_wp {es : List Expr} : PA X es (wpA X es) := ⟨fun pos pins s σ H Q I h => h.run pos pins s I⟩
theorem ps_wp {st : Stmt} : PS X st (wp1 X st) := ⟨fun pins s σ H Q I h => h pins s I⟩
theorem pss_wp {st : List Stmt} : PSs X st (wpS X st) := ⟨fun pins s σ H Q I h => h pins s I⟩
theorem of_pe {e : Expr} {t : TE} {Q : VK} (h : PE X e t) (q : t σ H Q) : wpE X e σ H Q := ⟨fun pins s I => h.run pins s σ H Q I q⟩
theorem of_pt {e : Expr} {t : TT} {Q : Bool → Hp → Prop} (h : PT X e t) (q : t σ H Q) : wpT X e σ H Q := ⟨fun pins s I => h.run pins s σ H Q I q⟩
theorem of_pw {e : Expr} {t : TT} {Q : Bool → Hp → Prop} (h : PW X e t) (q : t σ H Q) : wpW X e σ H Q := ⟨fun wh pins s I => h.run wh pins s σ H Q I q⟩
theorem of_pa {es : List Expr} {t : TA} {Q : List V → Hp → Prop} (h : PA X es t) (q : t σ H Q) : wpA X es σ H Q := ⟨fun pos pins s I => h.run pos pins s σ H Q I q⟩
theorem of_ps {st : Stmt} {t : TS} {D : Ends} (h : PS X st t) (q : t D σ H) : wp1 X st D σ H := fun pins s I => h.run pins s σ H D I q
theorem of_pss {st : List Stmt} {t : TS} {D : Ends} (h : PSs X st t) (q : t D σ H) : wpS X st D σ H := fun pins s I => h.run pins s σ H D I q
end

/-! ### an expression evaluates to something with P -/
def Ev (X : Cx) (C : Cs) (e : Expr) (G : List Sl) (P : Sl → Prop) : Prop :=
  ∀ (σ : L2.St) (I H : Hp) (Q : VK), EnvOk σ G I → Same I H → StOk C I H → (∀ v I' H' r, P r → Ext C I H I' H' → StOk C I' H' → r.ok I' v → Q v H') → wpE X e σ H Q
/-- .. to a new list, that may change -/
def EvN (X : Cx) (C : Cs) (e : Expr) (G : List Sl) (P : List PyData → Prop) : Prop :=
  ∀ (σ : L2.St) (I H : Hp) (Q : VK), EnvOk σ G I → Same I H → StOk C I H → (∀ p xs I' H' ds, P ds → Ext C I H I' H' → StOk C I' H' → H p = none → I' p = none → H' p = some (.lst xs) → DqAll I' xs ds → Q (.ref p) H') → wpE X e σ H Q
def EvT (X : Cx) (C : Cs) (e : Expr) (G : List Sl) (P : Bool → Prop) : Prop :=
  ∀ (σ : L2.St) (I H : Hp) (Q : Bool → Hp → Prop), EnvOk σ G I → Same I H → StOk C I H → (∀ b I' H', P b → Ext C I H I' H' → StOk C I' H' → Q b H') → wpT X e σ H Q
def EvW (X : Cx) (C : Cs) (e : Expr) (G : List Sl) (P : Bool → Prop) : Prop :=
  ∀ (σ : L2.St) (I H : Hp) (Q : Bool → Hp → Prop), EnvOk σ G I → Same I H → StOk C I H → (∀ b I' H', P b → Ext C I H I' H' → StOk C I' H' → Q b H') → wpW X e σ H Q
inductive SlAll (I : Hp) : List V → List Sl → Prop
  | nil : SlAll I [] []
  | cons {v : V} {vs : List V} {r : Sl} {rs : List Sl} : r.ok I v → SlAll I vs rs → SlAll I (v :: vs) (r :: rs)
theorem SlAll.mono {I I' : Hp} (e : Same I I') : ∀ {vs : List V} {rs : List Sl}, SlAll I vs rs → SlAll I' vs rs
  | _, _, .nil => .nil
  | _, _, .cons h t => .cons (h.mono e) (t.mono e)
theorem SlAll.len {I : Hp} : ∀ {vs : List V} {rs : List Sl}, SlAll I vs rs → vs.length = rs.length
  | _, _, .nil => rfl
  | _, _, .cons _ h => congrArg (· + 1) h.len
def EvA (X : Cx) (C : Cs) (es : List Expr) (G : List Sl) (P : List Sl → Prop) : Prop :=
  ∀ (σ : L2.St) (I H : Hp) (Q : List V → Hp → Prop), EnvOk σ G I → Same I H → StOk C I H → (∀ vs I' H' rs, P rs → Ext C I H I' H' → StOk C I' H' → SlAll I' vs rs → Q vs H') → wpA X es σ H Q
def EvO (X : Cx) (C : Cs) (e : Option Expr) (G : List Sl) (P : Option Int → Prop) : Prop :=
  ∃ to : TO, PO X e to ∧ ∀ (σ : L2.St) (I H : Hp) (Q : Option Int → Hp → Prop), EnvOk σ G I → Same I H → StOk C I H → (∀ o I' H', P o → Ext C I H I' H' → StOk C I' H' → Q o H') → to σ H Q
/-- the determined forms -/
abbrev DE (X : Cx) (e : Expr) (G : List Sl) (d : PyData) : Prop := ∀ C, Ev X C e G (· = .d d)
abbrev DN (X : Cx) (e : Expr) (G : List Sl) (ds : List PyData) : Prop := ∀ C, EvN X C e G (· = ds)
abbrev DT (X : Cx) (e : Expr) (G : List Sl) (b : Bool) : Prop := ∀ C, EvT X C e G (· = b)
abbrev DW (X : Cx) (e : Expr) (G : List Sl) (b : Bool) : Prop := ∀ C, EvW X C e G (· = b)
abbrev DA (X : Cx) (es : List Expr) (G : List Sl) (rs : List Sl) : Prop := ∀ C, EvA X C es G (· = rs)
abbrev DO (X : Cx) (e : Option Expr) (G : List Sl) (o : Option Int) : Prop := ∀ C, EvO X C e G (· = o)

section
variable {X : Cx} {C : Cs} {e a b : Expr} {G : List Sl} {P P1 P2 : Sl → Prop} {pos : Pos}
theorem Ev.imp {P' : Sl → Prop} (h : Ev X C e G P) (i : ∀ r, P r → P' r) : Ev X C e G P' := fun σ I H Q hE hS hC q => h σ I H Q hE hS hC fun v I' H' r p => q v I' H' r (i r p)
theorem EvN.imp {P P' : List PyData → Prop} (h : EvN X C e G P) (i : ∀ r, P r → P' r) : EvN X C e G P' := fun σ I H Q hE hS hC q => h σ I H Q hE hS hC fun v xs I' H' r p => q v xs I' H' r (i r p)
theorem EvT.imp {P P' : Bool → Prop} (h : EvT X C e G P) (i : ∀ r, P r → P' r) : EvT X C e G P' := fun σ I H Q hE hS hC q => h σ I H Q hE hS hC fun v I' H' p => q v I' H' (i v p)
theorem EvA.imp {es : List Expr} {P P' : List Sl → Prop} (h : EvA X C es G P) (i : ∀ r, P r → P' r) : EvA X C es G P' := fun σ I H Q hE hS hC q => h σ I H Q hE hS hC fun v I' H' r p => q v I' H' r (i r p)
theorem EvW.t {P : Bool → Prop} (h : EvW X C e G P) : EvT X C e G P := fun σ I H Q hE hS hC q => ⟨fun pins s Iv => (h σ I H Q hE hS hC q).run _ pins s Iv⟩
theorem DE.is {d d' : PyData} (h : DE X e G d) (z : d = d') : DE X e G d' := z ▸ h
theorem DN.is {d d' : List PyData} (h : DN X e G d) (z : d = d') : DN X e G d' := z ▸ h
theorem DT.is {b b' : Bool} (h : DT X e G b) (z : b = b') : DT X e G b' := z ▸ h

/-- a new list, from now on as it is -/
theorem ev_frz {P : List PyData → Prop} (h : EvN X C e G P) : Ev X C e G (fun r => ∃ ds, P ds ∧ r = .d (.list ds)) := fun σ I H Q hE hS hC q => by
  refine h σ I H Q hE hS hC fun p xs I' H' ds hp hx hc n n' hl hd => ?_
  have x1 : Ext C I H (upd I' p (.lst xs)) H' := by
    refine ⟨fun a o z => ?_, fun a o z => ?_, hx.keep, hx.there, fun a z => ?_⟩
    · rw [upd_ne (ne_of_none (hS a o z) n)]; exact hx.im a o z
    · by_cases e : a = p
      · subst e; rw [upd_same] at z; cases z; exact hl
      · rw [upd_ne e] at z; exact hx.sub a o z
    · by_cases e : a = p
      · subst e; exact .inr n
      · rw [upd_ne e] at z; exact hx.new a z
  have ss : Same I' (upd I' p (.lst xs)) := fun a o z => by rw [upd_ne (ne_of_none z n')]; exact z
  refine q (.ref p) (upd I' p (.lst xs)) H' _ ⟨ds, hp, rfl⟩ x1 ?_ (.lst upd_same (hd.mono ss))
  cases C with
  | none => trivial
  | some sc =>
    obtain ⟨s, c⟩ := sc
    obtain ⟨hne, h1, h2, z, ns, h3, h4, h5⟩ := hc
    have np := ne_of_dom hC n
    refine ⟨hne, ?_, ?_, z, ns, h3, h4, h5⟩
    · rw [upd_ne (fun e => np (.inl e.symm))]; exact h1
    · rw [upd_ne (fun e => np (.inr e.symm))]; exact h2
theorem de_frz {ds : List PyData} (h : DN X e G ds) : DE X e G (.list ds) := fun C => (ev_frz (h C)).imp fun r ⟨ds', e1, e2⟩ => by rw [e2, e1]

/-! ### names, constants -/
theorem ev_var {i : Nat} {x : Str} {r : Sl} (hG : G[i]? = some r) (n : r ≠ .no) (hp : PE X (.Name x pos) (tVar i)) : Ev X C (.Name x pos) G (· = r) := fun σ I H Q hE hS hC q => by
  obtain ⟨v, h1, h2⟩ := hE.get hG n
  exact of_pe hp ⟨v, h1, q v I H r rfl (Ext.refl hS) hC h2⟩
theorem de_var {i : Nat} {x : Str} {d : PyData} (hG : G[i]? = some (.d d)) (hp : PE X (.Name x pos) (tVar i)) : DE X (.Name x pos) G d := fun C => ev_var hG (fun z => by cases z) hp
theorem ev_c {v : V} {r : Sl} (hp : PE X e (tC v)) (hr : ∀ I, r.ok I v) : Ev X C e G (· = r) := fun σ I H Q hE hS hC q => of_pe hp (q v I H r rfl (Ext.refl hS) hC (hr I))
theorem de_int {i j} : DE X (.Constant (.int i) j pos) G (.int i) := fun _ => ev_c pe_int fun _ => .int i
theorem de_bool {i j} : DE X (.Constant (.bool i) j pos) G (.bool i) := fun _ => ev_c pe_bl fun _ => .bl i
theorem de_none {j} : DE X (.Constant .none j pos) G .none := fun _ => ev_c pe_non fun _ => .non
theorem de_str {i j} : DE X (.Constant (.str i) j pos) G (.str i) := fun _ => ev_c pe_str fun _ => .str i
theorem de_gstr {x y : Str} {t : Tok} (hm : X.mg x = some (.str y t)) (hg : Gl X x := by rfl) (hd : (x == ("__debug__" : Str)) = false := by decide) : DE X (.Name x pos) G (.str y) := fun _ => ev_c (v := .str y) (pe_glob hg hm ⟨t, rfl⟩ hd) fun _ => .str y
theorem de_gint {x : Str} {y : Int} {t : Tok} (hm : X.mg x = some (.int y t)) (hg : Gl X x := by rfl) (hd : (x == ("__debug__" : Str)) = false := by decide) : DE X (.Name x pos) G (.int y) := fun _ => ev_c (v := .int y) (pe_glob hg hm ⟨t, rfl⟩ hd) fun _ => .int y

/-! ### operations by values -/
/-- r takes x and y to z -/
def OpD (r : R2) (x y z : Sl) : Prop := ∀ (I H : Hp) (v u : V) (Q : VK), Same I H → x.ok I v → y.ok I u → (∀ w I' H', Ext none I H I' H' → z.ok I' w → Q w H') → r v u H Q
def OpN (r : R2) (x y : Sl) (ds : List PyData) : Prop := ∀ (I H : Hp) (v u : V) (Q : VK), Same I H → x.ok I v → y.ok I u → (∀ p xs I', Ext none I H I' (upd H p (.lst xs)) → H p = none → I' p = none → DqAll I' xs ds → Q (.ref p) (upd H p (.lst xs))) → r v u H Q
/-- two expressions in a row -/
theorem ev_two {R : V → V → Hp → Prop} {σ : L2.St} {I H : Hp} (ha : Ev X C a G P1) (hb : Ev X C b G P2) (hE : EnvOk σ G I) (hS : Same I H) (hC : StOk C I H)
    (k : ∀ x y v u I' H', P1 x → P2 y → Ext C I H I' H' → StOk C I' H' → x.ok I' v → y.ok I' u → R v u H') : wpE X a σ H fun v H1 => wpE X b σ H1 fun u H2 => R v u H2 :=
  ha σ I H _ hE hS hC fun v I1 H1 x p1 x1 c1 o1 => hb σ I1 H1 _ (hE.mono x1.im) x1.sub c1 fun u I2 H2 y p2 x2 c2 o2 => k x y v u I2 H2 p1 p2 (x1.trans x2) c2 (o1.mono x2.im) o2
theorem ev_op2 {r : R2} {w : Expr} (hp : PE X w (tOp r (wpE X a) (wpE X b))) (ha : Ev X C a G P1) (hb : Ev X C b G P2) (h : ∀ x y, P1 x → P2 y → ∃ z, P z ∧ OpD r x y z) : Ev X C w G P := fun σ I H Q hE hS hC q =>
  of_pe hp (ev_two ha hb hE hS hC fun x y v u I' H' p1 p2 x1 c1 o1 o2 => by
    obtain ⟨z, pz, hz⟩ := h x y p1 p2
    exact hz I' H' v u Q x1.sub o1 o2 fun w I2 H2 x2 ow => q w I2 H2 z pz (x1.trans x2.of0) (c1.ext0 x2) ow)
theorem ev_opN {P : List PyData → Prop} {r : R2} {w : Expr} (hp : PE X w (tOp r (wpE X a) (wpE X b))) (ha : Ev X C a G P1) (hb : Ev X C b G P2) (h : ∀ x y, P1 x → P2 y → ∃ z, P z ∧ OpN r x y z) : EvN X C w G P := fun σ I H Q hE hS hC q =>
  of_pe hp (ev_two ha hb hE hS hC fun x y v u I' H' p1 p2 x1 c1 o1 o2 => by
    obtain ⟨z, pz, hz⟩ := h x y p1 p2
    exact hz I' H' v u Q x1.sub o1 o2 fun p xs I2 x2 n n' ow => q p xs I2 _ z pz (x1.trans x2.of0) (c1.ext0 x2) (x1.free n) n' upd_same ow)
theorem de_op2 {r : R2} {w : Expr} {x y z : PyData} (hp : PE X w (tOp r (wpE X a) (wpE X b))) (ha : DE X a G x) (hb : DE X b G y) (h : OpD r (.d x) (.d y) (.d z)) : DE X w G z := fun C =>
  ev_op2 hp (ha C) (hb C) fun _ _ e1 e2 => ⟨_, rfl, by rw [e1, e2]; exact h⟩
theorem dn_op2 {r : R2} {w : Expr} {x y : PyData} {z : List PyData} (hp : PE X w (tOp r (wpE X a) (wpE X b))) (ha : DE X a G x) (hb : DE X b G y) (h : OpN r (.d x) (.d y) z) : DN X w G z := fun C =>
  ev_opN hp (ha C) (hb C) fun _ _ e1 e2 => ⟨_, rfl, by rw [e1, e2]; exact h⟩
end
end QL
/-! The data layer, 2: the rules for expressions. -/
namespace QL
open PySem PySem.Spec PyProof.Rows L2
section
variable {X : Cx} {C : Cs} {e a b c : Expr} {G : List Sl} {P P1 P2 P3 : Sl → Prop} {pos : Pos}

/-! ### binary operators, comparisons, subscripts as values -/
theorem de_bin {op : Operator} {r : R2} {x y z : PyData} (ho : OpR X (binaryOp op) r) (ha : DE X a G x) (hb : DE X b G y) (h : OpD r (.d x) (.d y) (.d z)) : DE X (.BinOp a op b pos) G z := de_op2 (pe_op ho pe_wp pe_wp) ha hb h
theorem dn_bin {op : Operator} {r : R2} {x y : PyData} {z : List PyData} (ho : OpR X (binaryOp op) r) (ha : DE X a G x) (hb : DE X b G y) (h : OpN r (.d x) (.d y) z) : DN X (.BinOp a op b pos) G z := dn_op2 (pe_op ho pe_wp pe_wp) ha hb h
theorem de_cmp {op : CmpOp} {r : R2} {x y z : PyData} (ho : OpR X (compareOp op) r) (ha : DE X a G x) (hb : DE X b G y) (h : OpD r (.d x) (.d y) (.d z)) (hm : behindInMarks op b = false := by first | exact nomark _ | rfl) : DE X (.Compare a [op] [b] pos) G z := de_op2 (pe_cmpR ho pe_wp pe_wp hm) ha hb h
theorem de_ix {r : R2} {x y z : PyData} (hr : IxR X r) (ha : DE X a G x) (hb : DE X b G y) (h : OpD r (.d x) (.d y) (.d z)) (hs : PlainIx b := by exact fun _ _ => rfl) : DE X (.Subscript a b pos) G z := de_op2 (pe_ix hr pe_wp pe_wp hs) ha hb h
theorem ev_bin {op : Operator} {r : R2} (ho : OpR X (binaryOp op) r) (ha : Ev X C a G P1) (hb : Ev X C b G P2) (h : ∀ x y, P1 x → P2 y → ∃ z, P z ∧ OpD r x y z) : Ev X C (.BinOp a op b pos) G P := ev_op2 (pe_op ho pe_wp pe_wp) ha hb h
theorem evn_bin {op : Operator} {r : R2} {P : List PyData → Prop} (ho : OpR X (binaryOp op) r) (ha : Ev X C a G P1) (hb : Ev X C b G P2) (h : ∀ x y, P1 x → P2 y → ∃ z, P z ∧ OpN r x y z) : EvN X C (.BinOp a op b pos) G P := ev_opN (pe_op ho pe_wp pe_wp) ha hb h
theorem ev_cmp {op : CmpOp} {r : R2} (ho : OpR X (compareOp op) r) (ha : Ev X C a G P1) (hb : Ev X C b G P2) (h : ∀ x y, P1 x → P2 y → ∃ z, P z ∧ OpD r x y z) (hm : behindInMarks op b = false := by first | exact nomark _ | rfl) : Ev X C (.Compare a [op] [b] pos) G P := ev_op2 (pe_cmpR ho pe_wp pe_wp hm) ha hb h
theorem ev_ix {r : R2} (hr : IxR X r) (ha : Ev X C a G P1) (hb : Ev X C b G P2) (h : ∀ x y, P1 x → P2 y → ∃ z, P z ∧ OpD r x y z) (hs : PlainIx b := by exact fun _ _ => rfl) : Ev X C (.Subscript a b pos) G P := ev_op2 (pe_ix hr pe_wp pe_wp hs) ha hb h
/-- a one-place operator -/
theorem de_neg {i : Int} (ha : DE X a G (.int i)) : DE X (.UnaryOp .USub a pos) G (.int (-i)) := fun C σ I H Q hE hS hC q =>
  of_pe (pe_un un_neg pe_wp) (ha C σ I H _ hE hS hC fun v I1 H1 r p x c o => by
    subst p
    cases o
    exact ⟨i, rfl, q _ I1 H1 _ rfl x c (.int _)⟩)

/-! ### tests -/
theorem evt_op {op : CmpOp} {r : R2} {P : Bool → Prop} (ho : OpR X (compareOp op) r) (ha : Ev X C a G P1) (hb : Ev X C b G P2) (h : ∀ x y, P1 x → P2 y → ∃ k, P k ∧ OpD r x y (.d (.bool k))) (hm : behindInMarks op b = false := by first | exact nomark _ | rfl) : EvT X C (.Compare a [op] [b] pos) G P := fun σ I H Q hE hS hC q =>
  of_pt (pt_cmpR ho pe_wp pe_wp hm) (ev_two ha hb hE hS hC fun x y v u I' H' p1 p2 x1 c1 o1 o2 => by
    obtain ⟨k, pk, hz⟩ := h x y p1 p2
    exact hz I' H' v u _ x1.sub o1 o2 fun w I2 H2 x2 ow => by
      cases ow
      exact ⟨k, rfl, q k I2 H2 pk (x1.trans x2.of0) (c1.ext0 x2)⟩)
theorem dt_cmp {op : CmpOp} {r : R2} {x y : PyData} {k : Bool} (ho : OpR X (compareOp op) r) (ha : DE X a G x) (hb : DE X b G y) (h : OpD r (.d x) (.d y) (.d (.bool k))) (hm : behindInMarks op b = false := by first | exact nomark _ | rfl) : DT X (.Compare a [op] [b] pos) G k := fun C =>
  evt_op ho (ha C) (hb C) (fun _ _ e1 e2 => ⟨_, rfl, by rw [e1, e2]; exact h⟩) hm
theorem evt_val {P : Bool → Prop} (ha : Ev X C e G (fun r => ∃ k, P k ∧ r = .d (.bool k))) (he : ∀ whole, isTrue e X.env whole = (do let v ← whole; standAt e.pos; holding [v] (truthy v)) := by intro _; rfl) : EvT X C e G P := fun σ I H Q hE hS hC q =>
  of_pt (pt_val pe_wp he) (ha σ I H _ hE hS hC fun v I1 H1 r p x c o => by
    obtain ⟨k, pk, rfl⟩ := p
    cases o
    exact ⟨k, rfl, q k I1 H1 pk x c⟩)
theorem dt_val {k : Bool} (ha : DE X e G (.bool k)) (he : ∀ whole, isTrue e X.env whole = (do let v ← whole; standAt e.pos; holding [v] (truthy v)) := by intro _; rfl) : DT X e G k := fun C =>
  evt_val ((ha C).imp fun r z => ⟨k, rfl, z⟩) he
theorem evt_not {P : Bool → Prop} (ha : EvT X C a G (fun k => P (!k))) : EvT X C (.UnaryOp .Not a pos) G P := fun σ I H Q hE hS hC q =>
  of_pt (pt_not pt_wp) (ha σ I H _ hE hS hC fun k I1 H1 p x c => q _ I1 H1 p x c)
theorem dt_not {k : Bool} (ha : DT X a G k) : DT X (.UnaryOp .Not a pos) G (!k) := fun C => evt_not ((ha C).imp fun _ z => by rw [z])
theorem evw_one {op : BoolOp} {P : Bool → Prop} (ha : EvT X C a G P) : EvW X C (.BoolOp op [a] pos) G P := fun σ I H Q hE hS hC q => by
  cases op with
  | And => exact of_pw (pw_and1 pt_wp) (ha σ I H Q hE hS hC q)
  | Or => exact of_pw (pw_or1 pt_wp) (ha σ I H Q hE hS hC q)
theorem evw_and {rest : List Expr} {P Pa Pb : Bool → Prop} (ha : EvT X C a G Pa) (hb : Pa true → EvW X C (.BoolOp .And (b :: rest) pos) G Pb) (h0 : Pa false → P false) (h1 : Pa true → ∀ k, Pb k → P k) : EvW X C (.BoolOp .And (a :: b :: rest) pos) G P := fun σ I H Q hE hS hC q =>
  of_pw (pw_and pt_wp pw_wp) (ha σ I H _ hE hS hC fun k I1 H1 p x c => by
    cases k with
    | true => exact iteT (hb p σ I1 H1 Q (hE.mono x.im) x.sub c fun k I2 H2 p2 x2 c2 => q k I2 H2 (h1 p k p2) (x.trans x2) c2)
    | false => exact iteF (q false I1 H1 (h0 p) x c))
theorem evw_or {rest : List Expr} {P Pa Pb : Bool → Prop} (ha : EvT X C a G Pa) (hb : Pa false → EvW X C (.BoolOp .Or (b :: rest) pos) G Pb) (h0 : Pa true → P true) (h1 : Pa false → ∀ k, Pb k → P k) : EvW X C (.BoolOp .Or (a :: b :: rest) pos) G P := fun σ I H Q hE hS hC q =>
  of_pw (pw_or pt_wp pw_wp) (ha σ I H _ hE hS hC fun k I1 H1 p x c => by
    cases k with
    | true => exact iteT (q true I1 H1 (h0 p) x c)
    | false => exact iteF (hb p σ I1 H1 Q (hE.mono x.im) x.sub c fun k I2 H2 p2 x2 c2 => q k I2 H2 (h1 p k p2) (x.trans x2) c2))
theorem dw_one {op : BoolOp} {k : Bool} (ha : DT X a G k) : DW X (.BoolOp op [a] pos) G k := fun C => evw_one (ha C)
theorem dw_and {rest : List Expr} {k j : Bool} (ha : DT X a G k) (hb : k = true → DW X (.BoolOp .And (b :: rest) pos) G j) : DW X (.BoolOp .And (a :: b :: rest) pos) G (k && j) := fun C =>
  evw_and (ha C) (fun z => hb z.symm C) (fun z => by rw [← z]; rfl) (fun z k' z' => by rw [← z, z']; rfl)
theorem dw_or {rest : List Expr} {k j : Bool} (ha : DT X a G k) (hb : k = false → DW X (.BoolOp .Or (b :: rest) pos) G j) : DW X (.BoolOp .Or (a :: b :: rest) pos) G (k || j) := fun C =>
  evw_or (ha C) (fun z => hb z.symm C) (fun z => by rw [← z]; rfl) (fun z k' z' => by rw [← z, z']; rfl)
theorem DW.t {k : Bool} (h : DW X e G k) : DT X e G k := fun C => (h C).t

/-! ### and, or, not, if as values -/
theorem ev_one {op : BoolOp} (ha : Ev X C a G P) : Ev X C (.BoolOp op [a] pos) G P := fun σ I H Q hE hS hC q => of_pe (pe_one pe_wp) (ha σ I H Q hE hS hC q)
theorem de_one {op : BoolOp} {d : PyData} (ha : DE X a G d) : DE X (.BoolOp op [a] pos) G d := fun C => ev_one (ha C)
theorem de_and {rest : List Expr} {k j : Bool} (ha : DE X a G (.bool k)) (hb : k = true → DE X (.BoolOp .And (b :: rest) pos) G (.bool j)) : DE X (.BoolOp .And (a :: b :: rest) pos) G (.bool (k && j)) := fun C σ I H Q hE hS hC q =>
  of_pe (pe_and pe_wp pe_wp) (ha C σ I H _ hE hS hC fun v I1 H1 r p x c o => by
    subst p
    cases o
    refine ⟨k, rfl, ?_⟩
    cases k with
    | true => exact iteT (hb rfl C σ I1 H1 Q (hE.mono x.im) x.sub c fun v I2 H2 r p2 x2 c2 o2 => q v I2 H2 r p2 (x.trans x2) c2 o2)
    | false => exact iteF (q _ I1 H1 _ rfl x c (.bl _)))
theorem de_or {rest : List Expr} {k j : Bool} (ha : DE X a G (.bool k)) (hb : k = false → DE X (.BoolOp .Or (b :: rest) pos) G (.bool j)) : DE X (.BoolOp .Or (a :: b :: rest) pos) G (.bool (k || j)) := fun C σ I H Q hE hS hC q =>
  of_pe (pe_or pe_wp pe_wp) (ha C σ I H _ hE hS hC fun v I1 H1 r p x c o => by
    subst p
    cases o
    refine ⟨k, rfl, ?_⟩
    cases k with
    | true => exact iteT (q _ I1 H1 _ rfl x c (.bl _))
    | false => exact iteF (hb rfl C σ I1 H1 Q (hE.mono x.im) x.sub c fun v I2 H2 r p2 x2 c2 o2 => q v I2 H2 r p2 (x.trans x2) c2 o2))
theorem de_not {k : Bool} (ha : DE X a G (.bool k)) : DE X (.UnaryOp .Not a pos) G (.bool (!k)) := fun C σ I H Q hE hS hC q =>
  of_pe (pe_not pe_wp) (ha C σ I H _ hE hS hC fun v I1 H1 r p x c o => by
    subst p
    cases o
    exact ⟨k, rfl, q _ I1 H1 _ rfl x c (.bl _)⟩)
theorem ev_ife {Pt : Bool → Prop} (hc : EvT X C c G Pt) (ha : Pt true → Ev X C a G P) (hb : Pt false → Ev X C b G P) : Ev X C (.IfExp c a b pos) G P := fun σ I H Q hE hS hC q =>
  of_pe (pe_ifExp pt_wp pe_wp pe_wp) (hc σ I H _ hE hS hC fun k I1 H1 p x cc => by
    cases k with
    | true => exact iteT (ha p σ I1 H1 Q (hE.mono x.im) x.sub cc fun v I2 H2 r p2 x2 c2 o2 => q v I2 H2 r p2 (x.trans x2) c2 o2)
    | false => exact iteF (hb p σ I1 H1 Q (hE.mono x.im) x.sub cc fun v I2 H2 r p2 x2 c2 o2 => q v I2 H2 r p2 (x.trans x2) c2 o2))
theorem de_ife {k : Bool} {d1 d2 : PyData} (hc : DT X c G k) (ha : k = true → DE X a G d1) (hb : k = false → DE X b G d2) : DE X (.IfExp c a b pos) G (if k then d1 else d2) := fun C =>
  ev_ife (hc C) (fun z => ((ha z.symm C).imp fun r e => by rw [e, ← z]; rfl)) (fun z => ((hb z.symm C).imp fun r e => by rw [e, ← z]; rfl))

/-! ### chains: a op b op' c -/
theorem ev_chain {op op' : CmpOp} {r r' : R2} {x y z : PyData} {k j : Bool} (ho : OpR X (compareOp op) r) (ho' : OpR X (compareOp op') r') (ha : DE X a G x) (hb : DE X b G y) (hc : DE X c G z) (h1 : OpD r (.d x) (.d y) (.d (.bool k))) (h2 : OpD r' (.d y) (.d z) (.d (.bool j)))
    {σ : L2.St} {I H : Hp} {Q : VK} (hE : EnvOk σ G I) (hS : Same I H) (hC : StOk C I H) (q : ∀ v I' H' (r3 : Sl), r3 = .d (.bool (k && j)) → Ext C I H I' H' → StOk C I' H' → r3.ok I' v → Q v H') : tChain r r' (wpE X a) (wpE X b) (wpE X c) σ H Q :=
  ev_two (ha C) (hb C) hE hS hC fun x' y' v u I1 H1 p1 p2 x1 c1 o1 o2 => by
    subst p1 p2
    refine h1 I1 H1 v u _ x1.sub o1 o2 fun w I2 H2 x2 ow => ?_
    cases ow
    refine ⟨k, rfl, ?_⟩
    have x12 := x1.trans (C := C) x2.of0
    cases k with
    | false => exact iteF (q _ I2 H2 _ rfl x12 (c1.ext0 x2) (.bl _))
    | true =>
      refine iteT (hc C σ I2 H2 _ (hE.mono x12.im) x2.sub (c1.ext0 x2) fun w3 I3 H3 r3 p3 x3 c3 o3 => ?_)
      subst p3
      refine h2 I3 H3 u w3 Q x3.sub (o2.mono (x2.im.trans x3.im)) o3 fun w4 I4 H4 x4 o4 => ?_
      exact q _ I4 H4 _ rfl ((x12.trans x3).trans x4.of0) (c3.ext0 x4) o4
theorem de_chain {op op' : CmpOp} {r r' : R2} {x y z : PyData} {k j : Bool} (ho : OpR X (compareOp op) r) (ho' : OpR X (compareOp op') r') (ha : DE X a G x) (hb : DE X b G y) (hc : DE X c G z) (h1 : OpD r (.d x) (.d y) (.d (.bool k))) (h2 : OpD r' (.d y) (.d z) (.d (.bool j)))
    (hm : lastMarks [op, op'] [b, c] = false := by with_unfolding_all rfl) : DE X (.Compare a [op, op'] [b, c] pos) G (.bool (k && j)) := fun C σ I H Q hE hS hC q =>
  of_pe (pe_chain ho ho' pe_wp pe_wp pe_wp hm) (ev_chain ho ho' ha hb hc h1 h2 hE hS hC q)
theorem dt_chain {op op' : CmpOp} {r r' : R2} {x y z : PyData} {k j : Bool} (ho : OpR X (compareOp op) r) (ho' : OpR X (compareOp op') r') (ha : DE X a G x) (hb : DE X b G y) (hc : DE X c G z) (h1 : OpD r (.d x) (.d y) (.d (.bool k))) (h2 : OpD r' (.d y) (.d z) (.d (.bool j)))
    (hm : lastMarks [op, op'] [b, c] = false := by with_unfolding_all rfl) : DT X (.Compare a [op, op'] [b, c] pos) G (k && j) := fun C σ I H Q hE hS hC q =>
  of_pt (pt_chain ho ho' pe_wp pe_wp pe_wp hm) (ev_chain ho ho' ha hb hc h1 h2 hE hS hC fun v I' H' r e x c o => by
    subst e
    cases o
    exact ⟨_, rfl, q _ I' H' rfl x c⟩)

/-! ### argument lists, displays -/
theorem eva_nil : EvA X C [] G (· = []) := fun σ I H Q hE hS hC q => of_pa pa_nil (q [] I H [] rfl (Ext.refl hS) hC .nil)
theorem eva_cons {es : List Expr} {P : List Sl → Prop} {Pr : List Sl → Prop} (ha : Ev X C e G P1) (hr : EvA X C es G Pr) (h : ∀ x xs, P1 x → Pr xs → P (x :: xs)) (hs : starEach (e :: es) X.env = (false, eval e X.env) :: starEach es X.env := by rfl) : EvA X C (e :: es) G P := fun σ I H Q hE hS hC q =>
  of_pa (pa_cons pe_wp pa_wp hs) (ha σ I H _ hE hS hC fun v I1 H1 r p x c o => hr σ I1 H1 _ (hE.mono x.im) x.sub c fun vs I2 H2 rs p2 x2 c2 o2 => q (v :: vs) I2 H2 (r :: rs) (h r rs p p2) (x.trans x2) c2 (.cons (o.mono x2.im) o2))
theorem da_nil : DA X [] G [] := fun _ => eva_nil
theorem da_cons {es : List Expr} {r : Sl} {rs : List Sl} (ha : ∀ C, Ev X C e G (· = r)) (hr : DA X es G rs) (hs : starEach (e :: es) X.env = (false, eval e X.env) :: starEach es X.env := by rfl) : DA X (e :: es) G (r :: rs) := fun C =>
  eva_cons (ha C) (hr C) (fun _ _ e1 e2 => by rw [e1, e2]) hs
def dats : List PyData → List Sl := List.map Sl.d
theorem SlAll.dats {I : Hp} : ∀ {ds : List PyData} {vs : List V}, SlAll I vs (dats ds) → DqAll I vs ds
  | [], _, h => by cases h; exact .nil
  | d :: ds, _, h => by
    cases h with
    | cons h1 h2 => exact .cons h1 h2.dats
theorem ev_tup {es : List Expr} {x1} {Pa : List Sl → Prop} (ha : EvA X C es G Pa) (h : ∀ rs, Pa rs → ∃ ds, rs = dats ds ∧ ds.length ≤ sizeLine ∧ P (.d (.tuple ds))) : Ev X C (.Tuple es x1 pos) G P := fun σ I H Q hE hS hC q =>
  of_pe (pe_tup pa_wp) (ha σ I H _ hE hS hC fun vs I1 H1 rs p x c o => by
    obtain ⟨ds, rfl, hl, pd⟩ := h rs p
    have o' := o.dats
    refine ⟨by rw [o'.len]; exact hl, fun p0 hp => ?_⟩
    have n' : I1 p0 = none := x.sub.free hp
    have ex := Ext.imm (C := none) (o := .tup vs) x.sub hp
    exact q (.ref p0) _ _ _ pd (x.trans ex.of0) (c.ext0 ex) (.tup upd_same (o'.mono ex.im)))
theorem de_tup {es : List Expr} {x1} {ds : List PyData} (ha : DA X es G (dats ds)) (hl : ds.length ≤ sizeLine := by first | decide | (simp only [List.length_cons, List.length_nil]; decide)) : DE X (.Tuple es x1 pos) G (.tuple ds) := fun C =>
  ev_tup (ha C) fun rs e => ⟨ds, e, hl, rfl⟩
theorem evn_lst {es : List Expr} {Pa : List Sl → Prop} {P : List PyData → Prop} (ha : EvA X C es G Pa) (h : ∀ rs, Pa rs → ∃ ds, rs = dats ds ∧ ds.length ≤ sizeLine ∧ P ds) : EvN X C (.List es pos) G P := fun σ I H Q hE hS hC q =>
  of_pe (pe_lst pa_wp) (ha σ I H _ hE hS hC fun vs I1 H1 rs p x c o => by
    obtain ⟨ds, rfl, hl, pd⟩ := h rs p
    have o' := o.dats
    refine ⟨by rw [o'.len]; exact hl, fun p0 hp => ?_⟩
    have n' : I1 p0 = none := x.sub.free hp
    have ex := Ext.mut (C := none) (o := .lst vs) x.sub hp
    exact q p0 vs I1 _ ds pd (x.trans ex.of0) (c.ext0 ex) (x.free hp) n' upd_same o')
theorem dn_lst {es : List Expr} {ds : List PyData} (ha : DA X es G (dats ds)) (hl : ds.length ≤ sizeLine := by first | decide | (simp only [List.length_cons, List.length_nil]; decide)) : DN X (.List es pos) G ds := fun C =>
  evn_lst (ha C) fun rs e => ⟨ds, e, hl, rfl⟩
/-- data as an argument -/
theorem DE.sl {d : PyData} (h : DE X e G d) : ∀ C, Ev X C e G (· = .d d) := h

/-! ### calls of built-ins -/
def OpC (r : List V → Hp → VK → Prop) (xs : List Sl) (z : Sl) : Prop := ∀ (I H : Hp) (vs : List V) (Q : VK), Same I H → SlAll I vs xs → (∀ w I' H', Ext none I H I' H' → z.ok I' w → Q w H') → r vs H Q
def OpCN (r : List V → Hp → VK → Prop) (xs : List Sl) (ds : List PyData) : Prop := ∀ (I H : Hp) (vs : List V) (Q : VK), Same I H → SlAll I vs xs → (∀ p ys I', Ext none I H I' (upd H p (.lst ys)) → H p = none → I' p = none → DqAll I' ys ds → Q (.ref p) (upd H p (.lst ys))) → r vs H Q
theorem ev_cb {w : Expr} {es : List Expr} {r : List V → Hp → VK → Prop} {Pa : List Sl → Prop} (hp : PE X w (tCB r (wpA X es))) (ha : EvA X C es G Pa) (h : ∀ rs, Pa rs → ∃ z, P z ∧ OpC r rs z) : Ev X C w G P := fun σ I H Q hE hS hC q =>
  of_pe hp (ha σ I H _ hE hS hC fun vs I1 H1 rs p x c o => by
    obtain ⟨z, pz, hz⟩ := h rs p
    exact hz I1 H1 vs Q x.sub o fun w I2 H2 x2 ow => q w I2 H2 z pz (x.trans x2.of0) (c.ext0 x2) ow)
theorem evn_cb {w : Expr} {es : List Expr} {r : List V → Hp → VK → Prop} {Pa : List Sl → Prop} {P : List PyData → Prop} (hp : PE X w (tCB r (wpA X es))) (ha : EvA X C es G Pa) (h : ∀ rs, Pa rs → ∃ z, P z ∧ OpCN r rs z) : EvN X C w G P := fun σ I H Q hE hS hC q =>
  of_pe hp (ha σ I H _ hE hS hC fun vs I1 H1 rs p x c o => by
    obtain ⟨z, pz, hz⟩ := h rs p
    exact hz I1 H1 vs Q x.sub o fun p0 ys I2 x2 n n' od => q p0 ys I2 _ z pz (x.trans x2.of0) (c.ext0 x2) (x.free n) n' upd_same od)
theorem de_cb {w : Expr} {es : List Expr} {r : List V → Hp → VK → Prop} {rs : List Sl} {d : PyData} (hp : PE X w (tCB r (wpA X es))) (ha : DA X es G rs) (h : OpC r rs (.d d)) : DE X w G d := fun C =>
  ev_cb hp (ha C) fun _ e => ⟨_, rfl, by rw [e]; exact h⟩
theorem dn_cb {w : Expr} {es : List Expr} {r : List V → Hp → VK → Prop} {rs : List Sl} {d : List PyData} (hp : PE X w (tCB r (wpA X es))) (ha : DA X es G rs) (h : OpCN r rs d) : DN X w G d := fun C =>
  evn_cb hp (ha C) fun _ e => ⟨_, rfl, by rw [e]; exact h⟩

/-! ### methods of texts with one argument -/
def OpM (r : V → List V → Hp → VK → Prop) (x y z : Sl) : Prop := ∀ (I H : Hp) (v u : V) (Q : VK), Same I H → x.ok I v → y.ok I u → (∀ w I' H', Ext none I H I' H' → z.ok I' w → Q w H') → r v [u] H Q
def OpMN (r : V → List V → Hp → VK → Prop) (x y : Sl) (ds : List PyData) : Prop := ∀ (I H : Hp) (v u : V) (Q : VK), Same I H → x.ok I v → y.ok I u → (∀ p ys I', Ext none I H I' (upd H p (.lst ys)) → H p = none → I' p = none → DqAll I' ys ds → Q (.ref p) (upd H p (.lst ys))) → r v [u] H Q
theorem ev_m1 {w : Expr} {r : V → List V → Hp → VK → Prop} (hp : PE X w (tM1 r (wpE X a) (wpE X b))) (ha : Ev X C a G P1) (hb : Ev X C b G P2) (h : ∀ x y, P1 x → P2 y → (∃ t, x = .d (.str t)) ∧ ∃ z, P z ∧ OpM r x y z) (h0 : ∀ x, P1 x → ∃ t, x = .d (.str t)) : Ev X C w G P := fun σ I H Q hE hS hC q =>
  of_pe hp (ha σ I H _ hE hS hC fun v I1 H1 x p1 x1 c1 o1 => by
    refine ⟨?_, hb σ I1 H1 _ (hE.mono x1.im) x1.sub c1 fun u I2 H2 y p2 x2 c2 o2 => ?_⟩
    · obtain ⟨t, rfl⟩ := h0 x p1
      cases o1
      exact ⟨t, rfl⟩
    · obtain ⟨_, z, pz, hz⟩ := h x y p1 p2
      exact hz I2 H2 v u Q x2.sub (o1.mono x2.im) o2 fun w I3 H3 x3 ow => q w I3 H3 z pz ((x1.trans x2).trans x3.of0) (c2.ext0 x3) ow)
theorem evn_m1 {w : Expr} {r : V → List V → Hp → VK → Prop} {P : List PyData → Prop} (hp : PE X w (tM1 r (wpE X a) (wpE X b))) (ha : Ev X C a G P1) (hb : Ev X C b G P2) (h : ∀ x y, P1 x → P2 y → ∃ z, P z ∧ OpMN r x y z) (h0 : ∀ x, P1 x → ∃ t, x = .d (.str t)) : EvN X C w G P := fun σ I H Q hE hS hC q =>
  of_pe hp (ha σ I H _ hE hS hC fun v I1 H1 x p1 x1 c1 o1 => by
    refine ⟨?_, hb σ I1 H1 _ (hE.mono x1.im) x1.sub c1 fun u I2 H2 y p2 x2 c2 o2 => ?_⟩
    · obtain ⟨t, rfl⟩ := h0 x p1
      cases o1
      exact ⟨t, rfl⟩
    · obtain ⟨z, pz, hz⟩ := h x y p1 p2
      exact hz I2 H2 v u Q x2.sub (o1.mono x2.im) o2 fun p0 ys I3 x3 n n' ow => q p0 ys I3 _ z pz ((x1.trans x2).trans x3.of0) (c2.ext0 x3) ((x1.trans x2).free n) n' upd_same ow)
theorem de_m1 {w : Expr} {r : V → List V → Hp → VK → Prop} {t : Str} {y d : PyData} (hp : PE X w (tM1 r (wpE X a) (wpE X b))) (ha : DE X a G (.str t)) (hb : DE X b G y) (h : OpM r (.d (.str t)) (.d y) (.d d)) : DE X w G d := fun C =>
  ev_m1 hp (ha C) (hb C) (fun _ _ e1 e2 => ⟨⟨t, e1⟩, _, rfl, by rw [e1, e2]; exact h⟩) fun _ e => ⟨t, e⟩
theorem dn_m1 {w : Expr} {r : V → List V → Hp → VK → Prop} {t : Str} {y : PyData} {d : List PyData} (hp : PE X w (tM1 r (wpE X a) (wpE X b))) (ha : DE X a G (.str t)) (hb : DE X b G y) (h : OpMN r (.d (.str t)) (.d y) d) : DN X w G d := fun C =>
  evn_m1 hp (ha C) (hb C) (fun _ _ e1 e2 => ⟨_, rfl, by rw [e1, e2]; exact h⟩) fun _ e => ⟨t, e⟩

/-! ### slices -/
theorem evo_none : EvO X C none G (· = none) := ⟨_, po_none, fun σ I H Q hE hS hC q => q none I H rfl (Ext.refl hS) hC⟩
theorem evo_some {P : Option Int → Prop} (h : Ev X C e G (fun r => ∃ i, P (some i) ∧ r = .d (.int i))) : EvO X C (some e) G P := ⟨_, po_some pe_wp, fun σ I H Q hE hS hC q => h σ I H _ hE hS hC fun v I1 H1 r p x c o => by
  obtain ⟨i, pi, rfl⟩ := p
  cases o
  exact ⟨i, rfl, q (some i) I1 H1 pi x c⟩⟩
theorem do_none : DO X none G none := fun _ => evo_none
theorem do_some {i : Int} (h : DE X e G (.int i)) : DO X (some e) G (some i) := fun C => evo_some ((h C).imp fun _ z => ⟨i, rfl, z⟩)
def OpS (r : V → Option Int → Option Int → Hp → VK → Prop) (x : Sl) (lo hi : Option Int) (z : Sl) : Prop := ∀ (I H : Hp) (v : V) (Q : VK), Same I H → x.ok I v → (∀ w I' H', Ext none I H I' H' → z.ok I' w → Q w H') → r v lo hi H Q
def OpSN (r : V → Option Int → Option Int → Hp → VK → Prop) (x : Sl) (lo hi : Option Int) (ds : List PyData) : Prop := ∀ (I H : Hp) (v : V) (Q : VK), Same I H → x.ok I v → (∀ p ys I', Ext none I H I' (upd H p (.lst ys)) → H p = none → I' p = none → DqAll I' ys ds → Q (.ref p) (upd H p (.lst ys))) → r v lo hi H Q
theorem ev_sl {lo hi : Option Expr} {p2 : Pos} {r : V → Option Int → Option Int → Hp → VK → Prop} {Pl Ph : Option Int → Prop} (hr : SlR X r) (ha : Ev X C a G P1) (hl : EvO X C lo G Pl) (hh : EvO X C hi G Ph) (h : ∀ x l u, P1 x → Pl l → Ph u → ∃ z, P z ∧ OpS r x l u z) : Ev X C (.Subscript a (.Slice lo hi none p2) pos) G P := fun σ I H Q hE hS hC q => by
  obtain ⟨tl, pl, kl⟩ := hl
  obtain ⟨th, ph, kh⟩ := hh
  refine of_pe (pe_slice hr pe_wp pl ph) (ha σ I H _ hE hS hC fun v I1 H1 x p1 x1 c1 o1 => kl σ I1 H1 _ (hE.mono x1.im) x1.sub c1 fun l I2 H2 q2 x2 c2 => kh σ I2 H2 _ (hE.mono (x1.im.trans x2.im)) x2.sub c2 fun u I3 H3 q3 x3 c3 => ?_)
  obtain ⟨z, pz, hz⟩ := h x l u p1 q2 q3
  exact hz I3 H3 v Q x3.sub (o1.mono (x2.im.trans x3.im)) fun w I4 H4 x4 ow => q w I4 H4 z pz (((x1.trans x2).trans x3).trans x4.of0) (c3.ext0 x4) ow
theorem evn_sl {lo hi : Option Expr} {p2 : Pos} {r : V → Option Int → Option Int → Hp → VK → Prop} {Pl Ph : Option Int → Prop} {P : List PyData → Prop} (hr : SlR X r) (ha : Ev X C a G P1) (hl : EvO X C lo G Pl) (hh : EvO X C hi G Ph) (h : ∀ x l u, P1 x → Pl l → Ph u → ∃ z, P z ∧ OpSN r x l u z) : EvN X C (.Subscript a (.Slice lo hi none p2) pos) G P := fun σ I H Q hE hS hC q => by
  obtain ⟨tl, pl, kl⟩ := hl
  obtain ⟨th, ph, kh⟩ := hh
  refine of_pe (pe_slice hr pe_wp pl ph) (ha σ I H _ hE hS hC fun v I1 H1 x p1 x1 c1 o1 => kl σ I1 H1 _ (hE.mono x1.im) x1.sub c1 fun l I2 H2 q2 x2 c2 => kh σ I2 H2 _ (hE.mono (x1.im.trans x2.im)) x2.sub c2 fun u I3 H3 q3 x3 c3 => ?_)
  obtain ⟨z, pz, hz⟩ := h x l u p1 q2 q3
  exact hz I3 H3 v Q x3.sub (o1.mono (x2.im.trans x3.im)) fun p0 ys I4 x4 n n' ow => q p0 ys I4 _ z pz (((x1.trans x2).trans x3).trans x4.of0) (c3.ext0 x4) (((x1.trans x2).trans x3).free n) n' upd_same ow
theorem de_sl {lo hi : Option Expr} {p2 : Pos} {r : V → Option Int → Option Int → Hp → VK → Prop} {l u : Option Int} {x d : PyData} (hr : SlR X r) (ha : DE X a G x) (hl : DO X lo G l) (hh : DO X hi G u) (h : OpS r (.d x) l u (.d d)) : DE X (.Subscript a (.Slice lo hi none p2) pos) G d := fun C =>
  ev_sl hr (ha C) (hl C) (hh C) fun _ _ _ e1 e2 e3 => ⟨_, rfl, by rw [e1, e2, e3]; exact h⟩
theorem dn_sl {lo hi : Option Expr} {p2 : Pos} {r : V → Option Int → Option Int → Hp → VK → Prop} {l u : Option Int} {x : PyData} {d : List PyData} (hr : SlR X r) (ha : DE X a G x) (hl : DO X lo G l) (hh : DO X hi G u) (h : OpSN r (.d x) l u d) : DN X (.Subscript a (.Slice lo hi none p2) pos) G d := fun C =>
  evn_sl hr (ha C) (hl C) (hh C) fun _ _ _ e1 e2 e3 => ⟨_, rfl, by rw [e1, e2, e3]; exact h⟩
end
end QL
/-! The data layer, 3: comprehensions, calls of own defs. -/
namespace QL
open PySem PySem.Spec PyProof.Rows L2

/-! ### what is walked, as a list of data -/
structure WalksD (I : Hp) (J : It) (ds : List PyData) : Prop where
  go : ∀ i H, Same I H → i < ds.length → J.go i H
  yld : ∀ i H x H', Same I H → J.yld i H x H' → H' = H ∧ ∀ d, ds[i]? = some d → Dq I x d
  stop : ∀ i H, Same I H → ds.length ≤ i → J.stop i H
theorem WalksD.mono {I I' : Hp} {J : It} {ds : List PyData} (w : WalksD I J ds) (e : Same I I') : WalksD I' J ds :=
  ⟨fun i H h => w.go i H (e.trans h), fun i H x H' h y => ⟨(w.yld i H x H' (e.trans h) y).1, fun d g => ((w.yld i H x H' (e.trans h) y).2 d g).mono e⟩, fun i H h => w.stop i H (e.trans h)⟩
theorem sql_inj {K : PySem.W.Frag} {I H : Hp} {a : Addr} {xs : List V} (h : I a = some (.lst xs)) (s : Same I H) : SqL K H a xs := .inl (.inl (s _ _ h))
theorem sqt_inj {K : PySem.W.Frag} {I H : Hp} {a : Addr} {xs : List V} (h : I a = some (.tup xs)) (s : Same I H) : SqT K H a xs := .inl (.inl (s _ _ h))
theorem walks_list {K : PySem.W.Frag} {I : Hp} {a : Addr} {xs : List V} {ds : List PyData} (h : I a = some (.lst xs)) (hd : DqAll I xs ds) : WalksD I (Itl K a) ds where
  go := fun i H s hi => by
    have hi' : i < xs.length := by rw [hd.len]; exact hi
    exact ⟨xs, xs[i], sql_inj h s, List.getElem?_eq_getElem hi'⟩
  yld := fun i H x H' s y => ⟨y.1, fun d g => by
    obtain ⟨v, h1, h2⟩ := hd.at g
    have e := y.2 xs (sql_inj h s)
    rw [h1] at e
    cases e
    exact h2⟩
  stop := fun i H s hi => ⟨xs, sql_inj h s, by rw [hd.len]; exact hi⟩
theorem walks_tup {K : PySem.W.Frag} {I : Hp} {a : Addr} {xs : List V} {ds : List PyData} (h : I a = some (.tup xs)) (hd : DqAll I xs ds) : WalksD I (Itt K a) ds where
  go := fun i H s hi => by
    have hi' : i < xs.length := by rw [hd.len]; exact hi
    exact ⟨xs, xs[i], sqt_inj h s, List.getElem?_eq_getElem hi'⟩
  yld := fun i H x H' s y => ⟨y.1, fun d g => by
    obtain ⟨v, h1, h2⟩ := hd.at g
    have e := y.2 xs (sqt_inj h s)
    rw [h1] at e
    cases e
    exact h2⟩
  stop := fun i H s hi => ⟨xs, sqt_inj h s, by rw [hd.len]; exact hi⟩
/-- one sign as a text -/
abbrev sg (c : Nat) : PyData := .str ⟨#[c]⟩
abbrev tl (x : Str) : List Nat := x.cps.toList
theorem walks_str {I : Hp} (t : Str) : WalksD I (Its t) ((tl t).map sg) where
  go := fun i H s hi => by
    show i < t.cps.size
    simpa using hi
  yld := fun i H x H' s y => ⟨y.1, fun d g => by
    obtain ⟨c, h1, rfl⟩ := y.2
    rw [List.getElem?_map, show (tl t)[i]? = some c from by simpa using h1] at g
    cases g
    exact .str _⟩
  stop := fun i H s hi => by
    show t.cps.size ≤ i
    simpa using hi
theorem walks_rng {I : Hp} (lo : Int) (n : Nat) : WalksD I (Itr lo n) ((List.range n).map fun (i : Nat) => .int (lo + (i : Int))) where
  go := fun i H s hi => by
    show i < n
    simpa using hi
  yld := fun i H x H' s y => ⟨y.1, fun d g => by
    obtain ⟨e, rfl⟩ := y
    rw [List.getElem?_map] at g
    cases q : (List.range n)[i]? with
    | none => rw [q] at g; cases g
    | some k =>
      rw [q] at g
      cases g
      have := List.getElem?_eq_some_iff.mp q
      obtain ⟨h1, h2⟩ := this
      rw [List.getElem_range] at h2
      subst h2
      exact .int _⟩
  stop := fun i H s hi => by
    show n ≤ i
    simpa using hi

def EvI (X : Cx) (C : Cs) (tg iter : Expr) (G : List Sl) (P : List PyData → Prop) : Prop :=
  ∃ wi : TI, PI X tg iter wi ∧ ∀ (σ : L2.St) (I H : Hp) (R : It → Hp → Prop), EnvOk σ G I → Same I H → StOk C I H → (∀ J I' H' ds, P ds → Ext C I H I' H' → StOk C I' H' → WalksD I' J ds → R J H') → wi σ H R
abbrev DI (X : Cx) (tg iter : Expr) (G : List Sl) (ds : List PyData) : Prop := ∀ C, EvI X C tg iter G (· = ds)
section
variable {X : Cx} {C : Cs} {e a b tg : Expr} {G : List Sl} {P : List PyData → Prop} {pos : Pos}
theorem evi_list (h : Ev X C e G (fun r => ∃ ds, P ds ∧ r = .d (.list ds))) : EvI X C tg e G P := ⟨_, pi_list pe_wp, fun σ I H R hE hS hC q => h σ I H _ hE hS hC fun v I1 H1 r p x c o => by
  obtain ⟨ds, pd, rfl⟩ := p
  cases o with
  | lst h1 h2 => exact ⟨_, rfl, ⟨_, sql_inj h1 x.sub⟩, q _ I1 H1 ds pd x c (walks_list h1 h2)⟩⟩
theorem di_list {ds : List PyData} (h : DE X e G (.list ds)) : DI X tg e G ds := fun C => evi_list ((h C).imp fun r z => ⟨ds, rfl, z⟩)
theorem evi_tup (h : Ev X C e G (fun r => ∃ ds, P ds ∧ r = .d (.tuple ds))) : EvI X C tg e G P := ⟨_, pi_tup pe_wp, fun σ I H R hE hS hC q => h σ I H _ hE hS hC fun v I1 H1 r p x c o => by
  obtain ⟨ds, pd, rfl⟩ := p
  cases o with
  | tup h1 h2 => exact ⟨_, rfl, ⟨_, sqt_inj h1 x.sub⟩, q _ I1 H1 ds pd x c (walks_tup h1 h2)⟩⟩
theorem di_tup {ds : List PyData} (h : DE X e G (.tuple ds)) : DI X tg e G ds := fun C => evi_tup ((h C).imp fun r z => ⟨ds, rfl, z⟩)
theorem di_str {t : Str} (h : DE X e G (.str t)) : DI X tg e G ((tl t).map sg) := fun C => ⟨_, pi_str pe_wp, fun σ I H R hE hS hC q => h C σ I H _ hE hS hC fun v I1 H1 r p x c o => by
  subst p
  cases o
  exact ⟨t, rfl, q _ I1 H1 _ rfl x c (walks_str t)⟩⟩
theorem evi_rng1 {p : Pos} (h : Ev X C a G (fun r => ∃ j : Int, (-(2 ^ 62) ≤ j ∧ j < 2 ^ 62) ∧ P ((List.range j.toNat).map fun (i : Nat) => .int (0 + (i : Int))) ∧ r = .d (.int j))) (hm : X.mg "range" = none) (hg : Gl X "range" := by rfl) (hs : starEach [a] X.env = [(false, eval a X.env)] := by rfl) : EvI X C tg (.Call (.Name "range" p) [a] [] pos) G P :=
  ⟨_, pi_range1 hg hm pa_wp hs, fun σ I H R hE hS hC q => eva_cons (P := fun rs => ∃ j : Int, (-(2 ^ 62) ≤ j ∧ j < 2 ^ 62) ∧ P ((List.range j.toNat).map fun (i : Nat) => .int (0 + (i : Int))) ∧ rs = [.d (.int j)]) h eva_nil (fun x xs ⟨j, h1, h2, h3⟩ e => ⟨j, h1, h2, by rw [h3, e]⟩) hs σ I H _ hE hS hC fun vs I1 H1 rs p x c o => by
    obtain ⟨j, h1, h2, rfl⟩ := p
    cases o with
    | cons o1 o2 =>
      cases o1
      cases o2
      exact ⟨j, rfl, h1.1, h1.2, q _ I1 H1 _ h2 x c (walks_rng 0 j.toNat)⟩⟩
theorem di_rng1 {p : Pos} {j : Int} (h : DE X a G (.int j)) (hm : X.mg "range" = none) (hj : -(2 ^ 62) ≤ j ∧ j < 2 ^ 62) (hg : Gl X "range" := by rfl) (hs : starEach [a] X.env = [(false, eval a X.env)] := by rfl) : DI X tg (.Call (.Name "range" p) [a] [] pos) G ((List.range j.toNat).map fun (i : Nat) => .int (0 + (i : Int))) := fun C =>
  evi_rng1 ((h C).imp fun r z => ⟨j, hj, rfl, z⟩) hm hg hs
theorem di_rng2 {p : Pos} {i j : Int} (ha : DE X a G (.int i)) (hb : DE X b G (.int j)) (hm : X.mg "range" = none) (hi : -(2 ^ 62) ≤ i ∧ i < 2 ^ 62) (hj : -(2 ^ 62) ≤ j ∧ j < 2 ^ 62) (hg : Gl X "range" := by rfl) (hs : starEach [a, b] X.env = [(false, eval a X.env), (false, eval b X.env)] := by rfl) (hs2 : starEach [b] X.env = [(false, eval b X.env)] := by rfl) :
    DI X tg (.Call (.Name "range" p) [a, b] [] pos) G ((List.range (j - i).toNat).map fun (k : Nat) => .int (i + (k : Int))) := fun C =>
  ⟨_, pi_range2 hg hm pa_wp hs hs2, fun σ I H R hE hS hC q => da_cons (rs := [.d (.int j)]) ha (da_cons hb da_nil hs2) (by rw [hs, hs2]) C σ I H _ hE hS hC fun vs I1 H1 rs p x c o => by
    subst p
    cases o with
    | cons o1 o2 =>
      cases o1
      cases o2 with
      | cons o3 o4 =>
        cases o3
        cases o4
        exact ⟨i, j, rfl, ⟨hi.1, hi.2, hj.1, hj.2⟩, q _ I1 H1 _ rfl x c (walks_rng i (j - i).toNat)⟩⟩
end

theorem DI_of {X : Cx} {tg e : Expr} {G : List Sl} {α : Type} {f : α → PyData} {xs ys : List α} (h : xs = ys) (d : DI X tg e G (xs.map f)) : DI X tg e G (ys.map f) := h ▸ d
/-! ### comprehensions -/
structure wpTs (X : Cx) (ifs : List Expr) (σ : L2.St) (H : Hp) (Q : Bool → Hp → Prop) : Prop where
  run : ∀ (pins : List (Addr × Obj)) (s : Shared), Inv X pins σ H s → wpAny (model X.prog X.w) X.A (forIn ifs true fun c r => if r = true then do let ok ← isTrue c X.env (eval c X.env); pure (ForInStep.yield ok) else pure (ForInStep.yield r)) (TP X pins σ Q) X.xe s
def EvTs (X : Cx) (C : Cs) (ifs : List Expr) (G : List Sl) (P : Bool → Prop) : Prop :=
  ∀ (σ : L2.St) (I H : Hp) (Q : Bool → Hp → Prop), EnvOk σ G I → Same I H → StOk C I H → (∀ b I' H', P b → Ext C I H I' H' → StOk C I' H' → Q b H') → wpTs X ifs σ H Q
abbrev blkOf (X : Cx) (scope : Scope) (s : Shared) (H : Hp) (Ca : Addr) (cl : List (Str × Addr)) (fp : List Addr) : Cx := X.blk s H scope (compEnvC scope cl Ca X.env) fp
section
variable {X : Cx} {C : Cs} {G : List Sl} {pos : Pos}
theorem evts_nil : EvTs X C [] G (· = true) := fun σ I H Q hE hS hC q => ⟨fun pins s Iv => pts_nil.run pins s σ H Q Iv (q true I H rfl (Ext.refl hS) hC)⟩
theorem evts_one {c : Expr} {P : Bool → Prop} (h : EvT X C c G P) : EvTs X C [c] G P := fun σ I H Q hE hS hC q => ⟨fun pins s Iv => (pts_one pt_wp).run pins s σ H Q Iv (h σ I H Q hE hS hC q)⟩

theorem Ext.updNew {C : Cs} {I0 H0 I H : Hp} {p : Addr} {o : HO} (x : Ext C I0 H0 I H) (n0 : H0 p = none) (n : I p = none) : Ext C I0 H0 I (upd H p o) := by
  refine ⟨x.im, fun a u h => ?_, fun a u nd h => ?_, fun a h => ?_, x.new⟩
  · rw [upd_ne (ne_of_none h n)]; exact x.sub a u h
  · rw [upd_ne (ne_of_none h n0)]; exact x.keep a u nd h
  · by_cases ea : a = p
    · subst ea; rw [upd_same]; exact fun z => by cases z
    · rw [upd_ne ea]; exact x.there a h
theorem StOk.upd {C : Cs} {I H : Hp} {p : Addr} {o : HO} (h : StOk C I H) (n : ¬ dom C p) : StOk C I (upd H p o) := by
  cases C with
  | none => trivial
  | some sc =>
    obtain ⟨s, c⟩ := sc
    obtain ⟨hne, h1, h2, z, ns, h3, h4, h5⟩ := h
    refine ⟨hne, h1, h2, z, ns, ?_, ?_, h5⟩
    · rw [upd_ne (fun e => n (.inl e.symm))]; exact h3
    · rw [upd_ne (fun e => n (.inr e.symm))]; exact h4
theorem wipe1 (σ : L2.St) (j : Nat) (x : Option V) : wipe ((wipe σ [j]).set j x) [j] = wipe σ [j] := by
  show ((σ.set j none).set j x).set j none = σ.set j none
  rw [List.set_set, List.set_set]
/-- a comprehension evaluates to a new list with P, as a value and as what a name is given -/
def LcN (X : Cx) (C : Cs) (elt tg iter : Expr) (ifs : List Expr) (scope : Scope) (pos : Pos) (G : List Sl) (P : List PyData → Prop) : Prop :=
  ∃ t : TE, PE X (.ListComp elt [⟨tg, iter, ifs, 0⟩] scope pos) t ∧
    (∀ (i : Nat) (y : Str) (py spos : Pos), X.N[i]? = some y → X.env.scope.names.lookup y = some .local → swapsWith (.ListComp elt [⟨tg, iter, ifs, 0⟩] scope pos) (some (.Name y py)) spos.line X.env = pure true →
      PS X (.Assign [.Name y py] (.ListComp elt [⟨tg, iter, ifs, 0⟩] scope pos) spos) (tAsg t (gName i))) ∧
    ∀ (σ : L2.St) (I H : Hp) (Q : VK), EnvOk σ G I → Same I H → StOk C I H → (∀ p xs I' H' ds, P ds → Ext C I H I' H' → StOk C I' H' → H p = none → I' p = none → H' p = some (.lst xs) → DqAll I' xs ds → Q (.ref p) H') → t σ H Q
theorem LcN.n {elt tg iter : Expr} {ifs : List Expr} {scope : Scope} {P : List PyData → Prop} (h : LcN X C elt tg iter ifs scope pos G P) : EvN X C (.ListComp elt [⟨tg, iter, ifs, 0⟩] scope pos) G P := fun σ I H Q hE hS hC q => by
  obtain ⟨t, h1, _, h3⟩ := h
  exact of_pe h1 (h3 σ I H Q hE hS hC q)
abbrev DLc (X : Cx) (elt tg iter : Expr) (ifs : List Expr) (scope : Scope) (pos : Pos) (G : List Sl) (ds : List PyData) : Prop := ∀ C, LcN X C elt tg iter ifs scope pos G (· = ds)
theorem DLc.n {elt tg iter : Expr} {ifs : List Expr} {scope : Scope} {ds : List PyData} (h : DLc X elt tg iter ifs scope pos G ds) : DN X (.ListComp elt [⟨tg, iter, ifs, 0⟩] scope pos) G ds := fun C => (h C).n
/-- THE RULE: R ds i acc is kept from turn to turn -/
theorem lc_core {elt tg iter : Expr} {ifs : List Expr} {scope : Scope} {j : Nat} {x : Str} {Pd P : List PyData → Prop} (hc : X.calm = true) (hN : X.N.Nodup) (hi : EvI X C tg iter G Pd) (ok : BlkOk X.N X.env.scope scope [(x, j)])
    (hg : ∀ s H Ca cl fp, PG (blkOf X scope s H Ca cl fp) tg (gName j)) (R : List PyData → Nat → List PyData → Prop) (Pt : List PyData → Nat → List PyData → Bool → Prop)
    (hz : ∀ ds, Pd ds → ds.length ≤ sizeLine) (h0 : ∀ ds, Pd ds → R ds 0 [])
    (ht : ∀ ds i d acc, Pd ds → ds[i]? = some d → R ds i acc → ∀ s H Ca cl fp, EvTs (blkOf X scope s H Ca cl fp) C ifs (G.set j (.d d)) (Pt ds i acc))
    (hf : ∀ ds i d acc, Pd ds → ds[i]? = some d → R ds i acc → Pt ds i acc false → R ds (i + 1) acc)
    (he : ∀ ds i d acc, Pd ds → ds[i]? = some d → R ds i acc → Pt ds i acc true → ∀ s H Ca cl fp, Ev (blkOf X scope s H Ca cl fp) C elt (G.set j (.d d)) (fun r => ∃ y, r = .d y ∧ R ds (i + 1) (acc ++ [y])))
    (hd : ∀ ds acc, Pd ds → R ds ds.length acc → P acc) (hs : ∀ x, foldedSetIterable iter X.env x = pure x := by intro _; rfl) : LcN X C elt tg iter ifs scope pos G P := by
  obtain ⟨wi, hwi, hw⟩ := hi
  have htt : ∀ s H0 Ca cl fp, PTs (blkOf X scope s H0 Ca cl fp) ifs (fun σ H Q => ∀ s H0 Ca cl fp, wpTs (blkOf X scope s H0 Ca cl fp) ifs σ H Q) := fun s H0 Ca cl fp => ⟨fun pins s' σ' H' Q' Iv h => (h s H0 Ca cl fp).run pins s' Iv⟩
  have hee : ∀ s H0 Ca cl fp, PE (blkOf X scope s H0 Ca cl fp) elt (fun σ H Q => ∀ s H0 Ca cl fp, wpE (blkOf X scope s H0 Ca cl fp) elt σ H Q) := fun s H0 Ca cl fp => ⟨fun pins s' σ' H' Q' Iv h => (h s H0 Ca cl fp).run pins s' Iv⟩
  refine ⟨_, pe_lc (own := [(x, j)]) (g := gName j) hc hN hwi ok hg htt hee hs, fun i y py spos hy hyl hsw => ps_setLc (own := [(x, j)]) (g := gName j) hc hN hy hyl hsw hwi ok hg htt hee hs, fun σ I H Q hE hS hC q => ?_⟩
  refine hw σ I H _ hE hS hC fun J I1 H1 ds pd x1 c1 wk => ?_
  intro D nD
  have nI : I1 D = none := x1.sub.free nD
  have ndm : ¬ dom C D := ne_of_dom c1 nD
  have xm := Ext.mut (C := none) (o := .lst []) x1.sub nD
  -- the word between two turns
  let W : Nat → Hp → Prop := fun i H2 => ∃ I2 acc xs, Ext C I1 H1 I2 H2 ∧ StOk C I2 H2 ∧ I2 D = none ∧ H2 D = some (.lst xs) ∧ DqAll I2 xs acc ∧ acc.length ≤ i ∧ R ds i acc
  refine ⟨fun i m H2 => m = ds.length - i ∧ i ≤ ds.length ∧ W i H2, ⟨ds.length, rfl, Nat.zero_le _, I1, [], [], (Ext.refl x1.sub).updNew nD nI, c1.upd ndm, nI, upd_same, .nil, Nat.le_refl _, h0 ds pd⟩, ?_⟩
  rintro i m H2 ⟨rfl, hi', I2, acc, xs, x2, c2, n2, l2, d2, la, r2⟩
  have dl := d2.len
  have hzz := hz ds pd
  by_cases hlt : i < ds.length
  · refine .inr ⟨wk.go i H2 (x2.im.trans x2.sub) hlt, W (i + 1), fun H3 z => ⟨ds.length - (i + 1), by omega, rfl, hlt, z⟩, fun v H3 y => ?_⟩
    obtain ⟨e, hy⟩ := wk.yld i H2 v H3 (x2.im.trans x2.sub) y
    subst e
    obtain ⟨d, hd'⟩ : ∃ d, ds[i]? = some d := ⟨ds[i], List.getElem?_eq_getElem hlt⟩
    have dv : Dq I2 v d := (hy d hd').mono x2.im
    have hE2 : EnvOk ((wipe σ [j]).set j (some v)) (G.set j (.d d)) I2 := by
      show EnvOk ((σ.set j none).set j (some v)) (G.set j (.d d)) I2
      rw [List.set_set]
      exact (hE.mono (x1.im.trans x2.im)).set j dv
    have step : ∀ {b : Bool} {I3 H4 : Hp}, Pt ds i acc b → Ext C I2 H3 I3 H4 → StOk C I3 H4 →
        (if b = true then (∀ s H0 Ca cl fp, wpE (blkOf X scope s H0 Ca cl fp) elt ((wipe σ [j]).set j (some v)) H4 fun y H4 => ∃ acc, H4 D = some (.lst acc) ∧ acc.length < sizeLine ∧ W (i + 1) (upd H4 D (.lst (acc ++ [y])))) else W (i + 1) H4) := by
      intro b I3 H4 pb x3 c3
      have n3 : I3 D = none := x3.out n2 (by rw [l2]; exact fun z => by cases z)
      have l3 : H4 D = some (.lst xs) := x3.keep _ _ ndm l2
      cases b with
      | false => exact iteF ⟨I3, acc, xs, x2.trans x3, c3, n3, l3, d2.mono x3.im, by omega, hf ds i d acc pd hd' r2 pb⟩
      | true =>
        refine iteT fun s H0 Ca cl fp => he ds i d acc pd hd' r2 pb s H0 Ca cl fp _ I3 H4 _ (hE2.mono x3.im) x3.sub c3 fun w I4 H5 r ⟨z, ez, rz⟩ x4 c4 o4 => ?_
        subst ez
        have l4 : H5 D = some (.lst xs) := x4.keep _ _ ndm l3
        have n4 : I4 D = none := x4.out n3 (by rw [l3]; exact fun z => by cases z)
        exact ⟨xs, l4, by omega, I4, acc ++ [z], xs ++ [w], ((x2.trans x3).trans x4).updNew nD n4, c4.upd ndm, n4, upd_same, (d2.mono (x3.im.trans x4.im)).app (.cons o4 .nil), by rw [List.length_append]; show acc.length + 1 ≤ i + 1; omega, rz⟩
    exact ⟨wipe1 σ j _, fun s H0 Ca cl fp => ht ds i d acc pd hd' r2 s H0 Ca cl fp _ I2 H3 _ hE2 x2.sub c2 fun b I3 H4 pb x3 c3 => step pb x3 c3⟩
  · have e : i = ds.length := by omega
    subst e
    exact .inl ⟨wk.stop _ _ (x2.im.trans x2.sub) (Nat.le_refl _), q D xs I2 H2 acc (hd ds acc pd r2) (x1.trans x2) c2 (x1.free nD) n2 l2 d2⟩

theorem take_filter_step {α : Type} (c : α → Bool) (g : α → PyData) {xs : List α} {i : Nat} {x : α} (h : xs[i]? = some x) : ((xs.take (i + 1)).filter c).map g = ((xs.take i).filter c).map g ++ (if c x then [g x] else []) := by
  rw [List.take_add_one, h, List.filter_append, List.map_append]
  cases hc : c x <;> simp [hc]
theorem getq_map {α : Type} {xs : List α} {f : α → PyData} {i : Nat} {d : PyData} (h : (xs.map f)[i]? = some d) : ∃ x, xs[i]? = some x ∧ d = f x := by
  rw [List.getElem?_map] at h
  cases q : xs[i]? with
  | none => rw [q] at h; cases h
  | some x => rw [q] at h; cases h; exact ⟨x, rfl, rfl⟩
/-- determined: [g x for x in xs if c x], the items f x -/
theorem dlc {α : Type} {elt tg iter test : Expr} {scope : Scope} {j : Nat} {x : Str} (f : α → PyData) (xs : List α) (c : α → Bool) (g : α → PyData) (hi : DI X tg iter G (xs.map f)) (hz : xs.length ≤ sizeLine) (ok : BlkOk X.N X.env.scope scope [(x, j)])
    (hg : ∀ s H Ca cl fp, PG (blkOf X scope s H Ca cl fp) tg (gName j))
    (ht : ∀ y ∈ xs, ∀ s H Ca cl fp, DT (blkOf X scope s H Ca cl fp) test (G.set j (.d (f y))) (c y))
    (he : ∀ y ∈ xs, c y = true → ∀ s H Ca cl fp, DE (blkOf X scope s H Ca cl fp) elt (G.set j (.d (f y))) (g y))
    (hc : X.calm = true := by rfl) (hN : X.N.Nodup := by assumption) (hs : ∀ x, foldedSetIterable iter X.env x = pure x := by intro _; rfl) : DLc X elt tg iter [test] scope pos G ((xs.filter c).map g) := fun C =>
  lc_core hc hN (hi C) ok hg (fun _ i acc => acc = ((xs.take i).filter c).map g) (fun _ i _ b => ∀ y, xs[i]? = some y → b = c y) (fun ds e => by rw [e, List.length_map]; exact hz) (fun ds e => rfl)
    (fun ds i d acc e hd hr s H Ca cl fp => by
      rw [e] at hd
      obtain ⟨y, hy, rfl⟩ := getq_map hd
      exact evts_one ((ht y (List.mem_of_getElem? hy) s H Ca cl fp C).imp fun b z y' hy' => by rw [hy] at hy'; cases hy'; exact z))
    (fun ds i d acc e hd hr pt => by
      rw [e] at hd
      obtain ⟨y, hy, rfl⟩ := getq_map hd
      rw [take_filter_step c g hy, ← pt y hy, ← hr]
      simp)
    (fun ds i d acc e hd hr pt s H Ca cl fp => by
      rw [e] at hd
      obtain ⟨y, hy, rfl⟩ := getq_map hd
      refine (he y (List.mem_of_getElem? hy) (pt y hy).symm s H Ca cl fp C).imp fun r z => ⟨_, z, ?_⟩
      rw [take_filter_step c g hy, ← pt y hy, ← hr]
      simp)
    (fun ds acc e hr => by
      rw [hr, e, List.length_map, List.take_length]) hs
theorem dlc0 {α : Type} {elt tg iter : Expr} {scope : Scope} {j : Nat} {x : Str} (f : α → PyData) (xs : List α) (g : α → PyData) (hi : DI X tg iter G (xs.map f)) (hz : xs.length ≤ sizeLine) (ok : BlkOk X.N X.env.scope scope [(x, j)])
    (hg : ∀ s H Ca cl fp, PG (blkOf X scope s H Ca cl fp) tg (gName j))
    (he : ∀ y ∈ xs, ∀ s H Ca cl fp, DE (blkOf X scope s H Ca cl fp) elt (G.set j (.d (f y))) (g y))
    (hc : X.calm = true := by rfl) (hN : X.N.Nodup := by assumption) (hs : ∀ x, foldedSetIterable iter X.env x = pure x := by intro _; rfl) : DLc X elt tg iter [] scope pos G (xs.map g) := fun C =>
  lc_core hc hN (hi C) ok hg (fun _ i acc => acc = (xs.take i).map g) (fun _ i _ b => b = true) (fun ds e => by rw [e, List.length_map]; exact hz) (fun ds e => rfl)
    (fun ds i d acc e hd hr s H Ca cl fp => evts_nil)
    (fun ds i d acc e hd hr pt => by cases pt)
    (fun ds i d acc e hd hr pt s H Ca cl fp => by
      rw [e] at hd
      obtain ⟨y, hy, rfl⟩ := getq_map hd
      refine (he y (List.mem_of_getElem? hy) s H Ca cl fp C).imp fun r z => ⟨_, z, ?_⟩
      rw [List.take_add_one, hy, List.map_append, hr]
      rfl)
    (fun ds acc e hr => by
      rw [hr, e, List.length_map, List.take_length]) hs
/-- not determined: as many as turns at most, all with Pe -/
theorem lcP {elt tg iter : Expr} {scope : Scope} {j : Nat} {x : Str} {Pd : List PyData → Prop} (Pe : PyData → Prop) (hi : EvI X C tg iter G Pd) (ok : BlkOk X.N X.env.scope scope [(x, j)])
    (hg : ∀ s H Ca cl fp, PG (blkOf X scope s H Ca cl fp) tg (gName j)) (hz : ∀ ds, Pd ds → ds.length ≤ sizeLine)
    (he : ∀ ds d, Pd ds → d ∈ ds → ∀ s H Ca cl fp, Ev (blkOf X scope s H Ca cl fp) C elt (G.set j (.d d)) (fun r => ∃ y, r = .d y ∧ Pe y))
    (hc : X.calm = true := by rfl) (hN : X.N.Nodup := by assumption) (hs : ∀ x, foldedSetIterable iter X.env x = pure x := by intro _; rfl) : LcN X C elt tg iter [] scope pos G (fun acc => ∃ ds, Pd ds ∧ acc.length = ds.length ∧ ∀ y ∈ acc, Pe y) :=
  lc_core hc hN hi ok hg (fun _ i acc => acc.length = i ∧ ∀ y ∈ acc, Pe y) (fun _ i _ b => b = true) hz (fun ds e => ⟨rfl, fun y h => by cases h⟩)
    (fun ds i d acc e hd hr s H Ca cl fp => evts_nil)
    (fun ds i d acc e hd hr pt => by cases pt)
    (fun ds i d acc e hd hr pt s H Ca cl fp => (he ds d e (List.mem_of_getElem? hd) s H Ca cl fp).imp fun r ⟨y, e1, e2⟩ => ⟨y, e1, by rw [List.length_append, hr.1]; rfl, fun z hz => by
      rcases List.mem_append.mp hz with h | h
      · exact hr.2 z h
      · rw [List.mem_singleton.mp h]; exact e2⟩)
    (fun ds acc e hr => ⟨ds, e, hr.1, hr.2⟩) hs
theorem lcPt {elt tg iter test : Expr} {scope : Scope} {j : Nat} {x : Str} {Pd : List PyData → Prop} (Pe : PyData → Prop) (hi : EvI X C tg iter G Pd) (ok : BlkOk X.N X.env.scope scope [(x, j)])
    (hg : ∀ s H Ca cl fp, PG (blkOf X scope s H Ca cl fp) tg (gName j)) (hz : ∀ ds, Pd ds → ds.length ≤ sizeLine)
    (ht : ∀ ds d, Pd ds → d ∈ ds → ∀ s H Ca cl fp, EvT (blkOf X scope s H Ca cl fp) C test (G.set j (.d d)) (fun _ => True))
    (he : ∀ ds d, Pd ds → d ∈ ds → ∀ s H Ca cl fp, Ev (blkOf X scope s H Ca cl fp) C elt (G.set j (.d d)) (fun r => ∃ y, r = .d y ∧ Pe y))
    (hc : X.calm = true := by rfl) (hN : X.N.Nodup := by assumption) (hs : ∀ x, foldedSetIterable iter X.env x = pure x := by intro _; rfl) : LcN X C elt tg iter [test] scope pos G (fun acc => ∃ ds, Pd ds ∧ acc.length ≤ ds.length ∧ ∀ y ∈ acc, Pe y) :=
  lc_core hc hN hi ok hg (fun _ i acc => acc.length ≤ i ∧ ∀ y ∈ acc, Pe y) (fun _ i _ b => True) hz (fun ds e => ⟨Nat.le_refl _, fun y h => by cases h⟩)
    (fun ds i d acc e hd hr s H Ca cl fp => evts_one (ht ds d e (List.mem_of_getElem? hd) s H Ca cl fp))
    (fun ds i d acc e hd hr pt => ⟨by have := hr.1; omega, hr.2⟩)
    (fun ds i d acc e hd hr pt s H Ca cl fp => (he ds d e (List.mem_of_getElem? hd) s H Ca cl fp).imp fun r ⟨y, e1, e2⟩ => ⟨y, e1, by rw [List.length_append]; have := hr.1; show acc.length + 1 ≤ i + 1; omega, fun z hz => by
      rcases List.mem_append.mp hz with h | h
      · exact hr.2 z h
      · rw [List.mem_singleton.mp h]; exact e2⟩)
    (fun ds acc e hr => ⟨ds, e, hr.1, hr.2⟩) hs
end

/-! ### own defs -/
/-- what a def that raises nothing promises: F C rs P: called with rs (the draw's state C) it hands back something with P -/
abbrev Spc := Cs → List Sl → (Sl → Prop) → Prop
def spF (F : Spc) : Sp := fun vs H Q _ => ∃ (C : Cs) (I : Hp) (rs : List Sl) (P : Sl → Prop), SlAll I vs rs ∧ Same I H ∧ StOk C I H ∧ F C rs P ∧ ∀ v I' H' r, P r → Ext C I H I' H' → StOk C I' H' → r.ok I' v → Q v H'
section
variable {X : Cx} {C : Cs} {G : List Sl} {pos p : Pos} {P : Sl → Prop} {k : Nat} {f : Addr} {fd : FuncData} {ps : List Str} {F : Spc} {x : Str} {e : Expr} {es : List Expr}
theorem ev_call {Pa : List Sl → Prop} (g : FnOk X.prog X.w X.K X.mg X.base CX0 k f fd ps (spF F)) (hr : Room k X.A) (hm : X.mg x = some (.ref f)) (hk : PySem.W.keepIn X.K (.ref f) = true) (hb : Binds X.K fd ps []) (ha : EvA X C (e :: es) G Pa) (h : ∀ rs, Pa rs → F C rs P)
    (hg : Gl X x := by rfl) (hdb : (x == ("__debug__" : Str)) = false := by decide) (he : starEach (e :: es) X.env = (false, eval e X.env) :: starEach es X.env := by rfl) (hpl : (backTo pos (starEach es X.env)).any (·.1) = false := by rfl) : Ev X C (.Call (.Name x p) (e :: es) [] pos) G P := fun σ I H Q hE hS hC q =>
  of_pe (pe_call g hr hg hm hk hb .nil pass0 pa_wp hdb he hpl) (ha σ I H _ hE hS hC fun vs I1 H1 rs pr x1 c1 o1 => ⟨C, I1, rs, P, by rw [List.append_nil]; exact o1, x1.sub, c1, h rs pr, fun v I2 H2 r p2 x2 c2 o2 => q v I2 H2 r p2 (x1.trans x2) c2 o2⟩)
/-- determined -/
theorem de_call {rs : List Sl} {d : PyData} (g : FnOk X.prog X.w X.K X.mg X.base CX0 k f fd ps (spF F)) (hr : Room k X.A) (hm : X.mg x = some (.ref f)) (hk : PySem.W.keepIn X.K (.ref f) = true) (hb : Binds X.K fd ps []) (ha : DA X (e :: es) G rs) (h : ∀ C, F C rs (· = .d d))
    (hg : Gl X x := by rfl) (hdb : (x == ("__debug__" : Str)) = false := by decide) (he : starEach (e :: es) X.env = (false, eval e X.env) :: starEach es X.env := by rfl) (hpl : (backTo pos (starEach es X.env)).any (·.1) = false := by rfl) : DE X (.Call (.Name x p) (e :: es) [] pos) G d := fun C =>
  ev_call g hr hm hk hb (ha C) (fun rs' e => by rw [e]; exact h C) hg hdb he hpl
end
end QL
/-! The data layer, 4: statements. -/
namespace QL
open PySem PySem.Spec PyProof.Rows L2

/-- the one list in hand that may change: where, what it holds -/
abbrev Lo := Option (Addr × List PyData)
def LOk (C : Cs) (H0 I H : Hp) (L : Lo) : Prop := match L with
  | none => True
  | some (p, ds) => H0 p = none ∧ I p = none ∧ ¬ dom C p ∧ ∃ xs, H p = some (.lst xs) ∧ DqAll I xs ds
theorem LOk.ext {C : Cs} {H0 I H I' H' : Hp} {L : Lo} (h : LOk C H0 I H L) (x : Ext C I H I' H') : LOk C H0 I' H' L := by
  cases L with
  | none => trivial
  | some pd =>
    obtain ⟨p, ds⟩ := pd
    obtain ⟨h1, h2, h3, xs, h4, h5⟩ := h
    exact ⟨h1, x.out h2 (by rw [h4]; exact fun z => by cases z), h3, xs, x.keep _ _ h3 h4, h5.mono x.im⟩
/-- where a body stands: (I0, H0) at its entry -/
def Here (C : Cs) (I0 H0 : Hp) (G : List Sl) (L : Lo) (σ : L2.St) (H : Hp) : Prop :=
  ∃ I, EnvOk σ G I ∧ Ext C I0 H0 I H ∧ StOk C I H ∧ LOk C H0 I H L
def RtOk (C : Cs) (I0 H0 : Hp) (P : Sl → Prop) (Q : VK) : Prop := ∀ v I' H' r, P r → Ext C I0 H0 I' H' → StOk C I' H' → r.ok I' v → Q v H'
/-- a block, from here to what is wanted -/
def Bd (X : Cx) (C : Cs) (I0 H0 : Hp) (st : List Stmt) (G : List Sl) (L : Lo) (D : Ends) : Prop := ∀ σ H, Here C I0 H0 G L σ H → wpS X st D σ H
/-- what is wanted at the end of a block -/
abbrev Thn (C : Cs) (I0 H0 : Hp) (W : List Sl → Lo → Prop) : L2.St → Hp → Prop := fun σ H => ∃ G L, W G L ∧ Here C I0 H0 G L σ H
section
variable {X : Cx} {C : Cs} {I0 H0 : Hp} {G : List Sl} {L : Lo} {D : Ends} {rest a b body : List Stmt} {e c tg iter : Expr} {pos : Pos} {P Pe : Sl → Prop}
theorem Bd.forget (i : Nat) (h : Bd X C I0 H0 rest (G.set i .no) L D) : Bd X C I0 H0 rest G L D := fun σ H ⟨I, h1, h2⟩ => h σ H ⟨I, h1.forget i, h2⟩
/-- the end of a block -/
theorem bd_nil (h : ∀ σ H, Here C I0 H0 G L σ H → D.nx σ H) : Bd X C I0 H0 [] G L D := fun σ H he => of_pss pss_nil (h σ H he)
/-- .. that goes on with the rest -/
theorem bd_end {D0 : Ends} {Y : Cx} (h : Bd Y C I0 H0 rest G L D0) : Bd X C I0 H0 [] G L { D with nx := wpS Y rest D0 } := bd_nil h
theorem bd_thn {W : List Sl → Lo → Prop} (w : W G L) : Bd X C I0 H0 [] G L { D with nx := Thn C I0 H0 W } := bd_nil fun _ _ h => ⟨G, L, w, h⟩
/-- the list in hand, from now on as it is -/
theorem bd_frz {p : Addr} {ds : List PyData} {i : Nat} (hG : G[i]? = some (.v (.ref p))) (h : Bd X C I0 H0 rest (G.set i (.d (.list ds))) none D) : Bd X C I0 H0 rest G (some (p, ds)) D := fun σ H ⟨I, he, hx, hc, n0, nI, nd, xs, hl, hd⟩ => by
  have ss : Same I (upd I p (.lst xs)) := fun a o z => by rw [upd_ne (ne_of_none z nI)]; exact z
  have n00 : I0 p = none := by
    cases q : I0 p with
    | none => rfl
    | some o =>
      have := hx.im p o q
      rw [nI] at this; cases this
  refine h σ H ⟨upd I p (.lst xs), ⟨by simpa using he.1, fun j r g => ?_⟩, ⟨hx.im.trans ss, fun a o z => ?_, hx.keep, hx.there, fun a z => ?_⟩, ?_, trivial⟩
  · by_cases ej : i = j
    · subst ej
      have hi : i < G.length := (List.getElem?_eq_some_iff.mp hG).1
      rw [List.getElem?_set_self hi] at g
      cases g
      obtain ⟨v, h1, h2⟩ := he.get hG (fun z => by cases z)
      have h2' : v = .ref p := h2
      subst h2'
      exact .inr ⟨_, h1, .lst upd_same (hd.mono ss)⟩
    · rw [List.getElem?_set_ne ej] at g
      rcases he.2 j r g with z | ⟨v, h1, h2⟩
      · exact .inl z
      · exact .inr ⟨v, h1, h2.mono ss⟩
  · by_cases ea : a = p
    · subst ea; rw [upd_same] at z; cases z; exact hl
    · rw [upd_ne ea] at z; exact hx.sub a o z
  · by_cases ea : a = p
    · subst ea; exact .inr n0
    · rw [upd_ne ea] at z; exact hx.new a z
  · cases C with
    | none => trivial
    | some sc =>
      obtain ⟨s, c⟩ := sc
      obtain ⟨hne, h1, h2, z, ns, h3, h4, h5⟩ := hc
      refine ⟨hne, ?_, ?_, z, ns, h3, h4, h5⟩
      · rw [upd_ne (fun e => nd (.inl e.symm))]; exact h1
      · rw [upd_ne (fun e => nd (.inr e.symm))]; exact h2
/-- a reading over an evaluation -/
theorem ev_here (h : Ev X C e G P) {σ : L2.St} {H : Hp} {Q : VK} (he : Here C I0 H0 G L σ H) (q : ∀ v r I' H', P r → r.ok I' v → EnvOk σ G I' → Ext C I0 H0 I' H' → StOk C I' H' → LOk C H0 I' H' L → Q v H') : wpE X e σ H Q := by
  obtain ⟨I, h1, h2, h3, h4⟩ := he
  exact h σ I H Q h1 h2.sub h3 fun v I' H' r p x c o => q v r I' H' p o (h1.mono x.im) (h2.trans x) c (h4.ext x)
theorem evt_here {Pt : Bool → Prop} (h : EvT X C e G Pt) {σ : L2.St} {H : Hp} {Q : Bool → Hp → Prop} (he : Here C I0 H0 G L σ H) (q : ∀ k H', Pt k → Here C I0 H0 G L σ H' → Q k H') : wpT X e σ H Q := by
  obtain ⟨I, h1, h2, h3, h4⟩ := he
  exact h σ I H Q h1 h2.sub h3 fun k I' H' p x c => q k H' p ⟨I', h1.mono x.im, h2.trans x, c, h4.ext x⟩
theorem bd_ret (h : Ev X C e G P) (hq : RtOk C I0 H0 P D.rt) : Bd X C I0 H0 (.Return (some e) pos :: rest) G L D := fun σ H he =>
  of_pss (pss_cons (ps_ret pe_wp) (pss_wp (st := rest))) (ev_here h he fun v r I' H' p o _ x c _ => hq v I' H' r p x c o)
theorem bd_set {i : Nat} {x : Str} {px : Pos} (h : Ev X C e G Pe) (k : ∀ r, Pe r → Bd X C I0 H0 rest (G.set i r) L D) (hi : X.N[i]? = some x := by rfl) (hx : Loc X.env.scope x := by first | exact .inl rfl | exact .inr rfl)
    (hN : X.N.Nodup := by assumption) (hs : swapsWith e (some (.Name x px)) pos.line X.env = pure false := by rfl) (hf : X.fn x = true ∨ X.env.scope.names.lookup x = some .local := by first | exact .inl rfl | exact .inr rfl) : Bd X C I0 H0 (.Assign [.Name x px] e pos :: rest) G L D := fun σ H he =>
  of_pss (pss_cons (ps_set hN hi hx pe_wp hs hf) (pss_wp (st := rest))) (ev_here h he fun v r I' H' p o e' x c l => k r p (σ.set i (some v)) H' ⟨I', e'.set i o, x, c, l⟩)
theorem bd_setD {i : Nat} {x : Str} {px : Pos} {d : PyData} (h : DE X e G d) (k : Bd X C I0 H0 rest (G.set i (.d d)) L D) (hi : X.N[i]? = some x := by rfl) (hx : Loc X.env.scope x := by first | exact .inl rfl | exact .inr rfl)
    (hN : X.N.Nodup := by assumption) (hs : swapsWith e (some (.Name x px)) pos.line X.env = pure false := by rfl) (hf : X.fn x = true ∨ X.env.scope.names.lookup x = some .local := by first | exact .inl rfl | exact .inr rfl) : Bd X C I0 H0 (.Assign [.Name x px] e pos :: rest) G L D :=
  bd_set (h C) (fun r z => by rw [z]; exact k) hi hx hN hs hf
theorem bd_retD {d : PyData} (h : DE X e G d) (hP : P (.d d)) (hq : RtOk C I0 H0 P D.rt) : Bd X C I0 H0 (.Return (some e) pos :: rest) G L D := bd_ret ((h C).imp fun r z => by rw [z]; exact hP) hq
/-- a new list, that may change, given to a name -/
theorem bd_setN {i : Nat} {x : Str} {px : Pos} {Pn : List PyData → Prop} (h : EvN X C e G Pn) (k : ∀ p ds, Pn ds → Bd X C I0 H0 rest (G.set i (.v (.ref p))) (some (p, ds)) D) (hi : X.N[i]? = some x := by rfl) (hx : Loc X.env.scope x := by first | exact .inl rfl | exact .inr rfl)
    (hN : X.N.Nodup := by assumption) (hs : swapsWith e (some (.Name x px)) pos.line X.env = pure false := by rfl) (hf : X.fn x = true ∨ X.env.scope.names.lookup x = some .local := by first | exact .inl rfl | exact .inr rfl) : Bd X C I0 H0 (.Assign [.Name x px] e pos :: rest) G L D := fun σ H ⟨I, h1, h2, h3, h4⟩ =>
  of_pss (pss_cons (ps_set hN hi hx pe_wp hs hf) (pss_wp (st := rest))) (h σ I H _ h1 h2.sub h3 fun p xs I' H' ds pn x c n n' hl hd => k p ds pn (σ.set i (some (.ref p))) H' ⟨I', (h1.mono x.im).set (r := .v (.ref p)) i rfl, h2.trans x, c, h2.free n, n', ne_of_dom h3 n, xs, hl, hd⟩)
/-- name = [..] on one line, the name a local; from now on as it is -/
theorem bd_setLc {i : Nat} {y : Str} {py ppos : Pos} {elt : Expr} {ifs : List Expr} {scope : Scope} {Pn : List PyData → Prop} (h : LcN X C elt tg iter ifs scope ppos G Pn) (k : ∀ ds, Pn ds → Bd X C I0 H0 rest (G.set i (.d (.list ds))) L D) (hi : X.N[i]? = some y := by rfl) (hl : X.env.scope.names.lookup y = some .local := by rfl)
    (hsw : swapsWith (.ListComp elt [⟨tg, iter, ifs, 0⟩] scope ppos) (some (.Name y py)) pos.line X.env = pure true := by exact sw_true rfl rfl rfl (by decide +kernel)) : Bd X C I0 H0 (.Assign [.Name y py] (.ListComp elt [⟨tg, iter, ifs, 0⟩] scope ppos) pos :: rest) G L D := fun σ H he => by
  obtain ⟨t, h1, h2, h3⟩ := h
  obtain ⟨I, g1, g2, g3, g4⟩ := he
  have fz : ∀ (Q : VK), (∀ v I' H' (r : Sl), (∃ ds, Pn ds ∧ r = .d (.list ds)) → Ext C I H I' H' → StOk C I' H' → r.ok I' v → Q v H') → t σ H Q := fun Q q => by
    have hS := g2.sub
    refine h3 σ I H Q g1 hS g3 fun p xs I' H' ds hp hx hc n n' hl' hd => ?_
    have x1 : Ext C I H (upd I' p (.lst xs)) H' := by
      refine ⟨fun a o z => ?_, fun a o z => ?_, hx.keep, hx.there, fun a z => ?_⟩
      · rw [upd_ne (ne_of_none (hS a o z) n)]; exact hx.im a o z
      · by_cases e : a = p
        · subst e; rw [upd_same] at z; cases z; exact hl'
        · rw [upd_ne e] at z; exact hx.sub a o z
      · by_cases e : a = p
        · subst e; exact .inr n
        · rw [upd_ne e] at z; exact hx.new a z
    have ss : Same I' (upd I' p (.lst xs)) := fun a o z => by rw [upd_ne (ne_of_none z n')]; exact z
    refine q (.ref p) (upd I' p (.lst xs)) H' _ ⟨ds, hp, rfl⟩ x1 ?_ (.lst upd_same (hd.mono ss))
    cases C with
    | none => trivial
    | some sc =>
      obtain ⟨s, c⟩ := sc
      obtain ⟨hne, q1, q2, z, ns, q3, q4, q5⟩ := hc
      have np := ne_of_dom g3 n
      refine ⟨hne, ?_, ?_, z, ns, q3, q4, q5⟩
      · rw [upd_ne (fun e => np (.inl e.symm))]; exact q1
      · rw [upd_ne (fun e => np (.inr e.symm))]; exact q2
  exact of_pss (pss_cons (h2 i y py pos hi hl hsw) (pss_wp (st := rest))) (fz _ fun v I' H' r ⟨ds, pn, er⟩ x c o => k ds pn (σ.set i (some v)) H' ⟨I', by subst er; exact (g1.mono x.im).set i o, g2.trans x, c, g4.ext x⟩)
theorem bd_setLcD {i : Nat} {y : Str} {py ppos : Pos} {elt : Expr} {ifs : List Expr} {scope : Scope} {ds : List PyData} (h : DLc X elt tg iter ifs scope ppos G ds) (k : Bd X C I0 H0 rest (G.set i (.d (.list ds))) L D) (hi : X.N[i]? = some y := by rfl) (hl : X.env.scope.names.lookup y = some .local := by rfl)
    (hsw : swapsWith (.ListComp elt [⟨tg, iter, ifs, 0⟩] scope ppos) (some (.Name y py)) pos.line X.env = pure true := by exact sw_true rfl rfl rfl (by decide +kernel)) : Bd X C I0 H0 (.Assign [.Name y py] (.ListComp elt [⟨tg, iter, ifs, 0⟩] scope ppos) pos :: rest) G L D :=
  bd_setLc (h C) (fun ds' z => by rw [z]; exact k) hi hl hsw
/-- a, b = e | a, b, c = e -/
theorem bd_un2 {i j : Nat} {x y : Str} {px py pt : Pos} {kt : Nat} {Pd : PyData → PyData → Prop} (h : Ev X C e G (fun r => ∃ u w, r = .d (.tuple [u, w]) ∧ Pd u w)) (k : ∀ u w, Pd u w → Bd X C I0 H0 rest ((G.set i (.d u)).set j (.d w)) L D)
    (hc : X.calm = true := by rfl) (g1 : PG X (.Name x px) (gName i)) (g2 : PG X (.Name y py) (gName j))
    (hs : swapsWithSole [.Tuple [.Name x px, .Name y py] kt pt] e pos.line X.env = pure false := by rfl) (hw : swappedStores [.Tuple [.Name x px, .Name y py] kt pt] e X.env = pure none := by rfl)
    (h1 : (assignEach [.Tuple [.Name x px, .Name y py] kt pt] X.env).map (·.2) = [assign (.Tuple [.Name x px, .Name y py] kt pt) X.env] := by rfl)
    (h2 : (assignEach [.Name x px, .Name y py] X.env).map (·.2) = assign (.Name x px) X.env :: (assignEach [.Name y py] X.env).map (·.2) := by rfl) (h3 : (assignEach [.Name y py] X.env).map (·.2) = assign (.Name y py) X.env :: (assignEach [] X.env).map (·.2) := by rfl)
    (hn : (assignEach [.Name x px, .Name y py] X.env).length = 2 := by rfl) (hst : (assignEach [.Name x px, .Name y py] X.env).findIdx? (·.1) = none := by rfl) : Bd X C I0 H0 (.Assign [.Tuple [.Name x px, .Name y py] kt pt] e pos :: rest) G L D := fun σ H he =>
  of_pss (pss_cons (ps_asg pe_wp (pg_tup hc (pgs_cons g1 (pgs_cons g2 pgs_nil h3) h2) hn hst) hs hw h1) (pss_wp (st := rest))) (ev_here h he fun v r I' H' p o e' x c l => by
    obtain ⟨u, w, rfl, pd⟩ := p
    cases o with
    | tup t1 t2 =>
      cases t2 with
      | cons o1 t2 =>
        cases t2 with
        | cons o2 t2 =>
          cases t2
          exact ⟨_, _, rfl, sqt_inj t1 x.sub, rfl, _, _, rfl, _, _, rfl, rfl, k u w pd _ H' ⟨I', (e'.set i (r := .d u) o1).set j (r := .d w) o2, x, c, l⟩⟩)
theorem bd_un3 {i j m : Nat} {x y z : Str} {px py pz pt : Pos} {kt : Nat} {Pd : PyData → PyData → PyData → Prop} (h : Ev X C e G (fun r => ∃ u w t, r = .d (.tuple [u, w, t]) ∧ Pd u w t)) (k : ∀ u w t, Pd u w t → Bd X C I0 H0 rest (((G.set i (.d u)).set j (.d w)).set m (.d t)) L D)
    (hc : X.calm = true := by rfl) (g1 : PG X (.Name x px) (gName i)) (g2 : PG X (.Name y py) (gName j)) (g3 : PG X (.Name z pz) (gName m))
    (hs : swapsWithSole [.Tuple [.Name x px, .Name y py, .Name z pz] kt pt] e pos.line X.env = pure false := by rfl) (hw : swappedStores [.Tuple [.Name x px, .Name y py, .Name z pz] kt pt] e X.env = pure none := by rfl)
    (h1 : (assignEach [.Tuple [.Name x px, .Name y py, .Name z pz] kt pt] X.env).map (·.2) = [assign (.Tuple [.Name x px, .Name y py, .Name z pz] kt pt) X.env] := by rfl)
    (h2 : (assignEach [.Name x px, .Name y py, .Name z pz] X.env).map (·.2) = assign (.Name x px) X.env :: (assignEach [.Name y py, .Name z pz] X.env).map (·.2) := by rfl) (h3 : (assignEach [.Name y py, .Name z pz] X.env).map (·.2) = assign (.Name y py) X.env :: (assignEach [.Name z pz] X.env).map (·.2) := by rfl)
    (h4 : (assignEach [.Name z pz] X.env).map (·.2) = assign (.Name z pz) X.env :: (assignEach [] X.env).map (·.2) := by rfl)
    (hn : (assignEach [.Name x px, .Name y py, .Name z pz] X.env).length = 3 := by rfl) (hst : (assignEach [.Name x px, .Name y py, .Name z pz] X.env).findIdx? (·.1) = none := by rfl) : Bd X C I0 H0 (.Assign [.Tuple [.Name x px, .Name y py, .Name z pz] kt pt] e pos :: rest) G L D := fun σ H he =>
  of_pss (pss_cons (ps_asg pe_wp (pg_tup hc (pgs_cons g1 (pgs_cons g2 (pgs_cons g3 pgs_nil h4) h3) h2) hn hst) hs hw h1) (pss_wp (st := rest))) (ev_here h he fun v r I' H' p o e' x c l => by
    obtain ⟨u, w, t, rfl, pd⟩ := p
    cases o with
    | tup t1 t2 =>
      cases t2 with
      | cons o1 t2 =>
        cases t2 with
        | cons o2 t2 =>
          cases t2 with
          | cons o3 t2 =>
            cases t2
            exact ⟨_, _, rfl, sqt_inj t1 x.sub, rfl, _, _, rfl, _, _, rfl, _, _, rfl, rfl, k u w t pd _ H' ⟨I', ((e'.set i (r := .d u) o1).set j (r := .d w) o2).set m (r := .d t) o3, x, c, l⟩⟩)
theorem bd_un2D {i j : Nat} {x y : Str} {px py pt : Pos} {kt : Nat} {u w : PyData} (h : DE X e G (.tuple [u, w])) (k : Bd X C I0 H0 rest ((G.set i (.d u)).set j (.d w)) L D)
    (g1 : PG X (.Name x px) (gName i)) (g2 : PG X (.Name y py) (gName j)) (hc : X.calm = true := by rfl)
    (hs : swapsWithSole [.Tuple [.Name x px, .Name y py] kt pt] e pos.line X.env = pure false := by rfl) (hw : swappedStores [.Tuple [.Name x px, .Name y py] kt pt] e X.env = pure none := by rfl)
    (h1 : (assignEach [.Tuple [.Name x px, .Name y py] kt pt] X.env).map (·.2) = [assign (.Tuple [.Name x px, .Name y py] kt pt) X.env] := by rfl)
    (h2 : (assignEach [.Name x px, .Name y py] X.env).map (·.2) = assign (.Name x px) X.env :: (assignEach [.Name y py] X.env).map (·.2) := by rfl) (h3 : (assignEach [.Name y py] X.env).map (·.2) = assign (.Name y py) X.env :: (assignEach [] X.env).map (·.2) := by rfl)
    (hn : (assignEach [.Name x px, .Name y py] X.env).length = 2 := by rfl) (hst : (assignEach [.Name x px, .Name y py] X.env).findIdx? (·.1) = none := by rfl) : Bd X C I0 H0 (.Assign [.Tuple [.Name x px, .Name y py] kt pt] e pos :: rest) G L D :=
  bd_un2 (Pd := fun a b => a = u ∧ b = w) ((h C).imp fun r z => ⟨u, w, z, rfl, rfl⟩) (fun a b ⟨e1, e2⟩ => by rw [e1, e2]; exact k) hc g1 g2 hs hw h1 h2 h3 hn hst
theorem bd_un3D {i j m : Nat} {x y z : Str} {px py pz pt : Pos} {kt : Nat} {u w t : PyData} (h : DE X e G (.tuple [u, w, t])) (k : Bd X C I0 H0 rest (((G.set i (.d u)).set j (.d w)).set m (.d t)) L D)
    (g1 : PG X (.Name x px) (gName i)) (g2 : PG X (.Name y py) (gName j)) (g3 : PG X (.Name z pz) (gName m)) (hc : X.calm = true := by rfl)
    (hs : swapsWithSole [.Tuple [.Name x px, .Name y py, .Name z pz] kt pt] e pos.line X.env = pure false := by rfl) (hw : swappedStores [.Tuple [.Name x px, .Name y py, .Name z pz] kt pt] e X.env = pure none := by rfl)
    (h1 : (assignEach [.Tuple [.Name x px, .Name y py, .Name z pz] kt pt] X.env).map (·.2) = [assign (.Tuple [.Name x px, .Name y py, .Name z pz] kt pt) X.env] := by rfl)
    (h2 : (assignEach [.Name x px, .Name y py, .Name z pz] X.env).map (·.2) = assign (.Name x px) X.env :: (assignEach [.Name y py, .Name z pz] X.env).map (·.2) := by rfl) (h3 : (assignEach [.Name y py, .Name z pz] X.env).map (·.2) = assign (.Name y py) X.env :: (assignEach [.Name z pz] X.env).map (·.2) := by rfl)
    (h4 : (assignEach [.Name z pz] X.env).map (·.2) = assign (.Name z pz) X.env :: (assignEach [] X.env).map (·.2) := by rfl)
    (hn : (assignEach [.Name x px, .Name y py, .Name z pz] X.env).length = 3 := by rfl) (hst : (assignEach [.Name x px, .Name y py, .Name z pz] X.env).findIdx? (·.1) = none := by rfl) : Bd X C I0 H0 (.Assign [.Tuple [.Name x px, .Name y py, .Name z pz] kt pt] e pos :: rest) G L D :=
  bd_un3 (Pd := fun a b c => a = u ∧ b = w ∧ c = t) ((h C).imp fun r z => ⟨u, w, t, z, rfl, rfl, rfl⟩) (fun a b c ⟨e1, e2, e3⟩ => by rw [e1, e2, e3]; exact k) hc g1 g2 g3 hs hw h1 h2 h3 h4 hn hst
/-- an expression whose value is dropped -/
theorem bd_if {Pt : Bool → Prop} (hc : EvT X C c G Pt) (h1 : Pt true → Bd X C I0 H0 a G L { D with nx := wpS X rest D }) (h2 : Pt false → Bd X C I0 H0 b G L { D with nx := wpS X rest D }) : Bd X C I0 H0 (.If c a b pos :: rest) G L D := fun σ H he =>
  of_pss (pss_cons (ps_if pt_wp (pss_wp (st := a)) (pss_wp (st := b))) (pss_wp (st := rest))) (evt_here hc he fun k H' p he' => by
    cases k with
    | true => exact iteT (h1 p σ H' he')
    | false => exact iteF (h2 p σ H' he'))
/-- an if without else -/
theorem bd_when {Pt : Bool → Prop} (hc : EvT X C c G Pt) (h1 : Pt true → Bd X C I0 H0 a G L { D with nx := wpS X rest D }) (h2 : Pt false → Bd X C I0 H0 rest G L D) : Bd X C I0 H0 (.If c a [] pos :: rest) G L D :=
  bd_if hc h1 fun p => bd_end (h2 p)
theorem bd_ifD {k : Bool} (hc : DT X c G k) (h1 : k = true → Bd X C I0 H0 a G L { D with nx := wpS X rest D }) (h2 : k = false → Bd X C I0 H0 b G L { D with nx := wpS X rest D }) : Bd X C I0 H0 (.If c a b pos :: rest) G L D :=
  bd_if (hc C) (fun z => h1 z.symm) fun z => h2 z.symm
theorem bd_whenD {k : Bool} (hc : DT X c G k) (h1 : k = true → Bd X C I0 H0 a G L { D with nx := wpS X rest D }) (h2 : k = false → Bd X C I0 H0 rest G L D) : Bd X C I0 H0 (.If c a [] pos :: rest) G L D :=
  bd_when (hc C) (fun z => h1 z.symm) fun z => h2 z.symm
/-- a later part of what never changes -/
def Bs (I0 H0 I1 : Hp) : Prop := Same I0 I1 ∧ ∀ a, I1 a ≠ none → I0 a ≠ none ∨ H0 a = none
theorem Ext.bs {I H : Hp} (x : Ext C I0 H0 I H) : Bs I0 H0 I := ⟨x.im, x.new⟩
theorem Bs.ext {I1 I H : Hp} (b : Bs I0 H0 I1) (x : Ext C I1 H0 I H) : Ext C I0 H0 I H := ⟨b.1.trans x.im, x.sub, x.keep, x.there, fun a h => by
  rcases x.new a h with z | z
  · exact b.2 a z
  · exact .inr z⟩
theorem RtOk.bs {Q : VK} {I1 : Hp} (h : RtOk C I0 H0 P Q) (b : Bs I0 H0 I1) : RtOk C I1 H0 P Q := fun v I' H' r p x => h v I' H' r p (b.ext x)
/-- for: W ds i G L holds ahead of turn i -/
theorem bd_for {j : Nat} {Pd : List PyData → Prop} (hp : PassesOwn (model X.prog X.w) X.A X.env X.xe) (hc : X.calm = true) (hi : EvI X C tg iter G Pd) (hg : PG X tg (gName j)) (W : List PyData → Nat → List Sl → Lo → Prop) (h0 : ∀ ds, Pd ds → W ds 0 G L)
    (hs : ∀ I1, Bs I0 H0 I1 → ∀ ds i d G' L', Pd ds → ds[i]? = some d → W ds i G' L' → ∀ bk, Bd X C I1 H0 body (G'.set j (.d d)) L' { D with nx := Thn C I1 H0 (W ds (i + 1)), ct := Thn C I1 H0 (W ds (i + 1)), bk := bk })
    (hd : ∀ I1, Bs I0 H0 I1 → ∀ ds G' L', Pd ds → W ds ds.length G' L' → Bd X C I1 H0 rest G' L' D) (hfs : ∀ x, foldedSetIterable iter X.env x = pure x := by intro _; rfl) : Bd X C I0 H0 (.For tg iter body [] pos :: rest) G L D := fun σ H ⟨I, he, hx, hcc, hl⟩ => by
  obtain ⟨wi, hwi, hw⟩ := hi
  refine of_pss (pss_cons (ps_for hp hc hwi hg (pss_wp (st := body)) hfs) (pss_wp (st := rest))) (hw σ I H _ he hx.sub hcc fun J I1 H1 ds pd x1 c1 wk => ?_)
  have xb := hx.trans x1
  have bb := xb.bs
  refine ⟨fun i m σ H => m = ds.length - i ∧ i ≤ ds.length ∧ Thn C I1 H0 (W ds i) σ H, ⟨ds.length, rfl, Nat.zero_le _, G, L, h0 ds pd, I1, he.mono x1.im, ⟨Same.refl _, xb.sub, xb.keep, xb.there, fun a z => .inl z⟩, c1, hl.ext x1⟩, ?_⟩
  rintro i m σ2 H2 ⟨rfl, hi', G', L', w2, I2, e2, x2, c2, l2⟩
  by_cases hlt : i < ds.length
  · refine .inr ⟨wk.go i H2 (x2.im.trans x2.sub) hlt, Thn C I1 H0 (W ds (i + 1)), fun σ' H' z => ⟨ds.length - (i + 1), by omega, rfl, hlt, z⟩, fun v H3 y => ?_⟩
    obtain ⟨e, hy⟩ := wk.yld i H2 v H3 (x2.im.trans x2.sub) y
    subst e
    obtain ⟨d, hd'⟩ : ∃ d, ds[i]? = some d := ⟨ds[i], List.getElem?_eq_getElem hlt⟩
    exact hs I1 bb ds i d G' L' pd hd' w2 _ _ _ ⟨I2, e2.set j (r := .d d) ((hy d hd').mono x2.im), x2, c2, l2⟩
  · have e : i = ds.length := by omega
    subst e
    exact .inl ⟨wk.stop _ _ (x2.im.trans x2.sub) (Nat.le_refl _), hd I1 bb ds G' L' pd w2 _ _ ⟨I2, e2, x2, c2, l2⟩⟩
/-- while: W m G L, m falls -/
theorem bd_while (hp : PassesOwn (model X.prog X.w) X.A X.env X.xe) (W : Nat → List Sl → Lo → Prop) (Pt : Nat → List Sl → Lo → Bool → Prop) {m0 : Nat} (h0 : W m0 G L) (ht : ∀ m G' L', W m G' L' → EvT X C c G' (Pt m G' L'))
    (hs : ∀ m G' L', W m G' L' → Pt m G' L' true → ∀ bk, Bd X C I0 H0 body G' L' { D with nx := Thn C I0 H0 (fun G L => ∃ m', m' < m ∧ W m' G L), ct := Thn C I0 H0 (fun G L => ∃ m', m' < m ∧ W m' G L), bk := bk })
    (hd : ∀ m G' L', W m G' L' → Pt m G' L' false → Bd X C I0 H0 rest G' L' D) : Bd X C I0 H0 (.While c body [] pos :: rest) G L D := fun σ H he => by
  refine of_pss (pss_cons (ps_while hp pt_wp (pss_wp (st := body))) (pss_wp (st := rest))) ⟨fun m => Thn C I0 H0 (W m), ⟨m0, G, L, h0, he⟩, ?_⟩
  rintro m σ2 H2 ⟨G', L', w2, he2⟩
  refine evt_here (ht m G' L' w2) he2 fun k H3 pk he3 => ?_
  cases k with
  | true =>
    exact iteT ⟨Thn C I0 H0 (fun G L => ∃ m', m' < m ∧ W m' G L), fun σ' H' ⟨G2, L2, ⟨m', lt, w3⟩, h3⟩ => ⟨m', lt, G2, L2, w3, h3⟩, hs m G' L' w2 pk _ _ _ he3⟩
  | false => exact iteF (hd m G' L' w2 pk _ _ he3)
/-- p.append(e), p the list in hand -/
theorem bd_app {p : Addr} {ds : List PyData} {i : Nat} {o : Expr} {Pd : PyData → Prop} {apos cpos : Pos} (ho : PE X o (tVar i)) (hG : G[i]? = some (.v (.ref p))) (h : Ev X C e G (fun r => ∃ y, r = .d y ∧ Pd y)) (hz : ds.length < sizeLine) (k : ∀ y, Pd y → Bd X C I0 H0 rest G (some (p, ds ++ [y])) D)
    (hs0 : starEach (e :: []) X.env = (false, eval e X.env) :: starEach [] X.env := by rfl) (hbase : attributeBase o "append" X.env (eval o X.env) = eval o X.env := by rfl)
    (hfew : ((backTo cpos (starEach (e :: []) X.env)).all (fun x => !x.1) && (backToKw cpos (keywordEach [] X.env)).all (fun x => x.1.isSome)
      && decide ((e :: []).length + ([] : List Keyword).length + (if ([] : List Keyword).isEmpty then 0 else 1) < 30)) = true := by rfl)
    (hline : (apos.endLine == cpos.line) = true := by rfl) (hplain : (backTo cpos (starEach [] X.env)).any (·.1) = false := by rfl) (hsw : swapsWith (.Call (.Attribute o "append" apos) [e] [] cpos) none pos.line X.env = pure false := by rfl) :
    Bd X C I0 H0 (.Expr (.Call (.Attribute o "append" apos) [e] [] cpos) pos :: rest) G (some (p, ds)) D := fun σ H ⟨I, h1, h2, h3, n0, nI, nd, xs, hl, hd⟩ => by
  obtain ⟨v, g1, g2⟩ := h1.get hG (fun z => by cases z)
  have g2' : v = .ref p := g2
  subst g2'
  refine of_pss (pss_cons (ps_expr (pe_bm PySem.F.plainAttrs_list PySem.F.slot_list_append PySem.F.type_list_append mt_append ho (pa_cons pe_wp pa_nil hs0) hbase hfew hline hs0 hplain) hsw) (pss_wp (st := rest))) ⟨_, g1, .inl ⟨rfl, _, .inl (.inl hl)⟩, ?_⟩
  refine h σ I H _ h1 h2.sub h3 fun w I' H' r ⟨y, er, py⟩ x c o => ?_
  subst er
  have l' := x.keep _ _ nd hl
  have n' := x.out nI (by rw [hl]; exact fun z => by cases z)
  have dl := hd.len
  exact ⟨p, xs, w, rfl, rfl, l', by omega, k y py σ _ ⟨I', h1.mono x.im, (h2.trans x).updNew n0 n', c.upd nd, n0, n', nd, xs ++ [w], upd_same, (hd.mono x.im).app (.cons o .nil)⟩⟩
/-- p.extend(e), p the list in hand, e another list -/
theorem bd_ext {p : Addr} {ds : List PyData} {i : Nat} {o : Expr} {Pd : List PyData → Prop} {apos cpos : Pos} (ho : PE X o (tVar i)) (hG : G[i]? = some (.v (.ref p))) (h : EvN X C e G Pd) (hz : ∀ ys, Pd ys → ds.length + ys.length ≤ sizeLine) (k : ∀ ys, Pd ys → Bd X C I0 H0 rest G (some (p, ds ++ ys)) D)
    (hs0 : starEach (e :: []) X.env = (false, eval e X.env) :: starEach [] X.env := by rfl) (hbase : attributeBase o "extend" X.env (eval o X.env) = eval o X.env := by rfl)
    (hfew : ((backTo cpos (starEach (e :: []) X.env)).all (fun x => !x.1) && (backToKw cpos (keywordEach [] X.env)).all (fun x => x.1.isSome)
      && decide ((e :: []).length + ([] : List Keyword).length + (if ([] : List Keyword).isEmpty then 0 else 1) < 30)) = true := by rfl)
    (hline : (apos.endLine == cpos.line) = true := by rfl) (hplain : (backTo cpos (starEach [] X.env)).any (·.1) = false := by rfl) (hsw : swapsWith (.Call (.Attribute o "extend" apos) [e] [] cpos) none pos.line X.env = pure false := by rfl) :
    Bd X C I0 H0 (.Expr (.Call (.Attribute o "extend" apos) [e] [] cpos) pos :: rest) G (some (p, ds)) D := fun σ H ⟨I, h1, h2, h3, n0, nI, nd, xs, hl, hd⟩ => by
  obtain ⟨v, g1, g2⟩ := h1.get hG (fun z => by cases z)
  have g2' : v = .ref p := g2
  subst g2'
  refine of_pss (pss_cons (ps_expr (pe_bm PySem.F.plainAttrs_list PySem.F.slot_list_extend PySem.F.type_list_extend mt_extend ho (pa_cons pe_wp pa_nil hs0) hbase hfew hline hs0 hplain) hsw) (pss_wp (st := rest))) ⟨_, g1, .inl ⟨rfl, _, .inl (.inl hl)⟩, ?_⟩
  refine h σ I H _ h1 h2.sub h3 fun q ys I' H' es pe x c nq nq' lq dq => ?_
  have l' := x.keep _ _ nd hl
  have n' := x.out nI (by rw [hl]; exact fun z => by cases z)
  have dl := hd.len
  have dl2 := dq.len
  have z := hz es pe
  exact ⟨p, q, xs, ys, rfl, rfl, l', lq, by omega, k es pe σ _ ⟨I', h1.mono x.im, (h2.trans x).updNew n0 n', c.upd nd, n0, n', nd, xs ++ ys, upd_same, (hd.mono x.im).app dq⟩⟩
end

/-! ### the body of a def -/
theorem EnvOk.start {N : List Str} {vs : List V} {rs : List Sl} {I : Hp} (h : SlAll I vs rs) : EnvOk (start N vs) (rs ++ List.replicate (N.length - rs.length) .no) I := by
  have e := h.len
  refine ⟨by simp [L2.start, e], fun i r g => ?_⟩
  have key : ∀ {vs : List V} {rs : List Sl} {i : Nat} {r : Sl}, SlAll I vs rs → rs[i]? = some r → ∃ v, vs[i]? = some v ∧ r.ok I v := by
    intro vs rs i r h g
    induction h generalizing i with
    | nil => simp at g
    | cons h1 _ ih =>
      cases i with
      | zero => simp at g; subst g; exact ⟨_, rfl, h1⟩
      | succ i => simpa using ih (i := i) (by simpa using g)
  by_cases hi : i < rs.length
  · rw [List.getElem?_append_left hi] at g
    obtain ⟨v, h1, h2⟩ := key h g
    refine .inr ⟨v, ?_, h2⟩
    unfold L2.start
    rw [List.getElem?_append_left (by rw [List.length_map, e]; exact hi), List.getElem?_map, h1]
    rfl
  · rw [List.getElem?_append_right (by omega)] at g
    have := List.getElem?_eq_some_iff.mp g
    obtain ⟨_, h2⟩ := this
    rw [List.getElem_replicate] at h2
    exact .inl h2.symm
section
variable {P : Program} {w : World} {K : PySem.W.Frag} {mg : Str → Option Value} {base : Heap}
/-- THE RULE of a def that raises nothing -/
theorem fok {F : Spc} {x qual : Str} {st : Stmt} {f : Addr} {fd : FuncData} {N ps : List Str} {k : Nat} (Fn : Fun K x qual st f fd) (S : FnScope N ps (defScope st)) (len : ∀ C rs P, F C rs P → rs.length = ps.length)
    (body : ∀ (X : Cx), (∃ cdv A outer s H E, X = (cxOf CX0 P w K mg base N qual (defScope st) f cdv A outer s H E).nox ∧ Room k X.A) → ∀ (C : Cs) (I0 H0 : Hp) (rs : List Sl) (R : Sl → Prop) (D : Ends), F C rs R → RtOk C I0 H0 R D.rt → Bd X C I0 H0 (defBody st) (rs ++ List.replicate (N.length - rs.length) .no) none D) :
    FnOk P w K mg base CX0 (k + 1) f fd ps (spF F) := by
  refine Fn.ok S (fun vs H Q E h => ?_) (fun cdv A outer s H vs Q E hr h => ?_)
  · obtain ⟨C, I, rs, R, h1, _, _, h2, _⟩ := h
    rw [h1.len]; exact len C rs R h2
  · obtain ⟨C, I, rs, R, h1, h3, h4, h2, q⟩ := h
    exact ⟨wpS _ _, pss_wp, body _ ⟨cdv, A, outer, s, H, E, rfl, hr⟩ C I H rs R _ h2 (fun v I' H' r p x c o => q v I' H' r p x c o) _ _ ⟨I, EnvOk.start h1, Ext.refl h3, h4, trivial⟩⟩
end
end QL
/-! The data layer, 5: what operations do to data. -/
namespace QL
open PySem PySem.Spec PyProof.Rows L2

theorem sl_bl {I : Hp} (k : Bool) : (Sl.d (.bool k)).ok I (.bl k) := .bl k
/-! ### numbers -/
theorem od_I0 {g : Int → Int → V} {z : Sl} (i j : Int) (hz : ∀ I, z.ok I (g i j)) : OpD (rI0 g) (.d (.int i)) (.d (.int j)) z := fun I H v u Q s o1 o2 q => by
  cases o1
  cases o2
  exact ⟨i, j, rfl, rfl, q _ I H (Ext.refl s) (hz I)⟩
theorem od_I {Cc : Int → Int → Prop} {g : Int → Int → V} {z : Sl} {i j : Int} (h : Cc i j) (hz : ∀ I, z.ok I (g i j)) : OpD (rI Cc g) (.d (.int i)) (.d (.int j)) z := fun I H v u Q s o1 o2 q => by
  cases o1
  cases o2
  exact ⟨i, j, rfl, rfl, h, q _ I H (Ext.refl s) (hz I)⟩
section
variable {X : Cx} {C : Cs} {a b c : Expr} {G : List Sl} {pos : Pos} {i j : Int}
theorem de_addI (ha : DE X a G (.int i)) (hb : DE X b G (.int j)) : DE X (.BinOp a .Add b pos) G (.int (i + j)) := de_bin op_add ha hb (od_I0 i j fun _ => .int _)
theorem de_subI (ha : DE X a G (.int i)) (hb : DE X b G (.int j)) : DE X (.BinOp a .Sub b pos) G (.int (i - j)) := de_bin op_sub ha hb (od_I0 i j fun _ => .int _)
theorem de_mulI (ha : DE X a G (.int i)) (hb : DE X b G (.int j)) (h : CMul i j) : DE X (.BinOp a .Mult b pos) G (.int (i * j)) := de_bin op_mul ha hb (od_I h fun _ => .int _)
theorem de_divI (ha : DE X a G (.int i)) (hb : DE X b G (.int j)) (h : CDivN i j) : DE X (.BinOp a .FloorDiv b pos) G (.int (i.fdiv j)) := de_bin op_fdivN ha hb (od_I h fun _ => .int _)
theorem de_modI (ha : DE X a G (.int i)) (hb : DE X b G (.int j)) (h : j ≠ 0) : DE X (.BinOp a .Mod b pos) G (.int (i.fmod j)) := de_bin op_modN ha hb (od_I h fun _ => .int _)
theorem dt_ltI (ha : DE X a G (.int i)) (hb : DE X b G (.int j)) : DT X (.Compare a [.Lt] [b] pos) G (decide (i < j)) := dt_cmp op_lt ha hb (od_I0 i j fun _ => .bl _)
theorem dt_leI (ha : DE X a G (.int i)) (hb : DE X b G (.int j)) : DT X (.Compare a [.LtE] [b] pos) G (decide (i ≤ j)) := dt_cmp op_le ha hb (od_I0 i j fun _ => .bl _)
theorem dt_gtI (ha : DE X a G (.int i)) (hb : DE X b G (.int j)) : DT X (.Compare a [.Gt] [b] pos) G (decide (j < i)) := dt_cmp op_gt ha hb (od_I0 i j fun _ => .bl _)
theorem dt_geI (ha : DE X a G (.int i)) (hb : DE X b G (.int j)) : DT X (.Compare a [.GtE] [b] pos) G (decide (j ≤ i)) := dt_cmp op_ge ha hb (od_I0 i j fun _ => .bl _)
theorem de_ltI (ha : DE X a G (.int i)) (hb : DE X b G (.int j)) : DE X (.Compare a [.Lt] [b] pos) G (.bool (decide (i < j))) := de_cmp op_lt ha hb (od_I0 i j fun _ => .bl _)
theorem de_leI (ha : DE X a G (.int i)) (hb : DE X b G (.int j)) : DE X (.Compare a [.LtE] [b] pos) G (.bool (decide (i ≤ j))) := de_cmp op_le ha hb (od_I0 i j fun _ => .bl _)
theorem dt_lele {l : Int} (ha : DE X a G (.int i)) (hb : DE X b G (.int j)) (hc : DE X c G (.int l)) (hm : lastMarks [.LtE, .LtE] [b, c] = false := by with_unfolding_all rfl) : DT X (.Compare a [.LtE, .LtE] [b, c] pos) G (decide (i ≤ j) && decide (j ≤ l)) :=
  dt_chain op_le op_le ha hb hc (od_I0 i j fun _ => .bl _) (od_I0 j l fun _ => .bl _) hm
theorem de_lele {l : Int} (ha : DE X a G (.int i)) (hb : DE X b G (.int j)) (hc : DE X c G (.int l)) (hm : lastMarks [.LtE, .LtE] [b, c] = false := by with_unfolding_all rfl) : DE X (.Compare a [.LtE, .LtE] [b, c] pos) G (.bool (decide (i ≤ j) && decide (j ≤ l))) :=
  de_chain op_le op_le ha hb hc (od_I0 i j fun _ => .bl _) (od_I0 j l fun _ => .bl _) hm
end

/-! ### == and != of numbers, texts, truth values, None -/
def flat : PyData → Option V
  | .none => some .non
  | .bool b => some (.bl b)
  | .int i => some (.int i)
  | .str x => some (.str x)
  | _ => none
theorem flat_ok {I : Hp} {d : PyData} {v u : V} (f : flat d = some v) (h : Dq I u d) : u = v := by
  cases h <;> cases f <;> rfl
theorem od_eq {x y : PyData} {v w : V} (fx : flat x = some v) (fy : flat y = some w) (hs : scal v w = true) : OpD rEq (.d x) (.d y) (.d (.bool (decide (v = w)))) := fun I H a b Q s o1 o2 q => by
  have e1 := flat_ok fx o1
  have e2 := flat_ok fy o2
  subst e1 e2
  exact ⟨hs, q _ I H (Ext.refl s) (.bl _)⟩
theorem od_ne {x y : PyData} {v w : V} (fx : flat x = some v) (fy : flat y = some w) (hs : scal v w = true) : OpD rNe (.d x) (.d y) (.d (.bool (!decide (v = w)))) := fun I H a b Q s o1 o2 q => by
  have e1 := flat_ok fx o1
  have e2 := flat_ok fy o2
  subst e1 e2
  exact ⟨hs, q _ I H (Ext.refl s) (.bl _)⟩
theorem dec_vstr (x y : Str) : decide (V.str x = V.str y) = decide (x = y) := by
  rw [Bool.eq_iff_iff]; simp
theorem dec_vint (x y : Int) : decide (V.int x = V.int y) = decide (x = y) := by
  rw [Bool.eq_iff_iff]; simp
theorem dec_vbl (x y : Bool) : decide (V.bl x = V.bl y) = decide (x = y) := by
  rw [Bool.eq_iff_iff]; simp
section
variable {X : Cx} {C : Cs} {a b c : Expr} {G : List Sl} {pos : Pos}
theorem dt_eqS {x y : Str} (ha : DE X a G (.str x)) (hb : DE X b G (.str y)) : DT X (.Compare a [.Eq] [b] pos) G (decide (x = y)) := (dt_cmp op_eq ha hb (od_eq rfl rfl rfl)).is (dec_vstr x y)
theorem dt_neS {x y : Str} (ha : DE X a G (.str x)) (hb : DE X b G (.str y)) : DT X (.Compare a [.NotEq] [b] pos) G (!decide (x = y)) := (dt_cmp op_ne ha hb (od_ne rfl rfl rfl)).is (by rw [dec_vstr])
theorem dt_eqI {x y : Int} (ha : DE X a G (.int x)) (hb : DE X b G (.int y)) : DT X (.Compare a [.Eq] [b] pos) G (decide (x = y)) := (dt_cmp op_eq ha hb (od_eq rfl rfl rfl)).is (dec_vint x y)
theorem dt_neI {x y : Int} (ha : DE X a G (.int x)) (hb : DE X b G (.int y)) : DT X (.Compare a [.NotEq] [b] pos) G (!decide (x = y)) := (dt_cmp op_ne ha hb (od_ne rfl rfl rfl)).is (by rw [dec_vint])
theorem dt_neB {x y : Bool} (ha : DE X a G (.bool x)) (hb : DE X b G (.bool y)) : DT X (.Compare a [.NotEq] [b] pos) G (!decide (x = y)) := (dt_cmp op_ne ha hb (od_ne rfl rfl rfl)).is (by rw [dec_vbl])
theorem de_eqS {x y : Str} (ha : DE X a G (.str x)) (hb : DE X b G (.str y)) : DE X (.Compare a [.Eq] [b] pos) G (.bool (decide (x = y))) := (de_cmp op_eq ha hb (od_eq rfl rfl rfl)).is (by rw [dec_vstr])
theorem de_neS {x y : Str} (ha : DE X a G (.str x)) (hb : DE X b G (.str y)) : DE X (.Compare a [.NotEq] [b] pos) G (.bool (!decide (x = y))) := (de_cmp op_ne ha hb (od_ne rfl rfl rfl)).is (by rw [dec_vstr])
theorem de_eqI {x y : Int} (ha : DE X a G (.int x)) (hb : DE X b G (.int y)) : DE X (.Compare a [.Eq] [b] pos) G (.bool (decide (x = y))) := (de_cmp op_eq ha hb (od_eq rfl rfl rfl)).is (by rw [dec_vint])
theorem de_neI {x y : Int} (ha : DE X a G (.int x)) (hb : DE X b G (.int y)) : DE X (.Compare a [.NotEq] [b] pos) G (.bool (!decide (x = y))) := (de_cmp op_ne ha hb (od_ne rfl rfl rfl)).is (by rw [dec_vint])
/-- is None -/
def isNon : PyData → Bool
  | .none => true
  | _ => false
theorem dq_non {I : Hp} {d : PyData} {v : V} (h : Dq I v d) : decide (v = .non) = isNon d := by
  cases h <;> simp [isNon]
theorem dt_isN {d : PyData} {q' : Nat} {pos' : Pos} (ha : DE X a G d) : DT X (.Compare a [.Is] [.Constant .none q' pos'] pos) G (isNon d) := fun C σ I H Q hE hS hC q =>
  of_pt (pt_cmp (pc_isN pe_wp)) (ha C σ I H _ hE hS hC fun v I1 H1 r p x c o => by
    subst p
    exact ⟨_, rfl, q _ I1 H1 (dq_non o) x c⟩)
theorem de_isN {d : PyData} {q' : Nat} {pos' : Pos} (ha : DE X a G d) : DE X (.Compare a [.Is] [.Constant .none q' pos'] pos) G (.bool (isNon d)) := fun C σ I H Q hE hS hC q =>
  of_pe (pe_cmp (pc_isN pe_wp)) (ha C σ I H _ hE hS hC fun v I1 H1 r p x c o => by
    subst p
    exact q _ I1 H1 _ rfl x c (by rw [dq_non o]; exact .bl _))
end

/-! ### texts -/
section
variable {X : Cx} {C : Cs} {a b c e : Expr} {G : List Sl} {pos : Pos} {x y : Str}
theorem de_addS (ha : DE X a G (.str x)) (hb : DE X b G (.str y)) (h : x.length + y.length ≤ sizeLine) : DE X (.BinOp a .Add b pos) G (.str (x ++ y)) := de_bin op_add_str ha hb fun I H v u Q s o1 o2 q => by
  cases o1; cases o2
  exact ⟨x, y, rfl, rfl, h, q _ I H (Ext.refl s) (.str _)⟩
theorem dt_inC {n : Nat} (ha : DE X a G (sg n)) (hb : DE X b G (.str y)) (hm : behindInMarks .In b = false := by rfl) : DT X (.Compare a [.In] [b] pos) G (decide (n ∈ tl y)) := dt_cmp op_in_sign ha hb (fun I H v u Q s o1 o2 q => by
  cases o1; cases o2
  exact ⟨n, y, rfl, rfl, q _ I H (Ext.refl s) (.bl _)⟩) hm
theorem dt_niC {n : Nat} (ha : DE X a G (sg n)) (hb : DE X b G (.str y)) (hm : behindInMarks .NotIn b = false := by rfl) : DT X (.Compare a [.NotIn] [b] pos) G (!decide (n ∈ tl y)) := dt_cmp op_notIn_sign ha hb (fun I H v u Q s o1 o2 q => by
  cases o1; cases o2
  exact ⟨n, y, rfl, rfl, q _ I H (Ext.refl s) (.bl _)⟩) hm
theorem dt_ltS (ha : DE X a G (.str x)) (hb : DE X b G (.str y)) : DT X (.Compare a [.Lt] [b] pos) G (decide (tl x < tl y)) := dt_cmp op_lt_str ha hb fun I H v u Q s o1 o2 q => by
  cases o1; cases o2
  exact ⟨x, y, rfl, rfl, q _ I H (Ext.refl s) (.bl _)⟩
theorem dt_gtS (ha : DE X a G (.str x)) (hb : DE X b G (.str y)) : DT X (.Compare a [.Gt] [b] pos) G (decide (tl y < tl x)) := dt_cmp op_gt_str ha hb fun I H v u Q s o1 o2 q => by
  cases o1; cases o2
  exact ⟨x, y, rfl, rfl, q _ I H (Ext.refl s) (.bl _)⟩
theorem dt_geS (ha : DE X a G (.str x)) (hb : DE X b G (.str y)) : DT X (.Compare a [.GtE] [b] pos) G (!decide (tl x < tl y)) := dt_cmp op_ge_str ha hb fun I H v u Q s o1 o2 q => by
  cases o1; cases o2
  exact ⟨x, y, rfl, rfl, q _ I H (Ext.refl s) (.bl _)⟩
theorem od_leS : OpD (fun x y H Q => ∃ i j, x = .str i ∧ y = .str j ∧ Q (.bl (!decide (j.cps.toList < i.cps.toList))) H) (.d (.str x)) (.d (.str y)) (.d (.bool (!decide (tl y < tl x)))) := fun I H v u Q s o1 o2 q => by
  cases o1; cases o2
  exact ⟨x, y, rfl, rfl, q _ I H (Ext.refl s) (.bl _)⟩
theorem dt_leleS {z : Str} (ha : DE X a G (.str x)) (hb : DE X b G (.str y)) (hc : DE X c G (.str z)) (hm : lastMarks [.LtE, .LtE] [b, c] = false := by with_unfolding_all rfl) : DT X (.Compare a [.LtE, .LtE] [b, c] pos) G ((!decide (tl y < tl x)) && (!decide (tl z < tl y))) :=
  dt_chain op_le_str op_le_str ha hb hc od_leS od_leS hm
/-- len -/
theorem de_lenS {p : Pos} {x' : Str} (ha : DE X a G (.str x)) (h : x.length ≤ sizeLine) (hm : X.mg "len" = none) (hg : Gl X "len" := by rfl)
    (he : starEach (a :: []) X.env = (false, eval a X.env) :: starEach [] X.env := by rfl) (hpl : (backTo pos (starEach [] X.env)).any (·.1) = false := by rfl) : DE X (.Call (.Name "len" p) [a] [] pos) G (.int (x.length : Int)) :=
  de_cb (pe_callB call_len_str hg hm PySem.boot_len pa_wp (by decide) (by decide) he hpl) (da_cons ha da_nil he) fun I H vs Q s o q => by
    cases o with
    | cons o1 o2 =>
      cases o1
      cases o2
      exact ⟨x, rfl, h, q _ I H (Ext.refl s) (.int _)⟩
def seqOf : PyData → Option (List PyData)
  | .list ds => some ds
  | .tuple ds => some ds
  | _ => none
theorem seq_ok {K : PySem.W.Frag} {I H : Hp} {d : PyData} {ds : List PyData} {v : V} (f : seqOf d = some ds) (h : Dq I v d) (s : Same I H) : ∃ p xs, v = .ref p ∧ (SqL K H p xs ∨ SqT K H p xs) ∧ DqAll I xs ds := by
  cases h with
  | lst h1 h2 => cases f; exact ⟨_, _, rfl, .inl (sql_inj h1 s), h2⟩
  | tup h1 h2 => cases f; exact ⟨_, _, rfl, .inr (sqt_inj h1 s), h2⟩
  | _ => cases f
theorem de_lenL {p : Pos} {d : PyData} {ds : List PyData} (ha : DE X a G d) (f : seqOf d = some ds) (hm : X.mg "len" = none) (hg : Gl X "len" := by rfl)
    (he : starEach (a :: []) X.env = (false, eval a X.env) :: starEach [] X.env := by rfl) (hpl : (backTo pos (starEach [] X.env)).any (·.1) = false := by rfl) : DE X (.Call (.Name "len" p) [a] [] pos) G (.int (ds.length : Int)) :=
  de_cb (pe_callB call_len_seq hg hm PySem.boot_len pa_wp (by decide) (by decide) he hpl) (da_cons ha da_nil he) fun I H vs Q s o q => by
    cases o with
    | cons o1 o2 =>
      cases o2
      obtain ⟨p, xs, rfl, h1, h2⟩ := seq_ok (K := X.K) f o1 s
      refine ⟨p, xs, rfl, h1, q _ I H (Ext.refl s) ?_⟩
      rw [h2.len]
      exact .int _
end
end QL
/-! The data layer, 6: subscripts, slices, methods of texts, nested data. -/
namespace QL
open PySem PySem.Spec PyProof.Rows L2

/-! ### subscripts -/
theorem at_all {I : Hp} {xs : List V} {ds : List PyData} {i : Int} {d : PyData} (h : DqAll I xs ds) (e : atI ds i = some d) : ∃ v, atI xs i = some v ∧ Dq I v d := by
  unfold atI at e ⊢
  rw [h.len]
  cases q : ixN ds.length i with
  | none => rw [q] at e; cases e
  | some j =>
    rw [q] at e
    obtain ⟨v, h1, h2⟩ := h.at (show ds[j]? = some d from e)
    exact ⟨v, h1, h2⟩
section
variable {X : Cx} {C : Cs} {a b c e : Expr} {G : List Sl} {pos : Pos} {x y : Str} {i : Int} {d : PyData} {ds es : List PyData}
theorem de_ixL (ha : DE X a G (.list ds)) (hb : DE X b G (.int i)) (h : atI ds i = some d) (hs : PlainIx b := by exact fun _ _ => rfl) : DE X (.Subscript a b pos) G d := de_ix ix_list ha hb (fun I H v u Q s o1 o2 q => by
  cases o2
  cases o1 with
  | lst h1 h2 =>
    obtain ⟨w, g1, g2⟩ := at_all h2 h
    exact ⟨_, _, i, w, rfl, rfl, sql_inj h1 s, g1, q _ I H (Ext.refl s) g2⟩) hs
theorem de_ixT (ha : DE X a G (.tuple ds)) (hb : DE X b G (.int i)) (h : atI ds i = some d) (hs : PlainIx b := by exact fun _ _ => rfl) : DE X (.Subscript a b pos) G d := de_ix ix_tup ha hb (fun I H v u Q s o1 o2 q => by
  cases o2
  cases o1 with
  | tup h1 h2 =>
    obtain ⟨w, g1, g2⟩ := at_all h2 h
    exact ⟨_, _, i, w, rfl, rfl, sqt_inj h1 s, g1, q _ I H (Ext.refl s) g2⟩) hs
theorem de_ixS {n : Nat} (ha : DE X a G (.str x)) (hb : DE X b G (.int i)) (hz : x.length ≤ sizeLine) (h : atI (tl x) i = some n) (hs : PlainIx b := by exact fun _ _ => rfl) : DE X (.Subscript a b pos) G (sg n) := de_ix ix_str ha hb (fun I H v u Q s o1 o2 q => by
  cases o2
  cases o1
  exact ⟨x, i, n, rfl, rfl, hz, h, q _ I H (Ext.refl s) (.str _)⟩) hs
/-! ### slices -/
theorem de_slS {lo hi : Option Expr} {p2 : Pos} {l u : Option Int} (ha : DE X a G (.str x)) (hl : DO X lo G l) (hh : DO X hi G u) (hz : x.length ≤ sizeLine) : DE X (.Subscript a (.Slice lo hi none p2) pos) G (.str (cutS x l u)) := de_sl sl_str ha hl hh fun I H v Q s o q => by
  cases o
  exact ⟨x, rfl, hz, q _ I H (Ext.refl s) (.str _)⟩
def cutD (xs : List PyData) (lo hi : Option Int) : List PyData := (xs.drop (HT.sIx xs.length 0 lo)).take (HT.sIx xs.length xs.length hi - HT.sIx xs.length 0 lo)
theorem cut_all {I : Hp} {xs : List V} (h : DqAll I xs ds) (lo hi : Option Int) : DqAll I (cutV xs lo hi) (cutD ds lo hi) := by
  unfold cutV cutD
  rw [h.len]
  exact (h.drop _).take _
theorem de_slT {lo hi : Option Expr} {p2 : Pos} {l u : Option Int} (ha : DE X a G (.tuple ds)) (hl : DO X lo G l) (hh : DO X hi G u) (hz : ¬ (HT.sIx ds.length 0 l = 0 ∧ HT.sIx ds.length ds.length u = ds.length)) : DE X (.Subscript a (.Slice lo hi none p2) pos) G (.tuple (cutD ds l u)) := de_sl sl_tup ha hl hh fun I H v Q s o q => by
  cases o with
  | @tup _ zs _ h1 h2 =>
    refine ⟨_, _, rfl, sqt_inj h1 s, by rw [h2.len]; exact hz, fun p n => ?_⟩
    have ex := Ext.imm (C := none) (o := .tup (cutV zs l u)) s n
    exact q _ _ _ ex (.tup upd_same ((cut_all h2 l u).mono ex.im))
theorem dn_slL {lo hi : Option Expr} {p2 : Pos} {l u : Option Int} (ha : DE X a G (.list ds)) (hl : DO X lo G l) (hh : DO X hi G u) : DN X (.Subscript a (.Slice lo hi none p2) pos) G (cutD ds l u) := dn_sl sl_list ha hl hh fun I H v Q s o q => by
  cases o with
  | lst h1 h2 =>
    refine ⟨_, _, rfl, sql_inj h1 s, fun p n => ?_⟩
    exact q p _ I (Ext.mut (C := none) s n) n (s.free n) (cut_all h2 l u)

/-! ### methods of texts -/
theorem dn_split {apos : Pos} (ha : DE X a G (.str x)) (hb : DE X b G (.str y)) (h0 : (y.length == 0) = false) (hz : x.length + 2 ≤ sizeLine) (hs : starEach [b] X.env = [(false, eval b X.env)] := by rfl) (hbase : attributeBase a "split" X.env (eval a X.env) = eval a X.env := by rfl) (hline : (apos.endLine == pos.line) = true := by rfl) :
    DN X (.Call (.Attribute a "split" apos) [b] [] pos) G ((Txt.split x y).map PyData.str) := dn_m1 (pe_split pe_wp pe_wp hs hbase hline) ha hb fun I H v u Q s o1 o2 q => by
  cases o1; cases o2
  refine ⟨x, y, rfl, rfl, h0, hz, fun p n => ?_⟩
  exact q p _ I (Ext.mut (C := none) s n) n (s.free n) (DqAll.strs _)
theorem de_part {apos : Pos} (ha : DE X a G (.str x)) (hb : DE X b G (.str y)) (h0 : (y.length == 0) = false) (hz : x.length ≤ sizeLine) (hs : starEach [b] X.env = [(false, eval b X.env)] := by rfl) (hbase : attributeBase a "partition" X.env (eval a X.env) = eval a X.env := by rfl) (hline : (apos.endLine == pos.line) = true := by rfl) :
    DE X (.Call (.Attribute a "partition" apos) [b] [] pos) G (.tuple [.str (Txt.partition x y).1, .str (Txt.partition x y).2.1, .str (Txt.partition x y).2.2]) := de_m1 (pe_partition pe_wp pe_wp hs hbase hline) ha hb fun I H v u Q s o1 o2 q => by
  cases o1; cases o2
  refine ⟨x, y, rfl, rfl, h0, hz, fun p n => ?_⟩
  have ex := Ext.imm (C := none) (o := .tup [.str (Txt.partition x y).1, .str (Txt.partition x y).2.1, .str (Txt.partition x y).2.2]) s n
  exact q _ _ _ ex (.tup upd_same (.cons (.str _) (.cons (.str _) (.cons (.str _) .nil))))
theorem om_join {K : PySem.W.Frag} {d : PyData} {ys : List Str} (f : seqOf d = some (ys.map PyData.str)) (hz : (ys.map (·.length)).sum + ys.length * x.length ≤ 16777216) : OpM (fun x xs H Q => ∃ a p, ∃ ys : List Str, x = .str a ∧ xs = [.ref p] ∧ (SqL K H p (ys.map V.str) ∨ SqT K H p (ys.map V.str)) ∧
      (ys.map (·.length)).sum + ys.length * a.length ≤ 16777216 ∧ Q (.str (Txt.join a ys)) H) (.d (.str x)) (.d d) (.d (.str (Txt.join x ys))) := fun I H v u Q s o1 o2 q => by
  cases o1
  obtain ⟨p, xs, rfl, h1, h2⟩ := seq_ok (K := K) f o2 s
  obtain rfl := h2.strs_inv
  exact ⟨x, p, ys, rfl, rfl, h1, hz, q _ I H (Ext.refl s) (.str _)⟩
theorem de_join {apos : Pos} {ys : List Str} (ha : DE X a G (.str x)) (hb : DE X b G d) (f : seqOf d = some (ys.map PyData.str)) (hz : (ys.map (·.length)).sum + ys.length * x.length ≤ 16777216) (hs : starEach [b] X.env = [(false, eval b X.env)] := by rfl) (hbase : attributeBase a "join" X.env (eval a X.env) = eval a X.env := by rfl) (hline : (apos.endLine == pos.line) = true := by rfl) :
    DE X (.Call (.Attribute a "join" apos) [b] [] pos) G (.str (Txt.join x ys)) := de_m1 (pe_join pe_wp pe_wp hs hbase hline) ha hb (om_join f hz)
theorem dt_starts {apos : Pos} (ha : DE X a G (.str x)) (hb : DE X b G (.str y)) (hs : starEach [b] X.env = [(false, eval b X.env)] := by rfl) (hbase : attributeBase a "startswith" X.env (eval a X.env) = eval a X.env := by rfl) (hline : (apos.endLine == pos.line) = true := by rfl) :
    DE X (.Call (.Attribute a "startswith" apos) [b] [] pos) G (.bool (Txt.startswith x y)) := de_m1 (pe_m1 F.slot_str_startswith F.type_str_startswith mt_startswith pe_wp pe_wp hs hbase hline) ha hb fun I H v u Q s o1 o2 q => by
  cases o1; cases o2
  exact ⟨x, y, rfl, rfl, q _ I H (Ext.refl s) (.bl _)⟩
/-- x.index(y), y is there -/
theorem mt_indexY : MtR X "str.index" (fun x xs H Q => ∃ (a b : Str) (k : Nat) (r : List Nat), x = .str a ∧ xs = [.str b] ∧ Builtin.Str.occurrences a b 0 a.length 1 = k :: r ∧ Q (.int (k : Nat)) H) := by
  intro pins s σ H x xs v us Q I rx rs h
  obtain ⟨a, b, k, r, rfl, rfl, q, w⟩ := h
  obtain ⟨t, rfl⟩ := rx
  cases rs with
  | cons r1 rs =>
    cases rs
    obtain ⟨u, rfl⟩ := r1
    exact PySem.SC.index q ⟨.int (k : Nat), H, I.tok _, ⟨_, rfl⟩, w⟩
theorem de_index {apos : Pos} {k : Nat} {r : List Nat} (ha : DE X a G (.str x)) (hb : DE X b G (.str y)) (h : Builtin.Str.occurrences x y 0 x.length 1 = k :: r) (hs : starEach [b] X.env = [(false, eval b X.env)] := by rfl) (hbase : attributeBase a "index" X.env (eval a X.env) = eval a X.env := by rfl) (hline : (apos.endLine == pos.line) = true := by rfl) :
    DE X (.Call (.Attribute a "index" apos) [b] [] pos) G (.int (k : Int)) := de_m1 (pe_m1 F.slot_str_index F.type_str_index mt_indexY pe_wp pe_wp hs hbase hline) ha hb fun I H v u Q s o1 o2 q => by
  cases o1; cases o2
  exact ⟨x, y, k, r, rfl, rfl, h, q _ I H (Ext.refl s) (.int _)⟩

/-! ### built-in classes called -/
theorem de_intS {p : Pos} {n : Int} (ha : DE X a G (.str x)) (h : PySem.intText? x = some n) (hz : x.length ≤ 640) (hm : X.mg "int" = none) (hg : Gl X "int" := by rfl) (he : starEach (a :: []) X.env = (false, eval a X.env) :: starEach [] X.env := by rfl) (hpl : (backTo pos (starEach [] X.env)).any (·.1) = false := by rfl) :
    DE X (.Call (.Name "int" p) [a] [] pos) G (.int n) := de_cb (pe_callTy call_int_str hg hm (by decide +kernel) pa_wp (by decide) (by decide) he hpl) (da_cons ha da_nil he) fun I H vs Q s o q => by
  cases o with
  | cons o1 o2 =>
    cases o1; cases o2
    exact ⟨x, n, rfl, h, hz, q _ I H (Ext.refl s) (.int _)⟩
theorem de_intI {p : Pos} {n : Int} (ha : DE X a G (.int n)) (hm : X.mg "int" = none) (hg : Gl X "int" := by rfl) (he : starEach (a :: []) X.env = (false, eval a X.env) :: starEach [] X.env := by rfl) (hpl : (backTo pos (starEach [] X.env)).any (·.1) = false := by rfl) :
    DE X (.Call (.Name "int" p) [a] [] pos) G (.int n) := de_cb (pe_callTy call_int1 hg hm (by decide +kernel) pa_wp (by decide) (by decide) he hpl) (da_cons ha da_nil he) fun I H vs Q s o q => by
  cases o with
  | cons o1 o2 =>
    cases o1; cases o2
    exact .inl ⟨n, rfl, q _ I H (Ext.refl s) (.int _)⟩
theorem de_strI {p : Pos} {n : Int} (ha : DE X a G (.int n)) (h : n.natAbs.log2 < 1920) (hm : X.mg "str" = none) (hg : Gl X "str" := by rfl) (he : starEach (a :: []) X.env = (false, eval a X.env) :: starEach [] X.env := by rfl) (hpl : (backTo pos (starEach [] X.env)).any (·.1) = false := by rfl) :
    DE X (.Call (.Name "str" p) [a] [] pos) G (.str (toString n)) := de_cb (pe_callTy call_str_int hg hm (by decide +kernel) pa_wp (by decide) (by decide) he hpl) (da_cons ha da_nil he) fun I H vs Q s o q => by
  cases o with
  | cons o1 o2 =>
    cases o1; cases o2
    exact ⟨n, rfl, h, q _ I H (Ext.refl s) (.str _)⟩
theorem de_abs {p : Pos} {n : Int} (ha : DE X a G (.int n)) (hm : X.mg "abs" = none) (hg : Gl X "abs" := by rfl) (he : starEach (a :: []) X.env = (false, eval a X.env) :: starEach [] X.env := by rfl) (hpl : (backTo pos (starEach [] X.env)).any (·.1) = false := by rfl) :
    DE X (.Call (.Name "abs" p) [a] [] pos) G (.int (if n < 0 then -n else n)) := de_cb (pe_callB call_abs hg hm (by decide +kernel) pa_wp (by decide) (by decide) he hpl) (da_cons ha da_nil he) fun I H vs Q s o q => by
  cases o with
  | cons o1 o2 =>
    cases o1; cases o2
    exact ⟨n, rfl, q _ I H (Ext.refl s) (.int _)⟩
theorem de_tupL {p : Pos} (ha : DE X a G (.list ds)) (hm : X.mg "tuple" = none) (hg : Gl X "tuple" := by rfl) (he : starEach (a :: []) X.env = (false, eval a X.env) :: starEach [] X.env := by rfl) (hpl : (backTo pos (starEach [] X.env)).any (·.1) = false := by rfl) :
    DE X (.Call (.Name "tuple" p) [a] [] pos) G (.tuple ds) := de_cb (pe_callTy call_tuple_of hg hm (by decide +kernel) pa_wp (by decide) (by decide) he hpl) (da_cons ha da_nil he) fun I H vs Q s o q => by
  cases o with
  | cons o1 o2 =>
    cases o2
    cases o1 with
    | @lst _ zs _ h1 h2 =>
      refine ⟨_, _, rfl, .inl ⟨sql_inj h1 s, fun l n => ?_⟩⟩
      have ex := Ext.imm (C := none) (o := .tup zs) s n
      exact q _ _ _ ex (.tup upd_same (h2.mono ex.im))
theorem ev_tupL {p : Pos} {P : List PyData → Prop} (ha : Ev X C a G (fun r => ∃ ds, P ds ∧ r = .d (.list ds))) (hm : X.mg "tuple" = none) (hg : Gl X "tuple" := by rfl) (he : starEach (a :: []) X.env = (false, eval a X.env) :: starEach [] X.env := by rfl) (hpl : (backTo pos (starEach [] X.env)).any (·.1) = false := by rfl) :
    Ev X C (.Call (.Name "tuple" p) [a] [] pos) G (fun r => ∃ ds, P ds ∧ r = .d (.tuple ds)) := ev_cb (pe_callTy call_tuple_of hg hm (by decide +kernel) pa_wp (by decide) (by decide) he hpl) (eva_cons (P := fun rs => ∃ ds, P ds ∧ rs = [.d (.list ds)]) ha eva_nil (fun x xs ⟨ds, h1, h2⟩ e => ⟨ds, h1, by rw [h2, e]⟩) he) fun rs ⟨ds, h1, h2⟩ => ⟨.d (.tuple ds), ⟨ds, h1, rfl⟩, fun I H vs Q s o q => by
  subst h2
  cases o with
  | cons o1 o2 =>
    cases o2
    cases o1 with
    | @lst _ zs _ h1 h2 =>
      refine ⟨_, _, rfl, .inl ⟨sql_inj h1 s, fun l n => ?_⟩⟩
      have ex := Ext.imm (C := none) (o := .tup zs) s n
      exact q _ _ _ ex (.tup upd_same (h2.mono ex.im))⟩
theorem dn_list {p : Pos} (ha : DE X a G d) (f : seqOf d = some ds) (hm : X.mg "list" = none) (hg : Gl X "list" := by rfl) (he : starEach (a :: []) X.env = (false, eval a X.env) :: starEach [] X.env := by rfl) (hpl : (backTo pos (starEach [] X.env)).any (·.1) = false := by rfl) :
    DN X (.Call (.Name "list" p) [a] [] pos) G ds := dn_cb (pe_callTy call_list_of hg hm (by decide +kernel) pa_wp (by decide) (by decide) he hpl) (da_cons ha da_nil he) fun I H vs Q s o q => by
  cases o with
  | cons o1 o2 =>
    cases o2
    obtain ⟨p0, xs, rfl, h1, h2⟩ := seq_ok (K := X.K) f o1 s
    exact ⟨_, _, rfl, h1, fun l n => q _ _ I (Ext.mut (C := none) s n) n (s.free n) h2⟩
theorem vals_of_at : ∀ {xs : List V} {us : List Value}, xs.length = us.length → (∀ (j : Nat) (x : V) (u : Value), xs[j]? = some x → us[j]? = some u → RelV x u) → Vals xs us
  | [], [], _, _ => .nil
  | x :: xs, u :: us, hl, h => .cons (h 0 x u rfl rfl) (vals_of_at (by simpa using hl) fun j x' u' h1 h2 => h (j + 1) x' u' h1 h2)
/-- list(a text) -/
theorem call_list_sg (hc : X.calm = true) : CallR X (.type "list") (fun xs H Q => ∃ z, xs = [.str z] ∧ z.length ≤ sizeLine ∧ ∀ l, H l = none → Q (.ref l) (upd H l (.lst ((tl z).map fun c => .str ⟨#[c]⟩)))) := by
  intro pins s σ H xs us Q I r h
  obtain ⟨z, rfl, hz, q⟩ := h
  obtain ⟨u, rfl, r1⟩ := vals1 r
  obtain ⟨t, rfl⟩ := r1
  refine call_list_str (I.ok.hd hc) z t (fun h' tk acc' c' hk hS hacc => ?_) hz
  have rv : Vals ((tl z).map fun c => V.str ⟨#[c]⟩) acc'.toList := by
    refine vals_of_at (by simp [hacc.1]) fun j x u hx hu => ?_
    obtain ⟨c, tk', h1, rfl⟩ := hacc.2 j u (by simpa using hu)
    rw [List.getElem?_map, show (tl z)[j]? = some c from by simpa using h1] at hx
    cases hx
    exact ⟨_, rfl⟩
  refine ⟨.ref s.heap.objs.size, _, I.laid (t' := tk) (o := .lst ((tl z).map fun c => V.str ⟨#[c]⟩)) hk (Nat.le_refl _) ⟨by rw [List.length_map, Array.length_toList]; exact hz, acc'.toList, c', rv, by simpa using hS⟩, rfl, q _ (I.hok.fresh (Nat.le_refl _))⟩
theorem dn_listS {p : Pos} (ha : DE X a G (.str x)) (hz : x.length ≤ sizeLine) (hm : X.mg "list" = none) (hc : X.calm = true := by rfl) (hg : Gl X "list" := by rfl) (he : starEach (a :: []) X.env = (false, eval a X.env) :: starEach [] X.env := by rfl) (hpl : (backTo pos (starEach [] X.env)).any (·.1) = false := by rfl) :
    DN X (.Call (.Name "list" p) [a] [] pos) G ((tl x).map sg) := dn_cb (pe_callTy (call_list_sg hc) hg hm (by decide +kernel) pa_wp (by decide) (by decide) he hpl) (da_cons ha da_nil he) fun I H vs Q s o q => by
  cases o with
  | cons o1 o2 =>
    cases o1; cases o2
    refine ⟨_, rfl, hz, fun l n => q _ _ I (Ext.mut (C := none) s n) n (s.free n) ?_⟩
    have := DqAll.strs (H := I) ((tl x).map fun c => (⟨#[c]⟩ : Str))
    rw [List.map_map, List.map_map] at this
    exact this

/-! ### lists and tuples put together -/
theorem dn_cat (ha : DE X a G (.list ds)) (hb : DE X b G (.list es)) (hz : ds.length + es.length ≤ sizeLine) : DN X (.BinOp a .Add b pos) G (ds ++ es) := dn_bin op_cat ha hb fun I H v u Q s o1 o2 q => by
  cases o1 with
  | lst h1 h2 =>
    cases o2 with
    | lst h3 h4 => exact ⟨_, _, _, _, rfl, rfl, s _ _ h1, s _ _ h3, by rw [h2.len, h4.len]; exact hz, fun l n => q _ _ I (Ext.mut (C := none) s n) n (s.free n) (h2.app h4)⟩
theorem de_catT (ha : DE X a G (.tuple ds)) (hb : DE X b G (.tuple es)) (h0 : ds ≠ []) (h1 : es ≠ []) (hz : ds.length + es.length ≤ sizeLine) : DE X (.BinOp a .Add b pos) G (.tuple (ds ++ es)) := de_bin op_catT ha hb fun I H v u Q s o1 o2 q => by
  cases o1 with
  | @tup _ zs _ g1 g2 =>
    cases o2 with
    | @tup _ ws _ g3 g4 =>
      refine ⟨_, _, _, _, rfl, rfl, sqt_inj g1 s, sqt_inj g3 s, fun z => by subst z; cases g2; exact h0 rfl, by rw [g2.len, g4.len]; exact hz, fun z => absurd (by subst z; cases g4; rfl) h1, fun _ l n => ?_⟩
      have ex := Ext.imm (C := none) (o := .tup (zs ++ ws)) s n
      exact q _ _ _ ex (.tup upd_same ((g2.app g4).mono ex.im))
end
end QL
/-! The text by places; what is known of the module. -/
namespace QL
open PySem PySem.Spec PyProof.Rows L2
def topS (i : Nat) : Stmt := PySem.Challenge.pw_quiltward_k22_whole_any_lines_are_read_o.main.body.getD i (.Pass ⟨0, 0, 0, 0⟩)
abbrev s_only_has : Stmt := topS 11
abbrev n_only_has : List Str := ["text", "letters", "char"]
theorem c_only_has : FnScope n_only_has ["text", "letters"] (defScope s_only_has) := ⟨rfl, rfl, rfl, by decide +kernel, rfl, by decide +kernel, by decide +kernel⟩
abbrev s_is_text : Stmt := topS 12
abbrev n_is_text : List Str := ["text", "char"]
theorem c_is_text : FnScope n_is_text ["text"] (defScope s_is_text) := ⟨rfl, rfl, rfl, by decide +kernel, rfl, by decide +kernel, by decide +kernel⟩
abbrev s_is_path : Stmt := topS 13
abbrev n_is_path : List Str := ["path", "parts", "part"]
theorem c_is_path : FnScope n_is_path ["path"] (defScope s_is_path) := ⟨rfl, rfl, rfl, by decide +kernel, rfl, by decide +kernel, by decide +kernel⟩
abbrev s_is_ascending : Stmt := topS 14
abbrev n_is_ascending : List Str := ["items", "k"]
theorem c_is_ascending : FnScope n_is_ascending ["items"] (defScope s_is_ascending) := ⟨rfl, rfl, rfl, by decide +kernel, rfl, by decide +kernel, by decide +kernel⟩
abbrev s_is_label : Stmt := topS 15
abbrev n_is_label : List Str := ["label", "word", "level", "marks", "known", "mark"]
theorem c_is_label : FnScope n_is_label ["label"] (defScope s_is_label) := ⟨rfl, rfl, rfl, by decide +kernel, rfl, by decide +kernel, by decide +kernel⟩
abbrev s_is_id : Stmt := topS 16
abbrev n_is_id : List Str := ["name", "label", "author", "number"]
theorem c_is_id : FnScope n_is_id ["name"] (defScope s_is_id) := ⟨rfl, rfl, rfl, by decide +kernel, rfl, by decide +kernel, by decide +kernel⟩
abbrev s_read_number : Stmt := topS 18
abbrev n_read_number : List Str := ["text", "least", "most", "char"]
theorem c_read_number : FnScope n_read_number ["text", "least", "most"] (defScope s_read_number) := ⟨rfl, rfl, rfl, by decide +kernel, rfl, by decide +kernel, by decide +kernel⟩
abbrev s_show_label : Stmt := topS 19
abbrev n_show_label : List Str := ["label", "marks", "mark"]
theorem c_show_label : FnScope n_show_label ["label"] (defScope s_show_label) := ⟨rfl, rfl, rfl, by decide +kernel, rfl, by decide +kernel, by decide +kernel⟩
abbrev s_read_label : Stmt := topS 20
abbrev n_read_label : List Str := ["text", "head", "colon", "marks", "label", "char"]
theorem c_read_label : FnScope n_read_label ["text"] (defScope s_read_label) := ⟨rfl, rfl, rfl, by decide +kernel, rfl, by decide +kernel, by decide +kernel⟩
abbrev s_show_path : Stmt := topS 21
abbrev n_show_path : List Str := ["path"]
theorem c_show_path : FnScope n_show_path ["path"] (defScope s_show_path) := ⟨rfl, rfl, rfl, by decide +kernel, rfl, by decide +kernel, by decide +kernel⟩
abbrev s_read_path : Stmt := topS 22
abbrev n_read_path : List Str := ["text", "path"]
theorem c_read_path : FnScope n_read_path ["text"] (defScope s_read_path) := ⟨rfl, rfl, rfl, by decide +kernel, rfl, by decide +kernel, by decide +kernel⟩
abbrev s_show_id : Stmt := topS 23
abbrev n_show_id : List Str := ["name"]
theorem c_show_id : FnScope n_show_id ["name"] (defScope s_show_id) := ⟨rfl, rfl, rfl, by decide +kernel, rfl, by decide +kernel, by decide +kernel⟩
abbrev s_read_id : Stmt := topS 24
abbrev n_read_id : List Str := ["text", "parts", "label", "number"]
theorem c_read_id : FnScope n_read_id ["text"] (defScope s_read_id) := ⟨rfl, rfl, rfl, by decide +kernel, rfl, by decide +kernel, by decide +kernel⟩
abbrev s_show_vertex : Stmt := topS 25
abbrev n_show_vertex : List Str := ["vertex"]
theorem c_show_vertex : FnScope n_show_vertex ["vertex"] (defScope s_show_vertex) := ⟨rfl, rfl, rfl, by decide +kernel, rfl, by decide +kernel, by decide +kernel⟩
abbrev s_read_vertex : Stmt := topS 26
abbrev n_read_vertex : List Str := ["text", "parts", "name", "place", "index"]
theorem c_read_vertex : FnScope n_read_vertex ["text"] (defScope s_read_vertex) := ⟨rfl, rfl, rfl, by decide +kernel, rfl, by decide +kernel, by decide +kernel⟩
abbrev s_show_vertices : Stmt := topS 27
abbrev n_show_vertices : List Str := ["vertices", "vertex"]
theorem c_show_vertices : FnScope n_show_vertices ["vertices"] (defScope s_show_vertices) := ⟨rfl, rfl, rfl, by decide +kernel, rfl, by decide +kernel, by decide +kernel⟩
abbrev s_read_vertices : Stmt := topS 28
abbrev n_read_vertices : List Str := ["text", "most", "found", "part"]
theorem c_read_vertices : FnScope n_read_vertices ["text", "most"] (defScope s_read_vertices) := ⟨rfl, rfl, rfl, by decide +kernel, rfl, by decide +kernel, by decide +kernel⟩
abbrev s_show_change : Stmt := topS 29
abbrev n_show_change : List Str := ["change", "kind", "head", "text"]
theorem c_show_change : FnScope n_show_change ["change"] (defScope s_show_change) := ⟨rfl, rfl, rfl, by decide +kernel, rfl, by decide +kernel, by decide +kernel⟩
abbrev s_show_patch : Stmt := topS 30
abbrev n_show_patch : List Str := ["patch", "found", "change"]
theorem c_show_patch : FnScope n_show_patch ["patch"] (defScope s_show_patch) := ⟨rfl, rfl, rfl, by decide +kernel, rfl, by decide +kernel, by decide +kernel⟩
abbrev s_read_parts : Stmt := topS 31
abbrev n_read_parts : List Str := ["words", "kind", "bounds"]
theorem c_read_parts : FnScope n_read_parts ["words"] (defScope s_read_parts) := ⟨rfl, rfl, rfl, by decide +kernel, rfl, by decide +kernel, by decide +kernel⟩
abbrev s_read_texts : Stmt := topS 32
abbrev n_read_texts : List Str := ["lines", "at", "count", "found", "k"]
theorem c_read_texts : FnScope n_read_texts ["lines", "at", "count"] (defScope s_read_texts) := ⟨rfl, rfl, rfl, by decide +kernel, rfl, by decide +kernel, by decide +kernel⟩
abbrev s_read_change : Stmt := topS 33
abbrev n_read_change : List Str := ["lines", "at", "change", "texts"]
theorem c_read_change : FnScope n_read_change ["lines", "at"] (defScope s_read_change) := ⟨rfl, rfl, rfl, by decide +kernel, rfl, by decide +kernel, by decide +kernel⟩
abbrev s_read_head : Stmt := topS 34
abbrev n_read_head : List Str := ["lines", "at", "name", "note"]
theorem c_read_head : FnScope n_read_head ["lines", "at"] (defScope s_read_head) := ⟨rfl, rfl, rfl, by decide +kernel, rfl, by decide +kernel, by decide +kernel⟩
abbrev s_read_from : Stmt := topS 35
abbrev n_read_from : List Str := ["lines", "at", "name", "note", "changes", "change"]
theorem c_read_from : FnScope n_read_from ["lines", "at"] (defScope s_read_from) := ⟨rfl, rfl, rfl, by decide +kernel, rfl, by decide +kernel, by decide +kernel⟩
abbrev s_read_patch : Stmt := topS 36
abbrev n_read_patch : List Str := ["lines", "patch", "at"]
theorem c_read_patch : FnScope n_read_patch ["lines"] (defScope s_read_patch) := ⟨rfl, rfl, rfl, by decide +kernel, rfl, by decide +kernel, by decide +kernel⟩
abbrev s_show_patches : Stmt := topS 37
abbrev n_show_patches : List Str := ["patches", "found", "patch"]
theorem c_show_patches : FnScope n_show_patches ["patches"] (defScope s_show_patches) := ⟨rfl, rfl, rfl, by decide +kernel, rfl, by decide +kernel, by decide +kernel⟩
abbrev s_read_patches : Stmt := topS 38
abbrev n_read_patches : List Str := ["lines", "found", "at", "patch"]
theorem c_read_patches : FnScope n_read_patches ["lines"] (defScope s_read_patches) := ⟨rfl, rfl, rfl, by decide +kernel, rfl, by decide +kernel, by decide +kernel⟩
abbrev s_law_state : Stmt := topS 40
abbrev n_law_state : List Str := ["_law_script", "_law_seed", "_law_cell"]
theorem c_law_state : FnScope n_law_state ["_law_script"] (defScope s_law_state) := ⟨rfl, rfl, rfl, by decide +kernel, rfl, by decide +kernel, by decide +kernel⟩
abbrev s_law_draw : Stmt := topS 41
abbrev n_law_draw : List Str := ["_law_state_here", "_law_many", "_law_cells", "_law_value", "_law_mixed"]
theorem c_law_draw : FnScope n_law_draw ["_law_state_here", "_law_many"] (defScope s_law_draw) := ⟨rfl, rfl, rfl, by decide +kernel, rfl, by decide +kernel, by decide +kernel⟩
abbrev s_law_pick : Stmt := topS 42
abbrev n_law_pick : List Str := ["_law_state_here", "_law_row"]
theorem c_law_pick : FnScope n_law_pick ["_law_state_here", "_law_row"] (defScope s_law_pick) := ⟨rfl, rfl, rfl, by decide +kernel, rfl, by decide +kernel, by decide +kernel⟩
abbrev s_law_label : Stmt := topS 43
abbrev n_law_label : List Str := ["_law_state_here", "_law_mark"]
theorem c_law_label : FnScope n_law_label ["_law_state_here"] (defScope s_law_label) := ⟨rfl, rfl, rfl, by decide +kernel, rfl, by decide +kernel, by decide +kernel⟩
abbrev s_law_word : Stmt := topS 44
abbrev n_law_word : List Str := ["_law_state_here", "_law_letters", "_law_most", "_law_k"]
theorem c_law_word : FnScope n_law_word ["_law_state_here", "_law_letters", "_law_most"] (defScope s_law_word) := ⟨rfl, rfl, rfl, by decide +kernel, rfl, by decide +kernel, by decide +kernel⟩
abbrev s_law_name : Stmt := topS 45
abbrev n_law_name : List Str := ["_law_state_here", "_law_label_here", "_law_number"]
theorem c_law_name : FnScope n_law_name ["_law_state_here", "_law_label_here"] (defScope s_law_name) := ⟨rfl, rfl, rfl, by decide +kernel, rfl, by decide +kernel, by decide +kernel⟩
abbrev s_law_vertex : Stmt := topS 46
abbrev n_law_vertex : List Str := ["_law_state_here", "_law_label_here", "_law_place"]
theorem c_law_vertex : FnScope n_law_vertex ["_law_state_here", "_law_label_here"] (defScope s_law_vertex) := ⟨rfl, rfl, rfl, by decide +kernel, rfl, by decide +kernel, by decide +kernel⟩
abbrev s_law_path : Stmt := topS 47
abbrev n_law_path : List Str := ["_law_state_here", "_law_k"]
theorem c_law_path : FnScope n_law_path ["_law_state_here"] (defScope s_law_path) := ⟨rfl, rfl, rfl, by decide +kernel, rfl, by decide +kernel, by decide +kernel⟩
abbrev s_law_vertices : Stmt := topS 48
abbrev n_law_vertices : List Str := ["_law_state_here", "_law_label_here", "_law_least", "_law_most", "_law_found", "_law_k", "_law_one"]
theorem c_law_vertices : FnScope n_law_vertices ["_law_state_here", "_law_label_here", "_law_least", "_law_most"] (defScope s_law_vertices) := ⟨rfl, rfl, rfl, by decide +kernel, rfl, by decide +kernel, by decide +kernel⟩
abbrev s_law_line : Stmt := topS 49
abbrev n_law_line : List Str := ["_law_state_here", "_law_text"]
theorem c_law_line : FnScope n_law_line ["_law_state_here"] (defScope s_law_line) := ⟨rfl, rfl, rfl, by decide +kernel, rfl, by decide +kernel, by decide +kernel⟩
abbrev s_law_change : Stmt := topS 50
abbrev n_law_change : List Str := ["_law_state_here", "_law_label_here", "_law_kind", "_law_file", "_law_one", "_law_other", "_law_texts", "_law_k"]
theorem c_law_change : FnScope n_law_change ["_law_state_here", "_law_label_here"] (defScope s_law_change) := ⟨rfl, rfl, rfl, by decide +kernel, rfl, by decide +kernel, by decide +kernel⟩
abbrev s_law_patch : Stmt := topS 51
abbrev n_law_patch : List Str := ["_law_state_here", "_law_label_here", "_law_changes", "_law_k"]
theorem c_law_patch : FnScope n_law_patch ["_law_state_here"] (defScope s_law_patch) := ⟨rfl, rfl, rfl, by decide +kernel, rfl, by decide +kernel, by decide +kernel⟩
abbrev s_law_show_id : Stmt := topS 52
abbrev n_law_show_id : List Str := ["_law_name_here", "_law_marks", "_law_mark"]
theorem c_law_show_id : FnScope n_law_show_id ["_law_name_here"] (defScope s_law_show_id) := ⟨rfl, rfl, rfl, by decide +kernel, rfl, by decide +kernel, by decide +kernel⟩
abbrev s_law_show_vertex : Stmt := topS 53
abbrev n_law_show_vertex : List Str := ["_law_vertex_here"]
theorem c_law_show_vertex : FnScope n_law_show_vertex ["_law_vertex_here"] (defScope s_law_show_vertex) := ⟨rfl, rfl, rfl, by decide +kernel, rfl, by decide +kernel, by decide +kernel⟩
abbrev s_law_show_vertices : Stmt := topS 54
abbrev n_law_show_vertices : List Str := ["_law_vertices_here", "_law_vertex_here"]
theorem c_law_show_vertices : FnScope n_law_show_vertices ["_law_vertices_here"] (defScope s_law_show_vertices) := ⟨rfl, rfl, rfl, by decide +kernel, rfl, by decide +kernel, by decide +kernel⟩
abbrev s_law_show_patch : Stmt := topS 55
abbrev n_law_show_patch : List Str := ["_law_patch_here", "_law_found", "_law_change_here", "_law_kind", "_law_bounds", "_law_text", "_law_vertex_here"]
theorem c_law_show_patch : FnScope n_law_show_patch ["_law_patch_here"] (defScope s_law_show_patch) := ⟨rfl, rfl, rfl, by decide +kernel, rfl, by decide +kernel, by decide +kernel⟩
abbrev s_law_is_number : Stmt := topS 56
abbrev n_law_is_number : List Str := ["_law_text", "_law_least", "_law_most", "_law_char", "_law_value"]
theorem c_law_is_number : FnScope n_law_is_number ["_law_text", "_law_least", "_law_most"] (defScope s_law_is_number) := ⟨rfl, rfl, rfl, by decide +kernel, rfl, by decide +kernel, by decide +kernel⟩
abbrev s_law_is_label : Stmt := topS 57
abbrev n_law_is_label : List Str := ["_law_text", "_law_marks", "_law_k", "_law_char"]
theorem c_law_is_label : FnScope n_law_is_label ["_law_text"] (defScope s_law_is_label) := ⟨rfl, rfl, rfl, by decide +kernel, rfl, by decide +kernel, by decide +kernel⟩
abbrev s_law_is_path : Stmt := topS 58
abbrev n_law_is_path : List Str := ["_law_text", "_law_parts", "_law_letters", "_law_wrong", "_law_part", "_law_char"]
theorem c_law_is_path : FnScope n_law_is_path ["_law_text"] (defScope s_law_is_path) := ⟨rfl, rfl, rfl, by decide +kernel, rfl, by decide +kernel, by decide +kernel⟩
abbrev s_law_is_id : Stmt := topS 59
abbrev n_law_is_id : List Str := ["_law_parts", "_law_letters", "_law_char"]
theorem c_law_is_id : FnScope n_law_is_id ["_law_parts"] (defScope s_law_is_id) := ⟨rfl, rfl, rfl, by decide +kernel, rfl, by decide +kernel, by decide +kernel⟩
abbrev s_law_is_vertex : Stmt := topS 60
abbrev n_law_is_vertex : List Str := ["_law_parts"]
theorem c_law_is_vertex : FnScope n_law_is_vertex ["_law_parts"] (defScope s_law_is_vertex) := ⟨rfl, rfl, rfl, by decide +kernel, rfl, by decide +kernel, by decide +kernel⟩
abbrev s_law_key : Stmt := topS 61
abbrev n_law_key : List Str := ["_law_text", "_law_parts", "_law_marks", "_law_char"]
theorem c_law_key : FnScope n_law_key ["_law_text"] (defScope s_law_key) := ⟨rfl, rfl, rfl, by decide +kernel, rfl, by decide +kernel, by decide +kernel⟩
abbrev s_law_are_vertices : Stmt := topS 62
abbrev n_law_are_vertices : List Str := ["_law_text", "_law_least", "_law_most", "_law_parts", "_law_keys", "_law_part", "_law_k"]
theorem c_law_are_vertices : FnScope n_law_are_vertices ["_law_text", "_law_least", "_law_most"] (defScope s_law_are_vertices) := ⟨rfl, rfl, rfl, by decide +kernel, rfl, by decide +kernel, by decide +kernel⟩
abbrev s_law_change_fits : Stmt := topS 63
abbrev n_law_change_fits : List Str := ["_law_words", "_law_kind", "_law_far", "_law_word_here"]
theorem c_law_change_fits : FnScope n_law_change_fits ["_law_words"] (defScope s_law_change_fits) := ⟨rfl, rfl, rfl, by decide +kernel, rfl, by decide +kernel, by decide +kernel⟩
abbrev s_law_is_text : Stmt := topS 64
abbrev n_law_is_text : List Str := ["_law_text", "_law_char"]
theorem c_law_is_text : FnScope n_law_is_text ["_law_text"] (defScope s_law_is_text) := ⟨rfl, rfl, rfl, by decide +kernel, rfl, by decide +kernel, by decide +kernel⟩
abbrev s_law_fault : Stmt := topS 65
abbrev n_law_fault : List Str := ["_law_lines", "_law_wants", "_law_left", "_law_count", "_law_ends", "_law_k", "_law_line_here", "_law_words"]
theorem c_law_fault : FnScope n_law_fault ["_law_lines"] (defScope s_law_fault) := ⟨rfl, rfl, rfl, by decide +kernel, rfl, by decide +kernel, by decide +kernel⟩
abbrev s_law_turned : Stmt := topS 66
abbrev n_law_turned : List Str := ["_law_state_here", "_law_lines", "_law_found", "_law_turn", "_law_kind", "_law_at", "_law_line_here", "_law_place", "_law_sign"]
theorem c_law_turned : FnScope n_law_turned ["_law_state_here", "_law_lines"] (defScope s_law_turned) := ⟨rfl, rfl, rfl, by decide +kernel, rfl, by decide +kernel, by decide +kernel⟩
abbrev s_law_all : Stmt := topS 67
abbrev n_law_all : List Str := ["_law_lines", "e"]
theorem c_law_all : FnScope n_law_all ["_law_lines"] (defScope s_law_all) := ⟨rfl, rfl, rfl, by decide +kernel, rfl, by decide +kernel, by decide +kernel⟩
abbrev s_law_first : Stmt := topS 68
abbrev n_law_first : List Str := ["_law_lines", "e"]
theorem c_law_first : FnScope n_law_first ["_law_lines"] (defScope s_law_first) := ⟨rfl, rfl, rfl, by decide +kernel, rfl, by decide +kernel, by decide +kernel⟩
abbrev s_law : Stmt := topS 69
abbrev n_law : List Str := ["_law_script", "_law_state_here", "_law_lines", "_law_k", "_law_before", "_law_due", "_law_ends", "_law_fault_here", "_law_found", "_law_one", "_law_first_here"]
theorem c_law : FnScope n_law ["_law_script"] (defScope s_law) := ⟨rfl, rfl, rfl, by decide +kernel, rfl, by decide +kernel, by decide +kernel⟩
/-- built-ins that stand under their names -/
structure Bt (mg : Str → Option Value) : Prop where
  len : mg "len" = none
  int : mg "int" = none
  str : mg "str" = none
  tuple : mg "tuple" = none
  list : mg "list" = none
  range : mg "range" = none
  abs : mg "abs" = none
  sorted : mg "sorted" = none
  isin : mg "isinstance" = none
  bool : mg "bool" = none
/-- the module's constants -/
structure Ct (mg : Str → Option Value) : Prop where
  LOWER : ∃ t, mg "LOWER" = some (.str "abcdefghijklmnopqrstuvwxyz" t)
  DIGITS : ∃ t, mg "DIGITS" = some (.str "0123456789" t)
  CHANGES : ∃ t, mg "MOST_CHANGES" = some (.int 12 t)
  NUMBER : ∃ t, mg "MOST_NUMBER" = some (.int 99999 t)
  LINES : ∃ t, mg "MOST_LINES" = some (.int 200 t)
  BOUNDS : ∃ t, mg "MOST_BOUNDS" = some (.int 12 t)
  TEXT : ∃ t, mg "MOST_TEXT" = some (.int 40 t)
/-- a def of the text as it stands behind the top -/
def Df (K : PySem.W.Frag) (mg : Str → Option Value) (x : Str) (st : Stmt) (ps : List Str) (f : Addr) (fd : FuncData) : Prop := Fun K x x st f fd ∧ mg x = some (.ref f) ∧ Binds K fd ps []
/-- a def keeps its promise -/
def Ok (P : Program) (w : World) (K : PySem.W.Frag) (mg : Str → Option Value) (base : Heap) (k : Nat) (x : Str) (ps : List Str) (F : Spc) : Prop :=
  ∃ f fd, mg x = some (.ref f) ∧ PySem.W.keepIn K (.ref f) = true ∧ Binds K fd ps [] ∧ FnOk P w K mg base CX0 k f fd ps (spF F)
theorem Df.ok {P : Program} {w : World} {K : PySem.W.Frag} {mg : Str → Option Value} {base : Heap} {k : Nat} {x : Str} {st : Stmt} {ps : List Str} {F : Spc} {f : Addr} {fd : FuncData} (D : Df K mg x st ps f fd) (h : FnOk P w K mg base CX0 k f fd ps (spF F)) : Ok P w K mg base k x ps F :=
  ⟨f, fd, D.2.1, D.1.kp, D.2.2, h⟩
section
variable {X : Cx} {C : Cs} {G : List Sl} {pos p : Pos} {P : Sl → Prop} {k : Nat} {ps : List Str} {F : Spc} {x : Str} {e : Expr} {es : List Expr}
theorem ev_fn {Pa : List Sl → Prop} (g : Ok X.prog X.w X.K X.mg X.base k x ps F) (hr : Room k X.A) (ha : EvA X C (e :: es) G Pa) (h : ∀ rs, Pa rs → F C rs P)
    (hg : Gl X x := by rfl) (hdb : (x == ("__debug__" : Str)) = false := by decide) (he : starEach (e :: es) X.env = (false, eval e X.env) :: starEach es X.env := by rfl) (hpl : (backTo pos (starEach es X.env)).any (·.1) = false := by rfl) : Ev X C (.Call (.Name x p) (e :: es) [] pos) G P := by
  obtain ⟨f, fd, h1, h2, h3, h4⟩ := g
  exact ev_call h4 hr h1 h2 h3 ha h hg hdb he hpl
theorem de_fn {rs : List Sl} {d : PyData} (g : Ok X.prog X.w X.K X.mg X.base k x ps F) (hr : Room k X.A) (ha : DA X (e :: es) G rs) (h : ∀ C, F C rs (· = .d d))
    (hg : Gl X x := by rfl) (hdb : (x == ("__debug__" : Str)) = false := by decide) (he : starEach (e :: es) X.env = (false, eval e X.env) :: starEach es X.env := by rfl) (hpl : (backTo pos (starEach es X.env)).any (·.1) = false := by rfl) : DE X (.Call (.Name x p) (e :: es) [] pos) G d := fun C =>
  ev_fn g hr (ha C) (fun rs' e => by rw [e]; exact h C) hg hdb he hpl
end
/-- sizes -/
theorem sz {n : Nat} (h : n ≤ 10000000) : n ≤ sizeLine := Nat.le_trans h (by decide)
end QL
/-! The plain mathematics: texts, numbers, labels, ids, vertices; what is read is what was written. -/
namespace QL
open PySem L2

/-! ### data: labels, ids, vertices -/
structure Lab where
  lv : Nat
  ms : List Nat
  deriving DecidableEq
def inat (n : Nat) : PyData := .int (n : Int)
def Lab.d (l : Lab) : PyData := .tuple [.str "label", inat l.lv, .tuple (l.ms.map inat)]
structure Idn where
  lab : Lab
  nm : Str
  no : Nat
  deriving DecidableEq
def Idn.d (i : Idn) : PyData := .tuple [i.lab.d, .str i.nm, inat i.no]
structure Vx where
  id : Idn
  pl : Nat
  ix : Nat
  deriving DecidableEq
def Vx.d (v : Vx) : PyData := .tuple [v.id.d, inat v.pl, inat v.ix]
def optD {α : Type} (f : α → PyData) : Option α → PyData
  | none => .none
  | some x => f x

/-! ### signs -/
def LOW : List Nat := tl "abcdefghijklmnopqrstuvwxyz"
def DIG : List Nat := tl "0123456789"
def onlyHas (t l : List Nat) : Bool := t.all fun c => decide (c ∈ l)
def isText (t : Str) : Bool := decide (t.length ≤ 40) && (tl t).all fun c => decide (32 ≤ c) && decide (c ≤ 126)
def partOk (p : Str) : Bool := decide (1 ≤ p.length) && decide (p.length ≤ 8) && onlyHas (tl p) (LOW ++ DIG)
def isPath (ps : List Str) : Bool := decide (1 ≤ ps.length) && decide (ps.length ≤ 4) && ps.all partOk
theorem DIG_eq : DIG = [48, 49, 50, 51, 52, 53, 54, 55, 56, 57] := by decide +kernel
theorem mem_DIG {c : Nat} : c ∈ DIG ↔ 48 ≤ c ∧ c ≤ 57 := by
  rw [DIG_eq]
  simp only [List.mem_cons, List.not_mem_nil, or_false]
  omega
theorem LOW_eq : LOW = [97, 98, 99, 100, 101, 102, 103, 104, 105, 106, 107, 108, 109, 110, 111, 112, 113, 114, 115, 116, 117, 118, 119, 120, 121, 122] := by decide +kernel
theorem mem_LOW {c : Nat} : c ∈ LOW ↔ 97 ≤ c ∧ c ≤ 122 := by
  rw [LOW_eq]
  simp only [List.mem_cons, List.not_mem_nil, or_false]
  omega
theorem only_dig {t : List Nat} : onlyHas t DIG = true ↔ NumText.AllDigits t := by
  unfold onlyHas NumText.AllDigits
  simp only [List.all_eq_true, decide_eq_true_eq, mem_DIG]
theorem len_tl' (x : Str) : (tl x).length = x.length := by rw [Array.length_toList]; rfl
theorem ext_s {x y : Str} (h : tl x = tl y) : x = y := TL.ext_tl h
theorem tl_app (x y : Str) : tl (x ++ y) = tl x ++ tl y := TL.tl_append x y

/-! ### a text cut at each s -/
def spc (s : Nat) : List Nat → List (List Nat)
  | [] => [[]]
  | c :: r => if c = s then [] :: spc s r else match spc s r with
    | p :: ps => (c :: p) :: ps
    | [] => [[c]]
theorem spc_ne (s : Nat) : ∀ l, spc s l ≠ []
  | [] => by simp [spc]
  | c :: r => by
    unfold spc
    split
    · simp
    · split <;> simp
theorem spc_free (s : Nat) : ∀ l, ∀ p ∈ spc s l, s ∉ p
  | [], p, h => by simp [spc] at h; subst h; simp
  | c :: r, p, h => by
    unfold spc at h
    split at h
    · rcases List.mem_cons.mp h with rfl | h
      · simp
      · exact spc_free s r p h
    · rename_i hc
      split at h
      · rename_i q qs hq
        rcases List.mem_cons.mp h with rfl | h
        · have := spc_free s r q (by rw [hq]; exact List.mem_cons_self)
          simp only [List.mem_cons, not_or]
          exact ⟨fun e => hc e.symm, this⟩
        · exact spc_free s r p (by rw [hq]; exact List.mem_cons_of_mem _ h)
      · simp at h
        subst h
        simp only [List.mem_cons, List.not_mem_nil, or_false]
        exact fun e => hc e.symm
theorem spc_join (s : Nat) : ∀ l, TL.joinL [s] (spc s l) = l
  | [] => rfl
  | c :: r => by
    have ih := spc_join s r
    have ne := spc_ne s r
    unfold spc
    split
    · rename_i hc
      subst hc
      cases hq : spc c r with
      | nil => exact absurd hq ne
      | cons q qs =>
        rw [hq] at ih
        show [] ++ ([c] ++ TL.joinL [c] (q :: qs)) = c :: r
        rw [ih]; rfl
    · cases hq : spc s r with
      | nil => exact absurd hq ne
      | cons q qs =>
        rw [hq] at ih
        show TL.joinL [s] ((c :: q) :: qs) = c :: r
        cases qs with
        | nil =>
          have : q = r := ih
          rw [← this]; rfl
        | cons q2 qs =>
          have : q ++ ([s] ++ TL.joinL [s] (q2 :: qs)) = r := ih
          rw [← this]; rfl
theorem spl_spc (s : Nat) : ∀ (l acc : List Nat), TL.spl [s] 0 acc l = (match spc s l with | p :: ps => (acc ++ p) :: ps | [] => [])
  | [], acc => by
    rw [TL.spl_nil]
    simp [spc]
  | c :: r, acc => by
    by_cases hc : c = s
    · subst hc
      rw [TL.spl_hit (by unfold TL.pre; simp)]
      show acc :: TL.spl [c] 0 [] r = _
      rw [spl_spc c r []]
      rw [show spc c (c :: r) = [] :: spc c r from by rw [spc, if_pos rfl]]
      cases hq : spc c r with
      | nil => exact absurd hq (spc_ne c r)
      | cons q qs => simp
    · rw [TL.spl_miss (TL.pre_of_head [] r hc), spl_spc s r (acc ++ [c])]
      rw [show spc s (c :: r) = (match spc s r with | p :: ps => (c :: p) :: ps | [] => [[c]]) from by rw [spc, if_neg hc]]
      cases hq : spc s r with
      | nil => exact absurd hq (spc_ne s r)
      | cons q qs => simp
theorem split_spc (x : Str) (s : Nat) (hs : s < 256 := by decide) : (Txt.split x ⟨#[s]⟩).map tl = spc s (tl x) := by
  have h := TL.split_spl x ⟨#[s]⟩ (by show [s] ≠ []; simp) (TL.kind_ok (by simp [hs]))
  refine h.trans ?_
  show TL.spl [s] 0 [] (tl x) = _
  rw [spl_spc]
  cases hq : spc s (tl x) with
  | nil => exact absurd hq (spc_ne s _)
  | cons q qs => simp
theorem split_ne (x : Str) (s : Nat) (hs : s < 256 := by decide) : Txt.split x ⟨#[s]⟩ ≠ [] := fun e => by
  have := split_spc x s hs
  rw [e] at this
  exact spc_ne s _ this.symm
theorem split_free {x p : Str} {s : Nat} (h : p ∈ Txt.split x ⟨#[s]⟩) (hs : s < 256 := by decide) : s ∉ tl p :=
  spc_free s (tl x) (tl p) (by rw [← split_spc x s hs]; exact List.mem_map_of_mem h)
/-- what was cut, joined again -/
theorem join_split (x : Str) (s : Nat) (hs : s < 256 := by decide) : Txt.join ⟨#[s]⟩ (Txt.split x ⟨#[s]⟩) = x := by
  refine ext_s ?_
  rw [TL.join_eq]
  refine (TL.tl_join _ _).trans ?_
  show TL.joinL [s] ((Txt.split x ⟨#[s]⟩).map tl) = _
  rw [split_spc x s hs, spc_join]
/-- what was joined, cut again -/
theorem split_join' {ps : List Str} {s : Nat} (hne : ps ≠ []) (hp : ∀ p ∈ ps, s ∉ tl p) (hs : s < 256 := by decide) : Txt.split (Txt.join ⟨#[s]⟩ ps) ⟨#[s]⟩ = ps :=
  TL.split_join (y := ⟨#[s]⟩) (S := []) rfl (by simp [hs]) hne hp
theorem joinL_len (S : List Nat) : ∀ ps : List (List Nat), ∀ p ∈ ps, p.length ≤ (TL.joinL S ps).length
  | [q], p, h => by simp at h; subst h; exact Nat.le_refl _
  | q :: r :: t, p, h => by
    show _ ≤ (q ++ (S ++ TL.joinL S (r :: t))).length
    rw [List.length_append, List.length_append]
    rcases List.mem_cons.mp h with rfl | h
    · omega
    · have := joinL_len S (r :: t) p h
      omega
theorem split_len {x p : Str} {s : Nat} (h : p ∈ Txt.split x ⟨#[s]⟩) (hs : s < 256 := by decide) : p.length ≤ x.length := by
  have := joinL_len [s] (spc s (tl x)) (tl p) (by rw [← split_spc x s hs]; exact List.mem_map_of_mem h)
  rw [spc_join, len_tl', len_tl'] at this
  exact this
theorem split_many (x : Str) (s : Nat) : (Txt.split x ⟨#[s]⟩).length ≤ x.length + 2 := PyProof.Rows.split_le x _

/-! ### numbers -/
def nS (n : Nat) : Str := Str.ofString (toString (n : Int))
theorem tl_nS (n : Nat) : tl (nS n) = TL.numL n := TL.tl_num n
def numOk (cs : List Nat) : Bool := !cs.isEmpty && decide (cs.length ≤ 5) && onlyHas cs DIG && (decide (cs.length ≤ 1) || !decide (cs.head? = some 48))
abbrev val (cs : List Nat) : Nat := NumText.digitsVal cs
def readNum (t : Str) (lo hi : Int) : Option Nat := if numOk (tl t) = true ∧ lo ≤ (val (tl t) : Int) ∧ (val (tl t) : Int) ≤ hi then some (val (tl t)) else none
theorem ofNat_toNat {c : Nat} (h : 48 ≤ c ∧ c ≤ 57) : (Char.ofNat c).toNat = c := by
  obtain ⟨h1, h2⟩ := h
  have : ∀ d : Nat, d < 58 → (Char.ofNat d).toNat = d := by decide
  exact this c (by omega)
theorem num_back {cs : List Nat} (h : numOk cs = true) : TL.numL (val cs) = cs := by
  unfold numOk at h
  simp only [Bool.and_eq_true, Bool.not_eq_true', decide_eq_true_eq, Bool.or_eq_true] at h
  obtain ⟨⟨⟨h1, h2⟩, h3⟩, h4⟩ := h
  have hd := only_dig.mp h3
  cases cs with
  | nil => simp at h1
  | cons c r =>
    have hc : r.length = 0 ∨ ∃ c' r', c :: r = c' :: r' ∧ 49 ≤ c' := by
      rcases h4 with h4 | h4
      · left
        simp at h4
        rw [h4]; rfl
      · right
        refine ⟨c, r, rfl, ?_⟩
        have := hd.head
        simp at h4
        omega
    unfold TL.numL
    rw [NumText.toDigits_digitsVal r.length (c :: r) rfl hd hc, List.map_map]
    have : ∀ l : List Nat, NumText.AllDigits l → l.map (Char.toNat ∘ Char.ofNat) = l := by
      intro l
      induction l with
      | nil => intro _; rfl
      | cons a l ih =>
        intro hl
        rw [List.map_cons, ih hl.tail]
        show (Char.ofNat a).toNat :: l = a :: l
        rw [ofNat_toNat hl.head]
    exact this _ hd
theorem readNum_some {t : Str} {lo hi : Int} {n : Nat} (h : readNum t lo hi = some n) : numOk (tl t) = true ∧ n = val (tl t) ∧ lo ≤ (n : Int) ∧ (n : Int) ≤ hi := by
  unfold readNum at h
  split at h
  · rename_i c
    cases h
    exact ⟨c.1, rfl, c.2.1, c.2.2⟩
  · cases h
/-- a number read, written again -/
theorem show_num {t : Str} {lo hi : Int} {n : Nat} (h : readNum t lo hi = some n) : nS n = t := by
  obtain ⟨h1, h2, _⟩ := readNum_some h
  refine ext_s ?_
  rw [tl_nS, h2, num_back h1]
theorem numOk_dig {cs : List Nat} (h : numOk cs = true) : NumText.AllDigits cs ∧ cs ≠ [] ∧ cs.length ≤ 5 := by
  unfold numOk at h
  simp only [Bool.and_eq_true, Bool.not_eq_true', decide_eq_true_eq] at h
  refine ⟨only_dig.mp h.1.2, ?_, h.1.1.2⟩
  intro e
  rw [e] at h
  simp at h
theorem numL_small {n : Nat} (h : n ≤ 99999) : (TL.numL n).length ≤ 5 := TL.numL_len (by decide) (by omega)
theorem nS_small {n : Nat} (h : n ≤ 99999) : (nS n).length ≤ 5 := by
  rw [← len_tl', tl_nS]; exact numL_small h

/-! ### labels -/
def ascN (l : List Nat) : Bool := decide (l.Pairwise (· < ·))
def lvOk (c : Nat) : Bool := decide (48 ≤ c) && decide (c ≤ 55)
def mkOk (m : List Nat) : Bool := m.all (fun c => decide (48 ≤ c) && decide (c ≤ 53)) && ascN m
/-- a label out of its signs -/
def labOf : List Nat → Option Lab
  | [c] => if lvOk c = true then some ⟨c - 48, []⟩ else none
  | c :: k :: m :: ms => if lvOk c = true ∧ k = 58 ∧ mkOk (m :: ms) = true then some ⟨c - 48, (m :: ms).map (· - 48)⟩ else none
  | _ => none
def readLab (t : Str) : Option Lab := labOf (tl t)
def showLab (l : Lab) : Str := if Txt.join "" (l.ms.map nS) = "" then nS l.lv else nS l.lv ++ ":" ++ Txt.join "" (l.ms.map nS)
def LabOk (l : Lab) : Prop := l.lv ≤ 7 ∧ (∀ m ∈ l.ms, m ≤ 5) ∧ l.ms.Pairwise (· < ·)
theorem numL_digit {n : Nat} (h : n < 10) : TL.numL n = [48 + n] := TL.numL_lt h
theorem joinL_nil : ∀ ps : List (List Nat), TL.joinL [] ps = ps.flatten
  | [] => rfl
  | [p] => by simp [TL.joinL]
  | p :: q :: r => by
    show p ++ ([] ++ TL.joinL [] (q :: r)) = _
    rw [joinL_nil (q :: r)]
    simp
theorem tl_join0 (ps : List Str) : tl (Txt.join "" ps) = (ps.map tl).flatten := by
  rw [TL.join_eq]
  refine (TL.tl_join _ _).trans ?_
  rw [show TL.tl "" = [] from rfl]
  exact joinL_nil _
theorem tl_marks {ms : List Nat} (h : ∀ m ∈ ms, m ≤ 5) : tl (Txt.join "" (ms.map nS)) = ms.map (48 + ·) := by
  rw [tl_join0, List.map_map]
  induction ms with
  | nil => rfl
  | cons m ms ih =>
    rw [List.map_cons, List.flatten_cons, ih fun x hx => h x (List.mem_cons_of_mem _ hx)]
    show tl (nS m) ++ _ = _
    rw [tl_nS, numL_digit (by have := h m List.mem_cons_self; omega)]
    rfl
theorem tl_empty {x : Str} : x = "" ↔ tl x = [] := ⟨fun h => by rw [h]; rfl, fun h => ext_s (by rw [h]; rfl)⟩
theorem tl_showLab {l : Lab} (h : LabOk l) : tl (showLab l) = (48 + l.lv) :: (if l.ms = [] then [] else 58 :: l.ms.map (48 + ·)) := by
  obtain ⟨h1, h2, _⟩ := h
  have hm := tl_marks h2
  unfold showLab
  by_cases e : l.ms = []
  · rw [if_pos (tl_empty.mpr (by rw [hm, e]; rfl)), if_pos e, tl_nS, numL_digit (by omega)]
  · rw [if_neg (fun z => e (by have := tl_empty.mp z; rw [hm] at this; simpa using this)), if_neg e, tl_app, tl_app, tl_nS, numL_digit (by omega), hm]
    rfl
theorem labOf_1 (c : Nat) : labOf [c] = if lvOk c = true then some ⟨c - 48, []⟩ else none := rfl
theorem labOf_3 (c k m : Nat) (ms : List Nat) : labOf (c :: k :: m :: ms) = if lvOk c = true ∧ k = 58 ∧ mkOk (m :: ms) = true then some ⟨c - 48, (m :: ms).map (· - 48)⟩ else none := rfl
theorem labOf_ok {cs : List Nat} {l : Lab} (h : labOf cs = some l) : LabOk l ∧ cs = (48 + l.lv) :: (if l.ms = [] then [] else 58 :: l.ms.map (48 + ·)) := by
  match cs, h with
  | [], h => cases h
  | [_, _], h => cases h
  | [c], h =>
    rw [labOf_1] at h
    split at h
    · rename_i c1
      cases h
      unfold lvOk at c1
      simp only [Bool.and_eq_true, decide_eq_true_eq] at c1
      refine ⟨⟨by show c - 48 ≤ 7; omega, by simp, by simp⟩, ?_⟩
      show [c] = [48 + (c - 48)]
      rw [show 48 + (c - 48) = c by omega]
    · cases h
  | c :: k :: m :: ms, h =>
    rw [labOf_3] at h
    split at h
    · rename_i c1
      obtain ⟨c1, rfl, c3⟩ := c1
      cases h
      unfold lvOk at c1
      unfold mkOk ascN at c3
      simp only [Bool.and_eq_true, decide_eq_true_eq, List.all_eq_true] at c1 c3
      obtain ⟨c3, c4⟩ := c3
      refine ⟨⟨by show c - 48 ≤ 7; omega, fun x hx => ?_, ?_⟩, ?_⟩
      · obtain ⟨y, hy, rfl⟩ := List.mem_map.mp hx
        have := c3 y hy
        omega
      · show ((m :: ms).map (· - 48)).Pairwise (· < ·)
        rw [List.pairwise_map]
        refine List.Pairwise.imp_of_mem ?_ c4
        intro a b ha hb hab
        have := c3 a ha
        omega
      · rw [if_neg (by simp)]
        have : ∀ l : List Nat, (∀ x ∈ l, 48 ≤ x ∧ x ≤ 53) → (l.map (· - 48)).map (48 + ·) = l := by
          intro l
          induction l with
          | nil => intro _; rfl
          | cons a l ih =>
            intro hl
            have := hl a List.mem_cons_self
            rw [List.map_cons, List.map_cons, ih fun x hx => hl x (List.mem_cons_of_mem _ hx), show 48 + (a - 48) = a by omega]
        rw [this _ c3, show 48 + (c - 48) = c by omega]
    · cases h
/-- a label read, written again -/
theorem show_lab {t : Str} {l : Lab} (h : readLab t = some l) : showLab l = t := by
  obtain ⟨h1, h2⟩ := labOf_ok h
  refine ext_s ?_
  rw [tl_showLab h1, h2]
theorem lab_ok {t : Str} {l : Lab} (h : readLab t = some l) : LabOk l := (labOf_ok h).1
theorem pair_len : ∀ (l : List Nat) (a k : Nat), (∀ x ∈ l, a ≤ x ∧ x < a + k) → l.Pairwise (· < ·) → l.length ≤ k
  | [], _, _, _, _ => Nat.zero_le _
  | x :: l, a, k, h, hp => by
    rw [List.pairwise_cons] at hp
    have hx := h x List.mem_cons_self
    have := pair_len l (a + 1) (k - 1) (fun y hy => by
      have := hp.1 y hy
      have := h y (List.mem_cons_of_mem _ hy)
      omega) hp.2
    show l.length + 1 ≤ k
    omega
theorem marks_len {l : Lab} (h : LabOk l) : l.ms.length ≤ 6 := pair_len l.ms 0 6 (fun x hx => by have := h.2.1 x hx; omega) h.2.2

/-! ### ids -/
def nmOk (b : Str) : Bool := decide (1 ≤ b.length) && decide (b.length ≤ 8) && onlyHas (tl b) LOW
def idParts : List Str → Option Idn
  | [a, b, c] => match readLab a, readNum c 1 99999 with
    | some l, some n => if nmOk b = true then some ⟨l, b, n⟩ else none
    | _, _ => none
  | _ => none
def readIdn (t : Str) : Option Idn := idParts (Txt.split t ".")
def showIdn (i : Idn) : Str := showLab i.lab ++ "." ++ i.nm ++ "." ++ nS i.no
def IdOk (i : Idn) : Prop := LabOk i.lab ∧ nmOk i.nm = true ∧ 1 ≤ i.no ∧ i.no ≤ 99999
theorem idParts_3 (a b c : Str) : idParts [a, b, c] = match readLab a, readNum c 1 99999 with
    | some l, some n => if nmOk b = true then some ⟨l, b, n⟩ else none
    | _, _ => none := rfl
theorem idParts_some {ps : List Str} {i : Idn} (h : idParts ps = some i) : ∃ a b c, ps = [a, b, c] ∧ readLab a = some i.lab ∧ b = i.nm ∧ readNum c 1 99999 = some i.no ∧ nmOk b = true := by
  match ps, h with
  | [a, b, c], h =>
    rw [idParts_3] at h
    cases h1 : readLab a with
    | none => rw [h1] at h; cases h
    | some l =>
      cases h2 : readNum c 1 99999 with
      | none => rw [h1, h2] at h; cases h
      | some n =>
        rw [h1, h2] at h
        by_cases h3 : nmOk b = true
        · have h' : (if nmOk b = true then some (⟨l, b, n⟩ : Idn) else none) = some i := h
          rw [if_pos h3] at h'
          cases h'
          exact ⟨a, b, c, rfl, h1, rfl, h2, h3⟩
        · have h' : (if nmOk b = true then some (⟨l, b, n⟩ : Idn) else none) = some i := h
          rw [if_neg h3] at h'
          cases h'
  | [], h => cases h
  | [_], h => cases h
  | [_, _], h => cases h
  | _ :: _ :: _ :: _ :: _, h => cases h
theorem id_ok {ps : List Str} {i : Idn} (h : idParts ps = some i) : IdOk i := by
  obtain ⟨a, b, c, rfl, h1, h2, h3, h4⟩ := idParts_some h
  obtain ⟨_, _, h5, h6⟩ := readNum_some h3
  exact ⟨lab_ok h1, by rw [← h2]; exact h4, by omega, by omega⟩
theorem join3 (a b c s : Str) : Txt.join s [a, b, c] = a ++ s ++ b ++ s ++ c := by
  refine ext_s ?_
  rw [TL.join_eq]
  refine (TL.tl_join _ _).trans ?_
  show tl a ++ (tl s ++ (tl b ++ (tl s ++ tl c))) = _
  rw [tl_app, tl_app, tl_app, tl_app]
  simp
theorem show_parts3 {ps : List Str} {i : Idn} (h : idParts ps = some i) : showIdn i = Txt.join "." ps := by
  obtain ⟨a, b, c, rfl, h1, h2, h3, h4⟩ := idParts_some h
  unfold showIdn
  rw [show_lab h1, ← h2, show_num h3, join3]
/-- an id read, written again -/
theorem show_idn {t : Str} {i : Idn} (h : readIdn t = some i) : showIdn i = t := by
  rw [show_parts3 h]
  exact join_split t 46

/-! ### vertices -/
def vxParts : List Str → Option Vx
  | [a, b, c, d, e] => match idParts [a, b, c], readNum d 0 11, readNum e 0 199 with
    | some i, some p, some k => some ⟨i, p, k⟩
    | _, _, _ => none
  | _ => none
def readVx (t : Str) : Option Vx := vxParts (Txt.split t ".")
def showVx (v : Vx) : Str := showIdn v.id ++ "." ++ nS v.pl ++ "." ++ nS v.ix
def VxOk (v : Vx) : Prop := IdOk v.id ∧ v.pl ≤ 11 ∧ v.ix ≤ 199
theorem vxParts_5 (a b c d e : Str) : vxParts [a, b, c, d, e] = match idParts [a, b, c], readNum d 0 11, readNum e 0 199 with
    | some i, some p, some k => some ⟨i, p, k⟩
    | _, _, _ => none := rfl
theorem vxParts_some {ps : List Str} {v : Vx} (h : vxParts ps = some v) : ∃ a b c d e, ps = [a, b, c, d, e] ∧ idParts [a, b, c] = some v.id ∧ readNum d 0 11 = some v.pl ∧ readNum e 0 199 = some v.ix := by
  match ps, h with
  | [a, b, c, d, e], h =>
    rw [vxParts_5] at h
    cases h1 : idParts [a, b, c] with
    | none => rw [h1] at h; cases h
    | some l =>
      cases h2 : readNum d 0 11 with
      | none => rw [h1, h2] at h; cases h
      | some n =>
        cases h3 : readNum e 0 199 with
        | none => rw [h1, h2, h3] at h; cases h
        | some m =>
          rw [h1, h2, h3] at h
          cases h
          exact ⟨a, b, c, d, e, rfl, h1, h2, h3⟩
  | [], h => cases h
  | [_], h => cases h
  | [_, _], h => cases h
  | [_, _, _], h => cases h
  | [_, _, _, _], h => cases h
  | _ :: _ :: _ :: _ :: _ :: _ :: _, h => cases h
theorem vx_ok {ps : List Str} {v : Vx} (h : vxParts ps = some v) : VxOk v := by
  obtain ⟨a, b, c, d, e, rfl, h1, h2, h3⟩ := vxParts_some h
  obtain ⟨_, _, _, h5⟩ := readNum_some h2
  obtain ⟨_, _, _, h6⟩ := readNum_some h3
  exact ⟨id_ok h1, by omega, by omega⟩
theorem join5 (a b c d e s : Str) : Txt.join s [a, b, c, d, e] = Txt.join s [a, b, c] ++ s ++ d ++ s ++ e := by
  refine ext_s ?_
  rw [join3, TL.join_eq]
  refine (TL.tl_join _ _).trans ?_
  show tl a ++ (tl s ++ (tl b ++ (tl s ++ (tl c ++ (tl s ++ (tl d ++ (tl s ++ tl e))))))) = _
  simp only [tl_app]
  simp
theorem show_parts5 {ps : List Str} {v : Vx} (h : vxParts ps = some v) : showVx v = Txt.join "." ps := by
  obtain ⟨a, b, c, d, e, rfl, h1, h2, h3⟩ := vxParts_some h
  unfold showVx
  rw [show_parts3 h1, show_num h2, show_num h3, join5]
/-- a vertex read, written again -/
theorem show_vx {t : Str} {v : Vx} (h : readVx t = some v) : showVx v = t := by
  rw [show_parts5 h]
  exact join_split t 46
/-- different vertices have different written forms -/
theorem readVx_inj {t u : Str} {v : Vx} (h1 : readVx t = some v) (h2 : readVx u = some v) : t = u := by rw [← show_vx h1, show_vx h2]

/-! ### paths -/
def readPath (t : Str) : Option (List Str) := if isPath (Txt.split t "/") = true then some (Txt.split t "/") else none
def showPath (p : List Str) : Str := Txt.join "/" p
theorem show_path {t : Str} {p : List Str} (h : readPath t = some p) : showPath p = t := by
  unfold readPath at h
  split at h
  · cases h
    exact join_split t 47
  · cases h

/-! ### ascending lists, by neighbours -/
def adjAll {α : Type} (r : α → α → Bool) : List α → Bool
  | a :: b :: t => r a b && adjAll r (b :: t)
  | _ => true
theorem adjAll_map {α β : Type} (r : β → β → Bool) (f : α → β) : ∀ l : List α, adjAll r (l.map f) = adjAll (fun a b => r (f a) (f b)) l
  | [] => rfl
  | [_] => rfl
  | a :: b :: t => by
    show (r (f a) (f b) && adjAll r ((b :: t).map f)) = _
    rw [adjAll_map r f (b :: t)]
    rfl
theorem adjAll_congr {α : Type} {r q : α → α → Bool} : ∀ {l : List α}, (∀ a ∈ l, ∀ b ∈ l, r a b = q a b) → adjAll r l = adjAll q l
  | [], _ => rfl
  | [_], _ => rfl
  | a :: b :: t, h => by
    show (r a b && adjAll r (b :: t)) = (q a b && adjAll q (b :: t))
    rw [h a List.mem_cons_self b (List.mem_cons_of_mem _ List.mem_cons_self), adjAll_congr fun x hx y hy => h x (List.mem_cons_of_mem _ hx) y (List.mem_cons_of_mem _ hy)]
theorem adjAll_range {α : Type} (r : α → α → Bool) (d : α) : ∀ l : List α, ((List.range (l.length - 1)).all fun k => r (l.getD k d) (l.getD (k + 1) d)) = adjAll r l
  | [] => rfl
  | [_] => rfl
  | a :: b :: t => by
    have ih := adjAll_range r d (b :: t)
    show ((List.range (t.length + 1 + 1 - 1)).all _) = (r a b && adjAll r (b :: t))
    rw [← ih, show t.length + 1 + 1 - 1 = t.length + 1 from rfl, List.range_succ_eq_map, List.all_cons, List.all_map]
    rfl
theorem adjAll_lt : ∀ l : List Nat, adjAll (fun a b => decide (a < b)) l = ascN l
  | [] => by simp [adjAll, ascN]
  | [a] => by simp [adjAll, ascN]
  | a :: b :: t => by
    have ih := adjAll_lt (b :: t)
    show (decide (a < b) && adjAll _ (b :: t)) = _
    rw [ih]
    unfold ascN
    rw [Bool.eq_iff_iff]
    simp only [Bool.and_eq_true, decide_eq_true_eq, List.pairwise_cons, List.mem_cons]
    constructor
    · rintro ⟨h1, h2, h3⟩
      refine ⟨fun x hx => ?_, h2, h3⟩
      rcases hx with rfl | hx
      · exact h1
      · have := h2 x hx; omega
    · rintro ⟨h1, h2, h3⟩
      exact ⟨h1 b (.inl rfl), h2, h3⟩
def isLab (l : Lab) : Bool := decide (l.lv ≤ 7) && l.ms.all (fun m => decide (m ≤ 5)) && ascN l.ms
end QL
namespace QL
open PySem PySem.Spec PyProof.Rows L2

/-! ### comparing data -/
section
variable {X : Cx} {a b : Expr} {G : List Sl} {pos : Pos}
def rLtD (K : PySem.W.Frag) : R2 := fun x y H Q => ∃ d e, Dp K H x d ∧ Dp K H y e ∧ PySem.W.alike d e = true ∧ d ≠ .none ∧ min d.depth e.depth ≤ 64 ∧ Q (.bl (PySem.W.dataLt d e)) H
theorem op_ltD (hu : X.A.units + 64 < cLine) : OpR X (compareOp .Lt) (rLtD X.K) := by
  intro pins s σ H x y v u Q I rx ry h
  obtain ⟨d, e, hd, he, al, hn, hz, q⟩ := h
  obtain ⟨as, r1⟩ := Dp.reads I d x v hd rx
  obtain ⟨bs, r2⟩ := Dp.reads I e y u he ry
  exact PySem.W.rcLt_alike d e X.A s v u as bs r1 r2 al hn (by omega) X.prog X.w X.xe _ ⟨.bl _, H, I, rfl, q⟩
theorem dt_ltD {x y : PyData} (hu : X.A.units + 64 < cLine) (ha : DE X a G x) (hb : DE X b G y) (al : PySem.W.alike x y = true) (hn : x ≠ .none) (hz : min x.depth y.depth ≤ 64) : DT X (.Compare a [.Lt] [b] pos) G (PySem.W.dataLt x y) := dt_cmp (op_ltD hu) ha hb fun I H v u Q s o1 o2 q =>
  ⟨x, y, (Dq.mono s o1).dp, (Dq.mono s o2).dp, al, hn, hz, q _ I H (Ext.refl s) (.bl _)⟩
end

section
variable {P : Program} {w : World} {K : PySem.W.Frag} {mg : Str → Option Value} {base : Heap} {f : Addr} {fd : FuncData}
/-! ### only_has -/
def F_only_has : Spc := fun _ rs P => ∃ t l : Str, rs = [.d (.str t), .d (.str l)] ∧ t.length ≤ 1000000 ∧ ∀ r, r = .d (.bool (onlyHas (tl t) (tl l))) → P r
theorem len_filter0 {α : Type} (c : α → Bool) (g : α → PyData) (xs : List α) : decide ((((xs.filter fun x => !c x).map g).length : Int) = 0) = xs.all c := by
  rw [Bool.eq_iff_iff]
  simp [List.filter_eq_nil_iff]
theorem len_filterA {α : Type} (c : α → Bool) (g : α → PyData) (xs : List α) : decide ((((xs.filter c).map g).length : Int) = (xs.length : Int)) = xs.all c := by
  rw [Bool.eq_iff_iff]
  simp only [decide_eq_true_eq, List.length_map, List.all_eq_true]
  constructor
  · intro h
    have : (xs.filter c).length = xs.length := by omega
    exact List.length_filter_eq_length_iff.mp this
  · intro h
    rw [List.length_filter_eq_length_iff.mpr h]
theorem tlz {t : Str} {n : Nat} (h : t.length ≤ n) (hn : n ≤ 10000000 := by decide) : (tl t).length ≤ sizeLine := sz (by rw [Array.length_toList]; exact Nat.le_trans h hn)
theorem ok_only_has (B : Bt mg) (D : Df K mg "only_has" s_only_has ["text", "letters"] f fd) : Ok P w K mg base 1 "only_has" ["text", "letters"] F_only_has := by
  refine D.ok (fok D.1 c_only_has (fun C rs R h => by obtain ⟨t, l, rfl, _⟩ := h; rfl) ?_)
  rintro X ⟨cdv, A, outer, s, H, E, rfl, hr⟩ C I0 H0 rs R D ⟨t, l, rfl, hz, hP⟩ hq
  have nd := c_only_has.nd
  refine bd_retD (de_eqI (de_lenL (de_frz (dlc (j := 2) (x := "char") sg (tl t) (fun n => !decide (n ∈ tl l)) sg (di_str (de_var (i := 0) rfl (pv 0))) (tlz hz)
    (blkOk_by (N := n_only_has) (sc := defScope s_only_has) (by decide +kernel)) (fun _ _ _ _ _ => pg_name (i := 2) c_only_has.nd rfl (Or.inl rfl))
    (fun n _ _ _ _ _ _ => dt_niC (de_var (i := 2) rfl (pv 2)) (de_var (i := 1) rfl (pv 1))) (fun n _ _ _ _ _ _ _ => de_var (i := 2) rfl (pv 2))).n) rfl B.len) de_int) (hP _ ?_) hq
  rw [len_filter0]; rfl

/-! ### is_text -/
def F_is_text : Spc := fun _ rs P => ∃ t : Str, rs = [.d (.str t)] ∧ t.length ≤ 1000000 ∧ ∀ r, r = .d (.bool (isText t)) → P r
theorem one_lt (a b : Nat) : decide (([a] : List Nat) < [b]) = decide (a < b) := by
  rw [Bool.eq_iff_iff, decide_eq_true_eq, decide_eq_true_eq, List.cons_lt_cons_iff]
  simp
theorem ok_is_text (B : Bt mg) (T : Ct mg)  (D : Df K mg "is_text" s_is_text ["text"] f fd) : Ok P w K mg base 1 "is_text" ["text"] F_is_text := by
  refine D.ok (fok D.1 c_is_text (fun C rs R h => by obtain ⟨t, rfl, _⟩ := h; rfl) ?_)
  obtain ⟨tkTEXT, hTEXT⟩ := T.TEXT
  rintro X ⟨cdv, A, outer, s, H, E, rfl, hr⟩ C I0 H0 rs R D ⟨t, rfl, hz, hP⟩ hq
  have nd := c_is_text.nd
  refine bd_retD (de_and (de_leI (de_lenS (x' := "") (de_var (i := 0) rfl (pv 0)) (sz (by omega)) B.len) (de_gint hTEXT)) fun _ => (de_one (de_eqI (de_lenL (de_frz (DLc.n (dlc (j := 1) (x := "char") sg _ (fun n => !(decide (32 ≤ n) && decide (n ≤ 126))) _ (di_str (de_var (i := 0) rfl (pv 0))) (tlz hz) (blkOk_by (N := n_is_text) (sc := defScope s_is_text) (by decide +kernel)) (fun _ _ _ _ _ => pg_name (i := 1) nd rfl (Or.inl rfl)) (fun y hy _ _ _ _ _ => (DW.t (dw_or (dt_ltS (de_var (i := 1) rfl (pv 1)) de_str) fun _ => (dw_one (dt_gtS (de_var (i := 1) rfl (pv 1)) de_str)))).is ?_) (fun y hy hc _ _ _ _ _ => (de_var (i := 1) rfl (pv 1)))))) rfl B.len) de_int))) (hP _ ?_) hq
  · show (decide ([y] < [32]) || decide ([126] < [y])) = _
    rw [one_lt, one_lt, Bool.eq_iff_iff]
    simp
    try omega
  · rw [len_filter0]
    unfold isText
    congr 2
    rw [show (decide ((t.length : Int) ≤ 40)) = decide (t.length ≤ 40) from by rw [Bool.eq_iff_iff]; simp; omega]

/-! ### is_path -/
def F_is_path : Spc := fun _ rs P => ∃ ps : List Str, rs = [.d (.tuple (ps.map .str))] ∧ ps.length ≤ 1000000 ∧ (∀ p ∈ ps, p.length ≤ 1000000) ∧ ∀ r, r = .d (.bool (isPath ps)) → P r
theorem nat_le (a b : Nat) : decide ((a : Int) ≤ (b : Int)) = decide (a ≤ b) := by
  rw [Bool.eq_iff_iff]; simp
theorem dle {i j : Int} {a b : Nat} (h1 : i = (a : Int)) (h2 : j = (b : Int)) : decide (i ≤ j) = decide (a ≤ b) := by
  rw [h1, h2]; exact nat_le a b
theorem nat_eq (a b : Nat) : decide ((a : Int) = (b : Int)) = decide (a = b) := by
  rw [Bool.eq_iff_iff]; simp; omega
theorem ok_is_path (B : Bt mg) (T : Ct mg) (g_only_has : Ok P w K mg base 1 "only_has" ["text", "letters"] F_only_has) (D : Df K mg "is_path" s_is_path ["path"] f fd) : Ok P w K mg base 2 "is_path" ["path"] F_is_path := by
  refine D.ok (fok D.1 c_is_path (fun C rs R h => by obtain ⟨t, rfl, _⟩ := h; rfl) ?_)
  obtain ⟨tkDIGITS, hDIGITS⟩ := T.DIGITS
  obtain ⟨tkLOWER, hLOWER⟩ := T.LOWER
  rintro X ⟨cdv, A, outer, s, H, E, rfl, hr⟩ C I0 H0 rs R D ⟨ps, rfl, hz, hz2, hP⟩ hq
  have nd := c_is_path.nd
  refine bd_setLcD (i := 1) (dlc (j := 2) (x := "part") PyData.str ps partOk _ (di_tup (de_var (i := 0) rfl (pv 0))) (sz (by omega)) (blkOk_by (N := n_is_path) (sc := defScope s_is_path) (by decide +kernel)) (fun _ _ _ _ _ => pg_name (i := 2) nd rfl (Or.inl rfl)) (fun y hy _ _ _ _ _ => DT.is (DW.t (dw_and (dt_lele de_int (de_lenS (x' := "") (de_var (i := 2) rfl (pv 2)) (sz (by have := hz2 y hy; omega)) B.len) de_int) fun _ => (dw_one (dt_val (de_fn g_only_has (hr.mono (by decide)) (da_cons (de_var (i := 2) rfl (pv 2)) (da_cons (de_addS (de_gstr hLOWER) (de_gstr hDIGITS) (by decide)) da_nil)) (fun C => ⟨_, _, rfl, hz2 y hy, fun r e => e⟩)))))) ?_) (fun y hy hc _ _ _ _ _ => (de_var (i := 2) rfl (pv 2)))) ?_
  · unfold partOk
    rw [dle (i := 1) (a := 1) (b := y.length) rfl rfl, dle (j := 8) (b := 8) (a := y.length) rfl rfl]
    rfl
  refine bd_retD (de_and (de_lele de_int (de_lenL (de_var (i := 0) rfl (pv 0)) rfl B.len) de_int) fun _ => (de_one (de_eqI (de_lenL (de_var (i := 1) rfl (pv 1)) rfl B.len) (de_lenL (de_var (i := 0) rfl (pv 0)) rfl B.len)))) (hP _ ?_) hq
  unfold isPath
  rw [List.length_map (as := ps), len_filterA, dle (i := 1) (a := 1) (b := ps.length) rfl rfl, dle (j := 4) (b := 4) (a := ps.length) rfl rfl]

/-! ### is_ascending -/
def ascD (ds : List PyData) : Bool := (List.range (ds.length - 1)).all fun k => PySem.W.dataLt (ds.getD k .none) (ds.getD (k + 1) .none)
/-- data that can be compared with each other -/
def Cmp (ds : List PyData) : Prop := ∀ a ∈ ds, ∀ b ∈ ds, PySem.W.alike a b = true ∧ a ≠ .none ∧ a.depth ≤ 64
def F_is_ascending : Spc := fun _ rs P => ∃ ds : List PyData, rs = [.d (.list ds)] ∧ ds.length ≤ 1000000 ∧ Cmp ds ∧ ∀ r, r = .d (.bool (ascD ds)) → P r
theorem atD {ds : List PyData} {i : Int} {k : Nat} (h : k < ds.length) (e : i = (k : Int)) : atI ds i = some (ds.getD k .none) := by
  subst e
  refine atI_nat ?_
  rw [List.getElem?_eq_getElem h, List.getD_eq_getElem?_getD, List.getElem?_eq_getElem h]
  rfl
theorem getD_mem {ds : List PyData} {k : Nat} (h : k < ds.length) : ds.getD k .none ∈ ds := by
  rw [List.getD_eq_getElem?_getD, List.getElem?_eq_getElem h]
  exact List.getElem_mem h
theorem ok_is_ascending (B : Bt mg) (T : Ct mg)  (D : Df K mg "is_ascending" s_is_ascending ["items"] f fd) : Ok P w K mg base 1 "is_ascending" ["items"] F_is_ascending := by
  refine D.ok (fok D.1 c_is_ascending (fun C rs R h => by obtain ⟨t, rfl, _⟩ := h; rfl) ?_)
  rintro X ⟨cdv, A, outer, s, H, E, rfl, hr⟩ C I0 H0 rs R D ⟨ds, rfl, hz, hc, hP⟩ hq
  have nd := c_is_ascending.nd
  have hk : ∀ y ∈ List.range (((ds.length : Int) - 1).toNat), y < ds.length ∧ y + 1 < ds.length := fun y hy => by
    have := List.mem_range.mp hy
    omega
  refine bd_retD ((de_eqI (de_lenL (de_frz (DLc.n (dlc (j := 1) (x := "k") (fun (k : Nat) => .int (1 + (k : Int))) _ (fun k => !PySem.W.dataLt (ds.getD k .none) (ds.getD (k + 1) .none)) _ (di_rng2 de_int (de_lenL (de_var (i := 0) rfl (pv 0)) rfl B.len) B.range ⟨by omega, by omega⟩ ⟨by omega, by omega⟩) (sz (by rw [List.length_range]; omega)) (blkOk_by (N := n_is_ascending) (sc := defScope s_is_ascending) (by decide +kernel)) (fun _ _ _ _ _ => pg_name (i := 1) nd rfl (Or.inl rfl)) (fun y hy _ _ _ _ _ => (dt_not (dt_ltD hr.units (de_ixL (de_var (i := 0) rfl (pv 0)) (de_subI (de_var (i := 1) rfl (pv 1)) de_int) (atD (hk y hy).1 (by omega))) (de_ixL (de_var (i := 0) rfl (pv 0)) (de_var (i := 1) rfl (pv 1)) (atD (hk y hy).2 (by omega)))
    (hc _ (getD_mem (hk y hy).1) _ (getD_mem (hk y hy).2)).1 (hc _ (getD_mem (hk y hy).1) _ (getD_mem (hk y hy).2)).2.1 (Nat.le_trans (Nat.min_le_left _ _) (hc _ (getD_mem (hk y hy).1) _ (getD_mem (hk y hy).2)).2.2)))) (fun y hy hc _ _ _ _ _ => (de_var (i := 1) rfl (pv 1)))))) rfl B.len) de_int)) (hP _ ?_) hq
  rw [len_filter0]
  unfold ascD
  rw [show ((ds.length : Int) - 1).toNat = ds.length - 1 from by omega]
end
end QL
namespace QL
open PySem PySem.Spec PyProof.Rows L2
section
variable {P : Program} {w : World} {K : PySem.W.Frag} {mg : Str → Option Value} {base : Heap} {f : Addr} {fd : FuncData}
/-! ### is_label -/
def F_is_label : Spc := fun _ rs P => ∃ l : Lab, rs = [.d l.d] ∧ l.ms.length ≤ 1000000 ∧ ∀ r, r = .d (.bool (isLab l)) → P r
theorem cmp_ints (ms : List Nat) : Cmp (ms.map inat) := fun a ha b hb => by
  obtain ⟨x, _, rfl⟩ := List.mem_map.mp ha
  obtain ⟨y, _, rfl⟩ := List.mem_map.mp hb
  exact ⟨rfl, ⟨(by intro z; cases z), Nat.zero_le _⟩⟩
theorem nf {b : Bool} (h : (!b) = false) : b = true := by cases b <;> simp_all
theorem nt {b : Bool} (h : (!b) = true) : b = false := by cases b <;> simp_all
theorem asc_ints (ms : List Nat) : ascD (ms.map inat) = ascN ms := by
  unfold ascD
  rw [adjAll_range (fun a b => PySem.W.dataLt a b), adjAll_map, ← adjAll_lt]
  refine adjAll_congr fun a _ b _ => ?_
  show PySem.W.dataLt (.int a) (.int b) = _
  rw [PySem.W.dataLt_int]
  rw [Bool.eq_iff_iff]; simp
theorem ok_is_label (B : Bt mg) (T : Ct mg) (g_is_ascending : Ok P w K mg base 1 "is_ascending" ["items"] F_is_ascending) (D : Df K mg "is_label" s_is_label ["label"] f fd) : Ok P w K mg base 2 "is_label" ["label"] F_is_label := by
  refine D.ok (fok D.1 c_is_label (fun C rs R h => by obtain ⟨t, rfl, _⟩ := h; rfl) ?_)
  rintro X ⟨cdv, A, outer, s, H, E, rfl, hr⟩ C I0 H0 rs R D ⟨l, rfl, hz, hP⟩ hq
  have nd := c_is_label.nd
  refine bd_un3D (i := 1) (j := 2) (m := 3) (u := .str "label") (w := inat l.lv) (t := .tuple (l.ms.map inat)) (de_var (i := 0) rfl (pv 0)) ?_ (pg_name nd rfl (.inl rfl)) (pg_name nd rfl (.inl rfl)) (pg_name nd rfl (.inl rfl))
  refine bd_setLcD (i := 4) (dlc (j := 5) (x := "mark") inat l.ms (fun m => decide (m ≤ 5)) _ (di_tup (de_var (i := 3) rfl (pv 3))) (sz (by omega)) (blkOk_by (N := n_is_label) (sc := defScope s_is_label) (by decide +kernel)) (fun _ _ _ _ _ => pg_name (i := 5) nd rfl (Or.inl rfl)) (fun y hy _ _ _ _ _ => DT.is (dt_lele de_int (de_var (i := 5) (d := .int (y : Int)) rfl (pv 5)) de_int) ?_) (fun y hy hc _ _ _ _ _ => (de_var (i := 5) rfl (pv 5)))) ?_
  · rw [dle (i := 0) (a := 0) (b := y) rfl rfl, dle (j := 5) (b := 5) (a := y) rfl rfl]
    simp
  refine bd_retD (de_and (de_lele de_int (de_var (i := 2) (d := .int (l.lv : Int)) rfl (pv 2)) de_int) fun _ => (de_and (de_eqI (de_lenL (de_var (i := 4) rfl (pv 4)) rfl B.len) (de_lenL (de_var (i := 3) rfl (pv 3)) rfl B.len)) fun _ => (de_one (de_fn g_is_ascending (hr.mono (by decide)) (da_cons (de_frz (dn_list (de_var (i := 3) rfl (pv 3)) rfl B.list)) da_nil) (fun C => ⟨_, rfl, by rw [List.length_map]; exact hz, cmp_ints _, fun r e => e⟩))))) (hP _ ?_) hq
  rw [List.length_map (as := l.ms), len_filterA, asc_ints, dle (i := 0) (a := 0) (b := l.lv) rfl rfl, dle (j := 7) (b := 7) (a := l.lv) rfl rfl]
  unfold isLab
  simp [Bool.and_assoc]

/-! ### is_id -/
def F_is_id : Spc := fun _ rs P => ∃ i : Idn, rs = [.d i.d] ∧ i.lab.ms.length ≤ 1000000 ∧ i.nm.length ≤ 1000000 ∧ ∀ r, r = .d (.bool (isLab i.lab && nmOk i.nm && decide (1 ≤ i.no) && decide (i.no ≤ 99999))) → P r
theorem ok_is_id (B : Bt mg) (T : Ct mg) (g_is_label : Ok P w K mg base 2 "is_label" ["label"] F_is_label) (g_only_has : Ok P w K mg base 1 "only_has" ["text", "letters"] F_only_has) (D : Df K mg "is_id" s_is_id ["name"] f fd) : Ok P w K mg base 3 "is_id" ["name"] F_is_id := by
  refine D.ok (fok D.1 c_is_id (fun C rs R h => by obtain ⟨t, rfl, _⟩ := h; rfl) ?_)
  obtain ⟨tkLOWER, hLOWER⟩ := T.LOWER
  obtain ⟨tkNUMBER, hNUMBER⟩ := T.NUMBER
  rintro X ⟨cdv, A, outer, s, H, E, rfl, hr⟩ C I0 H0 rs R D ⟨i, rfl, hz, hz2, hP⟩ hq
  have nd := c_is_id.nd
  refine bd_un3D (i := 1) (j := 2) (m := 3) (u := i.lab.d) (w := .str i.nm) (t := .int (i.no : Int)) (de_var (i := 0) rfl (pv 0)) ?_ (pg_name nd rfl (.inl rfl)) (pg_name nd rfl (.inl rfl)) (pg_name nd rfl (.inl rfl))
  refine bd_retD (de_and (de_fn g_is_label (hr.mono (by decide)) (da_cons (de_var (i := 1) rfl (pv 1)) da_nil) (fun C => ⟨i.lab, rfl, hz, fun r e => e⟩)) fun _ => (de_and (de_lele de_int (de_lenS (x' := "") (de_var (i := 2) rfl (pv 2)) (sz (by omega)) B.len) de_int) fun _ => (de_and (de_fn g_only_has (hr.mono (by decide)) (da_cons (de_var (i := 2) rfl (pv 2)) (da_cons (de_gstr hLOWER) da_nil)) (fun C => ⟨_, _, rfl, hz2, fun r e => e⟩)) fun _ => (de_one (de_lele de_int (de_var (i := 3) rfl (pv 3)) (de_gint hNUMBER)))))) (hP _ ?_) hq
  rw [dle (i := 1) (a := 1) (b := i.nm.length) rfl rfl, dle (j := 8) (b := 8) (a := i.nm.length) rfl rfl, dle (i := 1) (a := 1) (b := i.no) rfl rfl, dle (j := 99999) (b := 99999) (a := i.no) rfl rfl, show nmOk i.nm = (decide (1 ≤ i.nm.length) && decide (i.nm.length ≤ 8) && onlyHas (tl i.nm) LOW) from rfl]
  simp only [Bool.and_assoc]
  try rfl

/-! ### read_number -/
def F_read_number : Spc := fun _ rs P => ∃ (t : Str) (a b : Int), rs = [.d (.str t), .d (.int a), .d (.int b)] ∧ t.length ≤ 1000000 ∧ ∀ r, r = .d (optD inat (readNum t a b)) → P r
theorem gt0 {α : Type} (c : α → Bool) (g : α → PyData) (xs : List α) : decide (0 < ((((xs.filter fun x => !c x).map g).length : Nat) : Int)) = !xs.all c := by
  rw [← len_filter0 c g xs, Bool.eq_iff_iff]
  simp
  try omega
theorem s_eq0 (t : Str) : decide (t = "") = (tl t).isEmpty := by
  rw [Bool.eq_iff_iff]
  simp [tl_empty]
theorem sg_eq {a b : Nat} : decide ((⟨#[a]⟩ : Str) = ⟨#[b]⟩) = decide (a = b) := by
  rw [Bool.eq_iff_iff]
  simp
theorem ok_read_number (B : Bt mg) (T : Ct mg)  (D : Df K mg "read_number" s_read_number ["text", "least", "most"] f fd) : Ok P w K mg base 1 "read_number" ["text", "least", "most"] F_read_number := by
  refine D.ok (fok D.1 c_read_number (fun C rs R h => by obtain ⟨t, a, b, rfl, _⟩ := h; rfl) ?_)
  obtain ⟨tkDIGITS, hDIGITS⟩ := T.DIGITS
  rintro X ⟨cdv, A, outer, s, H, E, rfl, hr⟩ C I0 H0 rs R D ⟨t, a, b, rfl, hz, hP⟩ hq
  have nd := c_read_number.nd
  have hl := len_tl' t
  refine bd_whenD (k := !(!(tl t).isEmpty && decide (t.length ≤ 5) && onlyHas (tl t) DIG)) (DT.is (DW.t (dw_or (dt_eqS (de_var (i := 0) rfl (pv 0)) de_str) fun _ => (dw_or (dt_gtI (de_lenS (x' := "") (de_var (i := 0) rfl (pv 0)) (sz (by omega)) B.len) de_int) fun _ => (dw_one (dt_gtI (de_lenL (de_frz (DLc.n (dlc (j := 3) (x := "char") sg _ (fun n => !decide (n ∈ DIG)) _ (di_str (de_var (i := 0) rfl (pv 0))) (tlz hz) (blkOk_by (N := n_read_number) (sc := defScope s_read_number) (by decide +kernel)) (fun _ _ _ _ _ => pg_name (i := 3) nd rfl (Or.inl rfl)) (fun y hy _ _ _ _ _ => (dt_niC (de_var (i := 3) rfl (pv 3)) (de_gstr hDIGITS))) (fun y hy hc _ _ _ _ _ => (de_var (i := 3) rfl (pv 3)))))) rfl B.len) de_int))))) ?_) (fun hb => ?_) (fun hb => ?_)
  · rw [gt0, s_eq0, show decide ((5 : Int) < (t.length : Int)) = !decide (t.length ≤ 5) from by rw [Bool.eq_iff_iff]; simp; omega]
    unfold onlyHas
    cases (tl t).isEmpty <;> cases decide (t.length ≤ 5) <;> simp
  ·
    refine bd_retD de_none (hP _ ?_) hq
    unfold readNum
    rw [if_neg]
    · rfl
    · rintro ⟨h1, _⟩
      unfold numOk at h1
      simp only [Bool.and_eq_true] at h1
      rw [hl] at h1
      rw [h1.1.1.1, h1.1.1.2, h1.1.2] at hb
      simp at hb
  · have hb' : (!(tl t).isEmpty && decide (t.length ≤ 5) && onlyHas (tl t) DIG) = true := nf hb
    simp only [Bool.and_eq_true, decide_eq_true_eq] at hb'
    obtain ⟨⟨h1, h2⟩, h3⟩ := hb'
    have hd := only_dig.mp h3
    obtain ⟨c, r, hcr⟩ : ∃ c r, tl t = c :: r := by
      cases e : tl t with
      | nil => rw [e] at h1; simp at h1
      | cons c r => exact ⟨c, r, rfl⟩
    have hi : PySem.intText? t = some ((val (tl t) : Nat) : Int) := intText_digits hd (by show tl t ≠ []; rw [hcr]; simp) (by omega)
    have hr1 : t.length = r.length + 1 := by rw [← hl, hcr]; rfl
    refine bd_whenD (k := !((decide (t.length ≤ 1) || !decide (c = 48)) && (decide (a ≤ (val (tl t) : Int)) && decide ((val (tl t) : Int) ≤ b)))) (DT.is (DW.t (dw_or (DW.t (dw_and (dt_gtI (de_lenS (x' := "") (de_var (i := 0) rfl (pv 0)) (sz (by omega)) B.len) de_int) fun _ => (dw_one (dt_eqS (de_ixS (n := c) (de_var (i := 0) rfl (pv 0)) de_int (sz (by omega)) (atI_nat (j := 0) (by rw [hcr]; rfl))) de_str)))) fun _ => (dw_one (dt_not (dt_lele (de_var (i := 1) rfl (pv 1)) (de_intS (de_var (i := 0) rfl (pv 0)) hi (by omega) B.int) (de_var (i := 2) rfl (pv 2))))))) ?_) (fun hb2 => ?_) (fun hb2 => ?_)
    · rw [show decide ((1 : Int) < (t.length : Int)) = !decide (t.length ≤ 1) from by rw [Bool.eq_iff_iff]; simp; omega]
      show ((!decide (t.length ≤ 1) && decide ((⟨#[c]⟩ : Str) = ⟨#[48]⟩)) || _) = _
      rw [sg_eq]
      cases decide (t.length ≤ 1) <;> cases decide (c = 48) <;> simp
    ·
      refine bd_retD de_none (hP _ ?_) hq
      unfold readNum
      rw [if_neg]
      · rfl
      · rintro ⟨h4, h5, h6⟩
        unfold numOk at h4
        simp only [Bool.and_eq_true] at h4
        have h7 := h4.2
        rw [hl, hcr] at h7
        simp only [List.head?_cons, Option.some.injEq] at h7
        rw [h7] at hb2
        simp [h5, h6] at hb2
    ·
      refine bd_retD (de_intS (de_var (i := 0) rfl (pv 0)) hi (by omega) B.int) (hP _ ?_) hq
      have hb3 : ((decide (t.length ≤ 1) || !decide (c = 48)) && (decide (a ≤ (val (tl t) : Int)) && decide ((val (tl t) : Int) ≤ b))) = true := nf hb2
      simp only [Bool.and_eq_true, decide_eq_true_eq] at hb3
      unfold readNum
      rw [if_pos]
      · rfl
      · refine ⟨?_, hb3.2.1, hb3.2.2⟩
        unfold numOk
        rw [h3, hl, h1, hcr]
        simp only [List.head?_cons, Option.some.injEq]
        rw [hb3.1, decide_eq_true h2]
        rfl
end
end QL
namespace QL
open PySem PySem.Spec PyProof.Rows L2
theorem log_sm {n : Nat} (h : n ≤ 99999) : ((n : Int)).natAbs.log2 < 1920 := by
  rw [Int.natAbs_natCast]
  by_cases h0 : n = 0
  · subst h0; decide
  · rw [Nat.log2_lt h0]
    exact Nat.lt_of_le_of_lt h (Nat.lt_of_lt_of_le (by decide : 99999 < 2 ^ 17) (Nat.pow_le_pow_right (by decide) (by decide)))
theorem str_num (n : Nat) : Str.ofString (toString (n : Int)) = nS n := rfl
theorem len_app (x y : Str) : (x ++ y).length = x.length + y.length := by rw [← len_tl', ← len_tl', ← len_tl', tl_app, List.length_append]
theorem len_showLab {l : Lab} (h : LabOk l) : (showLab l).length ≤ 8 := by
  have := marks_len h
  rw [← len_tl', tl_showLab h]
  split
  · simp
  · simp; omega
theorem len_showIdn {i : Idn} (h : IdOk i) : (showIdn i).length ≤ 23 := by
  have h1 := len_showLab h.1
  have h2 := nS_small h.2.2.2
  have h3 : i.nm.length ≤ 8 := by
    have := h.2.1
    unfold nmOk at this
    simp only [Bool.and_eq_true, decide_eq_true_eq] at this
    exact this.1.2
  unfold showIdn
  rw [len_app, len_app, len_app, len_app]
  show _ + 1 + _ + 1 + _ ≤ 23
  omega
theorem len_showVx {v : Vx} (h : VxOk v) : (showVx v).length ≤ 40 := by
  have h1 := len_showIdn h.1
  have h2 := nS_small (n := v.pl) (by have := h.2.1; omega)
  have h3 := nS_small (n := v.ix) (by have := h.2.2; omega)
  unfold showVx
  rw [len_app, len_app, len_app, len_app]
  show _ + 1 + _ + 1 + _ ≤ 40
  omega
theorem sum_le {ps : List Str} {k : Nat} (h : ∀ p ∈ ps, p.length ≤ k) : (ps.map (·.length)).sum ≤ ps.length * k := by
  induction ps with
  | nil => simp
  | cons p ps ih =>
    rw [List.map_cons, List.sum_cons, List.length_cons, Nat.succ_mul]
    have := h p List.mem_cons_self
    have := ih fun x hx => h x (List.mem_cons_of_mem _ hx)
    omega
/-- texts that may be joined -/
theorem joinOk {ps : List Str} {k n : Nat} (sep : Str) (h : ∀ p ∈ ps, p.length ≤ k) (hn : ps.length ≤ n) (hz : n * k + n * sep.length ≤ 16777216) : (ps.map (·.length)).sum + ps.length * sep.length ≤ 16777216 := by
  have h1 := sum_le h
  have h2 : ps.length * k ≤ n * k := Nat.mul_le_mul_right k hn
  have h3 : ps.length * sep.length ≤ n * sep.length := Nat.mul_le_mul_right _ hn
  omega
section
variable {P : Program} {w : World} {K : PySem.W.Frag} {mg : Str → Option Value} {base : Heap} {f : Addr} {fd : FuncData}
/-! ### show_label -/
def F_show_label : Spc := fun _ rs P => ∃ l : Lab, rs = [.d l.d] ∧ LabOk l ∧ ∀ r, r = .d (.str (showLab l)) → P r
theorem ok_show_label (B : Bt mg) (T : Ct mg)  (D : Df K mg "show_label" s_show_label ["label"] f fd) : Ok P w K mg base 1 "show_label" ["label"] F_show_label := by
  refine D.ok (fok D.1 c_show_label (fun C rs R h => by obtain ⟨t, rfl, _⟩ := h; rfl) ?_)
  rintro X ⟨cdv, A, outer, s, H, E, rfl, hr⟩ C I0 H0 rs R D ⟨l, rfl, hl, hP⟩ hq
  have nd := c_show_label.nd
  have hm := marks_len hl
  have hd : ∀ m ∈ l.ms, (nS m).length ≤ 5 := fun m h => nS_small (by have := hl.2.1 m h; omega)
  have hj : (Txt.join "" (l.ms.map nS)).length ≤ 100 := by
    rw [← len_tl', tl_marks hl.2.1, List.length_map]; omega
  have h5 := nS_small (n := l.lv) (by have := hl.1; omega)
  refine bd_setD (i := 1) (d := .str (Txt.join "" (l.ms.map nS))) (de_join (ys := l.ms.map nS) de_str (de_frz (DLc.n (dlc0 (j := 2) (x := "mark") inat l.ms _ (di_tup (de_ixT (de_var (i := 0) rfl (pv 0)) de_int rfl)) (sz (by omega)) (blkOk_by (N := n_show_label) (sc := defScope s_show_label) (by decide +kernel)) (fun _ _ _ _ _ => pg_name (i := 2) nd rfl (Or.inl rfl)) (fun y hy _ _ _ _ _ => (de_strI (n := (y : Int)) (de_var (i := 2) rfl (pv 2)) (log_sm (by have := hl.2.1 y hy; omega)) B.str))))) (by rw [List.map_map]; rfl) (joinOk (k := 5) (n := 6) _ (fun p hp => by obtain ⟨m, hm, rfl⟩ := List.mem_map.mp hp; exact hd m hm) (by rw [List.length_map]; exact hm) (by decide))) ?_
  refine bd_retD (de_ife (dt_eqS (de_var (i := 1) rfl (pv 1)) de_str) (fun _ => (de_strI (n := (l.lv : Int)) (de_ixT (de_var (i := 0) rfl (pv 0)) de_int rfl) (log_sm (by have := hl.1; omega)) B.str)) (fun _ => (de_addS (de_addS (de_strI (n := (l.lv : Int)) (de_ixT (de_var (i := 0) rfl (pv 0)) de_int rfl) (log_sm (by have := hl.1; omega)) B.str) de_str (sz (by rw [str_num]; show _ + 1 ≤ _; omega))) (de_var (i := 1) rfl (pv 1)) (sz (by rw [str_num, len_app]; show _ + 1 + _ ≤ _; omega))))) (hP _ ?_) hq
  rw [str_num]
  unfold showLab
  by_cases e : Txt.join "" (l.ms.map nS) = ""
  · rw [if_pos (decide_eq_true e), if_pos e]
  · rw [if_neg (by rw [decide_eq_false e]; decide), if_neg e]

/-! ### read_label -/
def F_read_label : Spc := fun _ rs P => ∃ t : Str, rs = [.d (.str t)] ∧ t.length ≤ 1000000 ∧ ∀ r, r = .d (optD Lab.d (readLab t)) → P r
theorem one_of {h : Str} (e : (tl h).length = 1) : ∃ c, h = ⟨#[c]⟩ ∧ tl h = [c] := by
  match q : tl h, e with
  | [c], _ => exact ⟨c, ext_s q, rfl⟩
theorem part_of (t : Str) : (58 ∉ tl t ∧ Txt.partition t ":" = (t, (Str.ofString "" : Str), (Str.ofString "" : Str))) ∨ ∃ a b : Str, tl t = tl a ++ 58 :: tl b ∧ 58 ∉ tl a ∧ Txt.partition t ":" = (a, (Str.ofString ":" : Str), b) := by
  by_cases h : 58 ∈ tl t
  · right
    obtain ⟨l, r, e, hn⟩ : ∃ l r, tl t = l ++ 58 :: r ∧ 58 ∉ l := by
      generalize tl t = L at h
      induction L with
      | nil => cases h
      | cons c L ih =>
        by_cases hc : c = 58
        · exact ⟨[], L, by rw [hc]; rfl, by simp⟩
        · obtain ⟨l, r, e, hn⟩ := ih (by rcases List.mem_cons.mp h with z | z; exact absurd z.symm hc; exact z)
          exact ⟨c :: l, r, by rw [e]; rfl, by simp only [List.mem_cons, not_or]; exact ⟨fun z => hc z.symm, hn⟩⟩
    refine ⟨⟨l.toArray⟩, ⟨r.toArray⟩, e, hn, ?_⟩
    have ht : t = (⟨l.toArray⟩ : Str) ++ ":" ++ ⟨r.toArray⟩ := ext_s (by rw [e, tl_app, tl_app]; show _ = (l ++ [58]) ++ r; simp)
    rw [ht]
    exact TL.partition_app (y := ":") (s := 58) (S := []) rfl hn
  · left
    exact ⟨h, TL.partition_none (y := ":") (s := 58) (S := []) rfl h⟩
theorem lab_no {c : Nat} (h : lvOk c = true) : c ∈ tl "01234567" := by
  unfold lvOk at h
  simp only [Bool.and_eq_true, decide_eq_true_eq] at h
  rw [show tl "01234567" = [48, 49, 50, 51, 52, 53, 54, 55] from by decide +kernel]
  simp only [List.mem_cons, List.not_mem_nil, or_false]
  omega
theorem lv_of {c : Nat} (h : c ∈ tl "01234567") : lvOk c = true := by
  rw [show tl "01234567" = [48, 49, 50, 51, 52, 53, 54, 55] from by decide +kernel] at h
  simp only [List.mem_cons, List.not_mem_nil, or_false] at h
  unfold lvOk
  simp only [Bool.and_eq_true, decide_eq_true_eq]
  omega
theorem mem_mk {c : Nat} : c ∈ tl "012345" ↔ 48 ≤ c ∧ c ≤ 53 := by
  rw [show tl "012345" = [48, 49, 50, 51, 52, 53] from by decide +kernel]
  simp only [List.mem_cons, List.not_mem_nil, or_false]
  omega
theorem int_sg {c : Nat} (h : 48 ≤ c ∧ c ≤ 57) : PySem.intText? ⟨#[c]⟩ = some ((c - 48 : Nat) : Int) := by
  have := intText_digits (x := ⟨#[c]⟩) (fun d hd => by simp at hd; subst hd; exact h) (by simp) (by show 1 ≤ 4300; decide)
  rw [this]
  show some (((0 * 10 + (c - 48) : Nat)) : Int) = _
  rw [Nat.zero_mul, Nat.zero_add]
theorem dt_nin {X : Cx} {a b : Expr} {G : List Sl} {pos : Pos} {x y : Str} (ha : DE X a G (.str x)) (hb : DE X b G (.str y)) (h : (tl x).length = 1) (hm : behindInMarks .NotIn b = false := by rfl) : DT X (.Compare a [.NotIn] [b] pos) G (!decide ((tl x).headD 0 ∈ tl y)) := by
  obtain ⟨c, rfl, e⟩ := one_of h
  exact dt_niC ha hb hm
/-- the label that the signs of a head and marks make, if it is one -/
def labHM (h m : List Nat) (colon : Bool) : Option Lab := if h.length = 1 ∧ lvOk (h.headD 0) = true ∧ (colon = true ↔ m ≠ []) ∧ mkOk m = true then some ⟨h.headD 0 - 48, m.map (· - 48)⟩ else none
theorem mkOk_nil : mkOk [] = true := by simp [mkOk, ascN]
theorem lab_hm {t : Str} : readLab t = labHM (tl (Txt.partition t ":").1) (tl (Txt.partition t ":").2.2) (decide ((Txt.partition t ":").2.1 = ":")) := by
  rcases part_of t with ⟨h1, h2⟩ | ⟨a, b, h1, h2, h3⟩
  · rw [h2]
    unfold readLab labHM
    show labOf (tl t) = _
    rw [show decide (("" : Str) = ":") = false from by decide, show tl "" = [] from rfl]
    match e : tl t with
    | [] => rw [if_neg (by simp)]; rfl
    | [c] =>
      rw [labOf_1]
      by_cases hc : lvOk c = true
      · rw [if_pos hc, if_pos ⟨rfl, hc, by simp, mkOk_nil⟩]; rfl
      · rw [if_neg hc, if_neg fun z => hc z.2.1]
    | [c, d] => rw [if_neg (by simp)]; rfl
    | c :: k :: m :: ms =>
      rw [labOf_3, if_neg (fun z => ?_), if_neg (by simp)]
      obtain ⟨_, rfl, _⟩ := z
      rw [e] at h1
      simp at h1
  · rw [h3]
    unfold readLab labHM
    rw [h1]
    show labOf (tl a ++ 58 :: tl b) = _
    rw [show decide ((":" : Str) = ":") = true from by decide]
    match e : tl a with
    | [] =>
      rw [if_neg (by simp)]
      match e2 : tl b with
      | [] => show labOf [58] = none; rw [labOf_1, if_neg (by decide)]
      | [_] => rfl
      | x :: y :: l => show labOf (58 :: x :: y :: l) = none; rw [labOf_3, if_neg fun z => absurd z.1 (by decide)]
    | [c] =>
      match e2 : tl b with
      | [] => show labOf [c, 58] = _; rw [if_neg (by simp)]; rfl
      | x :: l =>
        show labOf (c :: 58 :: x :: l) = _
        rw [labOf_3]
        by_cases hc : lvOk c = true ∧ mkOk (x :: l) = true
        · rw [if_pos ⟨hc.1, rfl, hc.2⟩, if_pos ⟨rfl, hc.1, by simp, hc.2⟩]; rfl
        · rw [if_neg fun z => hc ⟨z.1, z.2.2⟩, if_neg fun z => hc ⟨z.2.1, z.2.2.2⟩]
    | c :: d :: r =>
      rw [if_neg (by simp)]
      have hd : d ≠ 58 := fun z => h2 (by rw [e, z]; simp)
      match r with
      | [] =>
        match e2 : tl b with
        | [] => show labOf [c, d, 58] = none; rw [labOf_3, if_neg fun z => hd z.2.1]
        | x :: l => show labOf (c :: d :: 58 :: x :: l) = none; rw [labOf_3, if_neg fun z => hd z.2.1]
      | x :: r => show labOf (c :: d :: x :: (r ++ _)) = none; rw [labOf_3, if_neg fun z => hd z.2.1]
theorem ok_read_label (B : Bt mg) (T : Ct mg) (g_is_label : Ok P w K mg base 2 "is_label" ["label"] F_is_label) (D : Df K mg "read_label" s_read_label ["text"] f fd) : Ok P w K mg base 3 "read_label" ["text"] F_read_label := by
  refine D.ok (fok D.1 c_read_label (fun C rs R h => by obtain ⟨t, rfl, _⟩ := h; rfl) ?_)
  rintro X ⟨cdv, A, outer, s, H, E, rfl, hr⟩ C I0 H0 rs R D ⟨t, rfl, hz, hP⟩ hq
  have nd := c_read_label.nd
  rw [lab_hm] at hP
  have hp : (Txt.partition t ":").1.length ≤ t.length ∧ (Txt.partition t ":").2.2.length ≤ t.length := by
    rcases part_of t with ⟨h1, h2⟩ | ⟨a, b, h1, h2, h3⟩
    · rw [h2]; exact ⟨Nat.le_refl _, Nat.zero_le _⟩
    · rw [h3, ← len_tl', ← len_tl', ← len_tl', h1]
      simp
      omega
  obtain ⟨hp1, hp2⟩ := hp
  refine bd_un3D (i := 1) (j := 2) (m := 3) (de_part (de_var (i := 0) rfl (pv 0)) de_str rfl (sz (by omega))) ?_ (pg_name nd rfl (.inl rfl)) (pg_name nd rfl (.inl rfl)) (pg_name nd rfl (.inl rfl))
  generalize (Txt.partition t ":").1 = h at hP hp1 ⊢
  generalize (Txt.partition t ":").2.1 = k at hP ⊢
  generalize (Txt.partition t ":").2.2 = m at hP hp2 ⊢
  have lh := len_tl' h
  refine bd_whenD (DW.t (dw_or (dt_neI (de_lenS (x' := "") (de_var (i := 1) rfl (pv 1)) (sz (by omega)) B.len) de_int) fun hb => (dw_or (dt_nin (de_var (i := 1) rfl (pv 1)) de_str (by have := of_decide_eq_true (nf hb); omega)) fun _ => (dw_one (dt_neB (de_eqS (de_var (i := 2) rfl (pv 2)) de_str) (de_neS (de_var (i := 3) rfl (pv 3)) de_str)))))) (fun hb => ?_) (fun hb => ?_)
  ·
    refine bd_retD de_none (hP _ ?_) hq
    unfold labHM
    rw [if_neg]
    · rfl
    · rintro ⟨z1, z2, z3, z4⟩
      have e1 : decide ((h.length : Int) = 1) = true := decide_eq_true (by omega)
      have e2 : decide ((tl h).headD 0 ∈ tl "01234567") = true := decide_eq_true (lab_no z2)
      rw [e1, e2] at hb
      have hb' : (!decide (decide (k = ":") = !decide (m = ""))) = true := by simpa using hb
      have := of_decide_eq_false (nt hb')
      apply this
      rw [Bool.eq_iff_iff, z3]
      simp [tl_empty]
  · simp only [Bool.or_eq_false_iff] at hb
    obtain ⟨b1, b2, b3⟩ := hb
    have b1 := of_decide_eq_true (nf b1)
    have b2 := of_decide_eq_true (nf b2)
    have b3 := of_decide_eq_true (nf b3)
    have lm := len_tl' m
    obtain ⟨c, rfl, hc⟩ := one_of (h := h) (by omega)
    rw [hc] at b2
    have c1 : lvOk c = true := lv_of b2
    have c2 : 48 ≤ c ∧ c ≤ 55 := by unfold lvOk at c1; simpa using c1
    refine bd_whenD (k := !(tl m).all (fun c => decide (c ∈ tl "012345"))) (DT.is (dt_gtI (de_lenL (de_frz (DLc.n (dlc (j := 5) (x := "char") sg _ (fun n => !decide (n ∈ tl "012345")) _ (di_str (de_var (i := 3) rfl (pv 3))) (sz (by rw [lm]; omega)) (blkOk_by (N := n_read_label) (sc := defScope s_read_label) (by decide +kernel)) (fun _ _ _ _ _ => pg_name (i := 5) nd rfl (Or.inl rfl)) (fun y hy _ _ _ _ _ => (dt_niC (de_var (i := 5) rfl (pv 5)) de_str)) (fun y hy hc _ _ _ _ _ => (de_var (i := 5) rfl (pv 5)))))) rfl B.len) de_int) (gt0 _ _ _)) (fun hb => ?_) (fun hb => ?_)
    ·
      refine bd_retD de_none (hP _ ?_) hq
      unfold labHM
      rw [if_neg]
      · rfl
      · rintro ⟨z1, z2, z3, z4⟩
        unfold mkOk at z4
        simp only [Bool.and_eq_true, List.all_eq_true, decide_eq_true_eq] at z4
        have hb' := nt hb
        rw [List.all_eq_false] at hb'
        obtain ⟨x, hx, hx2⟩ := hb'
        exact hx2 (decide_eq_true (mem_mk.mpr (z4.1 x hx)))
    · have hb' := nf hb
      rw [List.all_eq_true] at hb'
      have hm : ∀ x ∈ tl m, 48 ≤ x ∧ x ≤ 53 := fun x hx => mem_mk.mp (of_decide_eq_true (hb' x hx))
      refine bd_setD (i := 4) (d := Lab.d ⟨c - 48, (tl m).map (· - 48)⟩) (DE.is (de_tup (ds := [_, _, _]) (da_cons de_str (da_cons (de_intS (de_var (i := 1) rfl (pv 1)) (int_sg (by omega)) (by show 1 ≤ 640; decide) B.int) (da_cons (de_tupL (de_frz (DLc.n (dlc0 (j := 5) (x := "char") sg (tl m) (fun c => inat (c - 48)) (di_str (de_var (i := 3) rfl (pv 3))) (sz (by rw [lm]; omega)) (blkOk_by (N := n_read_label) (sc := defScope s_read_label) (by decide +kernel)) (fun _ _ _ _ _ => pg_name (i := 5) nd rfl (Or.inl rfl)) (fun y hy _ _ _ _ _ => (de_intS (de_var (i := 5) rfl (pv 5)) (int_sg (by have := hm y hy; omega)) (by show 1 ≤ 640; decide) B.int))))) B.tuple) da_nil)))) ?_) ?_
      · show _ = PyData.tuple [.str "label", inat (c - 48), .tuple (((tl m).map (· - 48)).map inat)]
        rw [List.map_map]
        rfl
      refine bd_retD (de_ife (dt_val (de_fn g_is_label (hr.mono (by decide)) (da_cons (de_var (i := 4) rfl (pv 4)) da_nil) (fun C => ⟨⟨c - 48, (tl m).map (· - 48)⟩, rfl, by rw [List.length_map, lm]; omega, fun r e => e⟩))) (fun _ => (de_var (i := 4) rfl (pv 4))) (fun _ => de_none)) (hP _ ?_) hq
      have key : isLab ⟨c - 48, (tl m).map (· - 48)⟩ = mkOk (tl m) := by
        unfold isLab mkOk
        rw [Bool.eq_iff_iff]
        simp only [Bool.and_eq_true, decide_eq_true_eq, List.all_eq_true, ascN]
        constructor
        · rintro ⟨⟨_, _⟩, z⟩
          refine ⟨hm, ?_⟩
          rw [List.pairwise_map] at z
          exact z.imp_of_mem fun ha hb hab => by have := hm _ ha; have := hm _ hb; omega
        · rintro ⟨_, z⟩
          refine ⟨⟨by omega, fun x hx => ?_⟩, ?_⟩
          · obtain ⟨y, hy, rfl⟩ := List.mem_map.mp hx
            have := hm y hy; omega
          · rw [List.pairwise_map]
            exact z.imp_of_mem fun ha hb hab => by have := hm _ ha; have := hm _ hb; omega
      rw [key]
      unfold labHM
      by_cases z : mkOk (tl m) = true
      · rw [if_pos z, if_pos]
        · rfl
        · refine ⟨rfl, c1, ?_, z⟩
          rw [b3]
          simp [tl_empty]
      · rw [if_neg z, if_neg fun q => z q.2.2.2]
        rfl
end
end QL
namespace QL
open PySem PySem.Spec PyProof.Rows L2
/-! ### data that == and in may look at -/
theorem ok_chars {x : Str} (h : ∀ c ∈ tl x, c < 1114112) : PyData.strOk x = true := by
  unfold PyData.strOk
  rw [← Array.all_toList, List.all_eq_true]
  intro c hc
  exact decide_eq_true (h c hc)
theorem nm_chars {x : Str} (h : nmOk x = true) : PyData.strOk x = true := by
  unfold nmOk onlyHas at h
  simp only [Bool.and_eq_true, List.all_eq_true, decide_eq_true_eq] at h
  exact ok_chars fun c hc => by have := mem_LOW.mp (h.2 c hc); omega
theorem lay_ints : ∀ l : List Nat, PyData.canLayAll0 (l.map inat) = true
  | [] => rfl
  | _ :: l => by
    show (PyData.canLay0 (inat _) && PyData.canLayAll0 (l.map inat)) = true
    rw [lay_ints l]; rfl
theorem dep_ints : ∀ l : List Nat, PyData.depthAll (l.map inat) = 0
  | [] => rfl
  | _ :: l => by
    show max (PyData.depth (inat _)) (PyData.depthAll (l.map inat)) = 0
    rw [dep_ints l]; rfl
theorem lay_lab (l : Lab) : l.d.canLay0 = true ∧ l.d.depth = 2 := by
  constructor
  · show (PyData.canLay0 (.str "label") && (PyData.canLay0 (inat l.lv) && (PyData.canLay0 (.tuple (l.ms.map inat)) && true))) = true
    rw [show PyData.canLay0 (.tuple (l.ms.map inat)) = PyData.canLayAll0 (l.ms.map inat) from by rw [PyData.canLay0], lay_ints, show PyData.canLay0 (.str "label") = true from by decide +kernel]
    rfl
  · show max 0 (max 0 (max (PyData.depth (.tuple (l.ms.map inat))) 0)) + 1 = 2
    rw [show PyData.depth (.tuple (l.ms.map inat)) = PyData.depthAll (l.ms.map inat) + 1 from by rw [PyData.depth], dep_ints]
    rfl
theorem lay_idn {i : Idn} (h : nmOk i.nm = true) : i.d.canLay0 = true ∧ i.d.depth = 3 := by
  obtain ⟨h1, h2⟩ := lay_lab i.lab
  constructor
  · show (PyData.canLay0 i.lab.d && (PyData.canLay0 (.str i.nm) && (true && true))) = true
    rw [h1, show PyData.canLay0 (.str i.nm) = PyData.strOk i.nm from by rw [PyData.canLay0], nm_chars h]
    rfl
  · show max (PyData.depth i.lab.d) (max 0 (max 0 0)) + 1 = 3
    rw [h2]; rfl
theorem lay_vx {v : Vx} (h : nmOk v.id.nm = true) : v.d.canLay0 = true ∧ v.d.depth = 4 := by
  obtain ⟨h1, h2⟩ := lay_idn h
  constructor
  · show (PyData.canLay0 v.id.d && (true && (true && true))) = true
    rw [h1]; rfl
  · show max (PyData.depth v.id.d) (max 0 (max 0 0)) + 1 = 4
    rw [h2]; rfl
theorem shaped_of {d : PyData} (h1 : d.canLay0 = true) (h2 : d.depth ≤ 60) : SeqAt.shaped d = true := by
  unfold SeqAt.shaped
  rw [h1, decide_eq_true (Nat.le_trans h2 (by decide))]; rfl
theorem lay_all : ∀ {ds : List PyData} {n : Nat}, (∀ d ∈ ds, d.canLay0 = true ∧ d.depth ≤ n) → PyData.canLayAll0 ds = true ∧ PyData.depthAll ds ≤ n
  | [], _, _ => ⟨rfl, Nat.zero_le _⟩
  | d :: ds, n, h => by
    obtain ⟨h1, h2⟩ := lay_all fun x hx => h x (List.mem_cons_of_mem _ hx)
    obtain ⟨h3, h4⟩ := h d List.mem_cons_self
    constructor
    · show (PyData.canLay0 d && PyData.canLayAll0 ds) = true
      rw [h3, h1]; rfl
    · show max d.depth (PyData.depthAll ds) ≤ n
      exact Nat.max_le.mpr ⟨h4, h2⟩
theorem lay_list {ds : List PyData} {n : Nat} (h : ∀ d ∈ ds, d.canLay0 = true ∧ d.depth ≤ n) : (PyData.list ds).canLay0 = true ∧ (PyData.list ds).depth ≤ n + 1 := by
  obtain ⟨h1, h2⟩ := lay_all h
  constructor
  · rw [PyData.canLay0]; exact h1
  · rw [PyData.depth]; omega
theorem lay_tup {ds : List PyData} {n : Nat} (h : ∀ d ∈ ds, d.canLay0 = true ∧ d.depth ≤ n) : (PyData.tuple ds).canLay0 = true ∧ (PyData.tuple ds).depth ≤ n + 1 := by
  obtain ⟨h1, h2⟩ := lay_all h
  constructor
  · rw [PyData.canLay0]; exact h1
  · rw [PyData.depth]; omega

section
variable {X : Cx} {a b c e : Expr} {G : List Sl} {pos : Pos}
/-- x not in a list of data -/
theorem dt_niD {x : PyData} {ds : List PyData} (hu : X.A.units + 65 < cLine) (ha : DE X a G x) (hb : DE X b G (.list ds)) (s1 : SeqAt.shaped x = true) (s2 : SeqAt.shaped (.list ds) = true) (hm : behindInMarks .NotIn b = false := by rfl) : DT X (.Compare a [.NotIn] [b] pos) G (!ds.any fun z => PyData.eqv z x) := dt_cmp (op_notInD hu) ha hb (fun I H v u Q s o1 o2 q =>
  ⟨x, ds, (Dq.mono s o1).dp, (Dq.mono s o2).dp, s1, s2, q _ I H (Ext.refl s) (.bl _)⟩) hm
/-- x in a tuple of data -/
def rInTD (K : PySem.W.Frag) : R2 := fun x y H Q => ∃ d ds, Dp K H x d ∧ Dp K H y (.tuple ds) ∧ SeqAt.shaped d = true ∧ SeqAt.shaped (.tuple ds) = true ∧ Q (.bl (ds.any fun z => PyData.eqv z d)) H
theorem op_inTD (hu : X.A.units + 65 < cLine) : OpR X (compareOp .In) (rInTD X.K) := by
  intro pins s σ H x y v u Q I rx ry h
  obtain ⟨d, ds, hd, he, sd, se, q⟩ := h
  obtain ⟨as, r1⟩ := Dp.reads I d x v hd rx
  obtain ⟨bs, r2⟩ := Dp.reads I (.tuple ds) y u he ry
  exact SeqAt.in_tuple_reads r2 r1 (by have := SeqAt.canLay_of_shaped se; rwa [PyData.canLay0] at this) (SeqAt.canLay_of_shaped sd) (room_in_shaped sd hu) ⟨.bl _, H, I, rfl, q⟩
theorem dt_inT {x : PyData} {ds : List PyData} (hu : X.A.units + 65 < cLine) (ha : DE X a G x) (hb : DE X b G (.tuple ds)) (s1 : SeqAt.shaped x = true) (s2 : SeqAt.shaped (.tuple ds) = true) (hm : behindInMarks .In b = false := by rfl) : DT X (.Compare a [.In] [b] pos) G (ds.any fun z => PyData.eqv z x) := dt_cmp (op_inTD hu) ha hb (fun I H v u Q s o1 o2 q =>
  ⟨x, ds, (Dq.mono s o1).dp, (Dq.mono s o2).dp, s1, s2, q _ I H (Ext.refl s) (.bl _)⟩) hm
theorem room65 {k : Nat} {A : Around} (r : Room k A) : A.units + 65 < cLine := by have := r.un; omega
end
theorem isNon_opt {α : Type} (f : α → PyData) (hf : ∀ a, isNon (f a) = false) : ∀ o : Option α, isNon (optD f o) = o.isNone
  | none => rfl
  | some a => hf a
/-- an item of a list of three -/
theorem at3 {x : PyData} {l : List PyData} {i : Nat} (h : l[i]? = some x) : atI l (i : Int) = some x := atI_nat h

section
variable {P : Program} {w : World} {K : PySem.W.Frag} {mg : Str → Option Value} {base : Heap} {f : Addr} {fd : FuncData}
/-! ### show_path, read_path -/
def F_show_path : Spc := fun _ rs P => ∃ ps : List Str, rs = [.d (.tuple (ps.map .str))] ∧ isPath ps = true ∧ ∀ r, r = .d (.str (showPath ps)) → P r
theorem path_sz {ps : List Str} (h : isPath ps = true) : ps.length ≤ 4 ∧ ∀ p ∈ ps, p.length ≤ 8 := by
  unfold isPath partOk at h
  simp only [Bool.and_eq_true, decide_eq_true_eq, List.all_eq_true] at h
  exact ⟨h.1.2, fun p hp => (h.2 p hp).1.2⟩
theorem ok_show_path (B : Bt mg) (T : Ct mg)  (D : Df K mg "show_path" s_show_path ["path"] f fd) : Ok P w K mg base 1 "show_path" ["path"] F_show_path := by
  refine D.ok (fok D.1 c_show_path (fun C rs R h => by obtain ⟨t, rfl, _⟩ := h; rfl) ?_)
  rintro X ⟨cdv, A, outer, s, H, E, rfl, hr⟩ C I0 H0 rs R D ⟨ps, rfl, hz, hP⟩ hq
  have nd := c_show_path.nd
  exact bd_retD (de_join (ys := ps) de_str (de_var (i := 0) rfl (pv 0)) rfl (joinOk (k := 8) (n := 4) _ (path_sz hz).2 (path_sz hz).1 (by decide))) (hP _ rfl) hq
def F_read_path : Spc := fun _ rs P => ∃ t : Str, rs = [.d (.str t)] ∧ t.length ≤ 900000 ∧ ∀ r, r = .d (optD (fun ps => .tuple (ps.map .str)) (readPath t)) → P r
theorem ok_read_path (B : Bt mg) (T : Ct mg) (g_is_path : Ok P w K mg base 2 "is_path" ["path"] F_is_path) (D : Df K mg "read_path" s_read_path ["text"] f fd) : Ok P w K mg base 3 "read_path" ["text"] F_read_path := by
  refine D.ok (fok D.1 c_read_path (fun C rs R h => by obtain ⟨t, rfl, _⟩ := h; rfl) ?_)
  rintro X ⟨cdv, A, outer, s, H, E, rfl, hr⟩ C I0 H0 rs R D ⟨t, rfl, hz, hP⟩ hq
  have nd := c_read_path.nd
  have h1 := split_many t 47
  have h2 : ∀ p ∈ Txt.split t "/", p.length ≤ t.length := fun p hp => split_len (s := 47) hp
  refine bd_setD (i := 1) (de_tupL (de_frz (dn_split (de_var (i := 0) rfl (pv 0)) de_str rfl (sz (by omega)))) B.tuple) ?_
  refine bd_retD (de_ife (dt_val (de_fn g_is_path (hr.mono (by decide)) (da_cons (de_var (i := 1) rfl (pv 1)) da_nil) (fun C => ⟨_, rfl, Nat.le_trans h1 (by omega), fun p hp => Nat.le_trans (h2 p hp) (by omega), fun r e => e⟩))) (fun _ => (de_var (i := 1) rfl (pv 1))) (fun _ => de_none)) (hP _ ?_) hq
  unfold readPath
  split <;> rfl

/-! ### show_id, read_id -/
def F_show_id : Spc := fun _ rs P => ∃ i : Idn, rs = [.d i.d] ∧ IdOk i ∧ ∀ r, r = .d (.str (showIdn i)) → P r
theorem nm_len {x : Str} (h : nmOk x = true) : x.length ≤ 8 := by
  unfold nmOk at h
  simp only [Bool.and_eq_true, decide_eq_true_eq] at h
  exact h.1.2
theorem ok_show_id (B : Bt mg) (T : Ct mg) (g_show_label : Ok P w K mg base 1 "show_label" ["label"] F_show_label) (D : Df K mg "show_id" s_show_id ["name"] f fd) : Ok P w K mg base 2 "show_id" ["name"] F_show_id := by
  refine D.ok (fok D.1 c_show_id (fun C rs R h => by obtain ⟨t, rfl, _⟩ := h; rfl) ?_)
  rintro X ⟨cdv, A, outer, s, H, E, rfl, hr⟩ C I0 H0 rs R D ⟨i, rfl, hi, hP⟩ hq
  have nd := c_show_id.nd
  have h1 := len_showLab hi.1
  have h2 := nS_small hi.2.2.2
  have h3 := nm_len hi.2.1
  have l1 : ("." : Str).length = 1 := rfl
  exact bd_retD (de_addS (de_addS (de_addS (de_addS (de_fn g_show_label (hr.mono (by decide)) (da_cons (de_ixT (d := i.lab.d) (de_var (i := 0) rfl (pv 0)) de_int rfl) da_nil) (fun C => ⟨i.lab, rfl, hi.1, fun r e => e⟩)) de_str (sz (by omega))) (de_ixT (d := .str i.nm) (de_var (i := 0) rfl (pv 0)) de_int rfl) (sz (by rw [len_app]; omega))) de_str (sz (by rw [len_app, len_app]; omega))) (de_strI (n := (i.no : Int)) (de_ixT (de_var (i := 0) rfl (pv 0)) de_int rfl) (log_sm hi.2.2.2) B.str) (sz (by rw [str_num, len_app, len_app, len_app]; omega))) (hP _ rfl) hq
def F_read_id : Spc := fun _ rs P => ∃ t : Str, rs = [.d (.str t)] ∧ t.length ≤ 900000 ∧ ∀ r, r = .d (optD Idn.d (readIdn t)) → P r
theorem isLab_ok {l : Lab} (h : LabOk l) : isLab l = true := by
  unfold isLab ascN
  simp only [Bool.and_eq_true, decide_eq_true_eq, List.all_eq_true]
  exact ⟨⟨h.1, h.2.1⟩, h.2.2⟩
theorem ok_read_id (B : Bt mg) (T : Ct mg) (g_is_id : Ok P w K mg base 3 "is_id" ["name"] F_is_id) (g_read_label : Ok P w K mg base 3 "read_label" ["text"] F_read_label) (g_read_number : Ok P w K mg base 1 "read_number" ["text", "least", "most"] F_read_number) (D : Df K mg "read_id" s_read_id ["text"] f fd) : Ok P w K mg base 4 "read_id" ["text"] F_read_id := by
  refine D.ok (fok D.1 c_read_id (fun C rs R h => by obtain ⟨t, rfl, _⟩ := h; rfl) ?_)
  obtain ⟨tkNUMBER, hNUMBER⟩ := T.NUMBER
  rintro X ⟨cdv, A, outer, s, H, E, rfl, hr⟩ C I0 H0 rs R D ⟨t, rfl, hz, hP⟩ hq
  have nd := c_read_id.nd
  have h2 : ∀ p ∈ Txt.split t ".", p.length ≤ t.length := fun p hp => split_len (s := 46) hp
  refine bd_setD (i := 1) (de_frz (dn_split (de_var (i := 0) rfl (pv 0)) de_str rfl (sz (by omega)))) ?_
  unfold readIdn at hP
  generalize Txt.split t "." = ps at hP h2 ⊢
  refine bd_whenD (dt_neI (de_lenL (de_var (i := 1) rfl (pv 1)) rfl B.len) de_int) (fun hb => ?_) (fun hb => ?_)
  ·
    refine bd_retD de_none (hP _ ?_) hq
    rw [List.length_map] at hb
    have hb := of_decide_eq_false (nt hb)
    match ps, hb with
    | [], _ => rfl
    | [_], _ => rfl
    | [_, _], _ => rfl
    | [_, _, _], h => exact absurd rfl h
    | _ :: _ :: _ :: _ :: _, _ => rfl
  · rw [List.length_map] at hb
    have hb := of_decide_eq_true (nf hb)
    obtain ⟨a, b, c, rfl⟩ : ∃ a b c, ps = [a, b, c] := by
      match ps, hb with
      | [a, b, c], _ => exact ⟨a, b, c, rfl⟩
      | [], h => exact absurd h (by decide)
      | [_], h => exact absurd h (by simp)
      | [_, _], h => exact absurd h (by simp)
      | _ :: _ :: _ :: _ :: _, h => simp at h; omega
    have la := h2 a (by simp)
    have lb := h2 b (by simp)
    have lc := h2 c (by simp)
    rw [idParts_3] at hP
    refine bd_setD (i := 2) (de_fn g_read_label (hr.mono (by decide)) (da_cons (de_ixL (d := .str a) (de_var (i := 1) rfl (pv 1)) de_int (at3 (i := 0) rfl)) da_nil) (fun C => ⟨a, rfl, (by omega), fun r e => e⟩)) ?_
    refine bd_setD (i := 3) (de_fn g_read_number (hr.mono (by decide)) (da_cons (de_ixL (d := .str c) (de_var (i := 1) rfl (pv 1)) de_int (at3 (i := 2) rfl)) (da_cons de_int (da_cons (de_gint hNUMBER) da_nil))) (fun C => ⟨c, 1, 99999, rfl, (by omega), fun r e => e⟩)) ?_
    cases e1 : readLab a with
    | none =>
      rw [e1] at hP
      refine bd_whenD (k := true) (DW.t (dw_or (k := true) (j := true) (dt_isN (de_var (i := 2) (d := .none) rfl (pv 2))) fun z => absurd z (by decide))) (fun _ => ?_) (fun z => absurd z (by decide))
      exact bd_retD de_none (hP _ rfl) hq
    | some l =>
      cases e2 : readNum c 1 99999 with
      | none =>
        rw [e1, e2] at hP
        refine bd_whenD (k := true) (DT.is (DW.t (dw_or (k := false) (dt_isN (de_var (i := 2) (d := l.d) rfl (pv 2))) fun _ => dw_or (k := true) (j := true) (dt_isN (de_var (i := 3) (d := .none) rfl (pv 3))) fun z => absurd z (by decide))) rfl) (fun _ => ?_) (fun z => absurd z (by decide))
        exact bd_retD de_none (hP _ rfl) hq
      | some n =>
        rw [e1, e2] at hP
        obtain ⟨_, _, n1, n2⟩ := readNum_some e2
        have l1 := lab_ok e1
        refine bd_whenD (DW.t (dw_or (k := false) (dt_isN (de_var (i := 2) (d := l.d) rfl (pv 2))) fun _ => dw_or (k := false) (dt_isN (de_var (i := 3) (d := inat n) rfl (pv 3))) fun _ => (dw_one (dt_not (dt_val (de_fn g_is_id (hr.mono (by decide)) (da_cons (de_tup (ds := [_, _, _]) (da_cons (de_var (i := 2) rfl (pv 2)) (da_cons (de_ixL (d := .str b) (de_var (i := 1) rfl (pv 1)) de_int (at3 (i := 1) rfl)) (da_cons (de_var (i := 3) rfl (pv 3)) da_nil)))) da_nil) (fun C => ⟨⟨l, b, n⟩, rfl, by show l.ms.length ≤ _; have := marks_len l1; omega, by show b.length ≤ _; omega, fun r e => e⟩))))))) (fun hb => ?_) (fun hb => ?_)
        · refine bd_retD de_none (hP _ ?_) hq
          have hb' : (isLab l && nmOk b && decide (1 ≤ n) && decide (n ≤ 99999)) = false := nt (by simpa using hb)
          rw [isLab_ok l1, decide_eq_true (show 1 ≤ n by omega), decide_eq_true (show n ≤ 99999 by omega)] at hb'
          have hb'' : nmOk b = false := by simpa using hb'
          show _ = Sl.d (optD Idn.d (if nmOk b = true then _ else _))
          rw [if_neg (by rw [hb'']; decide)]
          rfl
        · refine bd_retD (de_tup (ds := [_, _, _]) (da_cons (de_var (i := 2) (d := l.d) rfl (pv 2)) (da_cons (de_ixL (d := .str b) (de_var (i := 1) rfl (pv 1)) de_int (at3 (i := 1) rfl)) (da_cons (de_var (i := 3) (d := inat n) rfl (pv 3)) da_nil)))) (hP _ ?_) hq
          have hb' : (isLab l && nmOk b && decide (1 ≤ n) && decide (n ≤ 99999)) = true := nf (by simpa using hb)
          simp only [Bool.and_eq_true] at hb'
          show _ = Sl.d (optD Idn.d (if nmOk b = true then _ else _))
          rw [if_pos hb'.1.1.2]
          rfl
end
end QL
namespace QL
open PySem PySem.Spec PyProof.Rows L2
/-! ### lists of vertices -/
def ltV (a b : Vx) : Bool := PySem.W.dataLt a.d b.d
def readVxs (t : Str) (m : Nat) : Option (List Vx) := if t = "-" then some [] else
  if (Txt.split t ",").length ≤ m ∧ ((Txt.split t ",").all fun p => (readVx p).isSome) = true ∧ adjAll ltV ((Txt.split t ",").filterMap readVx) = true then some ((Txt.split t ",").filterMap readVx) else none
def showVxs (vs : List Vx) : Str := if vs.length = 0 then "-" else Txt.join "," (vs.map showVx)
theorem alike_intsN : ∀ xs ys : List Nat, PySem.W.alikeAll (xs.map inat) (ys.map inat) = true
  | [], _ => by cases ‹List Nat› <;> rfl
  | _ :: _, [] => rfl
  | x :: xs, y :: ys => by
    show (true && PySem.W.alikeAll (xs.map inat) (ys.map inat)) = true
    rw [alike_intsN xs ys]; rfl
theorem alike_lab (a b : Lab) : PySem.W.alike a.d b.d = true := by
  show (true && (true && (PySem.W.alike (.tuple (a.ms.map inat)) (.tuple (b.ms.map inat)) && true))) = true
  rw [show PySem.W.alike (.tuple (a.ms.map inat)) (.tuple (b.ms.map inat)) = PySem.W.alikeAll (a.ms.map inat) (b.ms.map inat) from by rw [PySem.W.alike], alike_intsN]
  rfl
theorem alike_idn (a b : Idn) : PySem.W.alike a.d b.d = true := by
  show (PySem.W.alike a.lab.d b.lab.d && (true && (true && true))) = true
  rw [alike_lab]; rfl
theorem alike_vx (a b : Vx) : PySem.W.alike a.d b.d = true := by
  show (PySem.W.alike a.id.d b.id.d && (true && (true && true))) = true
  rw [alike_idn]; rfl
theorem dep_vx (v : Vx) : v.d.depth = 4 := by
  show max (max (PyData.depth v.id.lab.d) (max 0 (max 0 0)) + 1) (max 0 (max 0 0)) + 1 = 4
  rw [(lay_lab v.id.lab).2]; rfl
theorem cmp_vx (vs : List Vx) : Cmp (vs.map Vx.d) := fun a ha b hb => by
  obtain ⟨x, _, rfl⟩ := List.mem_map.mp ha
  obtain ⟨y, _, rfl⟩ := List.mem_map.mp hb
  exact ⟨alike_vx x y, ⟨(by intro z; cases z), by rw [dep_vx]; decide⟩⟩
theorem asc_vx (vs : List Vx) : ascD (vs.map Vx.d) = adjAll ltV vs := by
  unfold ascD
  rw [adjAll_range (fun a b => PySem.W.dataLt a b), adjAll_map]
  rfl
theorem readVxs_some {t : Str} {m : Nat} {vs : List Vx} (h : readVxs t m = some vs) : showVxs vs = t ∧ vs.length ≤ m ∧ (∀ v ∈ vs, VxOk v) := by
  unfold readVxs at h
  split at h
  · rename_i e
    cases h
    exact ⟨e.symm, Nat.zero_le _, by simp⟩
  · split at h
    · rename_i hn c
      cases h
      obtain ⟨c1, c2, c3⟩ := c
      rw [List.all_eq_true] at c2
      have key : ∀ ps : List Str, (∀ p ∈ ps, (readVx p).isSome = true) → (ps.filterMap readVx).length = ps.length ∧ (ps.filterMap readVx).map showVx = ps ∧ ∀ v ∈ ps.filterMap readVx, VxOk v := by
        intro ps
        induction ps with
        | nil => intro _; exact ⟨rfl, rfl, by simp⟩
        | cons p ps ih =>
          intro hp
          obtain ⟨i1, i2, i3⟩ := ih fun x hx => hp x (List.mem_cons_of_mem _ hx)
          obtain ⟨v, hv⟩ := Option.isSome_iff_exists.mp (hp p List.mem_cons_self)
          rw [List.filterMap_cons, hv]
          refine ⟨by show _ + 1 = _ + 1; rw [i1], by show showVx v :: _ = _; rw [i2, show_vx hv], fun x hx => ?_⟩
          rcases List.mem_cons.mp hx with rfl | hx
          · exact vx_ok hv
          · exact i3 x hx
      obtain ⟨k1, k2, k3⟩ := key _ c2
      refine ⟨?_, by omega, k3⟩
      unfold showVxs
      have ne := split_ne t 44
      rw [if_neg (fun z => ne (List.length_eq_zero_iff.mp (by have : (Txt.split t ",").length = 0 := by omega
                                                              exact this))), k2]
      exact join_split t 44
    · cases h
theorem eqv_non {α : Type} (f : α → PyData) (hf : ∀ a, PyData.eqv (f a) .none = false) : ∀ o : Option α, PyData.eqv (optD f o) .none = o.isNone
  | none => rfl
  | some a => hf a
theorem opt_map {α β : Type} (r : β → Option α) (f : α → PyData) : ∀ ps : List β, (∀ p ∈ ps, (r p).isSome = true) → ps.map (fun p => optD f (r p)) = (ps.filterMap r).map f
  | [], _ => rfl
  | p :: ps, h => by
    obtain ⟨v, hv⟩ := Option.isSome_iff_exists.mp (h p List.mem_cons_self)
    rw [List.map_cons, List.filterMap_cons, hv, opt_map r f ps fun x hx => h x (List.mem_cons_of_mem _ hx)]
    rfl
section
variable {P : Program} {w : World} {K : PySem.W.Frag} {mg : Str → Option Value} {base : Heap} {f : Addr} {fd : FuncData}
/-! ### show_vertex, read_vertex -/
def F_show_vertex : Spc := fun _ rs P => ∃ v : Vx, rs = [.d v.d] ∧ VxOk v ∧ ∀ r, r = .d (.str (showVx v)) → P r
theorem ok_show_vertex (B : Bt mg) (T : Ct mg) (g_show_id : Ok P w K mg base 2 "show_id" ["name"] F_show_id) (D : Df K mg "show_vertex" s_show_vertex ["vertex"] f fd) : Ok P w K mg base 3 "show_vertex" ["vertex"] F_show_vertex := by
  refine D.ok (fok D.1 c_show_vertex (fun C rs R h => by obtain ⟨t, rfl, _⟩ := h; rfl) ?_)
  rintro X ⟨cdv, A, outer, s, H, E, rfl, hr⟩ C I0 H0 rs R D ⟨v, rfl, hv, hP⟩ hq
  have nd := c_show_vertex.nd
  have h1 := len_showIdn hv.1
  have l2 : v.pl ≤ 99999 := by have := hv.2.1; omega
  have l3 : v.ix ≤ 99999 := by have := hv.2.2; omega
  have h2 := nS_small l2
  have h3 := nS_small l3
  have l1 : ("." : Str).length = 1 := rfl
  exact bd_retD (de_addS (de_addS (de_addS (de_addS (de_fn g_show_id (hr.mono (by decide)) (da_cons (de_ixT (d := v.id.d) (de_var (i := 0) rfl (pv 0)) de_int rfl) da_nil) (fun C => ⟨v.id, rfl, hv.1, fun r e => e⟩)) de_str (sz (by omega))) (de_strI (n := (v.pl : Int)) (de_ixT (de_var (i := 0) rfl (pv 0)) de_int rfl) (log_sm l2) B.str) (sz (by rw [str_num, len_app]; omega))) de_str (sz (by rw [str_num, len_app, len_app]; omega))) (de_strI (n := (v.ix : Int)) (de_ixT (de_var (i := 0) rfl (pv 0)) de_int rfl) (log_sm l3) B.str) (sz (by rw [str_num, str_num, len_app, len_app, len_app]; omega))) (hP _ rfl) hq
def F_read_vertex : Spc := fun _ rs P => ∃ t : Str, rs = [.d (.str t)] ∧ t.length ≤ 800000 ∧ ∀ r, r = .d (optD Vx.d (readVx t)) → P r
theorem ok_read_vertex (B : Bt mg) (T : Ct mg) (g_read_id : Ok P w K mg base 4 "read_id" ["text"] F_read_id) (g_read_number : Ok P w K mg base 1 "read_number" ["text", "least", "most"] F_read_number) (D : Df K mg "read_vertex" s_read_vertex ["text"] f fd) : Ok P w K mg base 5 "read_vertex" ["text"] F_read_vertex := by
  refine D.ok (fok D.1 c_read_vertex (fun C rs R h => by obtain ⟨t, rfl, _⟩ := h; rfl) ?_)
  obtain ⟨tkCHANGES, hCHANGES⟩ := T.CHANGES
  obtain ⟨tkLINES, hLINES⟩ := T.LINES
  rintro X ⟨cdv, A, outer, s, H, E, rfl, hr⟩ C I0 H0 rs R D ⟨t, rfl, hz, hP⟩ hq
  have nd := c_read_vertex.nd
  have h2 : ∀ p ∈ Txt.split t ".", p.length ≤ t.length ∧ 46 ∉ tl p := fun p hp => ⟨split_len (s := 46) hp, split_free (s := 46) hp⟩
  have hj : Txt.join "." (Txt.split t ".") = t := join_split t 46
  refine bd_setD (i := 1) (de_frz (dn_split (de_var (i := 0) rfl (pv 0)) de_str rfl (sz (by omega)))) ?_
  unfold readVx at hP
  generalize Txt.split t "." = ps at hP h2 hj ⊢
  refine bd_whenD (dt_neI (de_lenL (de_var (i := 1) rfl (pv 1)) rfl B.len) de_int) (fun hb => ?_) (fun hb => ?_)
  ·
    refine bd_retD de_none (hP _ ?_) hq
    rw [List.length_map] at hb
    have hb := of_decide_eq_false (nt hb)
    match ps, hb with
    | [], _ => rfl
    | [_], _ => rfl
    | [_, _], _ => rfl
    | [_, _, _], _ => rfl
    | [_, _, _, _], _ => rfl
    | [_, _, _, _, _], h => exact absurd rfl h
    | _ :: _ :: _ :: _ :: _ :: _ :: _, _ => rfl
  · rw [List.length_map] at hb
    have hb := of_decide_eq_true (nf hb)
    obtain ⟨a, b, c, d, e, rfl⟩ : ∃ a b c d e, ps = [a, b, c, d, e] := by
      match ps, hb with
      | [a, b, c, d, e], _ => exact ⟨a, b, c, d, e, rfl⟩
      | [], h => exact absurd h (by decide)
      | [_], h => exact absurd h (by simp)
      | [_, _], h => exact absurd h (by simp)
      | [_, _, _], h => exact absurd h (by simp)
      | [_, _, _, _], h => exact absurd h (by simp)
      | _ :: _ :: _ :: _ :: _ :: _ :: _, h => simp at h; omega
    have la := h2 a (by simp)
    have lb := h2 b (by simp)
    have lc := h2 c (by simp)
    have ld := h2 d (by simp)
    have le := h2 e (by simp)
    have l3 : (Txt.join "." [a, b, c]).length ≤ t.length := by
      rw [← hj, join5, len_app, len_app, len_app, len_app]; omega
    have e3 : readIdn (Txt.join "." [a, b, c]) = idParts [a, b, c] := by
      unfold readIdn
      have : Txt.split (Txt.join "." [a, b, c]) "." = [a, b, c] := split_join' (s := 46) (by simp) (fun p hp => by
        simp only [List.mem_cons, List.not_mem_nil, or_false] at hp
        rcases hp with rfl | rfl | rfl
        · exact la.2
        · exact lb.2
        · exact lc.2)
      rw [this]
    rw [vxParts_5] at hP
    refine bd_setD (i := 2) (d := optD Idn.d (idParts [a, b, c])) (de_fn g_read_id (hr.mono (by decide)) (da_cons (de_join (ys := [a, b, c]) de_str (de_frz (dn_slL (de_var (i := 1) rfl (pv 1)) do_none (do_some de_int))) rfl (joinOk (k := 800000) (n := 3) _ (fun p hp => by
        simp only [List.mem_cons, List.not_mem_nil, or_false] at hp
        rcases hp with rfl | rfl | rfl <;> omega) (by simp) (by decide))) da_nil) (fun C => ⟨_, rfl, (by omega), fun r e => by rw [e, e3]⟩)) ?_
    refine bd_setD (i := 3) (d := optD inat (readNum d 0 11)) (de_fn g_read_number (hr.mono (by decide)) (da_cons (de_ixL (d := .str d) (de_var (i := 1) rfl (pv 1)) de_int (at3 (i := 3) rfl)) (da_cons de_int (da_cons (de_subI (de_gint hCHANGES) de_int) da_nil))) (fun C => ⟨d, 0, 11, rfl, (by omega), fun r e => e⟩)) ?_
    refine bd_setD (i := 4) (d := optD inat (readNum e 0 199)) (de_fn g_read_number (hr.mono (by decide)) (da_cons (de_ixL (d := .str e) (de_var (i := 1) rfl (pv 1)) de_int (at3 (i := 4) rfl)) (da_cons de_int (da_cons (de_subI (de_gint hLINES) de_int) da_nil))) (fun C => ⟨e, 0, 199, rfl, (by omega), fun r e => e⟩)) ?_
    refine bd_whenD (k := (idParts [a, b, c]).isNone || ((readNum d 0 11).isNone || (readNum e 0 199).isNone)) (DT.is (DW.t (dw_or (dt_isN (de_var (i := 2) rfl (pv 2))) fun _ => (dw_or (dt_isN (de_var (i := 3) rfl (pv 3))) fun _ => (dw_one (dt_isN (de_var (i := 4) rfl (pv 4))))))) (by
      rw [isNon_opt _ (fun _ => rfl), isNon_opt _ (fun _ => rfl), isNon_opt _ (fun _ => rfl)])) (fun hb => ?_) (fun hb => ?_)
    ·
      refine bd_retD de_none (hP _ ?_) hq
      cases h1 : idParts [a, b, c] with
      | none => rfl
      | some x =>
        cases h2 : readNum d 0 11 with
        | none => rfl
        | some y =>
          cases h3 : readNum e 0 199 with
          | none => rfl
          | some z =>
            rw [h1, h2, h3] at hb
            exact absurd hb (by simp)
    ·
      refine bd_retD (de_tup (ds := [_, _, _]) (da_cons (de_var (i := 2) rfl (pv 2)) (da_cons (de_var (i := 3) rfl (pv 3)) (da_cons (de_var (i := 4) rfl (pv 4)) da_nil)))) (hP _ ?_) hq
      cases h1 : idParts [a, b, c] with
      | none => rw [h1] at hb; exact absurd hb (by simp)
      | some x =>
        cases h2 : readNum d 0 11 with
        | none => rw [h1, h2] at hb; exact absurd hb (by simp)
        | some y =>
          cases h3 : readNum e 0 199 with
          | none => rw [h1, h2, h3] at hb; exact absurd hb (by simp)
          | some z => rfl

/-! ### show_vertices, read_vertices -/
def F_show_vertices : Spc := fun _ rs P => ∃ vs : List Vx, rs = [.d (.list (vs.map Vx.d))] ∧ vs.length ≤ 200 ∧ (∀ v ∈ vs, VxOk v) ∧ ∀ r, r = .d (.str (showVxs vs)) → P r
theorem ok_show_vertices (B : Bt mg) (T : Ct mg) (g_show_vertex : Ok P w K mg base 3 "show_vertex" ["vertex"] F_show_vertex) (D : Df K mg "show_vertices" s_show_vertices ["vertices"] f fd) : Ok P w K mg base 4 "show_vertices" ["vertices"] F_show_vertices := by
  refine D.ok (fok D.1 c_show_vertices (fun C rs R h => by obtain ⟨t, rfl, _⟩ := h; rfl) ?_)
  rintro X ⟨cdv, A, outer, s, H, E, rfl, hr⟩ C I0 H0 rs R D ⟨vs, rfl, hz, hv, hP⟩ hq
  have nd := c_show_vertices.nd
  refine bd_retD (de_ife (dt_eqI (de_lenL (de_var (i := 0) rfl (pv 0)) rfl B.len) de_int) (fun _ => de_str) (fun _ => (de_join (ys := vs.map showVx) de_str (de_frz (DLc.n (dlc0 (j := 1) (x := "vertex") Vx.d vs (fun v => .str (showVx v)) (di_list (de_var (i := 0) rfl (pv 0))) (sz (by omega)) (blkOk_by (N := n_show_vertices) (sc := defScope s_show_vertices) (by decide +kernel)) (fun _ _ _ _ _ => pg_name (i := 1) nd rfl (Or.inl rfl)) (fun y hy _ _ _ _ _ => (de_fn g_show_vertex (hr.mono (by decide)) (da_cons (de_var (i := 1) rfl (pv 1)) da_nil) (fun C => ⟨y, rfl, hv y hy, fun r e => e⟩)))))) (by rw [List.map_map]; rfl) (joinOk (k := 40) (n := 200) _ (fun p hp => by obtain ⟨v, hv', rfl⟩ := List.mem_map.mp hp; exact len_showVx (hv v hv')) (by rw [List.length_map]; exact hz) (by decide))))) (hP _ ?_) hq
  rw [List.length_map]
  unfold showVxs
  by_cases e : vs.length = 0
  · rw [if_pos (decide_eq_true (by omega)), if_pos e]
  · rw [if_neg (by rw [decide_eq_false (by omega)]; decide), if_neg e]
def F_read_vertices : Spc := fun _ rs P => ∃ (t : Str) (m : Nat), rs = [.d (.str t), .d (.int (m : Int))] ∧ t.length ≤ 700000 ∧ ∀ r, r = .d (optD (fun vs => .list (vs.map Vx.d)) (readVxs t m)) → P r
theorem ok_read_vertices (B : Bt mg) (T : Ct mg) (g_is_ascending : Ok P w K mg base 1 "is_ascending" ["items"] F_is_ascending) (g_read_vertex : Ok P w K mg base 5 "read_vertex" ["text"] F_read_vertex) (D : Df K mg "read_vertices" s_read_vertices ["text", "most"] f fd) : Ok P w K mg base 6 "read_vertices" ["text", "most"] F_read_vertices := by
  refine D.ok (fok D.1 c_read_vertices (fun C rs R h => by obtain ⟨t, m, rfl, _⟩ := h; rfl) ?_)
  rintro X ⟨cdv, A, outer, s, H, E, rfl, hr⟩ C I0 H0 rs R D ⟨t, m, rfl, hz, hP⟩ hq
  have nd := c_read_vertices.nd
  unfold readVxs at hP
  refine bd_whenD (dt_eqS (de_var (i := 0) rfl (pv 0)) de_str) (fun hb => ?_) (fun hb => ?_)
  ·
    refine bd_retD (de_frz (dn_lst (ds := []) da_nil)) (hP _ ?_) hq
    rw [if_pos (of_decide_eq_true hb)]
    rfl
  · rw [if_neg (of_decide_eq_false hb)] at hP
    have h1 : (Txt.split t ",").length ≤ t.length + 2 := split_many t 44
    have h2 : ∀ p ∈ Txt.split t ",", p.length ≤ t.length := fun p hp => split_len (s := 44) hp
    generalize hps : Txt.split t "," = ps at hP h1 h2
    refine bd_setLcD (i := 2) (dlc0 (j := 3) (x := "part") PyData.str ps (fun p => optD Vx.d (readVx p)) (DI_of hps (di_list (de_frz (dn_split (de_var (i := 0) rfl (pv 0)) de_str rfl (sz (by omega)))))) (sz (by omega)) (blkOk_by (N := n_read_vertices) (sc := defScope s_read_vertices) (by decide +kernel)) (fun _ _ _ _ _ => pg_name (i := 3) nd rfl (Or.inl rfl)) (fun y hy _ _ _ _ _ => (de_fn g_read_vertex (hr.mono (by decide)) (da_cons (de_var (i := 3) rfl (pv 3)) da_nil) (fun C => ⟨y, rfl, (by have := h2 y hy; omega), fun r e => e⟩)))) ?_
    have sh : SeqAt.shaped (.list (ps.map fun p => optD Vx.d (readVx p))) = true := by
      have := lay_list (ds := ps.map fun p => optD Vx.d (readVx p)) (n := 4) (fun d hd => by
        obtain ⟨p, _, rfl⟩ := List.mem_map.mp hd
        cases e : readVx p with
        | none => exact ⟨rfl, Nat.zero_le _⟩
        | some v =>
          have := lay_vx (v := v) (vx_ok e).1.2.1
          exact ⟨this.1, Nat.le_of_eq this.2⟩)
      exact shaped_of this.1 (Nat.le_trans this.2 (by decide))
    have any : ((ps.map fun p => optD Vx.d (readVx p)).any fun z => PyData.eqv z .none) = !(ps.all fun p => (readVx p).isSome) := by
      rw [List.any_map]
      have : ∀ l : List Str, (l.any ((fun z => PyData.eqv z .none) ∘ fun p => optD Vx.d (readVx p))) = !(l.all fun p => (readVx p).isSome) := by
        intro l
        induction l with
        | nil => rfl
        | cons p l ih =>
          rw [List.any_cons, List.all_cons, ih]
          show (PyData.eqv (optD Vx.d (readVx p)) .none || _) = _
          rw [eqv_non _ (fun _ => rfl)]
          cases readVx p <;> simp
      exact this ps
    refine bd_retD (de_ife (DW.t (dw_and (dt_leI (de_lenL (de_var (i := 2) rfl (pv 2)) rfl B.len) (de_var (i := 1) rfl (pv 1))) fun _ => (dw_and (j := adjAll ltV (ps.filterMap readVx)) (dt_niD (room65 hr) de_none (de_var (i := 2) rfl (pv 2)) (by decide) sh) fun hn => (dw_one (dt_val (DE.is (d := .bool (ascD (ps.map fun p => optD Vx.d (readVx p)))) (de_fn g_is_ascending (hr.mono (by decide)) (da_cons (de_var (i := 2) rfl (pv 2)) da_nil) (fun C => ⟨_, rfl, by rw [List.length_map]; omega, ?_, fun r e => e⟩)) ?_)))))) (fun _ => (de_var (i := 2) rfl (pv 2))) (fun _ => de_none)) (hP _ ?_) hq
    · rw [any, Bool.not_not, List.all_eq_true] at hn
      rw [opt_map readVx Vx.d ps hn]
      exact cmp_vx _
    · rw [any, Bool.not_not, List.all_eq_true] at hn
      rw [opt_map readVx Vx.d ps hn, asc_vx]
    · rw [any, Bool.not_not, List.length_map]
      by_cases c : ps.length ≤ m ∧ (ps.all fun p => (readVx p).isSome) = true ∧ adjAll ltV (ps.filterMap readVx) = true
      · rw [if_pos (by rw [decide_eq_true (show (ps.length : Int) ≤ m by have := c.1; omega), c.2.1, c.2.2]; rfl), if_pos c]
        rw [opt_map readVx Vx.d ps (List.all_eq_true.mp c.2.1)]
        rfl
      · rw [if_neg, if_neg c]
        · rfl
        · intro z
          simp only [Bool.and_eq_true, decide_eq_true_eq] at z
          exact c ⟨by have := z.1; omega, z.2.1, z.2.2⟩
end
end QL
namespace QL
open PySem PySem.Spec PyProof.Rows L2
/-! ### changes -/
inductive Cg0 where
  | add (p : List Str)
  | back (i : Idn)
  | drop (f : Vx) (o : List Vx)
  | move (f : Vx) (p : List Str) (o : List Vx)
  | cut (f : Vx) (v : List Vx)
  | order (f a b : Vx)
  | lines (f : Vx) (u d : List Vx) (n : Nat)
def pathD (p : List Str) : PyData := .tuple (p.map .str)
def vxsD (v : List Vx) : PyData := .list (v.map Vx.d)
/-- what stands in a change, behind its word -/
def Cg0.kind : Cg0 → Str
  | add _ => "add" | back _ => "back" | drop _ _ => "drop" | move _ _ _ => "move" | cut _ _ => "cut" | order _ _ _ => "order" | lines _ _ _ _ => "lines"
def Cg0.items : Cg0 → List PyData
  | add p => [pathD p]
  | back i => [i.d]
  | drop f o => [f.d, vxsD o]
  | move f p o => [f.d, pathD p, vxsD o]
  | cut f v => [f.d, vxsD v]
  | order f a b => [f.d, a.d, b.d]
  | lines f u d n => [f.d, vxsD u, vxsD d, inat n]
def Cg0.d (c : Cg0) : PyData := .tuple (.str c.kind :: c.items)
/-- what read_parts gives: the items, None for those that are none -/
def parts (ws : List Str) : Option (Str × List PyData) :=
  if ws.headD "" = "add" ∧ ws.length = 2 then some ("add", [optD pathD (readPath (ws.getD 1 ""))])
  else if ws.headD "" = "back" ∧ ws.length = 2 then some ("back", [optD Idn.d (readIdn (ws.getD 1 ""))])
  else if ws.headD "" = "drop" ∧ ws.length = 3 ∧ ws.getD 2 "" ≠ "-" then some ("drop", [optD Vx.d (readVx (ws.getD 1 "")), optD vxsD (readVxs (ws.getD 2 "") 12)])
  else if ws.headD "" = "move" ∧ ws.length = 4 ∧ ws.getD 3 "" ≠ "-" then some ("move", [optD Vx.d (readVx (ws.getD 1 "")), optD pathD (readPath (ws.getD 2 "")), optD vxsD (readVxs (ws.getD 3 "") 12)])
  else if ws.headD "" = "cut" ∧ ws.length = 3 ∧ ws.getD 2 "" ≠ "-" then some ("cut", [optD Vx.d (readVx (ws.getD 1 "")), optD vxsD (readVxs (ws.getD 2 "") 200)])
  else if ws.headD "" = "order" ∧ ws.length = 4 ∧ ws.getD 2 "" ≠ ws.getD 3 "" then some ("order", [optD Vx.d (readVx (ws.getD 1 "")), optD Vx.d (readVx (ws.getD 2 "")), optD Vx.d (readVx (ws.getD 3 ""))])
  else if ws.headD "" = "lines" ∧ ws.length = 5 then some ("lines", [optD Vx.d (readVx (ws.getD 1 "")), optD vxsD (readVxs (ws.getD 2 "") 12), optD vxsD (readVxs (ws.getD 3 "") 12), optD inat (readNum (ws.getD 4 "") 1 200)])
  else none
def partsD (ws : List Str) : PyData := optD (fun p : Str × List PyData => .tuple (.str p.1 :: p.2)) (parts ws)
/-- the change of a line's words -/
def parse (ws : List Str) : Option Cg0 :=
  if ws.headD "" = "add" ∧ ws.length = 2 then (readPath (ws.getD 1 "")).map .add
  else if ws.headD "" = "back" ∧ ws.length = 2 then (readIdn (ws.getD 1 "")).map .back
  else if ws.headD "" = "drop" ∧ ws.length = 3 ∧ ws.getD 2 "" ≠ "-" then
    match readVx (ws.getD 1 ""), readVxs (ws.getD 2 "") 12 with | some f, some o => some (.drop f o) | _, _ => none
  else if ws.headD "" = "move" ∧ ws.length = 4 ∧ ws.getD 3 "" ≠ "-" then
    match readVx (ws.getD 1 ""), readPath (ws.getD 2 ""), readVxs (ws.getD 3 "") 12 with | some f, some p, some o => some (.move f p o) | _, _, _ => none
  else if ws.headD "" = "cut" ∧ ws.length = 3 ∧ ws.getD 2 "" ≠ "-" then
    match readVx (ws.getD 1 ""), readVxs (ws.getD 2 "") 200 with | some f, some o => some (.cut f o) | _, _ => none
  else if ws.headD "" = "order" ∧ ws.length = 4 ∧ ws.getD 2 "" ≠ ws.getD 3 "" then
    match readVx (ws.getD 1 ""), readVx (ws.getD 2 ""), readVx (ws.getD 3 "") with | some f, some a, some b => some (.order f a b) | _, _, _ => none
  else if ws.headD "" = "lines" ∧ ws.length = 5 then
    match readVx (ws.getD 1 ""), readVxs (ws.getD 2 "") 12, readVxs (ws.getD 3 "") 12, readNum (ws.getD 4 "") 1 200 with | some f, some u, some d, some n => some (.lines f u d n) | _, _, _, _ => none
  else none
/-- some item is None -/
def anyNon (l : List PyData) : Bool := l.any fun z => PyData.eqv z .none
theorem parts_parse (ws : List Str) : (match parts ws with | none => parse ws = none | some (k, l) => (anyNon l = true ∧ parse ws = none) ∨ (anyNon l = false ∧ ∃ c, parse ws = some c ∧ c.kind = k ∧ c.items = l)) := by
  unfold parts parse
  by_cases h1 : ws.headD "" = "add" ∧ ws.length = 2
  · rw [if_pos h1, if_pos h1]
    cases readPath (ws.getD 1 "") with
    | none => exact .inl ⟨rfl, rfl⟩
    | some p => exact .inr ⟨rfl, _, rfl, rfl, rfl⟩
  rw [if_neg h1, if_neg h1]
  by_cases h2 : ws.headD "" = "back" ∧ ws.length = 2
  · rw [if_pos h2, if_pos h2]
    cases readIdn (ws.getD 1 "") with
    | none => exact .inl ⟨rfl, rfl⟩
    | some p => exact .inr ⟨rfl, _, rfl, rfl, rfl⟩
  rw [if_neg h2, if_neg h2]
  by_cases h3 : ws.headD "" = "drop" ∧ ws.length = 3 ∧ ws.getD 2 "" ≠ "-"
  · rw [if_pos h3, if_pos h3]
    cases readVx (ws.getD 1 "") with
    | none => exact .inl ⟨rfl, rfl⟩
    | some p =>
      cases readVxs (ws.getD 2 "") 12 with
      | none => exact .inl ⟨rfl, rfl⟩
      | some o => exact .inr ⟨rfl, _, rfl, rfl, rfl⟩
  rw [if_neg h3, if_neg h3]
  by_cases h4 : ws.headD "" = "move" ∧ ws.length = 4 ∧ ws.getD 3 "" ≠ "-"
  · rw [if_pos h4, if_pos h4]
    cases readVx (ws.getD 1 "") with
    | none => exact .inl ⟨rfl, rfl⟩
    | some p =>
      cases readPath (ws.getD 2 "") with
      | none => exact .inl ⟨rfl, rfl⟩
      | some q =>
        cases readVxs (ws.getD 3 "") 12 with
        | none => exact .inl ⟨rfl, rfl⟩
        | some o => exact .inr ⟨rfl, _, rfl, rfl, rfl⟩
  rw [if_neg h4, if_neg h4]
  by_cases h5 : ws.headD "" = "cut" ∧ ws.length = 3 ∧ ws.getD 2 "" ≠ "-"
  · rw [if_pos h5, if_pos h5]
    cases readVx (ws.getD 1 "") with
    | none => exact .inl ⟨rfl, rfl⟩
    | some p =>
      cases readVxs (ws.getD 2 "") 200 with
      | none => exact .inl ⟨rfl, rfl⟩
      | some o => exact .inr ⟨rfl, _, rfl, rfl, rfl⟩
  rw [if_neg h5, if_neg h5]
  by_cases h6 : ws.headD "" = "order" ∧ ws.length = 4 ∧ ws.getD 2 "" ≠ ws.getD 3 ""
  · rw [if_pos h6, if_pos h6]
    cases readVx (ws.getD 1 "") with
    | none => exact .inl ⟨rfl, rfl⟩
    | some p =>
      cases readVx (ws.getD 2 "") with
      | none => exact .inl ⟨rfl, rfl⟩
      | some q =>
        cases readVx (ws.getD 3 "") with
        | none => exact .inl ⟨rfl, rfl⟩
        | some o => exact .inr ⟨rfl, _, rfl, rfl, rfl⟩
  rw [if_neg h6, if_neg h6]
  by_cases h7 : ws.headD "" = "lines" ∧ ws.length = 5
  · rw [if_pos h7, if_pos h7]
    cases readVx (ws.getD 1 "") with
    | none => exact .inl ⟨rfl, rfl⟩
    | some p =>
      cases readVxs (ws.getD 2 "") 12 with
      | none => exact .inl ⟨rfl, rfl⟩
      | some q =>
        cases readVxs (ws.getD 3 "") 12 with
        | none => exact .inl ⟨rfl, rfl⟩
        | some o =>
          cases readNum (ws.getD 4 "") 1 200 with
          | none => exact .inl ⟨rfl, rfl⟩
          | some n => exact .inr ⟨rfl, _, rfl, rfl, rfl⟩
  rw [if_neg h7, if_neg h7]
theorem atW {ws : List Str} (i : Nat) (h : i < ws.length) : atI (ws.map PyData.str) (i : Int) = some (.str (ws.getD i "")) := by
  refine atI_nat ?_
  rw [List.getElem?_map, List.getElem?_eq_getElem h, List.getD_eq_getElem?_getD, List.getElem?_eq_getElem h]
  rfl
theorem getW {ws : List Str} {n : Nat} (h : ∀ x ∈ ws, x.length ≤ n) (i : Nat) : (ws.getD i "").length ≤ n := by
  rw [List.getD_eq_getElem?_getD]
  cases e : ws[i]? with
  | none => exact Nat.zero_le _
  | some x => exact h x (List.mem_of_getElem? e)
theorem headW (ws : List Str) : ws.headD "" = ws.getD 0 "" := by cases ws <;> rfl
theorem b2 {p q : Prop} [Decidable p] [Decidable q] {b : Bool} (h : (decide p && decide q) = b) : (b = true → p ∧ q) ∧ (b = false → ¬ (p ∧ q)) := by
  by_cases hp : p <;> by_cases hq : q <;> simp_all
theorem b3 {p q r : Prop} [Decidable p] [Decidable q] [Decidable r] {b : Bool} (h : (decide p && (decide q && !decide r)) = b) : (b = true → p ∧ q ∧ ¬ r) ∧ (b = false → ¬ (p ∧ q ∧ ¬ r)) := by
  by_cases hp : p <;> by_cases hq : q <;> by_cases hr : r <;> simp_all
theorem lenI {α : Type} (f : α → PyData) (ws : List α) (n : Nat) : decide (((ws.map f).length : Int) = (n : Int)) = decide (ws.length = n) := by
  rw [List.length_map, nat_eq]
section
variable {P : Program} {w : World} {K : PySem.W.Frag} {mg : Str → Option Value} {base : Heap} {f : Addr} {fd : FuncData}
/-! ### read_parts -/
def F_read_parts : Spc := fun _ rs P => ∃ ws : List Str, rs = [.d (.list (ws.map .str))] ∧ 0 < ws.length ∧ (∀ x ∈ ws, x.length ≤ 600000) ∧ ∀ r, r = .d (partsD ws) → P r
theorem ok_read_parts (B : Bt mg) (T : Ct mg) (g_read_id : Ok P w K mg base 4 "read_id" ["text"] F_read_id) (g_read_number : Ok P w K mg base 1 "read_number" ["text", "least", "most"] F_read_number) (g_read_path : Ok P w K mg base 3 "read_path" ["text"] F_read_path) (g_read_vertex : Ok P w K mg base 5 "read_vertex" ["text"] F_read_vertex) (g_read_vertices : Ok P w K mg base 6 "read_vertices" ["text", "most"] F_read_vertices) (D : Df K mg "read_parts" s_read_parts ["words"] f fd) : Ok P w K mg base 7 "read_parts" ["words"] F_read_parts := by
  refine D.ok (fok D.1 c_read_parts (fun C rs R h => by obtain ⟨t, rfl, _⟩ := h; rfl) ?_)
  obtain ⟨tkBOUNDS, hBOUNDS⟩ := T.BOUNDS
  obtain ⟨tkLINES, hLINES⟩ := T.LINES
  rintro X ⟨cdv, A, outer, s, H, E, rfl, hr⟩ C I0 H0 rs R D ⟨ws, rfl, h0, hw, hP⟩ hq
  have nd := c_read_parts.nd
  have gw := getW hw
  unfold partsD parts at hP
  rw [headW] at hP
  refine bd_setD (i := 1) (de_ixL (de_var (i := 0) rfl (pv 0)) de_int (atW 0 h0)) ?_
  refine bd_whenD (DW.t (dw_and (dt_eqS (de_var (i := 1) rfl (pv 1)) de_str) fun _ => (dw_one (DT.is (dt_eqI (de_lenL (de_var (i := 0) rfl (pv 0)) rfl B.len) de_int) (lenI _ ws 2))))) (fun hb => ?_) (fun hb => ?_)
  · have c := (b2 hb).1 rfl
    rw [if_pos c] at hP
    refine bd_retD (de_tup (ds := [_, _]) (da_cons (de_var (i := 1) rfl (pv 1)) (da_cons (de_fn g_read_path (hr.mono (by decide)) (da_cons (de_ixL (de_var (i := 0) rfl (pv 0)) de_int (atW 1 (by omega))) da_nil) (fun C => ⟨_, rfl, (by have := gw 1; omega), fun r e => e⟩)) da_nil))) (hP _ ?_) hq
    rw [c.1]; rfl
  have c1 := (b2 hb).2 rfl
  rw [if_neg c1] at hP
  refine bd_whenD (DW.t (dw_and (dt_eqS (de_var (i := 1) rfl (pv 1)) de_str) fun _ => (dw_one (DT.is (dt_eqI (de_lenL (de_var (i := 0) rfl (pv 0)) rfl B.len) de_int) (lenI _ ws 2))))) (fun hb => ?_) (fun hb => ?_)
  · have c := (b2 hb).1 rfl
    rw [if_pos c] at hP
    refine bd_retD (de_tup (ds := [_, _]) (da_cons (de_var (i := 1) rfl (pv 1)) (da_cons (de_fn g_read_id (hr.mono (by decide)) (da_cons (de_ixL (de_var (i := 0) rfl (pv 0)) de_int (atW 1 (by omega))) da_nil) (fun C => ⟨_, rfl, (by have := gw 1; omega), fun r e => e⟩)) da_nil))) (hP _ ?_) hq
    rw [c.1]; rfl
  have c2 := (b2 hb).2 rfl
  rw [if_neg c2] at hP
  refine bd_whenD (DW.t (dw_and (dt_eqS (de_var (i := 1) rfl (pv 1)) de_str) fun _ => (dw_and (DT.is (dt_eqI (de_lenL (de_var (i := 0) rfl (pv 0)) rfl B.len) de_int) (lenI _ ws 3)) fun hl => (dw_one (dt_neS (de_ixL (de_var (i := 0) rfl (pv 0)) de_int (atW 2 (by have := of_decide_eq_true hl; omega))) de_str))))) (fun hb => ?_) (fun hb => ?_)
  · have c := (b3 hb).1 rfl
    rw [if_pos c] at hP
    refine bd_retD (de_tup (ds := [_, _, _]) (da_cons (de_var (i := 1) rfl (pv 1)) (da_cons (de_fn g_read_vertex (hr.mono (by decide)) (da_cons (de_ixL (de_var (i := 0) rfl (pv 0)) de_int (atW 1 (by omega))) da_nil) (fun C => ⟨_, rfl, (by have := gw 1; omega), fun r e => e⟩)) (da_cons (de_fn g_read_vertices (hr.mono (by decide)) (da_cons (de_ixL (de_var (i := 0) rfl (pv 0)) de_int (atW 2 (by omega))) (da_cons (de_gint hBOUNDS) da_nil)) (fun C => ⟨_, 12, rfl, (by have := gw 2; omega), fun r e => e⟩)) da_nil)))) (hP _ ?_) hq
    rw [c.1]; rfl
  have c3 := (b3 hb).2 rfl
  rw [if_neg c3] at hP
  refine bd_whenD (DW.t (dw_and (dt_eqS (de_var (i := 1) rfl (pv 1)) de_str) fun _ => (dw_and (DT.is (dt_eqI (de_lenL (de_var (i := 0) rfl (pv 0)) rfl B.len) de_int) (lenI _ ws 4)) fun hl => (dw_one (dt_neS (de_ixL (de_var (i := 0) rfl (pv 0)) de_int (atW 3 (by have := of_decide_eq_true hl; omega))) de_str))))) (fun hb => ?_) (fun hb => ?_)
  · have c := (b3 hb).1 rfl
    rw [if_pos c] at hP
    refine bd_retD (de_tup (ds := [_, _, _, _]) (da_cons (de_var (i := 1) rfl (pv 1)) (da_cons (de_fn g_read_vertex (hr.mono (by decide)) (da_cons (de_ixL (de_var (i := 0) rfl (pv 0)) de_int (atW 1 (by omega))) da_nil) (fun C => ⟨_, rfl, (by have := gw 1; omega), fun r e => e⟩)) (da_cons (de_fn g_read_path (hr.mono (by decide)) (da_cons (de_ixL (de_var (i := 0) rfl (pv 0)) de_int (atW 2 (by omega))) da_nil) (fun C => ⟨_, rfl, (by have := gw 2; omega), fun r e => e⟩)) (da_cons (de_fn g_read_vertices (hr.mono (by decide)) (da_cons (de_ixL (de_var (i := 0) rfl (pv 0)) de_int (atW 3 (by omega))) (da_cons (de_gint hBOUNDS) da_nil)) (fun C => ⟨_, 12, rfl, (by have := gw 3; omega), fun r e => e⟩)) da_nil))))) (hP _ ?_) hq
    rw [c.1]; rfl
  have c4 := (b3 hb).2 rfl
  rw [if_neg c4] at hP
  refine bd_whenD (DW.t (dw_and (dt_eqS (de_var (i := 1) rfl (pv 1)) de_str) fun _ => (dw_and (DT.is (dt_eqI (de_lenL (de_var (i := 0) rfl (pv 0)) rfl B.len) de_int) (lenI _ ws 3)) fun hl => (dw_one (dt_neS (de_ixL (de_var (i := 0) rfl (pv 0)) de_int (atW 2 (by have := of_decide_eq_true hl; omega))) de_str))))) (fun hb => ?_) (fun hb => ?_)
  · have c := (b3 hb).1 rfl
    rw [if_pos c] at hP
    refine bd_retD (de_tup (ds := [_, _, _]) (da_cons (de_var (i := 1) rfl (pv 1)) (da_cons (de_fn g_read_vertex (hr.mono (by decide)) (da_cons (de_ixL (de_var (i := 0) rfl (pv 0)) de_int (atW 1 (by omega))) da_nil) (fun C => ⟨_, rfl, (by have := gw 1; omega), fun r e => e⟩)) (da_cons (de_fn g_read_vertices (hr.mono (by decide)) (da_cons (de_ixL (de_var (i := 0) rfl (pv 0)) de_int (atW 2 (by omega))) (da_cons (de_gint hLINES) da_nil)) (fun C => ⟨_, 200, rfl, (by have := gw 2; omega), fun r e => e⟩)) da_nil)))) (hP _ ?_) hq
    rw [c.1]; rfl
  have c5 := (b3 hb).2 rfl
  rw [if_neg c5] at hP
  refine bd_whenD (DW.t (dw_and (dt_eqS (de_var (i := 1) rfl (pv 1)) de_str) fun _ => (dw_and (DT.is (dt_eqI (de_lenL (de_var (i := 0) rfl (pv 0)) rfl B.len) de_int) (lenI _ ws 4)) fun hl => (dw_one (dt_neS (de_ixL (de_var (i := 0) rfl (pv 0)) de_int (atW 2 (by have := of_decide_eq_true hl; omega))) (de_ixL (de_var (i := 0) rfl (pv 0)) de_int (atW 3 (by have := of_decide_eq_true hl; omega)))))))) (fun hb => ?_) (fun hb => ?_)
  · have c := (b3 hb).1 rfl
    rw [if_pos c] at hP
    refine bd_retD (de_tup (ds := [_, _, _, _]) (da_cons (de_var (i := 1) rfl (pv 1)) (da_cons (de_fn g_read_vertex (hr.mono (by decide)) (da_cons (de_ixL (de_var (i := 0) rfl (pv 0)) de_int (atW 1 (by omega))) da_nil) (fun C => ⟨_, rfl, (by have := gw 1; omega), fun r e => e⟩)) (da_cons (de_fn g_read_vertex (hr.mono (by decide)) (da_cons (de_ixL (de_var (i := 0) rfl (pv 0)) de_int (atW 2 (by omega))) da_nil) (fun C => ⟨_, rfl, (by have := gw 2; omega), fun r e => e⟩)) (da_cons (de_fn g_read_vertex (hr.mono (by decide)) (da_cons (de_ixL (de_var (i := 0) rfl (pv 0)) de_int (atW 3 (by omega))) da_nil) (fun C => ⟨_, rfl, (by have := gw 3; omega), fun r e => e⟩)) da_nil))))) (hP _ ?_) hq
    rw [c.1]; rfl
  have c6 := (b3 hb).2 rfl
  rw [if_neg c6] at hP
  refine bd_whenD (DW.t (dw_and (dt_eqS (de_var (i := 1) rfl (pv 1)) de_str) fun _ => (dw_one (DT.is (dt_eqI (de_lenL (de_var (i := 0) rfl (pv 0)) rfl B.len) de_int) (lenI _ ws 5))))) (fun hb => ?_) (fun hb => ?_)
  · have c := (b2 hb).1 rfl
    rw [if_pos c] at hP
    refine bd_setD (i := 2) (de_frz (dn_lst (ds := [_, _]) (da_cons (de_fn g_read_vertices (hr.mono (by decide)) (da_cons (de_ixL (de_var (i := 0) rfl (pv 0)) de_int (atW 2 (by omega))) (da_cons (de_gint hBOUNDS) da_nil)) (fun C => ⟨_, 12, rfl, (by have := gw 2; omega), fun r e => e⟩)) (da_cons (de_fn g_read_vertices (hr.mono (by decide)) (da_cons (de_ixL (de_var (i := 0) rfl (pv 0)) de_int (atW 3 (by omega))) (da_cons (de_gint hBOUNDS) da_nil)) (fun C => ⟨_, 12, rfl, (by have := gw 3; omega), fun r e => e⟩)) da_nil)))) ?_
    refine bd_retD (de_tup (ds := [_, _, _, _, _]) (da_cons (de_var (i := 1) rfl (pv 1)) (da_cons (de_fn g_read_vertex (hr.mono (by decide)) (da_cons (de_ixL (de_var (i := 0) rfl (pv 0)) de_int (atW 1 (by omega))) da_nil) (fun C => ⟨_, rfl, (by have := gw 1; omega), fun r e => e⟩)) (da_cons (de_ixL (de_var (i := 2) rfl (pv 2)) de_int (at3 (i := 0) rfl)) (da_cons (de_ixL (de_var (i := 2) rfl (pv 2)) de_int (at3 (i := 1) rfl)) (da_cons (de_fn g_read_number (hr.mono (by decide)) (da_cons (de_ixL (de_var (i := 0) rfl (pv 0)) de_int (atW 4 (by omega))) (da_cons de_int (da_cons (de_gint hLINES) da_nil))) (fun C => ⟨_, _, _, rfl, (by have := gw 4; omega), fun r e => e⟩)) da_nil)))))) (hP _ ?_) hq
    rw [c.1]; rfl
  have c7 := (b2 hb).2 rfl
  rw [if_neg c7] at hP
  exact bd_retD de_none (hP _ rfl) hq
end
end QL
namespace QL
open PySem PySem.Spec PyProof.Rows L2
/-! ### changes and patches as texts -/
structure Cg where
  c : Cg0
  ts : List Str
def Cg.d (c : Cg) : PyData := match c.c with
  | .lines f u d _ => .tuple [.str "lines", f.d, vxsD u, vxsD d, .list (c.ts.map .str)]
  | c0 => c0.d
def VxsOk (m : Nat) (vs : List Vx) : Prop := vs.length ≤ m ∧ ∀ v ∈ vs, VxOk v
def Cg0Ok : Cg0 → Prop
  | .add p => isPath p = true
  | .back i => IdOk i
  | .drop f o => VxOk f ∧ VxsOk 200 o
  | .move f p o => VxOk f ∧ isPath p = true ∧ VxsOk 200 o
  | .cut f o => VxOk f ∧ VxsOk 200 o
  | .order f a b => VxOk f ∧ VxOk a ∧ VxOk b
  | .lines f u d n => VxOk f ∧ VxsOk 200 u ∧ VxsOk 200 d ∧ n ≤ 200
def Cg0.cnt : Cg0 → Nat
  | .lines _ _ _ n => n
  | _ => 0
def CgOk (c : Cg) : Prop := Cg0Ok c.c ∧ c.ts.length = c.c.cnt ∧ ∀ t ∈ c.ts, t.length ≤ 40
def lineOf : Cg0 → Str
  | .add p => "add " ++ showPath p
  | .back i => "back " ++ showIdn i
  | .drop f o => (("drop" ++ " ") ++ showVx f) ++ " " ++ showVxs o
  | .move f p o => (((("move" ++ " ") ++ showVx f) ++ " ") ++ showPath p) ++ " " ++ showVxs o
  | .cut f o => (("cut" ++ " ") ++ showVx f) ++ " " ++ showVxs o
  | .order f a b => (((("order" ++ " ") ++ showVx f) ++ " ") ++ showVx a) ++ " " ++ showVx b
  | .lines f u d n => ((((("lines" ++ " ") ++ showVx f) ++ " " ++ showVxs u) ++ " ") ++ showVxs d) ++ " " ++ nS n
def showCg (c : Cg) : List Str := lineOf c.c :: c.ts.map fun t => "|" ++ t
structure Pt where
  id : Idn
  cs : List Cg
  note : Str
def Pt.d (p : Pt) : PyData := .tuple [.str "patch", p.id.d, .list (p.cs.map Cg.d), .str p.note]
def PtOk (p : Pt) : Prop := IdOk p.id ∧ p.cs.length ≤ 12 ∧ (∀ c ∈ p.cs, CgOk c) ∧ p.note.length ≤ 40
def showPt (p : Pt) : List Str := ("patch " ++ showIdn p.id) :: ("note " ++ p.note) :: (p.cs.flatMap showCg ++ [("end" : Str)])

/-! ### what is read, is shown as it stood -/
theorem len_join (s : Str) (ps : List Str) : (Txt.join s ps).length ≤ (ps.map (·.length)).sum + ps.length * s.length := by
  have key : ∀ (S : List Nat) (qs : List (List Nat)), (TL.joinL S qs).length ≤ (qs.map (·.length)).sum + qs.length * S.length := by
    intro S qs
    induction qs with
    | nil => exact Nat.zero_le _
    | cons q qs ih =>
      cases qs with
      | nil => simp [TL.joinL]
      | cons r rs =>
        show (q ++ (S ++ TL.joinL S (r :: rs))).length ≤ _
        rw [List.length_append, List.length_append, List.map_cons, List.sum_cons, List.length_cons, Nat.succ_mul]
        omega
  have := key (tl s) (ps.map tl)
  rw [← len_tl', TL.join_eq]
  refine Nat.le_trans (Nat.le_of_eq (congrArg List.length (TL.tl_join s ps))) (Nat.le_trans this (Nat.le_of_eq ?_))
  rw [List.map_map, List.length_map, len_tl']
  have e : ps.map (List.length ∘ tl) = ps.map (·.length) := List.map_congr_left fun p _ => len_tl' p
  rw [e]
theorem len_showVxs {vs : List Vx} (h : VxsOk 200 vs) : (showVxs vs).length ≤ 8300 := by
  unfold showVxs
  split
  · decide
  · have h1 := len_join "," (vs.map showVx)
    have h2 : ((vs.map showVx).map (·.length)).sum ≤ (vs.map showVx).length * 40 := sum_le fun p hp => by
      obtain ⟨v, hv, rfl⟩ := List.mem_map.mp hp
      exact len_showVx (h.2 v hv)
    rw [List.length_map] at h1 h2
    have h3 := h.1
    have h4 : ((",") : Str).length = 1 := rfl
    rw [h4] at h1
    omega
theorem len_showPath {p : List Str} (h : isPath p = true) : (showPath p).length ≤ 40 := by
  have h1 := len_join "/" p
  have ⟨h3, h5⟩ := path_sz h
  have h2 : (p.map (·.length)).sum ≤ p.length * 8 := sum_le h5
  have h4 : (("/") : Str).length = 1 := rfl
  rw [h4] at h1
  unfold showPath
  omega
theorem w2 {ws : List Str} (h : ws.length = 2) : ws = [ws.getD 0 "", ws.getD 1 ""] := by
  match ws, h with
  | [_, _], _ => rfl
theorem w3 {ws : List Str} (h : ws.length = 3) : ws = [ws.getD 0 "", ws.getD 1 "", ws.getD 2 ""] := by
  match ws, h with
  | [_, _, _], _ => rfl
theorem w4 {ws : List Str} (h : ws.length = 4) : ws = [ws.getD 0 "", ws.getD 1 "", ws.getD 2 "", ws.getD 3 ""] := by
  match ws, h with
  | [_, _, _, _], _ => rfl
theorem w5 {ws : List Str} (h : ws.length = 5) : ws = [ws.getD 0 "", ws.getD 1 "", ws.getD 2 "", ws.getD 3 "", ws.getD 4 ""] := by
  match ws, h with
  | [_, _, _, _, _], _ => rfl
theorem tl_joinn (s : Str) (ps : List Str) : tl (Txt.join s ps) = TL.joinL (tl s) (ps.map tl) := by rw [TL.join_eq]; exact TL.tl_join s ps
theorem readPath_ok {t : Str} {p : List Str} (h : readPath t = some p) : isPath p = true := by
  unfold readPath at h
  split at h
  · cases h; assumption
  · cases h
theorem vxs_ok {t : Str} {m : Nat} {vs : List Vx} (h : readVxs t m = some vs) (hm : m ≤ 200 := by decide) : VxsOk 200 vs := ⟨Nat.le_trans (readVxs_some h).2.1 hm, (readVxs_some h).2.2⟩
theorem readVx_ok {t : Str} {v : Vx} (h : readVx t = some v) : VxOk v := vx_ok h
/-- a parsed line -/
theorem parse_line {ws : List Str} {c : Cg0} (h : parse ws = some c) : lineOf c = Txt.join " " ws ∧ Cg0Ok c ∧ c.cnt ≤ 200 ∧ (1 ≤ c.cnt ↔ c.kind = "lines") ∧ c.kind = ws.getD 0 "" ∧ (c.kind = "lines" → readNum (ws.getD 4 "") 1 200 = some c.cnt) := by
  unfold parse at h
  rw [headW] at h
  split at h
  · rename_i k
    cases e1 : readPath (ws.getD 1 "") with
    | none => rw [e1] at h; cases h
    | some p =>
      rw [e1] at h; cases h
      refine ⟨?_, readPath_ok e1, Nat.zero_le _, (by show (1 ≤ 0 ↔ ("add" : Str) = "lines"); decide), k.1.symm, fun z => absurd z (by show ¬ (("add" : Str) = "lines"); decide)⟩
      rw [w2 k.2, k.1]
      exact ext_s (by rw [tl_joinn]; simp only [lineOf, show_path e1, tl_app]; rfl)
  rename_i k1
  split at h
  · rename_i k
    cases e1 : readIdn (ws.getD 1 "") with
    | none => rw [e1] at h; cases h
    | some p =>
      rw [e1] at h; cases h
      refine ⟨?_, id_ok e1, Nat.zero_le _, (by show (1 ≤ 0 ↔ ("back" : Str) = "lines"); decide), k.1.symm, fun z => absurd z (by show ¬ (("back" : Str) = "lines"); decide)⟩
      rw [w2 k.2, k.1]
      exact ext_s (by rw [tl_joinn]; simp only [lineOf, show_idn e1, tl_app]; rfl)
  split at h
  · rename_i k
    cases e1 : readVx (ws.getD 1 "") with
    | none => rw [e1] at h; cases h
    | some f =>
      cases e2 : readVxs (ws.getD 2 "") 12 with
      | none => rw [e1, e2] at h; cases h
      | some o =>
        rw [e1, e2] at h; cases h
        refine ⟨?_, ⟨readVx_ok e1, vxs_ok e2⟩, Nat.zero_le _, (by show (1 ≤ 0 ↔ ("drop" : Str) = "lines"); decide), k.1.symm, fun z => absurd z (by show ¬ (("drop" : Str) = "lines"); decide)⟩
        rw [w3 k.2.1, k.1]
        exact ext_s (by rw [tl_joinn]; simp only [lineOf, show_vx e1, (readVxs_some e2).1, tl_app, List.append_assoc]; rfl)
  split at h
  · rename_i k
    cases e1 : readVx (ws.getD 1 "") with
    | none => rw [e1] at h; cases h
    | some f =>
      cases e2 : readPath (ws.getD 2 "") with
      | none => rw [e1, e2] at h; cases h
      | some p =>
        cases e3 : readVxs (ws.getD 3 "") 12 with
        | none => rw [e1, e2, e3] at h; cases h
        | some o =>
          rw [e1, e2, e3] at h; cases h
          refine ⟨?_, ⟨readVx_ok e1, readPath_ok e2, vxs_ok e3⟩, Nat.zero_le _, (by show (1 ≤ 0 ↔ ("move" : Str) = "lines"); decide), k.1.symm, fun z => absurd z (by show ¬ (("move" : Str) = "lines"); decide)⟩
          rw [w4 k.2.1, k.1]
          exact ext_s (by rw [tl_joinn]; simp only [lineOf, show_vx e1, show_path e2, (readVxs_some e3).1, tl_app, List.append_assoc]; rfl)
  split at h
  · rename_i k
    cases e1 : readVx (ws.getD 1 "") with
    | none => rw [e1] at h; cases h
    | some f =>
      cases e2 : readVxs (ws.getD 2 "") 200 with
      | none => rw [e1, e2] at h; cases h
      | some o =>
        rw [e1, e2] at h; cases h
        refine ⟨?_, ⟨readVx_ok e1, vxs_ok e2⟩, Nat.zero_le _, (by show (1 ≤ 0 ↔ ("cut" : Str) = "lines"); decide), k.1.symm, fun z => absurd z (by show ¬ (("cut" : Str) = "lines"); decide)⟩
        rw [w3 k.2.1, k.1]
        exact ext_s (by rw [tl_joinn]; simp only [lineOf, show_vx e1, (readVxs_some e2).1, tl_app, List.append_assoc]; rfl)
  split at h
  · rename_i k
    cases e1 : readVx (ws.getD 1 "") with
    | none => rw [e1] at h; cases h
    | some f =>
      cases e2 : readVx (ws.getD 2 "") with
      | none => rw [e1, e2] at h; cases h
      | some p =>
        cases e3 : readVx (ws.getD 3 "") with
        | none => rw [e1, e2, e3] at h; cases h
        | some o =>
          rw [e1, e2, e3] at h; cases h
          refine ⟨?_, ⟨readVx_ok e1, readVx_ok e2, readVx_ok e3⟩, Nat.zero_le _, (by show (1 ≤ 0 ↔ ("order" : Str) = "lines"); decide), k.1.symm, fun z => absurd z (by show ¬ (("order" : Str) = "lines"); decide)⟩
          rw [w4 k.2.1, k.1]
          exact ext_s (by rw [tl_joinn]; simp only [lineOf, show_vx e1, show_vx e2, show_vx e3, tl_app, List.append_assoc]; rfl)
  split at h
  · rename_i k
    cases e1 : readVx (ws.getD 1 "") with
    | none => rw [e1] at h; cases h
    | some f =>
      cases e2 : readVxs (ws.getD 2 "") 12 with
      | none => rw [e1, e2] at h; cases h
      | some p =>
        cases e3 : readVxs (ws.getD 3 "") 12 with
        | none => rw [e1, e2, e3] at h; cases h
        | some o =>
          cases e4 : readNum (ws.getD 4 "") 1 200 with
          | none => rw [e1, e2, e3, e4] at h; cases h
          | some n =>
            rw [e1, e2, e3, e4] at h; cases h
            have b := readNum_some e4
            refine ⟨?_, ⟨readVx_ok e1, vxs_ok e2, vxs_ok e3, by have := b.2.2.2; omega⟩, (by have := b.2.2.2; show n ≤ 200; omega), ⟨fun _ => rfl, fun _ => (by have := b.2.2.1; show 1 ≤ n; omega)⟩, k.1.symm, fun _ => rfl⟩
            rw [w5 k.2, k.1]
            exact ext_s (by rw [tl_joinn]; simp only [lineOf, show_vx e1, (readVxs_some e2).1, (readVxs_some e3).1, show_num e4, tl_app, List.append_assoc]; rfl)
  cases h
theorem len_lineOf {c : Cg0} (h : Cg0Ok c) : (lineOf c).length ≤ 20000 := by
  cases c with
  | add p => have := len_showPath h; simp only [lineOf, len_app]; show 4 + _ ≤ _; omega
  | back p => have := len_showIdn h; simp only [lineOf, len_app]; show 5 + _ ≤ _; omega
  | drop f o => have h1 := len_showVx h.1; have h2 := len_showVxs h.2; simp only [lineOf, len_app]; show 4 + 1 + _ + 1 + _ ≤ _; omega
  | move f p o => have h1 := len_showVx h.1; have h3 := len_showPath h.2.1; have h2 := len_showVxs h.2.2; simp only [lineOf, len_app]; show 4 + 1 + _ + 1 + _ + 1 + _ ≤ _; omega
  | cut f o => have h1 := len_showVx h.1; have h2 := len_showVxs h.2; simp only [lineOf, len_app]; show 3 + 1 + _ + 1 + _ ≤ _; omega
  | order f a b => have h1 := len_showVx h.1; have h2 := len_showVx h.2.1; have h3 := len_showVx h.2.2; simp only [lineOf, len_app]; show 5 + 1 + _ + 1 + _ + 1 + _ ≤ _; omega
  | lines f u d n => have h1 := len_showVx h.1; have h2 := len_showVxs h.2.1; have h3 := len_showVxs h.2.2.1; have h4 := nS_small (n := n) (by have := h.2.2.2; omega); simp only [lineOf, len_app]; show 5 + 1 + _ + 1 + _ + 1 + _ + 1 + _ ≤ _; omega
section
variable {X : Cx} {C : Cs} {I0 H0 : Hp} {G : List Sl} {L : Lo} {D : Ends} {rest a b body : List Stmt} {e c tg iter : Expr} {pos : Pos} {P Pe : Sl → Prop}
theorem bd_skip {k : Bool} (hc : DT X c G k) (hk : k = false) (h2 : Bd X C I0 H0 rest G L D) : Bd X C I0 H0 (.If c a [] pos :: rest) G L D := bd_whenD hc (fun z => by rw [hk] at z; cases z) fun _ => h2
theorem bd_take {k : Bool} (hc : DT X c G k) (hk : k = true) (h1 : Bd X C I0 H0 a G L { D with nx := wpS X rest D }) : Bd X C I0 H0 (.If c a [] pos :: rest) G L D := bd_whenD hc (fun _ => h1) fun z => by rw [hk] at z; cases z
/-- p.extend(e), e a list that does not change -/
theorem bd_extD {p : Addr} {ds : List PyData} {i : Nat} {o : Expr} {Pd : List PyData → Prop} {apos cpos : Pos} (ho : PE X o (tVar i)) (hG : G[i]? = some (.v (.ref p))) (h : Ev X C e G (fun r => ∃ ys, Pd ys ∧ r = .d (.list ys))) (hz : ∀ ys, Pd ys → ds.length + ys.length ≤ sizeLine) (k : ∀ ys, Pd ys → Bd X C I0 H0 rest G (some (p, ds ++ ys)) D)
    (hs0 : starEach (e :: []) X.env = (false, eval e X.env) :: starEach [] X.env := by rfl) (hbase : attributeBase o "extend" X.env (eval o X.env) = eval o X.env := by rfl)
    (hfew : ((backTo cpos (starEach (e :: []) X.env)).all (fun x => !x.1) && (backToKw cpos (keywordEach [] X.env)).all (fun x => x.1.isSome)
      && decide ((e :: []).length + ([] : List Keyword).length + (if ([] : List Keyword).isEmpty then 0 else 1) < 30)) = true := by rfl)
    (hline : (apos.endLine == cpos.line) = true := by rfl) (hplain : (backTo cpos (starEach [] X.env)).any (·.1) = false := by rfl) (hsw : swapsWith (.Call (.Attribute o "extend" apos) [e] [] cpos) none pos.line X.env = pure false := by rfl) :
    Bd X C I0 H0 (.Expr (.Call (.Attribute o "extend" apos) [e] [] cpos) pos :: rest) G (some (p, ds)) D := fun σ H ⟨I, h1, h2, h3, n0, nI, nd, xs, hl, hd⟩ => by
  obtain ⟨v, g1, g2⟩ := h1.get hG (fun z => by cases z)
  have g2' : v = .ref p := g2
  subst g2'
  refine of_pss (pss_cons (ps_expr (pe_bm PySem.F.plainAttrs_list PySem.F.slot_list_extend PySem.F.type_list_extend mt_extend ho (pa_cons pe_wp pa_nil hs0) hbase hfew hline hs0 hplain) hsw) (pss_wp (st := rest))) ⟨_, g1, .inl ⟨rfl, _, .inl (.inl hl)⟩, ?_⟩
  refine h σ I H _ h1 h2.sub h3 fun w I' H' r ⟨es, pe, er⟩ x c o => ?_
  subst er
  cases o with
  | @lst q ys _ lq dq =>
    have l' := x.keep _ _ nd hl
    have n' := x.out nI (by rw [hl]; exact fun z => by cases z)
    have dl := hd.len
    have dl2 := dq.len
    have z := hz es pe
    exact ⟨p, q, xs, ys, rfl, rfl, l', x.sub _ _ lq, by omega, k es pe σ _ ⟨I', h1.mono x.im, (h2.trans x).updNew n0 n', c.upd nd, n0, n', nd, xs ++ ys, upd_same, (hd.mono x.im).app dq⟩⟩
theorem bd_extDD {p : Addr} {ds ys : List PyData} {i : Nat} {o : Expr} {apos cpos : Pos} (ho : PE X o (tVar i)) (hG : G[i]? = some (.v (.ref p))) (h : DE X e G (.list ys)) (hz : ds.length + ys.length ≤ sizeLine) (k : Bd X C I0 H0 rest G (some (p, ds ++ ys)) D)
    (hs0 : starEach (e :: []) X.env = (false, eval e X.env) :: starEach [] X.env := by rfl) (hbase : attributeBase o "extend" X.env (eval o X.env) = eval o X.env := by rfl)
    (hfew : ((backTo cpos (starEach (e :: []) X.env)).all (fun x => !x.1) && (backToKw cpos (keywordEach [] X.env)).all (fun x => x.1.isSome)
      && decide ((e :: []).length + ([] : List Keyword).length + (if ([] : List Keyword).isEmpty then 0 else 1) < 30)) = true := by rfl)
    (hline : (apos.endLine == cpos.line) = true := by rfl) (hplain : (backTo cpos (starEach [] X.env)).any (·.1) = false := by rfl) (hsw : swapsWith (.Call (.Attribute o "extend" apos) [e] [] cpos) none pos.line X.env = pure false := by rfl) :
    Bd X C I0 H0 (.Expr (.Call (.Attribute o "extend" apos) [e] [] cpos) pos :: rest) G (some (p, ds)) D :=
  bd_extD (Pd := (· = ys)) ho hG ((h C).imp fun r z => ⟨ys, rfl, z⟩) (fun ys' e => by rw [e]; exact hz) (fun ys' e => by rw [e]; exact k) hs0 hbase hfew hline hplain hsw
end
section
variable {P : Program} {w : World} {K : PySem.W.Frag} {mg : Str → Option Value} {base : Heap} {f : Addr} {fd : FuncData}
/-! ### show_change -/
def F_show_change : Spc := fun _ rs P => ∃ c : Cg, rs = [.d c.d] ∧ CgOk c ∧ ∀ r, r = .d (.list ((showCg c).map .str)) → P r
theorem map_nil {ts : List Str} (h : ts.length = 0) (f : Str → Str) (x : Str) : (x :: ts.map f).map PyData.str = [.str x] := by rw [List.length_eq_zero_iff.mp h]; rfl
theorem ok_show_change (B : Bt mg) (T : Ct mg) (g_show_id : Ok P w K mg base 2 "show_id" ["name"] F_show_id) (g_show_path : Ok P w K mg base 1 "show_path" ["path"] F_show_path) (g_show_vertex : Ok P w K mg base 3 "show_vertex" ["vertex"] F_show_vertex) (g_show_vertices : Ok P w K mg base 4 "show_vertices" ["vertices"] F_show_vertices) (D : Df K mg "show_change" s_show_change ["change"] f fd) : Ok P w K mg base 5 "show_change" ["change"] F_show_change := by
  refine D.ok (fok D.1 c_show_change (fun C rs R h => by obtain ⟨t, rfl, _⟩ := h; rfl) ?_)
  rintro X ⟨cdv, A, outer, s, H, E, rfl, hr⟩ C I0 H0 rs R D ⟨⟨c, ts⟩, rfl, hz, hP⟩ hq
  have nd := c_show_change.nd
  obtain ⟨k0, kl, kt⟩ := hz
  unfold showCg at hP
  cases c with
  | add p =>
    rw [map_nil kl] at hP
    refine bd_setD (i := 1) (de_ixT (ds := [.str "add", pathD p]) (de_var (i := 0) rfl (pv 0)) de_int (at3 (i := 0) rfl)) ?_
    refine bd_take (dt_eqS (de_var (i := 1) rfl (pv 1)) de_str) (by decide) ?_
    exact bd_retD (de_frz (dn_lst (ds := [_]) (da_cons (de_addS de_str (de_fn g_show_path (hr.mono (by decide)) (da_cons (de_ixT (ds := [.str "add", pathD p]) (de_var (i := 0) rfl (pv 0)) de_int (at3 (i := 1) rfl)) da_nil) (fun C => ⟨p, rfl, k0, fun r e => e⟩)) (sz (by have := len_showPath k0; show 4 + _ ≤ _; omega))) da_nil))) (hP _ rfl) hq
  | back p =>
    rw [map_nil kl] at hP
    refine bd_setD (i := 1) (de_ixT (ds := [.str "back", p.d]) (de_var (i := 0) rfl (pv 0)) de_int (at3 (i := 0) rfl)) ?_
    refine bd_skip (dt_eqS (de_var (i := 1) rfl (pv 1)) de_str) (by decide) ?_
    refine bd_take (dt_eqS (de_var (i := 1) rfl (pv 1)) de_str) (by decide) ?_
    exact bd_retD (de_frz (dn_lst (ds := [_]) (da_cons (de_addS de_str (de_fn g_show_id (hr.mono (by decide)) (da_cons (de_ixT (ds := [.str "back", p.d]) (de_var (i := 0) rfl (pv 0)) de_int (at3 (i := 1) rfl)) da_nil) (fun C => ⟨p, rfl, k0, fun r e => e⟩)) (sz (by have := len_showIdn k0; show 5 + _ ≤ _; omega))) da_nil))) (hP _ rfl) hq
  | drop fl o =>
    rw [map_nil kl] at hP
    have h1 := len_showVx k0.1
    have h2 := len_showVxs k0.2
    refine bd_setD (i := 1) (de_ixT (ds := [.str "drop", fl.d, vxsD o]) (de_var (i := 0) rfl (pv 0)) de_int (at3 (i := 0) rfl)) ?_
    refine bd_skip (dt_eqS (de_var (i := 1) rfl (pv 1)) de_str) (by decide) ?_
    refine bd_skip (dt_eqS (de_var (i := 1) rfl (pv 1)) de_str) (by decide) ?_
    refine bd_setD (i := 2) (de_addS (de_addS (de_var (i := 1) rfl (pv 1)) de_str (by decide)) (de_fn g_show_vertex (hr.mono (by decide)) (da_cons (de_ixT (ds := [.str "drop", fl.d, vxsD o]) (de_var (i := 0) rfl (pv 0)) de_int (at3 (i := 1) rfl)) da_nil) (fun C => ⟨fl, rfl, k0.1, fun r e => e⟩)) (sz (by show 5 + _ ≤ _; omega))) ?_
    refine bd_take (dt_eqS (de_var (i := 1) rfl (pv 1)) de_str) (by decide) ?_
    exact bd_retD (de_frz (dn_lst (ds := [_]) (da_cons (de_addS (de_addS (de_var (i := 2) rfl (pv 2)) de_str (sz (by simp only [len_app]; show 4 + 1 + _ + 1 ≤ _; omega))) (de_fn g_show_vertices (hr.mono (by decide)) (da_cons (de_ixT (ds := [.str "drop", fl.d, vxsD o]) (de_var (i := 0) rfl (pv 0)) de_int (at3 (i := 2) rfl)) da_nil) (fun C => ⟨o, rfl, k0.2.1, k0.2.2, fun r e => e⟩)) (sz (by simp only [len_app]; show 4 + 1 + _ + 1 + _ ≤ _; omega))) da_nil))) (hP _ rfl) hq
  | move fl p o =>
    rw [map_nil kl] at hP
    have h1 := len_showVx k0.1
    have h2 := len_showVxs k0.2.2
    have h3 := len_showPath k0.2.1
    refine bd_setD (i := 1) (de_ixT (ds := [.str "move", fl.d, pathD p, vxsD o]) (de_var (i := 0) rfl (pv 0)) de_int (at3 (i := 0) rfl)) ?_
    refine bd_skip (dt_eqS (de_var (i := 1) rfl (pv 1)) de_str) (by decide) ?_
    refine bd_skip (dt_eqS (de_var (i := 1) rfl (pv 1)) de_str) (by decide) ?_
    refine bd_setD (i := 2) (de_addS (de_addS (de_var (i := 1) rfl (pv 1)) de_str (by decide)) (de_fn g_show_vertex (hr.mono (by decide)) (da_cons (de_ixT (ds := [.str "move", fl.d, pathD p, vxsD o]) (de_var (i := 0) rfl (pv 0)) de_int (at3 (i := 1) rfl)) da_nil) (fun C => ⟨fl, rfl, k0.1, fun r e => e⟩)) (sz (by show 5 + _ ≤ _; omega))) ?_
    refine bd_skip (dt_eqS (de_var (i := 1) rfl (pv 1)) de_str) (by decide) ?_
    refine bd_take (dt_eqS (de_var (i := 1) rfl (pv 1)) de_str) (by decide) ?_
    exact bd_retD (de_frz (dn_lst (ds := [_]) (da_cons (de_addS (de_addS (de_addS (de_addS (de_var (i := 2) rfl (pv 2)) de_str (sz (by simp only [len_app]; show 4 + 1 + _ + 1 ≤ _; omega))) (de_fn g_show_path (hr.mono (by decide)) (da_cons (de_ixT (ds := [.str "move", fl.d, pathD p, vxsD o]) (de_var (i := 0) rfl (pv 0)) de_int (at3 (i := 2) rfl)) da_nil) (fun C => ⟨p, rfl, k0.2.1, fun r e => e⟩)) (sz (by simp only [len_app]; show 4 + 1 + _ + 1 + _ ≤ _; omega))) de_str (sz (by simp only [len_app]; show 4 + 1 + _ + 1 + _ + 1 ≤ _; omega))) (de_fn g_show_vertices (hr.mono (by decide)) (da_cons (de_ixT (ds := [.str "move", fl.d, pathD p, vxsD o]) (de_var (i := 0) rfl (pv 0)) de_int (at3 (i := 3) rfl)) da_nil) (fun C => ⟨o, rfl, k0.2.2.1, k0.2.2.2, fun r e => e⟩)) (sz (by simp only [len_app]; show 4 + 1 + _ + 1 + _ + 1 + _ ≤ _; omega))) da_nil))) (hP _ rfl) hq
  | cut fl o =>
    rw [map_nil kl] at hP
    have h1 := len_showVx k0.1
    have h2 := len_showVxs k0.2
    refine bd_setD (i := 1) (de_ixT (ds := [.str "cut", fl.d, vxsD o]) (de_var (i := 0) rfl (pv 0)) de_int (at3 (i := 0) rfl)) ?_
    refine bd_skip (dt_eqS (de_var (i := 1) rfl (pv 1)) de_str) (by decide) ?_
    refine bd_skip (dt_eqS (de_var (i := 1) rfl (pv 1)) de_str) (by decide) ?_
    refine bd_setD (i := 2) (de_addS (de_addS (de_var (i := 1) rfl (pv 1)) de_str (by decide)) (de_fn g_show_vertex (hr.mono (by decide)) (da_cons (de_ixT (ds := [.str "cut", fl.d, vxsD o]) (de_var (i := 0) rfl (pv 0)) de_int (at3 (i := 1) rfl)) da_nil) (fun C => ⟨fl, rfl, k0.1, fun r e => e⟩)) (sz (by show 4 + _ ≤ _; omega))) ?_
    refine bd_skip (dt_eqS (de_var (i := 1) rfl (pv 1)) de_str) (by decide) ?_
    refine bd_skip (dt_eqS (de_var (i := 1) rfl (pv 1)) de_str) (by decide) ?_
    refine bd_take (dt_eqS (de_var (i := 1) rfl (pv 1)) de_str) (by decide) ?_
    exact bd_retD (de_frz (dn_lst (ds := [_]) (da_cons (de_addS (de_addS (de_var (i := 2) rfl (pv 2)) de_str (sz (by simp only [len_app]; show 3 + 1 + _ + 1 ≤ _; omega))) (de_fn g_show_vertices (hr.mono (by decide)) (da_cons (de_ixT (ds := [.str "cut", fl.d, vxsD o]) (de_var (i := 0) rfl (pv 0)) de_int (at3 (i := 2) rfl)) da_nil) (fun C => ⟨o, rfl, k0.2.1, k0.2.2, fun r e => e⟩)) (sz (by simp only [len_app]; show 3 + 1 + _ + 1 + _ ≤ _; omega))) da_nil))) (hP _ rfl) hq
  | order fl a b =>
    rw [map_nil kl] at hP
    have h1 := len_showVx k0.1
    have h2 := len_showVx k0.2.1
    have h3 := len_showVx k0.2.2
    refine bd_setD (i := 1) (de_ixT (ds := [.str "order", fl.d, a.d, b.d]) (de_var (i := 0) rfl (pv 0)) de_int (at3 (i := 0) rfl)) ?_
    refine bd_skip (dt_eqS (de_var (i := 1) rfl (pv 1)) de_str) (by decide) ?_
    refine bd_skip (dt_eqS (de_var (i := 1) rfl (pv 1)) de_str) (by decide) ?_
    refine bd_setD (i := 2) (de_addS (de_addS (de_var (i := 1) rfl (pv 1)) de_str (by decide)) (de_fn g_show_vertex (hr.mono (by decide)) (da_cons (de_ixT (ds := [.str "order", fl.d, a.d, b.d]) (de_var (i := 0) rfl (pv 0)) de_int (at3 (i := 1) rfl)) da_nil) (fun C => ⟨fl, rfl, k0.1, fun r e => e⟩)) (sz (by show 6 + _ ≤ _; omega))) ?_
    refine bd_skip (dt_eqS (de_var (i := 1) rfl (pv 1)) de_str) (by decide) ?_
    refine bd_skip (dt_eqS (de_var (i := 1) rfl (pv 1)) de_str) (by decide) ?_
    refine bd_skip (dt_eqS (de_var (i := 1) rfl (pv 1)) de_str) (by decide) ?_
    refine bd_take (dt_eqS (de_var (i := 1) rfl (pv 1)) de_str) (by decide) ?_
    exact bd_retD (de_frz (dn_lst (ds := [_]) (da_cons (de_addS (de_addS (de_addS (de_addS (de_var (i := 2) rfl (pv 2)) de_str (sz (by simp only [len_app]; show 5 + 1 + _ + 1 ≤ _; omega))) (de_fn g_show_vertex (hr.mono (by decide)) (da_cons (de_ixT (ds := [.str "order", fl.d, a.d, b.d]) (de_var (i := 0) rfl (pv 0)) de_int (at3 (i := 2) rfl)) da_nil) (fun C => ⟨a, rfl, k0.2.1, fun r e => e⟩)) (sz (by simp only [len_app]; show 5 + 1 + _ + 1 + _ ≤ _; omega))) de_str (sz (by simp only [len_app]; show 5 + 1 + _ + 1 + _ + 1 ≤ _; omega))) (de_fn g_show_vertex (hr.mono (by decide)) (da_cons (de_ixT (ds := [.str "order", fl.d, a.d, b.d]) (de_var (i := 0) rfl (pv 0)) de_int (at3 (i := 3) rfl)) da_nil) (fun C => ⟨b, rfl, k0.2.2, fun r e => e⟩)) (sz (by simp only [len_app]; show 5 + 1 + _ + 1 + _ + 1 + _ ≤ _; omega))) da_nil))) (hP _ rfl) hq
  | lines fl u d n =>
    have h1 := len_showVx k0.1
    have h2 := len_showVxs k0.2.1
    have h3 := len_showVxs k0.2.2.1
    have h4 := k0.2.2.2
    have kl' : ts.length = n := kl
    have h5 := nS_small (n := n) (by omega)
    refine bd_setD (i := 1) (de_ixT (ds := [.str "lines", fl.d, vxsD u, vxsD d, .list (ts.map .str)]) (de_var (i := 0) rfl (pv 0)) de_int (at3 (i := 0) rfl)) ?_
    refine bd_skip (dt_eqS (de_var (i := 1) rfl (pv 1)) de_str) (by decide) ?_
    refine bd_skip (dt_eqS (de_var (i := 1) rfl (pv 1)) de_str) (by decide) ?_
    refine bd_setD (i := 2) (de_addS (de_addS (de_var (i := 1) rfl (pv 1)) de_str (by decide)) (de_fn g_show_vertex (hr.mono (by decide)) (da_cons (de_ixT (ds := [.str "lines", fl.d, vxsD u, vxsD d, .list (ts.map .str)]) (de_var (i := 0) rfl (pv 0)) de_int (at3 (i := 1) rfl)) da_nil) (fun C => ⟨fl, rfl, k0.1, fun r e => e⟩)) (sz (by show 6 + _ ≤ _; omega))) ?_
    refine bd_skip (dt_eqS (de_var (i := 1) rfl (pv 1)) de_str) (by decide) ?_
    refine bd_skip (dt_eqS (de_var (i := 1) rfl (pv 1)) de_str) (by decide) ?_
    refine bd_skip (dt_eqS (de_var (i := 1) rfl (pv 1)) de_str) (by decide) ?_
    refine bd_skip (dt_eqS (de_var (i := 1) rfl (pv 1)) de_str) (by decide) ?_
    refine bd_setD (i := 2) (de_addS (de_addS (de_addS (de_addS (de_var (i := 2) rfl (pv 2)) de_str (sz (by simp only [len_app]; show 5 + 1 + _ + 1 ≤ _; omega))) (de_fn g_show_vertices (hr.mono (by decide)) (da_cons (de_ixT (ds := [.str "lines", fl.d, vxsD u, vxsD d, .list (ts.map .str)]) (de_var (i := 0) rfl (pv 0)) de_int (at3 (i := 2) rfl)) da_nil) (fun C => ⟨u, rfl, k0.2.1.1, k0.2.1.2, fun r e => e⟩)) (sz (by simp only [len_app]; show 5 + 1 + _ + 1 + _ ≤ _; omega))) de_str (sz (by simp only [len_app]; show 5 + 1 + _ + 1 + _ + 1 ≤ _; omega))) (de_fn g_show_vertices (hr.mono (by decide)) (da_cons (de_ixT (ds := [.str "lines", fl.d, vxsD u, vxsD d, .list (ts.map .str)]) (de_var (i := 0) rfl (pv 0)) de_int (at3 (i := 3) rfl)) da_nil) (fun C => ⟨d, rfl, k0.2.2.1.1, k0.2.2.1.2, fun r e => e⟩)) (sz (by simp only [len_app]; show 5 + 1 + _ + 1 + _ + 1 + _ ≤ _; omega))) ?_
    refine bd_retD (de_frz (dn_cat (de_frz (dn_lst (ds := [_]) (da_cons (de_addS (de_addS (de_var (i := 2) rfl (pv 2)) de_str (sz (by simp only [len_app]; show 5 + 1 + _ + 1 + _ + 1 + _ + 1 ≤ _; omega))) (DE.is (de_strI (de_lenL (de_ixT (ds := [.str "lines", fl.d, vxsD u, vxsD d, .list (ts.map .str)]) (de_var (i := 0) rfl (pv 0)) de_int (at3 (i := 4) rfl)) rfl B.len) (log_sm (by rw [List.length_map]; omega)) B.str) (d' := .str (nS n)) (by rw [List.length_map, kl']; rfl)) (sz (by simp only [len_app]; show 5 + 1 + _ + 1 + _ + 1 + _ + 1 + _ ≤ _; omega))) da_nil))) (de_frz (DLc.n (dlc0 (j := 3) (x := "text") PyData.str ts (fun t => .str ("|" ++ t)) (di_list (de_ixT (ds := [.str "lines", fl.d, vxsD u, vxsD d, .list (ts.map .str)]) (de_var (i := 0) rfl (pv 0)) de_int (at3 (i := 4) rfl))) (sz (by omega)) (blkOk_by (N := n_show_change) (sc := defScope s_show_change) (by decide +kernel)) (fun _ _ _ _ _ => pg_name (i := 3) nd rfl (Or.inl rfl)) (fun y hy _ _ _ _ _ => (de_addS de_str (de_var (i := 3) rfl (pv 3)) (sz (by have := kt y hy; show 1 + _ ≤ _; omega))))))) (sz (by rw [List.length_map, kl']; show 1 + _ ≤ _; omega)))) (hP _ ?_) hq
    congr 2
    rw [List.map_cons, List.map_map]
    rfl
end
end QL
namespace QL
open PySem PySem.Spec PyProof.Rows L2
/-! ### defs that raise an own error with a number -/
abbrev Spx := Cs → List Sl → (Sl → Prop) → (Int → Prop) → Prop
def XdAt (H : Hp) (d : Addr) (k : Int) : Prop := H d = some (.xd [(("at" : Str), .int k)])
def spX (CW : Addr) (F : Spx) : Sp := fun vs H Q E => ∃ (C : Cs) (I : Hp) (rs : List Sl) (P : Sl → Prop) (R : Int → Prop), SlAll I vs rs ∧ Same I H ∧ StOk C I H ∧ F C rs P R ∧
  (∀ v I' H' r, P r → Ext C I H I' H' → StOk C I' H' → r.ok I' v → Q v H') ∧ (∀ k d I' H', R k → Ext C I H I' H' → StOk C I' H' → XdAt H' d k → E (.ref CW) (some d) H')
/-- an expression that may let such an error out -/
def EvX (X : Cx) (C : Cs) (W : WX) (CW : Addr) (e : Expr) (G : List Sl) (P : Sl → Prop) (R : Int → Prop) : Prop :=
  ∀ (σ : L2.St) (I H : Hp) (Q : VK), EnvOk σ G I → Same I H → StOk C I H → (∀ v I' H' r, P r → Ext C I H I' H' → StOk C I' H' → r.ok I' v → Q v H') →
    (∀ k d I' H', R k → Ext C I H I' H' → StOk C I' H' → XdAt H' d k → W (.ref CW) (some d) σ H') → wpE X e σ H Q
def RxOk (C : Cs) (I0 H0 : Hp) (R : Int → Prop) (W : WX) (CW : Addr) : Prop := ∀ k d σ I' H', R k → Ext C I0 H0 I' H' → StOk C I' H' → XdAt H' d k → W (.ref CW) (some d) σ H'
theorem RxOk.bs {C : Cs} {I0 H0 I1 : Hp} {R : Int → Prop} {W : WX} {CW : Addr} (h : RxOk C I0 H0 R W CW) (b : Bs I0 H0 I1) : RxOk C I1 H0 R W CW := fun k d σ I' H' p x => h k d σ I' H' p (b.ext x)
theorem RxOk.imp {C : Cs} {I0 H0 : Hp} {R R' : Int → Prop} {W : WX} {CW : Addr} (h : RxOk C I0 H0 R W CW) (i : ∀ k, R' k → R k) : RxOk C I0 H0 R' W CW := fun k d σ I' H' p x => h k d σ I' H' (i k p) x
section
variable {X : Cx} {C : Cs} {W : WX} {CW : Addr} {e a b : Expr} {G : List Sl} {P P1 : Sl → Prop} {R : Int → Prop} {pos p : Pos}
theorem evx_of (h : Ev X C e G P) : EvX X C W CW e G P R := fun σ I H Q hE hS hC q _ => h σ I H Q hE hS hC q
theorem evx_fn {k : Nat} {f : Addr} {fd : FuncData} {ps : List Str} {F : Spx} {x : Str} {es : List Expr} {Pa : List Sl → Prop} (g : FnOk X.prog X.w X.K X.mg X.base (L2.CX X.prog X.w) k f fd ps (spX CW F)) (hr : Room k X.A) (tk : Takes X W) (hm : X.mg x = some (.ref f)) (hk : PySem.W.keepIn X.K (.ref f) = true) (hb : Binds X.K fd ps []) (ha : EvA X C (e :: es) G Pa) (h : ∀ rs, Pa rs → F C rs P R)
    (hg : Gl X x := by rfl) (hdb : (x == ("__debug__" : Str)) = false := by decide) (he : starEach (e :: es) X.env = (false, eval e X.env) :: starEach es X.env := by rfl) (hpl : (backTo pos (starEach es X.env)).any (·.1) = false := by rfl) : EvX X C W CW (.Call (.Name x p) (e :: es) [] pos) G P R := fun σ I H Q hE hS hC q z =>
  of_pe (pe_callS (E := WE W) g hr hg hm hk hb (fun σ => passAt tk σ) pa_wp hdb he hpl) (ha σ I H _ hE hS hC fun vs I1 H1 rs pr x1 c1 o1 => ⟨C, I1, rs, P, R, o1, x1.sub, c1, h rs pr,
    fun v I2 H2 r p2 x2 c2 o2 => q v I2 H2 r p2 (x1.trans x2) c2 o2, fun k d I2 H2 rk x2 c2 xd => z k d I2 H2 rk (x1.trans x2) c2 xd⟩)
end
section
variable {X : Cx} {C : Cs} {W : WX} {CW : Addr} {I0 H0 : Hp} {G : List Sl} {L : Lo} {D : Ends} {rest : List Stmt} {e : Expr} {pos : Pos} {P Pe : Sl → Prop} {R : Int → Prop}
theorem evx_here (h : EvX X C W CW e G P R) (hx : RxOk C I0 H0 R W CW) {σ : L2.St} {H : Hp} {Q : VK} (he : Here C I0 H0 G L σ H) (q : ∀ v r I' H', P r → r.ok I' v → EnvOk σ G I' → Ext C I0 H0 I' H' → StOk C I' H' → LOk C H0 I' H' L → Q v H') : wpE X e σ H Q := by
  obtain ⟨I, h1, h2, h3, h4⟩ := he
  exact h σ I H Q h1 h2.sub h3 (fun v I' H' r p x c o => q v r I' H' p o (h1.mono x.im) (h2.trans x) c (h4.ext x)) fun k d I' H' rk x c xd => hx k d σ I' H' rk (h2.trans x) c xd
theorem bd_retX (h : EvX X C W CW e G P R) (hq : RtOk C I0 H0 P D.rt) (hx : RxOk C I0 H0 R W CW) : Bd X C I0 H0 (.Return (some e) pos :: rest) G L D := fun σ H he =>
  of_pss (pss_cons (ps_ret pe_wp) (pss_wp (st := rest))) (evx_here h hx he fun v r I' H' p o _ x c _ => hq v I' H' r p x c o)
theorem bd_setX {i : Nat} {x : Str} {px : Pos} (h : EvX X C W CW e G Pe R) (hr : RxOk C I0 H0 R W CW) (k : ∀ r, Pe r → Bd X C I0 H0 rest (G.set i r) L D) (hi : X.N[i]? = some x := by rfl) (hx : Loc X.env.scope x := by first | exact .inl rfl | exact .inr rfl)
    (hN : X.N.Nodup := by assumption) (hs : swapsWith e (some (.Name x px)) pos.line X.env = pure false := by rfl) (hf : X.fn x = true ∨ X.env.scope.names.lookup x = some .local := by first | exact .inl rfl | exact .inr rfl) : Bd X C I0 H0 (.Assign [.Name x px] e pos :: rest) G L D := fun σ H he =>
  of_pss (pss_cons (ps_set hN hi hx pe_wp hs hf) (pss_wp (st := rest))) (evx_here h hr he fun v r I' H' p o e' x c l => k r p (σ.set i (some v)) H' ⟨I', e'.set i o, x, c, l⟩)
theorem bd_un2X {i j : Nat} {x y : Str} {px py pt : Pos} {kt : Nat} {Pd : PyData → PyData → Prop} (h : EvX X C W CW e G (fun r => ∃ u w, r = .d (.tuple [u, w]) ∧ Pd u w) R) (hr : RxOk C I0 H0 R W CW) (k : ∀ u w, Pd u w → Bd X C I0 H0 rest ((G.set i (.d u)).set j (.d w)) L D)
    (g1 : PG X (.Name x px) (gName i)) (g2 : PG X (.Name y py) (gName j)) (hc : X.calm = true := by rfl)
    (hs : swapsWithSole [.Tuple [.Name x px, .Name y py] kt pt] e pos.line X.env = pure false := by rfl) (hw : swappedStores [.Tuple [.Name x px, .Name y py] kt pt] e X.env = pure none := by rfl)
    (h1 : (assignEach [.Tuple [.Name x px, .Name y py] kt pt] X.env).map (·.2) = [assign (.Tuple [.Name x px, .Name y py] kt pt) X.env] := by rfl)
    (h2 : (assignEach [.Name x px, .Name y py] X.env).map (·.2) = assign (.Name x px) X.env :: (assignEach [.Name y py] X.env).map (·.2) := by rfl) (h3 : (assignEach [.Name y py] X.env).map (·.2) = assign (.Name y py) X.env :: (assignEach [] X.env).map (·.2) := by rfl)
    (hn : (assignEach [.Name x px, .Name y py] X.env).length = 2 := by rfl) (hst : (assignEach [.Name x px, .Name y py] X.env).findIdx? (·.1) = none := by rfl) : Bd X C I0 H0 (.Assign [.Tuple [.Name x px, .Name y py] kt pt] e pos :: rest) G L D := fun σ H he =>
  of_pss (pss_cons (ps_asg pe_wp (pg_tup hc (pgs_cons g1 (pgs_cons g2 pgs_nil h3) h2) hn hst) hs hw h1) (pss_wp (st := rest))) (evx_here h hr he fun v r I' H' p o e' x c l => by
    obtain ⟨u, w, rfl, pd⟩ := p
    cases o with
    | tup t1 t2 =>
      cases t2 with
      | cons o1 t2 =>
        cases t2 with
        | cons o2 t2 =>
          cases t2
          exact ⟨_, _, rfl, sqt_inj t1 x.sub, rfl, _, _, rfl, _, _, rfl, rfl, k u w pd _ H' ⟨I', (e'.set i (r := .d u) o1).set j (r := .d w) o2, x, c, l⟩⟩)
/-- a tuple (a, e), e may raise -/
theorem evx_tup2 {a : Expr} {x1} {P1 P2 : PyData → Prop} (ha : Ev X C a G (fun r => ∃ y, P1 y ∧ r = .d y)) (he : EvX X C W CW e G (fun r => ∃ y, P2 y ∧ r = .d y) R)
    (hs : starEach (a :: [e]) X.env = (false, eval a X.env) :: starEach [e] X.env := by rfl) (hs2 : starEach (e :: []) X.env = (false, eval e X.env) :: starEach [] X.env := by rfl) : EvX X C W CW (.Tuple [a, e] x1 pos) G (fun r => ∃ y z, P1 y ∧ P2 z ∧ r = .d (.tuple [y, z])) R := fun σ I H Q hE hS hC q z =>
  of_pe (pe_tup (pa_cons pe_wp (pa_cons pe_wp pa_nil hs2) hs)) (ha σ I H _ hE hS hC fun v I1 H1 r ⟨y, py, er⟩ x1 c1 o1 => he σ I1 H1 _ (hE.mono x1.im) x1.sub c1 (fun u I2 H2 r2 ⟨w, pw, er2⟩ x2 c2 o2 => by
    subst er er2
    have hx := x1.trans x2
    refine ⟨by show 2 ≤ sizeLine; decide, fun p0 hp => ?_⟩
    have ex := Ext.imm (C := none) (o := .tup [v, u]) hx.sub hp
    exact q (.ref p0) _ _ _ ⟨y, w, py, pw, rfl⟩ (hx.trans ex.of0) (c2.ext0 ex) (.tup upd_same (.cons (o1.mono (x2.im.trans ex.im)) (.cons (Dq.mono ex.im o2) .nil)))) fun k d I2 H2 rk x2 c2 xd => z k d I2 H2 rk (x1.trans x2) c2 xd)
/-- a list [e], e may raise -/
theorem evx_lst1 {P2 : PyData → Prop} (he : EvX X C W CW e G (fun r => ∃ y, P2 y ∧ r = .d y) R) (hs2 : starEach (e :: []) X.env = (false, eval e X.env) :: starEach [] X.env := by rfl) : EvX X C W CW (.List [e] pos) G (fun r => ∃ y, P2 y ∧ r = .d (.list [y])) R := fun σ I H Q hE hS hC q z =>
  of_pe (pe_lst (pa_cons pe_wp pa_nil hs2)) (he σ I H _ hE hS hC (fun u I2 H2 r2 ⟨w, pw, er2⟩ x2 c2 o2 => by
    subst er2
    refine ⟨by show 1 ≤ sizeLine; decide, fun p0 hp => ?_⟩
    have ex := Ext.imm (C := none) (o := .lst [u]) x2.sub hp
    exact q (.ref p0) _ _ _ ⟨w, pw, rfl⟩ (x2.trans ex.of0) (c2.ext0 ex) (.lst upd_same (.cons (Dq.mono ex.im o2) .nil))) fun k d I2 H2 rk x2 c2 xd => z k d I2 H2 rk x2 c2 xd)
end

/-! ### WrittenError -/
def spInit (CW : Addr) : Sp := fun vs H Q _ => ∃ (a : Addr) (n : Int), vs = [.ref a, .int n] ∧ H a = some (exo a CW none) ∧ ∀ dx, H dx = none → dx ≠ a → Q .non (upd (upd H dx (exd dx [(("at" : Str), .int n)])) a (exo a CW (some dx)))
/-- what is known of WrittenError (at CW, its __init__ at fI) and of WardError (at CA) -/
structure Er (K : PySem.W.Frag) (mg : Str → Option Value) (CW CA : Addr) : Prop where
  gW : mg "WrittenError" = some (.ref CW)
  gA : mg "WardError" = some (.ref CA)
  ox : OexC K CW
  no : PySem.W.findIn K (.ref CW) "at" = some none
  rd : PySem.W.readsIn K CA (.type "type") = true
  sp : PySem.W.specialIn K (.ref CA) "__getattribute__" = some (some (.builtin "type.__getattribute__"))
  ini : PySem.W.findCls K (.ref CA) (.type "type") "__init__" = some (.val (.builtin "ValueError.__init__"))
theorem pe_weinit {X : Cx} {e : Expr} {es : List Expr} {ta : TA} {p1 p2 pos : Pos} {CW CA : Addr} {pl : Sem Bool} (T : Er X.K X.mg CW CA) (hg : Gl X "WardError") (ha : PA X (e :: es) ta)
    (hc : eval (.Call (.Attribute (.Name "WardError" p1) "__init__" p2) (e :: es) [] pos) X.env = (do
      let ov ← eval (.Name "WardError" p1) X.env
      standAt p2.atName
      let (f, first) ← holding [ov] (getMethod ov "__init__" pl)
      callWith pos f first (backTo pos (starEach (e :: es) X.env)) (backToKw pos (keywordEach [] X.env))) := by rfl)
    (he : starEach (e :: es) X.env = (false, eval e X.env) :: starEach es X.env := by rfl) (hpl : (backTo pos (starEach es X.env)).any (·.1) = false := by rfl) :
    PE X (.Call (.Attribute (.Name "WardError" p1) "__init__" p2) (e :: es) [] pos) (tVeI X.K ta) := by
  refine ⟨fun pins s σ H Q I h => ?_⟩
  refine PySem.W.methodCall_KW (ld_glob I hg T.gA ?_ (by decide)) hc
  refine PySem.W.method_cls I.kIn T.sp (PySem.W.cls_value I.kIn T.rd T.ini (by decide +kernel) ?_)
  show wpAny _ _ (callWith pos (Value.builtin "ValueError.__init__") [] (backTo pos (starEach (e :: es) X.env)) []) _ _ _
  refine PyProof.Rows.callWith_method1 (thn (ha.run pos pins _ σ H _ (I.tok _) h) fun us s1 ⟨vs, H1, I1, r1, a, C, ws, ev, hl, T, ea, q⟩ => ?_) he hpl
  subst ev
  cases r1 with
  | @cons _ u0 _ ur ra rw' =>
    obtain rfl : u0 = Value.ref a := ra
    have hlen : ur.length ≤ sizeLine := by
      rw [← Paired.length rw', sizeLine_eq]
      omega
    exact oinit_ok T I1 ea hlen fun s' J => ⟨.non, H1, J, rfl, q⟩
def topC (i j : Nat) : Stmt := match topS i with
  | .ClassDef _ _ _ b .. => b.getD j (.Pass ⟨0, 0, 0, 0⟩)
  | _ => .Pass ⟨0, 0, 0, 0⟩
abbrev s_init : Stmt := topC 2 0
abbrev n_init : List Str := ["self", "at"]
theorem c_init : FnScope n_init ["self", "at"] (defScope s_init) := ⟨rfl, rfl, rfl, by decide +kernel, rfl, by decide +kernel, by decide +kernel⟩
section
variable {P : Program} {w : World} {K : PySem.W.Frag} {mg : Str → Option Value} {base : Heap} {f : Addr} {fd : FuncData} {CW CA : Addr}
theorem ok_init (T : Er K mg CW CA) (D : Fun K "__init__" "WrittenError.__init__" s_init f fd) : FnOk P w K mg base CX0 1 f fd ["self", "at"] (spInit CW) := by
  refine D.ok c_init (fun vs H Q E h => ?_) (fun cdv A outer s H vs Q E hr h => ⟨_, pss_cons (ps_expr (pe_weinit T (by rfl) (pa_cons (pv 0) (pa_cons pe_str pa_nil)))) (pss_one (ps_ost (pv 0) (pv 1))), ?_⟩)
  · obtain ⟨a, n, rfl, _⟩ := h; rfl
  · obtain ⟨a, n, rfl, e, q⟩ := h
    refine ⟨_, rfl, a, CW, _, rfl, by decide, T.ox, e, ?_⟩
    refine ⟨_, rfl, _, rfl, a, CW, rfl, T.ox, T.no, .inl ⟨e, fun dx h1 h2 => q dx h1 h2⟩⟩
end

/-- WrittenError may be made -/
def We (P : Program) (w : World) (K : PySem.W.Frag) (mg : Str → Option Value) (base : Heap) (CW : Addr) : Prop := ∃ (CA fI : Addr) (fd : FuncData), Er K mg CW CA ∧ PySem.W.findIn K (.ref CW) "__init__" = some (some (.ref fI)) ∧ PySem.W.typeIn K (.ref fI) = some (.type "function") ∧
  FnOk P w K mg base CX0 1 fI fd ["self", "at"] (spInit CW) ∧ Binds K fd ["self", "at"] []
section
variable {X : Cx} {C : Cs} {W : WX} {CW : Addr} {I0 H0 : Hp} {G : List Sl} {L : Lo} {D : Ends} {rest : List Stmt} {e : Expr} {p pos pos2 : Pos} {R : Int → Prop} {k : Int}
theorem bd_raise (hw : We X.prog X.w X.K X.mg X.base CW) (hr : Room 2 X.A) (tk : Takes X W) (hx : RxOk C I0 H0 R W CW) (he : DE X e G (.int k)) (hk : R k) (hc : X.calm = true := by rfl) (hg : Gl X "WrittenError" := by rfl)
    (hs : starEach (e :: []) X.env = (false, eval e X.env) :: starEach [] X.env := by rfl) (hpl : (backTo pos (starEach [] X.env)).any (·.1) = false := by rfl) : Bd X C I0 H0 (.Raise (some (.Call (.Name "WrittenError" p) [e] [] pos)) none pos2 :: rest) G L D := fun σ H ⟨I, h1, h2, h3, h4⟩ => by
  obtain ⟨CA, fI, fd, T, iC, tI, F1, hb⟩ := hw
  refine of_pss (pss_cons (ps_raise hc tk (pmk_oex T.ox iC tI F1 hr hb .nil pass0 hg T.gW pa_wp (by decide) hs hpl)) (pss_wp (st := rest))) ?_
  refine da_cons he da_nil hs C σ I H _ h1 h2.sub h3 fun vs I1 H1 rs er x c o => ?_
  subst er
  cases o with
  | cons o1 o2 =>
    cases o2
    cases o1
    refine ⟨by show 1 ≤ 1000; decide, fun a ha => ⟨a, k, rfl, upd_same, fun dx n1 ne => ⟨rfl, dx, [(("at" : Str), V.int k)], upd_same, ?_, ?_, ?_⟩⟩⟩
    · rw [upd_ne ne, upd_same]
    · rw [upd_ne ne] at n1; exact n1
    · have n0 : H1 dx = none := by rw [upd_ne ne] at n1; exact n1
      have e1 : upd (del (upd (upd (upd H1 a (exo a CW none)) dx (exd dx [(("at" : Str), V.int k)])) a (exo a CW (some dx))) a) dx (.xd [(("at" : Str), V.int k)]) = upd H1 dx (.xd [(("at" : Str), V.int k)]) := by
        funext b
        by_cases hb : b = dx
        · subst hb; rw [upd_same, upd_same]
        · rw [upd_ne hb, upd_ne hb]
          by_cases ha' : b = a
          · subst ha'; rw [del_same, ha]
          · rw [del_ne ha', upd_ne ha', upd_ne hb, upd_ne ha']
      rw [e1]
      have ex := Ext.mut (C := none) (o := .xd [(("at" : Str), V.int k)]) x.sub n0
      exact hx k dx σ I1 _ hk ((h2.trans x).trans ex.of0) (c.ext0 ex) upd_same
end
section
variable {P : Program} {w : World} {K : PySem.W.Frag} {mg : Str → Option Value} {base : Heap} {CW : Addr}
/-- THE RULE of a def that may raise such an error -/
theorem fokX {F : Spx} {x qual : Str} {st : Stmt} {f : Addr} {fd : FuncData} {N ps : List Str} {k : Nat} (Fn : Fun K x qual st f fd) (S : FnScope N ps (defScope st)) (len : ∀ C rs P R, F C rs P R → rs.length = ps.length)
    (body : ∀ (X : Cx), (∃ cdv A outer s H E, X = cxOf (L2.CX P w) P w K mg base N qual (defScope st) f cdv A outer s H E ∧ Room k X.A) → ∀ (W : WX), Takes X W → PassesOwn (model X.prog X.w) X.A X.env X.xe →
      ∀ (C : Cs) (I0 H0 : Hp) (rs : List Sl) (R : Sl → Prop) (Rx : Int → Prop) (D : Ends), F C rs R Rx → RtOk C I0 H0 R D.rt → RxOk C I0 H0 Rx W CW → Bd X C I0 H0 (defBody st) (rs ++ List.replicate (N.length - rs.length) .no) none D) :
    FnOk P w K mg base (L2.CX P w) (k + 1) f fd ps (spX CW F) := by
  refine Fn.okX S (fun vs H Q E h => ?_) (fun cdv A outer s H vs Q E hr h => ?_)
  · obtain ⟨C, I, rs, R, Rx, h1, _, _, h2, _⟩ := h
    rw [h1.len]; exact len C rs R Rx h2
  · obtain ⟨C, I, rs, R, Rx, h1, h3, h4, h2, q, z⟩ := h
    exact ⟨wpS _ _, pss_wp, body _ ⟨cdv, A, outer, s, H, E, rfl, hr⟩ (fun cls d _ H => E cls d H) (takes_of rfl rfl rfl rfl) (passes_of rfl) C I H rs R Rx _ h2 (fun v I' H' r p x c o => q v I' H' r p x c o) (fun k d σ I' H' rk x c xd => z k d I' H' rk x c xd) _ _ ⟨I, EnvOk.start h1, Ext.refl h3, h4, trivial⟩⟩
end
/-- a def keeps its promise, raising such errors -/
def OkX (P : Program) (w : World) (K : PySem.W.Frag) (mg : Str → Option Value) (base : Heap) (CW : Addr) (k : Nat) (x : Str) (ps : List Str) (F : Spx) : Prop :=
  ∃ f fd, mg x = some (.ref f) ∧ PySem.W.keepIn K (.ref f) = true ∧ Binds K fd ps [] ∧ FnOk P w K mg base (L2.CX P w) k f fd ps (spX CW F)
theorem Df.okX {P : Program} {w : World} {K : PySem.W.Frag} {mg : Str → Option Value} {base : Heap} {CW : Addr} {k : Nat} {x : Str} {st : Stmt} {ps : List Str} {F : Spx} {f : Addr} {fd : FuncData} (D : Df K mg x st ps f fd) (h : FnOk P w K mg base (L2.CX P w) k f fd ps (spX CW F)) : OkX P w K mg base CW k x ps F :=
  ⟨f, fd, D.2.1, D.1.kp, D.2.2, h⟩
section
variable {X : Cx} {C : Cs} {W : WX} {CW : Addr} {e : Expr} {es : List Expr} {G : List Sl} {P : Sl → Prop} {R : Int → Prop} {pos p : Pos} {k : Nat} {ps : List Str} {F : Spx} {x : Str} {rs : List Sl}
theorem ev_fnX (g : OkX X.prog X.w X.K X.mg X.base CW k x ps F) (hr : Room k X.A) (tk : Takes X W) (ha : DA X (e :: es) G rs) (h : F C rs P R)
    (hg : Gl X x := by rfl) (hdb : (x == ("__debug__" : Str)) = false := by decide) (he : starEach (e :: es) X.env = (false, eval e X.env) :: starEach es X.env := by rfl) (hpl : (backTo pos (starEach es X.env)).any (·.1) = false := by rfl) : EvX X C W CW (.Call (.Name x p) (e :: es) [] pos) G P R := by
  obtain ⟨f, fd, h1, h2, h3, h4⟩ := g
  exact evx_fn h4 hr tk h1 h2 h3 (ha C) (fun rs' e => by rw [e]; exact h) hg hdb he hpl
end
end QL
namespace QL
open PySem PySem.Spec PyProof.Rows L2
/-! ### the beginning and the rest of a text -/
def pre (x : Str) (n : Nat) : Str := ⟨((tl x).take n).toArray⟩
def suf (x : Str) (n : Nat) : Str := ⟨((tl x).drop n).toArray⟩
theorem tl_pre (x : Str) (n : Nat) : tl (pre x n) = (tl x).take n := rfl
theorem tl_suf (x : Str) (n : Nat) : tl (suf x n) = (tl x).drop n := rfl
theorem pre_suf (x : Str) (n : Nat) : pre x n ++ suf x n = x := ext_s (by rw [tl_app, tl_pre, tl_suf, List.take_append_drop])
theorem len_pre (x : Str) (n : Nat) : (pre x n).length ≤ x.length := by rw [← len_tl', ← len_tl', tl_pre, List.length_take]; omega
theorem len_suf (x : Str) (n : Nat) : (suf x n).length ≤ x.length := by rw [← len_tl', ← len_tl', tl_suf, List.length_drop]; omega
theorem cut_pre (x : Str) (n : Nat) : cutS x none (some (n : Int)) = pre x n := by
  refine ext_s ?_
  show (((tl x).drop (HT.sIx x.length 0 none)).take (HT.sIx x.length x.length (some (n : Int)) - HT.sIx x.length 0 none)) = (tl x).take n
  rw [HT.sIx_none, HT.sIx_nat, List.drop_zero, Nat.sub_zero, ← len_tl']
  rcases Nat.le_total n (tl x).length with h | h
  · rw [Nat.min_eq_left h]
  · rw [Nat.min_eq_right h, List.take_length, List.take_of_length_le h]
theorem cut_suf (x : Str) (n : Nat) : cutS x (some (n : Int)) none = suf x n := by
  refine ext_s ?_
  show (((tl x).drop (HT.sIx x.length 0 (some (n : Int)))).take (HT.sIx x.length x.length none - HT.sIx x.length 0 (some (n : Int)))) = (tl x).drop n
  rw [HT.sIx_none, HT.sIx_nat, ← len_tl']
  rcases Nat.le_total n (tl x).length with h | h
  · rw [Nat.min_eq_left h, List.take_of_length_le (by rw [List.length_drop]; omega)]
  · rw [Nat.min_eq_right h, List.drop_of_length_le (Nat.le_refl _), List.drop_of_length_le h, List.take_nil]
def hasPre (p x : Str) : Bool := decide (pre x p.length = p)
theorem starts_pre (x p : Str) : Txt.startswith x p = hasPre p x := by
  have e : Builtin.Str.subAt x p 0 = hasPre p x := by
    unfold Builtin.Str.subAt hasPre
    rw [Bool.eq_iff_iff]
    rw [beq_iff_eq, decide_eq_true_eq]
    constructor
    · intro h
      refine ext_s ?_
      rw [tl_pre]
      have := congrArg Array.toList h
      rw [Array.toList_extract] at this
      simpa using this
    · intro h
      have := congrArg tl h
      rw [tl_pre] at this
      apply Array.toList_inj.mp
      rw [Array.toList_extract]
      simpa using this
  unfold Txt.startswith
  rw [e]
  cases h : hasPre p x with
  | false => simp
  | true =>
    have h' := of_decide_eq_true h
    have : p.length ≤ x.length := by
      have := congrArg (fun z => (tl z).length) h'
      simp only [tl_pre, List.length_take] at this
      rw [len_tl', len_tl'] at this
      omega
    simp [this]
theorem hasPre_eq {p x : Str} (h : hasPre p x = true) : p ++ suf x p.length = x := by
  have := of_decide_eq_true h
  conv => rhs; rw [← pre_suf x p.length, this]
theorem getL {lines : List Str} {k : Nat} (h : k < lines.length) : lines.drop k = lines.getD k "" :: lines.drop (k + 1) := by
  rw [List.drop_eq_getElem_cons h, List.getD_eq_getElem?_getD, List.getElem?_eq_getElem h]; rfl

/-! ### the reading of lines, as plain functions -/
abbrev RdR (α : Type) := Except Nat α
def textAt (lines : List Str) (k : Nat) : Bool := decide (k < lines.length) && (hasPre "|" (lines.getD k "") && isText (suf (lines.getD k "") 1))
def readTexts (lines : List Str) : Nat → Nat → RdR (List Str)
  | _, 0 => .ok []
  | k, n + 1 => if textAt lines k = true then (match readTexts lines (k + 1) n with | .ok ts => .ok (suf (lines.getD k "") 1 :: ts) | .error e => .error e) else .error k
def readChange (lines : List Str) (k : Nat) : RdR (Cg × Nat) :=
  match parse (Txt.split (lines.getD k "") " ") with
  | none => .error k
  | some c => match readTexts lines (k + 1) c.cnt with | .ok ts => .ok (⟨c, ts⟩, k + 1 + c.cnt) | .error e => .error e
def headAt (lines : List Str) (k : Nat) : Bool := decide (k < lines.length) && hasPre "patch " (lines.getD k "")
def noteAt (lines : List Str) (k : Nat) : Bool := decide (k < lines.length) && hasPre "note " (lines.getD k "")
def readHead (lines : List Str) (k : Nat) : RdR (Idn × Str) :=
  if headAt lines k = true then
    match readIdn (suf (lines.getD k "") 6) with
    | none => .error k
    | some i => if noteAt lines (k + 1) = true then (if isText (suf (lines.getD (k + 1) "") 5) = true then .ok (i, suf (lines.getD (k + 1) "") 5) else .error (k + 1)) else .error (k + 1)
  else .error k
/-- the changes of a patch: b, one is read already; m more may come -/
def readCs (lines : List Str) : Nat → Nat → Bool → RdR (List Cg × Nat)
  | m, k, b => if lines.length ≤ k then .error k else if lines.getD k "" = "end" ∧ b = true then .ok ([], k + 1) else
    match m with
    | 0 => .error k
    | m + 1 => match readChange lines k with
      | .error e => .error e
      | .ok (c, k') => match readCs lines m k' true with | .ok (cs, e) => .ok (c :: cs, e) | .error e => .error e
def readFrom (lines : List Str) (k : Nat) : RdR (Pt × Nat) :=
  match readHead lines k with
  | .error e => .error e
  | .ok (i, t) => match readCs lines 12 (k + 2) false with | .ok (cs, e) => .ok (⟨i, cs, t⟩, e) | .error e => .error e
def readPatch (lines : List Str) : RdR Pt := match readFrom lines 0 with | .error e => .error e | .ok (p, e) => if e < lines.length then .error e else .ok p
def readAll (lines : List Str) : Nat → Nat → RdR (List Pt)
  | 0, _ => .ok []
  | f + 1, k => if k < lines.length then (match readFrom lines k with | .error e => .error e | .ok (p, e) => match readAll lines f e with | .ok ps => .ok (p :: ps) | .error e => .error e) else .ok []

/-! ### what is read is what is shown -/
theorem readTexts_ok {lines : List Str} : ∀ {n k : Nat} {ts : List Str}, readTexts lines k n = .ok ts → ts.length = n ∧ lines.drop k = ts.map (fun t => (("|" : Str) ++ t)) ++ lines.drop (k + n) ∧ (∀ t ∈ ts, isText t = true) ∧ (0 < n → k + n ≤ lines.length)
  | 0, k, ts, h => by cases h; exact ⟨rfl, rfl, by simp, by omega⟩
  | n + 1, k, ts, h => by
    unfold readTexts at h
    split at h
    · rename_i c
      unfold textAt at c
      simp only [Bool.and_eq_true, decide_eq_true_eq] at c
      obtain ⟨c1, c2, c3⟩ := c
      cases e : readTexts lines (k + 1) n with
      | error j => rw [e] at h; cases h
      | ok us =>
        rw [e] at h; cases h
        obtain ⟨i1, i2, i3, i4⟩ := readTexts_ok e
        refine ⟨by rw [List.length_cons, i1], ?_, fun t ht => ?_, fun _ => ?_⟩
        · rw [getL c1, i2, List.map_cons, List.cons_append]
          have := hasPre_eq c2
          rw [show k + 1 + n = k + (n + 1) from by omega]
          congr 1
          exact this.symm
        · rcases List.mem_cons.mp ht with rfl | h
          · exact c3
          · exact i3 t h
        · rcases Nat.eq_zero_or_pos n with z | z
          · omega
          · have := i4 z; omega
    · cases h
theorem text40 {t : Str} (h : isText t = true) : t.length ≤ 40 := by
  unfold isText at h
  simp only [Bool.and_eq_true, decide_eq_true_eq] at h
  exact h.1
theorem join_sp (x : Str) : Txt.join " " (Txt.split x " ") = x := join_split x 32
theorem readChange_ok {lines : List Str} {k e : Nat} {c : Cg} (hk : k < lines.length) (h : readChange lines k = .ok (c, e)) : CgOk c ∧ lines.drop k = showCg c ++ lines.drop e ∧ k < e ∧ e ≤ lines.length := by
  unfold readChange at h
  cases hp : parse (Txt.split (lines.getD k "") " ") with
  | none => rw [hp] at h; cases h
  | some c0 =>
    rw [hp] at h
    dsimp only at h
    cases ht : readTexts lines (k + 1) c0.cnt with
    | error j => rw [ht] at h; cases h
    | ok ts =>
      rw [ht] at h; cases h
      obtain ⟨p1, p2, p3, p4⟩ := parse_line hp
      obtain ⟨t1, t2, t3, t4⟩ := readTexts_ok ht
      refine ⟨⟨p2, t1, fun t h => text40 (t3 t h)⟩, ?_, by omega, ?_⟩
      · rw [getL hk, t2]
        show _ = (lineOf c0 :: ts.map fun t => "|" ++ t) ++ _
        rw [List.cons_append, p1, join_sp]
      · rcases Nat.eq_zero_or_pos c0.cnt with z | z
        · omega
        · exact t4 z
theorem readCs_ok {lines : List Str} : ∀ {m k e : Nat} {b : Bool} {cs : List Cg}, readCs lines m k b = .ok (cs, e) → lines.drop k = cs.flatMap showCg ++ [("end" : Str)] ++ lines.drop e ∧ cs.length ≤ m ∧ (∀ c ∈ cs, CgOk c) ∧ k < e ∧ e ≤ lines.length := by
  intro m
  induction m with
  | zero =>
    intro k e b cs h
    unfold readCs at h
    split at h
    · cases h
    · rename_i c1
      split at h
      · rename_i c2
        cases h
        refine ⟨?_, Nat.le_refl _, by simp, by omega, by omega⟩
        rw [getL (by omega), c2.1]; rfl
      · cases h
  | succ m ih =>
    intro k e b cs h
    unfold readCs at h
    split at h
    · cases h
    · rename_i c1
      split at h
      · rename_i c2
        cases h
        refine ⟨?_, Nat.zero_le _, by simp, by omega, by omega⟩
        rw [getL (by omega), c2.1]; rfl
      · dsimp only at h
        cases hc : readChange lines k with
        | error j => rw [hc] at h; cases h
        | ok p =>
          obtain ⟨c, k'⟩ := p
          rw [hc] at h
          dsimp only at h
          cases hr : readCs lines m k' true with
          | error j => rw [hr] at h; cases h
          | ok q =>
            obtain ⟨cs', e'⟩ := q
            rw [hr] at h; cases h
            obtain ⟨a1, a2, a3, a4⟩ := readChange_ok (by omega) hc
            obtain ⟨b1, b2, b3, b4, b5⟩ := ih hr
            refine ⟨?_, by rw [List.length_cons]; omega, fun c' h => ?_, by omega, b5⟩
            · rw [a2, b1, List.flatMap_cons]
              simp only [List.append_assoc]
            · rcases List.mem_cons.mp h with rfl | h
              · exact a1
              · exact b3 c' h
theorem readHead_ok {lines : List Str} {k : Nat} {i : Idn} {t : Str} (h : readHead lines k = .ok (i, t)) : IdOk i ∧ t.length ≤ 40 ∧ lines.drop k = ("patch " ++ showIdn i) :: ("note " ++ t) :: lines.drop (k + 2) ∧ k + 1 < lines.length := by
  unfold readHead at h
  split at h
  · rename_i c1
    unfold headAt at c1
    simp only [Bool.and_eq_true, decide_eq_true_eq] at c1
    cases hi : readIdn (suf (lines.getD k "") 6) with
    | none => rw [hi] at h; cases h
    | some j =>
      rw [hi] at h
      dsimp only at h
      split at h
      · rename_i c2
        unfold noteAt at c2
        simp only [Bool.and_eq_true, decide_eq_true_eq] at c2
        split at h
        · rename_i c3
          cases h
          refine ⟨id_ok hi, text40 c3, ?_, c2.1⟩
          rw [getL c1.1, getL c2.1]
          have e1 := hasPre_eq c1.2
          have e2 := hasPre_eq c2.2
          rw [show (("patch " : Str)).length = 6 from rfl] at e1
          rw [show (("note " : Str)).length = 5 from rfl] at e2
          rw [show showIdn i = suf (lines.getD k "") 6 from show_idn hi, e1, e2]
        · cases h
      · cases h
  · cases h
theorem readFrom_ok {lines : List Str} {k e : Nat} {p : Pt} (h : readFrom lines k = .ok (p, e)) : PtOk p ∧ lines.drop k = showPt p ++ lines.drop e ∧ k < e ∧ e ≤ lines.length := by
  unfold readFrom at h
  cases hh : readHead lines k with
  | error j => rw [hh] at h; cases h
  | ok q =>
    obtain ⟨i, t⟩ := q
    rw [hh] at h
    dsimp only at h
    cases hr : readCs lines 12 (k + 2) false with
    | error j => rw [hr] at h; cases h
    | ok q =>
      obtain ⟨cs, e'⟩ := q
      rw [hr] at h; cases h
      obtain ⟨a1, a2, a3, a4⟩ := readHead_ok hh
      obtain ⟨b1, b2, b3, b4, b5⟩ := readCs_ok hr
      refine ⟨⟨a1, b2, b3, a2⟩, ?_, by omega, b5⟩
      rw [a3, b1]
      rfl
theorem readAll_ok {lines : List Str} : ∀ {f k : Nat} {ps : List Pt}, lines.length - k ≤ f → readAll lines f k = .ok ps → ps.flatMap showPt = lines.drop k ∧ ∀ p ∈ ps, PtOk p
  | 0, k, ps, hf, h => by cases h; rw [List.drop_of_length_le (by omega)]; exact ⟨rfl, by simp⟩
  | f + 1, k, ps, hf, h => by
    unfold readAll at h
    split at h
    · rename_i c
      cases hr : readFrom lines k with
      | error j => rw [hr] at h; cases h
      | ok q =>
        obtain ⟨p, e⟩ := q
        rw [hr] at h
        dsimp only at h
        cases ha : readAll lines f e with
        | error j => rw [ha] at h; cases h
        | ok qs =>
          rw [ha] at h; cases h
          obtain ⟨a1, a2, a3, a4⟩ := readFrom_ok hr
          obtain ⟨b1, b2⟩ := readAll_ok (by omega) ha
          refine ⟨by rw [List.flatMap_cons, b1, a2], fun p' h => ?_⟩
          rcases List.mem_cons.mp h with rfl | h
          · exact a1
          · exact b2 p' h
    · cases h
      rw [List.drop_of_length_le (by omega)]; exact ⟨rfl, by simp⟩
end QL
namespace QL
open PySem PySem.Spec PyProof.Rows L2
/-! ### tests and numbers that look at the list in hand -/
section
variable {X : Cx} {C : Cs} {I0 H0 : Hp} {G : List Sl} {L : Lo} {D : Ends} {rest a b body : List Stmt} {e c : Expr} {pos : Pos} {P : Sl → Prop} {p : Addr} {ds : List PyData} {i : Nat}
/-- the list in hand as data, for the time of one evaluation -/
theorem frz_pre {σ : L2.St} {H : Hp} (hG : G[i]? = some (.v (.ref p))) (he : Here C I0 H0 G (some (p, ds)) σ H) : ∃ I xs, EnvOk σ G I ∧ Ext C I0 H0 I H ∧ StOk C I H ∧ LOk C H0 I H (some (p, ds)) ∧ EnvOk σ (G.set i (.d (.list ds))) (upd I p (.lst xs)) ∧ Same (upd I p (.lst xs)) H ∧ StOk C (upd I p (.lst xs)) H ∧
    (∀ I' H', Ext C (upd I p (.lst xs)) H I' H' → StOk C I' H' → Here C I0 H0 G (some (p, ds)) σ H' ∧ Ext C I H I H' ∧ StOk C I H' ∧ LOk C H0 I H' (some (p, ds))) := by
  obtain ⟨I, he, hx, hc, n0, nI, nd, xs, hl, hd⟩ := he
  have ss : Same I (upd I p (.lst xs)) := fun a o z => by rw [upd_ne (ne_of_none z nI)]; exact z
  have hs2 : Same (upd I p (.lst xs)) H := fun a o z => by
    by_cases ea : a = p
    · subst ea; rw [upd_same] at z; cases z; exact hl
    · rw [upd_ne ea] at z; exact hx.sub a o z
  refine ⟨I, xs, he, hx, hc, ⟨n0, nI, nd, xs, hl, hd⟩, ⟨by simpa using he.1, fun j r g => ?_⟩, hs2, ?_, fun I' H' x c => ?_⟩
  · by_cases ej : i = j
    · subst ej
      have hi : i < G.length := (List.getElem?_eq_some_iff.mp hG).1
      rw [List.getElem?_set_self hi] at g
      cases g
      obtain ⟨v, h1, h2⟩ := he.get hG (fun z => by cases z)
      have h2' : v = .ref p := h2
      subst h2'
      exact .inr ⟨_, h1, .lst upd_same (hd.mono ss)⟩
    · rw [List.getElem?_set_ne ej] at g
      rcases he.2 j r g with z | ⟨v, h1, h2⟩
      · exact .inl z
      · exact .inr ⟨v, h1, h2.mono ss⟩
  · cases C with
    | none => trivial
    | some sc =>
      obtain ⟨s, c⟩ := sc
      obtain ⟨hne, h1, h2, z, ns, h3, h4, h5⟩ := hc
      refine ⟨hne, ?_, ?_, z, ns, h3, h4, h5⟩
      · rw [upd_ne (fun e => nd (.inl e.symm))]; exact h1
      · rw [upd_ne (fun e => nd (.inr e.symm))]; exact h2
  · have x1 : Ext C I H I H' := ⟨Same.refl I, fun a o z => x.sub a o (x.im a o (ss a o z)), x.keep, x.there, fun a z => .inl z⟩
    have c1 : StOk C I H' := by
      cases C with
      | none => trivial
      | some sc =>
        obtain ⟨s, c'⟩ := sc
        obtain ⟨hne, h1, h2, _⟩ := hc
        obtain ⟨_, _, _, z, ns, h3, h4, h5⟩ := c
        exact ⟨hne, h1, h2, z, ns, h3, h4, h5⟩
    have l1 : LOk C H0 I H' (some (p, ds)) := ⟨n0, nI, nd, xs, x.keep _ _ nd hl, hd⟩
    exact ⟨⟨I, he, hx.trans x1, c1, l1⟩, x1, c1, l1⟩
theorem evt_hereL {Pt : Bool → Prop} (hG : G[i]? = some (.v (.ref p))) (h : EvT X C e (G.set i (.d (.list ds))) Pt) {σ : L2.St} {H : Hp} {Q : Bool → Hp → Prop} (he : Here C I0 H0 G (some (p, ds)) σ H) (q : ∀ k H', Pt k → Here C I0 H0 G (some (p, ds)) σ H' → Q k H') : wpT X e σ H Q := by
  obtain ⟨I, xs, h1, h2, h3, h4, h5, h6, h7, k⟩ := frz_pre hG he
  exact h σ _ H Q h5 h6 h7 fun b I' H' pb x c => q b H' pb (k I' H' x c).1
/-- name = e, e a number or a text that the list in hand gives -/
def Flat (P : Sl → Prop) : Prop := ∀ r, P r → ∃ d v, r = .d d ∧ flat d = some v
theorem ok_flat {d : PyData} {v u : V} {I I' : Hp} (f : flat d = some v) (h : Dq I u d) : Dq I' u d := by
  have e := flat_ok f h
  subst e
  cases d <;> simp [flat] at f <;> subst f <;> constructor
theorem bd_setL {i j : Nat} {x : Str} {px : Pos} (hG : G[j]? = some (.v (.ref p))) (h : Ev X C e (G.set j (.d (.list ds))) P) (hf : Flat P) (k : ∀ r, P r → Bd X C I0 H0 rest (G.set i r) (some (p, ds)) D) (hi : X.N[i]? = some x := by rfl) (hx : Loc X.env.scope x := by first | exact .inl rfl | exact .inr rfl)
    (hN : X.N.Nodup := by assumption) (hs : swapsWith e (some (.Name x px)) pos.line X.env = pure false := by rfl) (hfn : X.fn x = true ∨ X.env.scope.names.lookup x = some .local := by first | exact .inl rfl | exact .inr rfl) : Bd X C I0 H0 (.Assign [.Name x px] e pos :: rest) G (some (p, ds)) D := fun σ H he => by
  obtain ⟨I, xs, h1, h2, h3, h4, h5, h6, h7, kk⟩ := frz_pre hG he
  refine of_pss (pss_cons (ps_set hN hi hx pe_wp hs hfn) (pss_wp (st := rest))) (h σ _ H _ h5 h6 h7 fun v I' H' r pr x c o => ?_)
  obtain ⟨_, x1, c1, l1⟩ := kk I' H' x c
  obtain ⟨d, u, rfl, f⟩ := hf r pr
  exact k _ pr (σ.set i (some v)) H' ⟨I, h1.set i (ok_flat f o), h2.trans x1, c1, l1⟩
theorem bd_ifL {Pt : Bool → Prop} (hG : G[i]? = some (.v (.ref p))) (hc : EvT X C c (G.set i (.d (.list ds))) Pt) (h1 : Pt true → Bd X C I0 H0 a G (some (p, ds)) { D with nx := wpS X rest D }) (h2 : Pt false → Bd X C I0 H0 b G (some (p, ds)) { D with nx := wpS X rest D }) : Bd X C I0 H0 (.If c a b pos :: rest) G (some (p, ds)) D := fun σ H he =>
  of_pss (pss_cons (ps_if pt_wp (pss_wp (st := a)) (pss_wp (st := b))) (pss_wp (st := rest))) (evt_hereL hG hc he fun k H' p he' => by
    cases k with
    | true => exact iteT (h1 p σ H' he')
    | false => exact iteF (h2 p σ H' he'))
theorem bd_whenL {k : Bool} (hG : G[i]? = some (.v (.ref p))) (hc : DT X c (G.set i (.d (.list ds))) k) (h1 : k = true → Bd X C I0 H0 a G (some (p, ds)) { D with nx := wpS X rest D }) (h2 : k = false → Bd X C I0 H0 rest G (some (p, ds)) D) : Bd X C I0 H0 (.If c a [] pos :: rest) G (some (p, ds)) D :=
  bd_ifL hG (hc C) (fun z => h1 z.symm) fun z => bd_end (h2 z.symm)
/-- for over determined items -/
theorem bd_forD {tg iter : Expr} {j : Nat} {ds0 : List PyData} (hp : PassesOwn (model X.prog X.w) X.A X.env X.xe) (hi : DI X tg iter G ds0) (hg : PG X tg (gName j)) (W : Nat → List Sl → Lo → Prop) (h0 : W 0 G L)
    (hs : ∀ I1, Bs I0 H0 I1 → ∀ i d G' L', ds0[i]? = some d → W i G' L' → ∀ bk, Bd X C I1 H0 body (G'.set j (.d d)) L' { D with nx := Thn C I1 H0 (W (i + 1)), ct := Thn C I1 H0 (W (i + 1)), bk := bk })
    (hd : ∀ I1, Bs I0 H0 I1 → ∀ G' L', W ds0.length G' L' → Bd X C I1 H0 rest G' L' D) (hc : X.calm = true := by rfl) (hfs : ∀ x, foldedSetIterable iter X.env x = pure x := by intro _; rfl) : Bd X C I0 H0 (.For tg iter body [] pos :: rest) G L D :=
  bd_for hp hc (hi C) hg (fun _ => W) (fun ds e => h0) (fun I1 b ds i d G' L' e hd hW bk => hs I1 b i d G' L' (by rw [← e]; exact hd) hW bk) (fun I1 b ds G' L' e hW => hd I1 b G' L' (by rw [← e]; exact hW)) hfs
end
/-! ### sizes -/
def LinesOk (ls : List Str) : Prop := ls.length ≤ 100000 ∧ ∀ l ∈ ls, l.length ≤ 500000
theorem LinesOk.at {ls : List Str} (h : LinesOk ls) (k : Nat) : (ls.getD k "").length ≤ 500000 := getW h.2 k
abbrev lsD (ls : List Str) : PyData := .list (ls.map .str)
section
variable {P : Program} {w : World} {K : PySem.W.Frag} {mg : Str → Option Value} {base : Heap} {f : Addr} {fd : FuncData} {CW : Addr}
/-! ### show_patch, show_patches -/
def F_show_patch : Spc := fun _ rs P => ∃ p : Pt, rs = [.d p.d] ∧ PtOk p ∧ ∀ r, r = .d (.list ((showPt p).map .str)) → P r
theorem flat_take {α β : Type} (g : α → List β) {cs : List α} {i : Nat} {c : α} (h : cs[i]? = some c) : (cs.take (i + 1)).flatMap g = (cs.take i).flatMap g ++ g c := by
  rw [List.take_add_one, h, List.flatMap_append]; simp
theorem flat_len {α β : Type} (g : α → List β) {n : Nat} : ∀ {cs : List α}, (∀ c ∈ cs, (g c).length ≤ n) → (cs.flatMap g).length ≤ cs.length * n
  | [], _ => by simp
  | c :: cs, h => by
    rw [List.flatMap_cons, List.length_append, List.length_cons, Nat.succ_mul]
    have := flat_len g (cs := cs) fun c hc => h c (List.mem_cons_of_mem _ hc)
    have := h c List.mem_cons_self
    omega
theorem cg_len {c : Cg} (h : CgOk c) : (showCg c).length ≤ 201 := by
  unfold showCg
  rw [List.length_cons, List.length_map, h.2.1]
  have h0 := h.1
  cases e : c.c <;> rw [e] at h0 <;> first | (show 0 + 1 ≤ 201; decide) | (have h1 := h0.2.2.2; exact Nat.succ_le_succ h1)
theorem map_flat {α : Type} (g : α → List Str) (l : List α) (h : List Str) : (h ++ l.flatMap g).map PyData.str = h.map .str ++ (l.flatMap g).map .str := List.map_append
theorem ok_show_patch (B : Bt mg) (T : Ct mg) (g_show_id : Ok P w K mg base 2 "show_id" ["name"] F_show_id) (g_show_change : Ok P w K mg base 5 "show_change" ["change"] F_show_change) (D : Df K mg "show_patch" s_show_patch ["patch"] f fd) : Ok P w K mg base 6 "show_patch" ["patch"] F_show_patch := by
  refine D.ok (fok D.1 c_show_patch (fun C rs R h => by obtain ⟨t, rfl, _⟩ := h; rfl) ?_)
  rintro X ⟨cdv, A, outer, s, H, E, rfl, hr⟩ C I0 H0 rs R D ⟨pt, rfl, hz, hP⟩ hq
  have nd := c_show_patch.nd
  obtain ⟨z1, z2, z3, z4⟩ := hz
  have zi := len_showIdn z1
  have dP : pt.d = .tuple [.str "patch", pt.id.d, .list (pt.cs.map Cg.d), .str pt.note] := rfl
  rw [dP]
  refine bd_setN (i := 1) ((dn_lst (ds := [.str ("patch " ++ showIdn pt.id), .str ("note " ++ pt.note)]) (da_cons (de_addS de_str (de_fn g_show_id (hr.mono (by decide)) (da_cons (de_ixT (ds := [.str "patch", pt.id.d, .list (pt.cs.map Cg.d), .str pt.note]) (de_var (i := 0) rfl (pv 0)) de_int (at3 (i := 1) rfl)) da_nil) (fun C => ⟨pt.id, rfl, z1, fun r e => e⟩)) (sz (by show 6 + _ ≤ _; omega))) (da_cons (de_addS de_str (de_ixT (ds := [.str "patch", pt.id.d, .list (pt.cs.map Cg.d), .str pt.note]) (de_var (i := 0) rfl (pv 0)) de_int (at3 (i := 3) rfl)) (sz (by show 5 + _ ≤ _; omega))) da_nil))) C) fun p ds e => ?_
  subst e
  refine bd_forD (j := 2) PassesOwn.never (di_list (de_ixT (ds := [.str "patch", pt.id.d, .list (pt.cs.map Cg.d), .str pt.note]) (de_var (i := 0) rfl (pv 0)) de_int (at3 (i := 2) rfl))) (pg_name (i := 2) nd rfl (Or.inl rfl))
    (fun i G' L' => ∃ r, G' = [.d (.tuple [.str "patch", pt.id.d, .list (pt.cs.map Cg.d), .str pt.note]), .v (.ref p), r] ∧ L' = some (p, (("patch " ++ showIdn pt.id) :: ("note " ++ pt.note) :: (pt.cs.take i).flatMap showCg).map PyData.str)) ?_ ?_ ?_
  · exact ⟨.no, rfl, rfl⟩
  · rintro I1 bs i d G' L' hd ⟨r, rfl, rfl⟩ bk
    obtain ⟨c, hc, rfl⟩ := getq_map hd
    have cok := z3 c (List.mem_of_getElem? hc)
    have l1 := cg_len cok
    have hi := (List.getElem?_eq_some_iff.mp hc).1
    have l2 : ((pt.cs.take i).flatMap showCg).length ≤ (pt.cs.take i).length * 201 := flat_len showCg fun c hc => cg_len (z3 c (List.mem_of_mem_take hc))
    rw [List.length_take] at l2
    refine bd_extDD (i := 1) (pv 1) rfl (de_fn g_show_change (hr.mono (by decide)) (da_cons (de_var (i := 2) rfl (pv 2)) da_nil) (fun C => ⟨c, rfl, cok, fun r e => e⟩)) (sz (by simp only [List.length_map, List.length_cons]; omega)) ?_
    refine bd_nil fun _ _ h => ⟨_, _, ?_, h⟩
    refine ⟨_, rfl, ?_⟩
    rw [flat_take showCg hc, ← List.map_append]
    rfl
  · rintro I1 bs G' L' ⟨r, rfl, rfl⟩
    rw [List.length_map, List.take_length]
    have l2 : (pt.cs.flatMap showCg).length ≤ pt.cs.length * 201 := flat_len showCg fun c hc => cg_len (z3 c hc)
    refine bd_frz (i := 1) rfl ?_
    refine bd_retD (de_frz (dn_cat (de_var (i := 1) rfl (pv 1)) (de_frz (dn_lst (ds := [_]) (da_cons de_str da_nil))) (sz (by simp only [List.length_map, List.length_cons, List.length_nil]; omega)))) (hP _ ?_) (hq.bs bs)
    congr 2
    unfold showPt
    simp only [List.map_cons, List.map_append, List.cons_append]
    rfl
def F_show_patches : Spc := fun _ rs P => ∃ ps : List Pt, rs = [.d (.list (ps.map Pt.d))] ∧ (∀ p ∈ ps, PtOk p) ∧ (ps.flatMap showPt).length ≤ 1000000 ∧ ∀ r, r = .d (.list ((ps.flatMap showPt).map .str)) → P r
theorem ok_show_patches (B : Bt mg) (T : Ct mg) (g_show_patch : Ok P w K mg base 6 "show_patch" ["patch"] F_show_patch) (D : Df K mg "show_patches" s_show_patches ["patches"] f fd) : Ok P w K mg base 7 "show_patches" ["patches"] F_show_patches := by
  refine D.ok (fok D.1 c_show_patches (fun C rs R h => by obtain ⟨t, rfl, _⟩ := h; rfl) ?_)
  rintro X ⟨cdv, A, outer, s, H, E, rfl, hr⟩ C I0 H0 rs R D ⟨ps, rfl, hz, hn, hP⟩ hq
  have nd := c_show_patches.nd
  refine bd_setN (i := 1) ((dn_lst (ds := []) da_nil) C) fun p ds e => ?_
  subst e
  refine bd_forD (j := 2) PassesOwn.never (di_list (de_var (i := 0) rfl (pv 0))) (pg_name (i := 2) nd rfl (Or.inl rfl))
    (fun i G' L' => ∃ r, G' = [.d (.list (ps.map Pt.d)), .v (.ref p), r] ∧ L' = some (p, ((ps.take i).flatMap showPt).map PyData.str)) ?_ ?_ ?_
  · exact ⟨.no, rfl, rfl⟩
  · rintro I1 bs i d G' L' hd ⟨r, rfl, rfl⟩ bk
    obtain ⟨c, hc, rfl⟩ := getq_map hd
    have cok := hz c (List.mem_of_getElem? hc)
    have l2 : ((ps.take (i + 1)).flatMap showPt).length ≤ (ps.flatMap showPt).length := by
      conv => rhs; rw [← List.take_append_drop (i + 1) ps, List.flatMap_append, List.length_append]
      omega
    rw [flat_take showPt hc, List.length_append] at l2
    refine bd_extDD (i := 1) (pv 1) rfl (de_fn g_show_patch (hr.mono (by decide)) (da_cons (de_var (i := 2) rfl (pv 2)) da_nil) (fun C => ⟨c, rfl, cok, fun r e => e⟩)) (sz (by simp only [List.length_map]; omega)) ?_
    refine bd_nil fun _ _ h => ⟨_, _, ?_, h⟩
    refine ⟨_, rfl, ?_⟩
    rw [flat_take showPt hc, ← List.map_append]
  · rintro I1 bs G' L' ⟨r, rfl, rfl⟩
    rw [List.length_map, List.take_length]
    refine bd_frz (i := 1) rfl ?_
    exact bd_retD (de_var (i := 1) rfl (pv 1)) (hP _ rfl) (hq.bs bs)
/-! ### read_texts -/
def F_read_texts : Spx := fun _ rs P R => ∃ (ls : List Str) (k n : Nat), rs = [.d (lsD ls), .d (.int (k : Int)), .d (.int (n : Int))] ∧ LinesOk ls ∧ k ≤ 1000000 ∧ n ≤ 1000 ∧ (∀ ts, readTexts ls k n = .ok ts → P (.d (lsD ts))) ∧ ∀ e : Nat, readTexts ls k n = .error e → R (e : Int)
theorem textAt_is (ls : List Str) (k : Nat) : (decide ((ls.length : Int) ≤ (k : Int)) || ((!decide (cutS (ls.getD k "") none (some ((1 : Nat) : Int)) = "|")) || !isText (cutS (ls.getD k "") (some ((1 : Nat) : Int)) none))) = !textAt ls k := by
  rw [nat_le, cut_pre, cut_suf]
  unfold textAt hasPre
  rw [show (("|" : Str)).length = 1 from rfl]
  by_cases h : k < ls.length
  · rw [decide_eq_true h, decide_eq_false (by omega)]
    simp
  · rw [decide_eq_false h, decide_eq_true (by omega)]
    simp
theorem ok_read_texts (B : Bt mg) (T : Ct mg) (hw : We P w K mg base CW) (g_is_text : Ok P w K mg base 1 "is_text" ["text"] F_is_text) (D : Df K mg "read_texts" s_read_texts ["lines", "at", "count"] f fd) : OkX P w K mg base CW 3 "read_texts" ["lines", "at", "count"] F_read_texts := by
  refine D.okX (fokX D.1 c_read_texts (fun C rs R Rx h => by obtain ⟨_, _, _, rfl, _⟩ := h; rfl) ?_)
  rintro X ⟨cdv, A, outer, s, H, E, rfl, hr⟩ W tk po C I0 H0 rs R Rx D ⟨ls, k, n, rfl, hls, hk, hn, hP, hR⟩ hq hx
  have nd := c_read_texts.nd
  refine bd_setN (i := 3) ((dn_lst (ds := []) da_nil) C) fun p ds e => ?_
  subst e
  refine bd_forD (j := 4) po (di_rng2 (de_var (i := 1) rfl (pv 1)) (de_addI (de_var (i := 1) rfl (pv 1)) (de_var (i := 2) rfl (pv 2))) B.range (by omega) (by omega)) (pg_name (i := 4) nd rfl (Or.inl rfl))
    (fun i G' L' => ∃ r ts, G' = [.d (lsD ls), .d (.int (k : Int)), .d (.int (n : Int)), .v (.ref p), r] ∧ L' = some (p, ts.map PyData.str) ∧ ts.length = i ∧ readTexts ls k n = (match readTexts ls (k + i) (n - i) with | .ok us => .ok (ts ++ us) | .error e => .error e)) ?_ ?_ ?_
  · refine ⟨.no, [], rfl, rfl, rfl, ?_⟩
    show readTexts ls k n = (match readTexts ls k n with | .ok us => .ok us | .error e => .error e)
    cases readTexts ls k n <;> rfl
  · rintro I1 bs i d G' L' hd ⟨r, ts, rfl, rfl, hl, hm⟩ bk
    obtain ⟨j, hj, rfl⟩ := getq_map hd
    obtain ⟨hj1, hj2⟩ := List.getElem?_eq_some_iff.mp hj
    rw [List.getElem_range] at hj2
    subst hj2
    rw [List.length_range] at hj1
    have hi : i < n := by omega
    have hL := hls.at (k + i)
    have e1 : readTexts ls (k + i) (n - i) = if textAt ls (k + i) = true then (match readTexts ls (k + (i + 1)) (n - (i + 1)) with | .ok ts => .ok (suf (ls.getD (k + i) "") 1 :: ts) | .error e => .error e) else .error (k + i) := by
      rw [show n - i = (n - (i + 1)) + 1 from by omega]
      rfl
    show Bd _ C I1 H0 _ [.d (lsD ls), .d (.int (k : Int)), .d (.int (n : Int)), .v (.ref p), .d (.int ((k + i : Nat) : Int))] _ _
    refine bd_whenD (DT.is (b' := !textAt ls (k + i)) (DW.t (dw_or (dt_geI (de_var (i := 4) rfl (pv 4)) (de_lenL (de_var (i := 0) rfl (pv 0)) rfl B.len)) fun h => (dw_or (dt_neS (de_slS (de_ixL (d := .str (ls.getD (k + i) "")) (de_var (i := 0) rfl (pv 0)) (de_var (i := 4) rfl (pv 4)) (atW _ (by have := of_decide_eq_false h; rw [List.length_map] at this; omega))) do_none (do_some de_int) (sz (by omega))) de_str) fun _ => (dw_one (dt_not (dt_val (de_fn g_is_text (hr.mono (by decide)) (da_cons (de_slS (de_ixL (d := .str (ls.getD (k + i) "")) (de_var (i := 0) rfl (pv 0)) (de_var (i := 4) rfl (pv 4)) (atW _ (by have := of_decide_eq_false h; rw [List.length_map] at this; omega))) (do_some de_int) do_none (sz (by omega))) da_nil) (fun C => ⟨cutS (ls.getD (k + i) "") (some ((1 : Nat) : Int)) none, rfl, (by rw [cut_suf]; have := len_suf (ls.getD (k + i) "") 1; omega), fun r e => e⟩)))))))) (by rw [List.length_map]; exact textAt_is ls (k + i))) (fun hb => ?_) (fun hb => ?_)
    · -- raise WrittenError(k)
      refine bd_raise hw hr tk (hx.bs bs) (de_var (i := 4) rfl (pv 4)) (hR (k + i) ?_)
      rw [hm, e1, if_neg (by rw [nt hb]; decide)]
    · have tb := nf hb
      rw [if_pos tb] at e1
      have tb' : k + i < ls.length := by
        unfold textAt at tb
        simp only [Bool.and_eq_true, decide_eq_true_eq] at tb
        exact tb.1
      refine bd_app (Pd := fun y => y = .str (suf (ls.getD (k + i) "") 1)) (i := 3) (pv 3) rfl (Ev.imp (DE.is (de_slS (de_ixL (d := .str (ls.getD (k + i) "")) (de_var (i := 0) rfl (pv 0)) (de_var (i := 4) rfl (pv 4)) (atW _ tb')) (do_some de_int) do_none (sz (by omega))) (d' := .str (suf (ls.getD (k + i) "") 1)) (congrArg PyData.str (cut_suf _ 1)) C) fun r e => ⟨_, e, rfl⟩) (Nat.lt_of_le_of_lt (by rw [List.length_map]; omega) (by decide : 1000 < sizeLine)) (fun y ey => ?_)
      subst ey
      refine bd_nil fun _ _ h => ⟨_, _, ?_, h⟩
      refine ⟨_, ts ++ [suf (ls.getD (k + i) "") 1], rfl, by rw [List.map_append]; rfl, by rw [List.length_append, hl]; rfl, ?_⟩
      rw [hm, e1]
      cases readTexts ls (k + (i + 1)) (n - (i + 1)) with
      | error e => rfl
      | ok us => simp
  · rintro I1 bs G' L' ⟨r, ts, rfl, rfl, hl, hm⟩
    rw [List.length_map, List.length_range] at hl hm
    have hl' : ts.length = n := by rw [hl]; omega
    refine bd_frz (i := 3) rfl ?_
    refine bd_retD (de_var (i := 3) rfl (pv 3)) (hP ts ?_) (hq.bs bs)
    rw [hm, show n - (((k : Int) + (n : Int)) - (k : Int)).toNat = 0 from by omega]
    show Except.ok (ts ++ []) = _
    rw [List.append_nil]
end
end QL
namespace QL
open PySem PySem.Spec PyProof.Rows L2
section
variable {X : Cx} {a b : Expr} {G : List Sl} {pos p : Pos} {k n j : Nat}
theorem de_addN (ha : DE X a G (.int (k : Int))) (hb : DE X b G (.int (n : Int))) : DE X (.BinOp a .Add b pos) G (.int ((k + n : Nat) : Int)) := de_addI ha hb
theorem de_add1 (ha : DE X a G (.int (k : Int))) : DE X (.BinOp a .Add (.Constant (.int 1) j p) pos) G (.int ((k + 1 : Nat) : Int)) := de_addI ha de_int
theorem de_add2 (ha : DE X a G (.int (k : Int))) : DE X (.BinOp a .Add (.Constant (.int 2) j p) pos) G (.int ((k + 2 : Nat) : Int)) := de_addI ha de_int
end
/-! ### the items of a change may be laid -/
theorem lay_opt {α : Type} (f : α → PyData) (o : Option α) (h : ∀ a, o = some a → (f a).canLay0 = true ∧ (f a).depth ≤ 8) : (optD f o).canLay0 = true ∧ (optD f o).depth ≤ 8 := by
  cases o with
  | none => exact ⟨rfl, Nat.zero_le _⟩
  | some a => exact h a rfl
theorem part_str {p : Str} (h : partOk p = true) : PyData.strOk p = true := by
  unfold partOk at h
  simp only [Bool.and_eq_true] at h
  refine ok_chars fun c hc => ?_
  have h2 := h.2
  unfold onlyHas at h2
  rw [List.all_eq_true] at h2
  have := of_decide_eq_true (h2 c hc)
  rcases List.mem_append.mp this with z | z
  · have := mem_LOW.mp z; omega
  · have := mem_DIG.mp z; omega
theorem lay_path {p : List Str} (h : isPath p = true) : (pathD p).canLay0 = true ∧ (pathD p).depth ≤ 8 := by
  unfold isPath at h
  simp only [Bool.and_eq_true, List.all_eq_true] at h
  have := lay_tup (ds := p.map PyData.str) (n := 0) fun d hd => by
    obtain ⟨x, hx, rfl⟩ := List.mem_map.mp hd
    exact ⟨part_str (h.2 x hx), Nat.zero_le _⟩
  exact ⟨this.1, Nat.le_trans this.2 (by decide)⟩
theorem lay_vx' {v : Vx} (h : VxOk v) : v.d.canLay0 = true ∧ v.d.depth ≤ 8 := ⟨(lay_vx h.1.2.1).1, by rw [(lay_vx h.1.2.1).2]; decide⟩
theorem lay_vxs {vs : List Vx} (h : ∀ v ∈ vs, VxOk v) : (vxsD vs).canLay0 = true ∧ (vxsD vs).depth ≤ 8 := by
  have := lay_list (ds := vs.map Vx.d) (n := 4) fun d hd => by
    obtain ⟨x, hx, rfl⟩ := List.mem_map.mp hd
    exact ⟨(lay_vx' (h x hx)).1, by rw [dep_vx]; exact Nat.le_refl _⟩
  exact ⟨this.1, Nat.le_trans this.2 (by decide)⟩
theorem lo_vx (t : Str) : (optD Vx.d (readVx t)).canLay0 = true ∧ (optD Vx.d (readVx t)).depth ≤ 8 := lay_opt _ _ fun a h => lay_vx' (readVx_ok h)
theorem lo_vxs (t : Str) (m : Nat) : (optD vxsD (readVxs t m)).canLay0 = true ∧ (optD vxsD (readVxs t m)).depth ≤ 8 := lay_opt _ _ fun a h => lay_vxs (readVxs_some h).2.2
theorem lo_path (t : Str) : (optD pathD (readPath t)).canLay0 = true ∧ (optD pathD (readPath t)).depth ≤ 8 := lay_opt _ _ fun a h => lay_path (readPath_ok h)
theorem lo_id (t : Str) : (optD Idn.d (readIdn t)).canLay0 = true ∧ (optD Idn.d (readIdn t)).depth ≤ 8 := lay_opt _ _ fun a h => ⟨(lay_idn (id_ok h).2.1).1, by rw [(lay_idn (id_ok h).2.1).2]; decide⟩
theorem lo_num (t : Str) (a b : Int) : (optD inat (readNum t a b)).canLay0 = true ∧ (optD inat (readNum t a b)).depth ≤ 8 := lay_opt _ _ fun a h => ⟨rfl, Nat.zero_le _⟩
theorem parts_lay {ws : List Str} {k : Str} {l : List PyData} (h : parts ws = some (k, l)) : SeqAt.shaped (.tuple (.str k :: l)) = true := by
  have key : PyData.strOk k = true ∧ ∀ d ∈ l, d.canLay0 = true ∧ d.depth ≤ 8 := by
    unfold parts at h
    repeat' split at h
    all_goals first
      | cases h; done
      | (simp only [Option.some.injEq, Prod.mk.injEq] at h
         obtain ⟨rfl, rfl⟩ := h
         refine ⟨by decide +kernel, ?_⟩
         simp only [List.mem_cons, List.not_mem_nil, or_false, forall_eq_or_imp, forall_eq]
         simp only [lo_vx, lo_vxs, lo_path, lo_id, lo_num, and_self])
  have := lay_tup (ds := .str k :: l) (n := 8) fun d hd => by
    rcases List.mem_cons.mp hd with rfl | hd
    · exact ⟨key.1, Nat.zero_le _⟩
    · exact key.2 d hd
  exact shaped_of this.1 (Nat.le_trans this.2 (by decide))
section
variable {P : Program} {w : World} {K : PySem.W.Frag} {mg : Str → Option Value} {base : Heap} {f : Addr} {fd : FuncData} {CW : Addr}
/-! ### read_change -/
def F_read_change : Spx := fun _ rs P R => ∃ (ls : List Str) (k : Nat), rs = [.d (lsD ls), .d (.int (k : Int))] ∧ LinesOk ls ∧ k < ls.length ∧ (∀ c e, readChange ls k = .ok (c, e) → P (.d (.tuple [c.d, .int (e : Int)]))) ∧ ∀ e : Nat, readChange ls k = .error e → R (e : Int)
theorem ok_read_change (B : Bt mg) (T : Ct mg) (hw : We P w K mg base CW) (g_read_parts : Ok P w K mg base 7 "read_parts" ["words"] F_read_parts) (g_read_texts : OkX P w K mg base CW 3 "read_texts" ["lines", "at", "count"] F_read_texts) (D : Df K mg "read_change" s_read_change ["lines", "at"] f fd) : OkX P w K mg base CW 8 "read_change" ["lines", "at"] F_read_change := by
  refine D.okX (fokX D.1 c_read_change (fun C rs R Rx h => by obtain ⟨_, _, rfl, _⟩ := h; rfl) ?_)
  rintro X ⟨cdv, A, outer, s, H, E, rfl, hr⟩ W tk po C I0 H0 rs R Rx D ⟨ls, k, rfl, hls, hk, hP, hR⟩ hq hx
  have nd := c_read_change.nd
  have hL := hls.at k
  unfold readChange at hP hR
  have hwl : ∀ x ∈ Txt.split (ls.getD k "") " ", x.length ≤ 600000 := fun x hx => by have := split_len (s := 32) hx; omega
  have hw0 : 0 < (Txt.split (ls.getD k "") " ").length := List.length_pos_iff.mpr (split_ne _ 32)
  refine bd_setD (i := 2) (d := partsD (Txt.split (ls.getD k "") " ")) (de_fn g_read_parts (hr.mono (by decide)) (da_cons (de_frz (dn_split (x := ls.getD k "") (de_ixL (de_var (i := 0) rfl (pv 0)) (de_var (i := 1) rfl (pv 1)) (atW k hk)) de_str rfl (sz (by omega)))) da_nil) (fun C => ⟨_, rfl, hw0, hwl, fun r e => e⟩)) ?_
  generalize hws : Txt.split (ls.getD k "") " " = ws at *
  have pp := parts_parse ws
  unfold partsD
  cases hp : parts ws with
  | none =>
    rw [hp] at pp
    have pp' : parse ws = none := pp
    rw [pp'] at hR
    refine bd_take (DT.is (b' := true) (DW.t (dw_or (j := false) (dt_isN (de_var (i := 2) rfl (pv 2))) (fun h => by cases h))) rfl) rfl ?_
    exact bd_raise hw (hr.mono (by decide)) tk hx (de_var (i := 1) rfl (pv 1)) (hR k rfl)
  | some q =>
    obtain ⟨kd, l⟩ := q
    rw [hp] at pp
    have sh := parts_lay hp
    have hkd : PyData.eqv (.str kd) .none = false := rfl
    refine bd_whenD (DT.is (b' := anyNon l) (DW.t (dw_or (dt_isN (de_var (i := 2) rfl (pv 2))) fun _ => (dw_one (dt_inT (ds := .str kd :: l) (room65 hr) de_none (de_var (i := 2) rfl (pv 2)) (by decide +kernel) sh)))) rfl) (fun hb => ?_) (fun hb => ?_)
    · rcases pp with ⟨_, pp⟩ | ⟨pp, _⟩
      · rw [pp] at hR
        exact bd_raise hw (hr.mono (by decide)) tk hx (de_var (i := 1) rfl (pv 1)) (hR k rfl)
      · rw [pp] at hb; cases hb
    · rcases pp with ⟨pp, _⟩ | ⟨_, c, pp, rfl, rfl⟩
      · rw [pp] at hb; cases hb
      · rw [pp] at hP hR
        dsimp only at hP hR
        have pl := parse_line pp
        show Bd _ C I0 H0 _ [.d (lsD ls), .d (.int (k : Int)), .d (.tuple (.str c.kind :: c.items)), .no] _ _
        refine bd_whenD (dt_neS (de_ixT (d := .str c.kind) (de_var (i := 2) rfl (pv 2)) de_int (at3 (i := 0) rfl)) de_str) (fun hb2 => ?_) (fun hb2 => ?_)
        · have nk := of_decide_eq_false (nt hb2)
          have c0 : c.cnt = 0 := by
            have := pl.2.2.2.1
            rcases Nat.eq_zero_or_pos c.cnt with z | z
            · exact z
            · exact absurd (this.mp z) nk
          have e0 : readTexts ls (k + 1) c.cnt = .ok [] := by rw [c0]; rfl
          rw [e0, c0] at hP
          refine bd_retD (de_tup (ds := [_, .int ((k + 1 : Nat) : Int)]) (da_cons (de_var (i := 2) rfl (pv 2)) (da_cons (de_add1 (de_var (i := 1) rfl (pv 1))) da_nil))) ?_ hq
          have := hP ⟨c, []⟩ (k + 1) rfl
          cases c <;> first | exact this | exact absurd rfl nk
        · have nk := of_decide_eq_true (nf hb2)
          cases c with
          | lines fl u d n =>
            have hn : n ≤ 200 := pl.2.2.1
            refine bd_setX (i := 3) (Pe := fun r => ∃ ts, readTexts ls (k + 1) n = .ok ts ∧ r = .d (lsD ts)) (R := Rx) (ev_fnX g_read_texts (hr.mono (by decide)) tk (da_cons (de_var (i := 0) rfl (pv 0)) (da_cons (de_add1 (de_var (i := 1) rfl (pv 1))) (da_cons (de_ixT (d := inat n) (de_var (i := 2) rfl (pv 2)) de_int (at3 (i := 4) rfl)) da_nil))) ⟨ls, k + 1, n, rfl, hls, by have := hls.1; omega, by omega, fun ts e => ⟨ts, e, rfl⟩, fun e he => hR e (by
              show (match readTexts ls (k + 1) n with | .ok ts => _ | .error e => _) = _
              rw [he])⟩) hx (fun r ⟨ts, hts, er⟩ => ?_)
            subst er
            refine bd_retD (de_tup (ds := [(Cg.d ⟨.lines fl u d n, ts⟩), .int ((k + 1 + n : Nat) : Int)]) (da_cons (de_catT (ds := [.str "lines", fl.d, vxsD u, vxsD d]) (es := [lsD ts]) (de_slT (ds := [.str "lines", fl.d, vxsD u, vxsD d, inat n]) (de_var (i := 2) rfl (pv 2)) do_none (do_some de_int) (by show ¬ (0 = 0 ∧ 4 = 5); decide)) (de_tup (ds := [_]) (da_cons (de_var (i := 3) rfl (pv 3)) da_nil)) (by simp) (by simp) (by show 5 ≤ sizeLine; decide)) (da_cons (de_addN (n := n) (de_add1 (de_var (i := 1) rfl (pv 1))) (de_ixT (d := inat n) (de_var (i := 2) rfl (pv 2)) de_int (at3 (i := 4) rfl))) da_nil))) (hP _ _ ?_) hq
            show (match readTexts ls (k + 1) n with | .ok ts => _ | .error e => _) = _
            rw [hts]
            rfl
          | add p => exact absurd (show ("add" : Str) = "lines" from nk) (by decide)
          | back i => exact absurd (show ("back" : Str) = "lines" from nk) (by decide)
          | drop f o => exact absurd (show ("drop" : Str) = "lines" from nk) (by decide)
          | move f p o => exact absurd (show ("move" : Str) = "lines" from nk) (by decide)
          | cut f v => exact absurd (show ("cut" : Str) = "lines" from nk) (by decide)
          | order f a b => exact absurd (show ("order" : Str) = "lines" from nk) (by decide)
/-! ### read_head -/
def F_read_head : Spx := fun _ rs P R => ∃ (ls : List Str) (k : Nat), rs = [.d (lsD ls), .d (.int (k : Int))] ∧ LinesOk ls ∧ (∀ i t, readHead ls k = .ok (i, t) → P (.d (.tuple [i.d, .str t]))) ∧ ∀ e : Nat, readHead ls k = .error e → R (e : Int)
theorem ok_read_head (B : Bt mg) (T : Ct mg) (hw : We P w K mg base CW) (g_is_text : Ok P w K mg base 1 "is_text" ["text"] F_is_text) (g_read_id : Ok P w K mg base 4 "read_id" ["text"] F_read_id) (D : Df K mg "read_head" s_read_head ["lines", "at"] f fd) : OkX P w K mg base CW 5 "read_head" ["lines", "at"] F_read_head := by
  refine D.okX (fokX D.1 c_read_head (fun C rs R Rx h => by obtain ⟨_, _, rfl, _⟩ := h; rfl) ?_)
  rintro X ⟨cdv, A, outer, s, H, E, rfl, hr⟩ W tk po C I0 H0 rs R Rx D ⟨ls, k, rfl, hls, hP, hR⟩ hq hx
  have nd := c_read_head.nd
  have hL := hls.at k
  have hL1 := hls.at (k + 1)
  have s6 := len_suf (ls.getD k "") 6
  have s5 := len_suf (ls.getD (k + 1) "") 5
  unfold readHead at hP hR
  have hd : ∀ (k : Nat) (p : Str), (decide ((ls.length : Int) ≤ (k : Int)) || !Txt.startswith (ls.getD k "") p) = !(decide (k < ls.length) && hasPre p (ls.getD k "")) := fun k p => by
    rw [nat_le, starts_pre]
    by_cases h : k < ls.length
    · rw [decide_eq_true h, decide_eq_false (by omega)]; simp
    · rw [decide_eq_false h, decide_eq_true (by omega)]; simp
  refine bd_whenD (DT.is (b' := !headAt ls k) (DW.t (dw_or (dt_geI (de_var (i := 1) rfl (pv 1)) (de_lenL (de_var (i := 0) rfl (pv 0)) rfl B.len)) fun h => (dw_one (dt_not (dt_val (dt_starts (x := ls.getD k "") (de_ixL (de_var (i := 0) rfl (pv 0)) (de_var (i := 1) rfl (pv 1)) (atW _ (by have := of_decide_eq_false h; rw [List.length_map] at this; omega))) de_str)))))) (by rw [List.length_map]; exact hd k _)) (fun hb => ?_) (fun hb => ?_)
  · rw [if_neg (by rw [nt hb]; decide)] at hR
    exact bd_raise hw (hr.mono (by decide)) tk hx (de_var (i := 1) rfl (pv 1)) (hR k rfl)
  have hb1 := nf hb
  rw [if_pos hb1] at hP hR
  have hk : k < ls.length := by
    unfold headAt at hb1
    simp only [Bool.and_eq_true, decide_eq_true_eq] at hb1
    exact hb1.1
  refine bd_setD (i := 2) (de_fn g_read_id (hr.mono (by decide)) (da_cons (DE.is (d' := .str (suf (ls.getD k "") 6)) (de_slS (x := ls.getD k "") (de_ixL (de_var (i := 0) rfl (pv 0)) (de_var (i := 1) rfl (pv 1)) (atW _ hk)) (do_some (i := ((6 : Nat) : Int)) (de_lenS (x' := "") de_str (by decide) B.len)) do_none (sz (by omega))) (congrArg PyData.str (cut_suf _ 6))) da_nil) (fun C => ⟨_, rfl, by omega, fun r e => e⟩)) ?_
  refine bd_whenD (DT.is (dt_isN (de_var (i := 2) rfl (pv 2))) (isNon_opt _ (fun a => rfl) _)) (fun hb => ?_) (fun hb => ?_)
  · rw [Option.isNone_iff_eq_none] at hb
    rw [hb] at hR
    exact bd_raise hw (hr.mono (by decide)) tk hx (de_var (i := 1) rfl (pv 1)) (hR k rfl)
  obtain ⟨i, hi⟩ : ∃ i, readIdn (suf (ls.getD k "") 6) = some i := by
    cases e : readIdn (suf (ls.getD k "") 6) with
    | none => rw [e] at hb; cases hb
    | some i => exact ⟨i, rfl⟩
  rw [hi] at hP hR
  dsimp only at hP hR
  rw [hi]
  have a1 : ∀ {X : Cx} {G : List Sl} {p1 p2 p3 : Pos} {j : Nat}, DE X (.Name "at" p1) G (.int (k : Int)) → DE X (.BinOp (.Name "at" p1) .Add (.Constant (.int 1) j p2) p3) G (.int ((k + 1 : Nat) : Int)) := fun h => de_addI h de_int
  refine bd_whenD (DT.is (b' := !noteAt ls (k + 1)) (DW.t (dw_or (dt_geI (a1 (de_var (i := 1) rfl (pv 1))) (de_lenL (de_var (i := 0) rfl (pv 0)) rfl B.len)) fun h => (dw_one (dt_not (dt_val (dt_starts (x := ls.getD (k + 1) "") (de_ixL (de_var (i := 0) rfl (pv 0)) (a1 (de_var (i := 1) rfl (pv 1))) (atW _ (by have := of_decide_eq_false h; rw [List.length_map] at this; omega))) de_str)))))) (by rw [List.length_map]; exact hd (k + 1) _)) (fun hb => ?_) (fun hb => ?_)
  · rw [if_neg (by rw [nt hb]; decide)] at hR
    exact bd_raise hw (hr.mono (by decide)) tk hx (a1 (de_var (i := 1) rfl (pv 1))) (hR (k + 1) rfl)
  have hb2 := nf hb
  rw [if_pos hb2] at hP hR
  have hk1 : k + 1 < ls.length := by
    unfold noteAt at hb2
    simp only [Bool.and_eq_true, decide_eq_true_eq] at hb2
    exact hb2.1
  refine bd_setD (i := 3) (DE.is (d' := .str (suf (ls.getD (k + 1) "") 5)) (de_slS (x := ls.getD (k + 1) "") (de_ixL (de_var (i := 0) rfl (pv 0)) (a1 (de_var (i := 1) rfl (pv 1))) (atW _ hk1)) (do_some (i := ((5 : Nat) : Int)) (de_lenS (x' := "") de_str (by decide) B.len)) do_none (sz (by omega))) (congrArg PyData.str (cut_suf _ 5))) ?_
  refine bd_whenD (dt_not (dt_val (de_fn g_is_text (hr.mono (by decide)) (da_cons (de_var (i := 3) rfl (pv 3)) da_nil) (fun C => ⟨_, rfl, by omega, fun r e => e⟩)))) (fun hb => ?_) (fun hb => ?_)
  · rw [if_neg (by rw [nt hb]; decide)] at hR
    exact bd_raise hw (hr.mono (by decide)) tk hx (a1 (de_var (i := 1) rfl (pv 1))) (hR (k + 1) rfl)
  rw [if_pos (nf hb)] at hP
  exact bd_retD (de_tup (ds := [_, _]) (da_cons (de_var (i := 2) rfl (pv 2)) (da_cons (de_var (i := 3) rfl (pv 3)) da_nil))) (hP _ _ rfl) hq
end
end QL
namespace QL
open PySem PySem.Spec PyProof.Rows L2
section
variable {P : Program} {w : World} {K : PySem.W.Frag} {mg : Str → Option Value} {base : Heap} {f : Addr} {fd : FuncData} {CW : Addr}
/-! ### read_from -/
def F_read_from : Spx := fun _ rs P R => ∃ (ls : List Str) (k : Nat), rs = [.d (lsD ls), .d (.int (k : Int))] ∧ LinesOk ls ∧ (∀ p e, readFrom ls k = .ok (p, e) → P (.d (.tuple [p.d, .int (e : Int)]))) ∧ ∀ e : Nat, readFrom ls k = .error e → R (e : Int)
/-- what the loop is to hand out: m changes may still come -/
def csR (ls : List Str) (cs : List Cg) (m k : Nat) : RdR (List Cg × Nat) := match readCs ls m k (decide (0 < cs.length)) with | .ok (us, e) => .ok (cs ++ us, e) | .error e => .error e
theorem ok_read_from (B : Bt mg) (T : Ct mg) (hw : We P w K mg base CW) (g_read_head : OkX P w K mg base CW 5 "read_head" ["lines", "at"] F_read_head) (g_read_change : OkX P w K mg base CW 8 "read_change" ["lines", "at"] F_read_change) (D : Df K mg "read_from" s_read_from ["lines", "at"] f fd) : OkX P w K mg base CW 9 "read_from" ["lines", "at"] F_read_from := by
  refine D.okX (fokX D.1 c_read_from (fun C rs R Rx h => by obtain ⟨_, _, rfl, _⟩ := h; rfl) ?_)
  obtain ⟨tkC, hCH⟩ := T.CHANGES
  rintro X ⟨cdv, A, outer, s, H, E, rfl, hr⟩ W tk po C I0 H0 rs R Rx D ⟨ls, k, rfl, hls, hP, hR⟩ hq hx
  have nd := c_read_from.nd
  unfold readFrom at hP hR
  refine bd_un2X (i := 2) (j := 3) (Pd := fun u w => ∃ i t, readHead ls k = .ok (i, t) ∧ u = i.d ∧ w = .str t) (R := Rx) (ev_fnX g_read_head (hr.mono (by decide)) tk (da_cons (de_var (i := 0) rfl (pv 0)) (da_cons (de_var (i := 1) rfl (pv 1)) da_nil)) ⟨ls, k, rfl, hls, fun i t e => ⟨_, _, rfl, i, t, e, rfl, rfl⟩, fun e he => hR e (by rw [he])⟩) hx (fun u w ⟨i, t, hh, eu, ew⟩ => ?_) (pg_name (i := 2) nd rfl (Or.inl rfl)) (pg_name (i := 3) nd rfl (Or.inl rfl))
  subst eu ew
  rw [hh] at hP hR
  dsimp only at hP hR
  refine bd_setD (i := 1) (de_add2 (de_var (i := 1) rfl (pv 1))) ?_
  refine bd_setN (i := 4) ((dn_lst (ds := []) da_nil) C) fun p ds e => ?_
  subst e
  refine bd_while po (fun m G' L' => ∃ k' cs r, G' = [.d (lsD ls), .d (.int (k' : Nat)), .d i.d, .d (.str t), .v (.ref p), r] ∧ L' = some (p, cs.map Cg.d) ∧ cs.length + m = 12 ∧ readCs ls 12 (k + 2) false = csR ls cs m k') (fun _ _ _ b => b = true) (m0 := 12) ⟨k + 2, [], .no, rfl, rfl, rfl, ?_⟩ (fun m G' L' _ => (dt_val de_bool) C) ?_ (fun _ _ _ _ z => by cases z)
  · unfold csR
    show _ = (match readCs ls 12 (k + 2) false with | Except.ok (us, e) => Except.ok ([] ++ us, e) | Except.error e => Except.error e)
    cases readCs ls 12 (k + 2) false <;> rfl
  · rintro m G' L' ⟨k', cs, r, rfl, rfl, hm, hcs⟩ _ bk
    have hL := hls.at k'
    have er : ∀ e : Nat, readCs ls m k' (decide (0 < cs.length)) = .error e → readCs ls 12 (k + 2) false = .error e := fun e h => by rw [hcs]; unfold csR; rw [h]
    refine bd_whenD (DT.is (b' := decide (ls.length ≤ k')) (dt_geI (de_var (i := 1) rfl (pv 1)) (de_lenL (de_var (i := 0) rfl (pv 0)) rfl B.len)) (by rw [List.length_map, nat_le])) (fun hb => ?_) (fun hb => ?_)
    · have hk := of_decide_eq_true hb
      refine bd_raise hw (hr.mono (by decide)) tk hx (de_var (i := 1) rfl (pv 1)) (hR k' ?_)
      rw [er k' (by unfold readCs; rw [if_pos hk])]
    have hk := of_decide_eq_false hb
    have hk' : k' < ls.length := by omega
    refine bd_whenL (i := 4) (k := decide (ls.getD k' "" = "end") && decide (0 < cs.length)) rfl (DT.is (DW.t (dw_and (dt_eqS (de_ixL (de_var (i := 0) rfl (pv 0)) (de_var (i := 1) rfl (pv 1)) (atW k' hk')) de_str) fun _ => (dw_one (dt_gtI (de_lenL (ds := cs.map Cg.d) (de_var (i := 4) rfl (pv 4)) rfl B.len) de_int)))) (by rw [List.length_map]; congr 1; exact decide_eq_decide.mpr (by omega))) (fun hb => ?_) (fun hb => ?_)
    · simp only [Bool.and_eq_true, decide_eq_true_eq] at hb
      refine bd_frz (i := 4) rfl ?_
      refine bd_retD (de_tup (ds := [Pt.d ⟨i, cs, t⟩, .int ((k' + 1 : Nat) : Int)]) (da_cons (de_tup (ds := [_, _, _, _]) (da_cons de_str (da_cons (de_var (i := 2) rfl (pv 2)) (da_cons (de_var (i := 4) rfl (pv 4)) (da_cons (de_var (i := 3) rfl (pv 3)) da_nil))))) (da_cons (de_add1 (de_var (i := 1) rfl (pv 1))) da_nil))) (hP _ _ ?_) hq
      have e1 : readCs ls m k' (decide (0 < cs.length)) = .ok ([], k' + 1) := by unfold readCs; rw [if_neg hk, if_pos ⟨hb.1, decide_eq_true hb.2⟩]
      rw [hcs]
      unfold csR
      rw [e1]
      show Except.ok ((⟨i, cs ++ [], t⟩ : Pt), k' + 1) = _
      rw [List.append_nil]
    have hne : ¬ (ls.getD k' "" = "end" ∧ decide (0 < cs.length) = true) := by
      intro z
      simp only [Bool.and_eq_false_iff, decide_eq_false_iff_not, decide_eq_true_eq] at hb z
      rcases hb with h | h
      · exact h z.1
      · exact h z.2
    refine bd_whenL (i := 4) (k := decide (cs.length = 12)) rfl (DT.is (dt_eqI (de_lenL (ds := cs.map Cg.d) (de_var (i := 4) rfl (pv 4)) rfl B.len) (de_gint hCH)) (lenI _ cs 12)) (fun hb => ?_) (fun hb => ?_)
    · have h12 := of_decide_eq_true hb
      have m0 : m = 0 := by omega
      subst m0
      refine bd_raise hw (hr.mono (by decide)) tk hx (de_var (i := 1) rfl (pv 1)) (hR k' ?_)
      rw [er k' (by unfold readCs; rw [if_neg hk, if_neg hne])]
    have h12 := of_decide_eq_false hb
    obtain ⟨m', rfl⟩ : ∃ m', m = m' + 1 := ⟨m - 1, by omega⟩
    have e1 : readCs ls (m' + 1) k' (decide (0 < cs.length)) = (match readChange ls k' with | .error e => .error e | .ok (c, k2) => match readCs ls m' k2 true with | .ok (cs, e) => .ok (c :: cs, e) | .error e => .error e) := by
      conv => lhs; unfold readCs
      refine (if_neg hk).trans ((if_neg hne).trans ?_)
      cases readChange ls k' with
      | error e => rfl
      | ok q =>
        obtain ⟨c, k2⟩ := q
        first
          | rfl
          | (dsimp only; cases readCs ls m' k2 true <;> rfl)
    refine bd_un2X (i := 5) (j := 1) (Pd := fun u w => ∃ (c : Cg) (k2 : Nat), readChange ls k' = .ok (c, k2) ∧ u = c.d ∧ w = .int (k2 : Int)) (R := Rx) (ev_fnX g_read_change (hr.mono (by decide)) tk (da_cons (de_var (i := 0) rfl (pv 0)) (da_cons (de_var (i := 1) rfl (pv 1)) da_nil)) ⟨ls, k', rfl, hls, hk', fun c e h => ⟨_, _, rfl, c, e, h, rfl, rfl⟩, fun e he => hR e (by rw [er e (by rw [e1, he])])⟩) hx (fun u w ⟨c, k2, hc, eu, ew⟩ => ?_) (pg_name (i := 5) nd rfl (Or.inl rfl)) (pg_name (i := 1) nd rfl (Or.inl rfl))
    subst eu ew
    refine bd_app (Pd := fun y => y = c.d) (i := 4) (pv 4) rfl (Ev.imp (de_var (i := 5) rfl (pv 5) C) fun r e => ⟨_, e, rfl⟩) (Nat.lt_of_le_of_lt (by rw [List.length_map]; omega) (by decide : 12 < sizeLine)) (fun y ey => ?_)
    subst ey
    refine bd_nil fun _ _ h => ⟨_, _, ?_, h⟩
    refine ⟨m', Nat.lt_succ_self _, k2, cs ++ [c], _, rfl, by rw [List.map_append]; rfl, by rw [List.length_append, List.length_singleton]; omega, ?_⟩
    rw [hcs]
    unfold csR
    rw [e1, hc, show decide (0 < (cs ++ [c]).length) = true from decide_eq_true (by rw [List.length_append, List.length_singleton]; omega)]
    dsimp only
    cases readCs ls m' k2 true with
    | error e => rfl
    | ok q => simp
/-! ### read_patch -/
def F_read_patch : Spx := fun _ rs P R => ∃ ls : List Str, rs = [.d (lsD ls)] ∧ LinesOk ls ∧ (∀ p, readPatch ls = .ok p → P (.d p.d)) ∧ ∀ e : Nat, readPatch ls = .error e → R (e : Int)
theorem ok_read_patch (B : Bt mg) (T : Ct mg) (hw : We P w K mg base CW) (g_read_from : OkX P w K mg base CW 9 "read_from" ["lines", "at"] F_read_from) (D : Df K mg "read_patch" s_read_patch ["lines"] f fd) : OkX P w K mg base CW 10 "read_patch" ["lines"] F_read_patch := by
  refine D.okX (fokX D.1 c_read_patch (fun C rs R Rx h => by obtain ⟨_, rfl, _⟩ := h; rfl) ?_)
  rintro X ⟨cdv, A, outer, s, H, E, rfl, hr⟩ W tk po C I0 H0 rs R Rx D ⟨ls, rfl, hls, hP, hR⟩ hq hx
  have nd := c_read_patch.nd
  unfold readPatch at hP hR
  refine bd_un2X (i := 1) (j := 2) (Pd := fun u w => ∃ (p : Pt) (e : Nat), readFrom ls 0 = .ok (p, e) ∧ u = p.d ∧ w = .int (e : Int)) (R := Rx) (ev_fnX g_read_from (hr.mono (by decide)) tk (da_cons (de_var (i := 0) rfl (pv 0)) (da_cons (de_int (i := 0)) da_nil)) ⟨ls, 0, rfl, hls, fun p e h => ⟨_, _, rfl, p, e, h, rfl, rfl⟩, fun e he => hR e (by rw [he])⟩) hx (fun u w ⟨p, e, hp, eu, ew⟩ => ?_) (pg_name (i := 1) nd rfl (Or.inl rfl)) (pg_name (i := 2) nd rfl (Or.inl rfl))
  subst eu ew
  rw [hp] at hP hR
  dsimp only at hP hR
  refine bd_whenD (DT.is (b' := decide (e < ls.length)) (dt_ltI (de_var (i := 2) rfl (pv 2)) (de_lenL (de_var (i := 0) rfl (pv 0)) rfl B.len)) (by rw [List.length_map]; exact decide_eq_decide.mpr Int.ofNat_lt)) (fun hb => ?_) (fun hb => ?_)
  · rw [if_pos (of_decide_eq_true hb)] at hR
    exact bd_raise hw (hr.mono (by decide)) tk hx (de_var (i := 2) rfl (pv 2)) (hR e rfl)
  · rw [if_neg (of_decide_eq_false hb)] at hP
    exact bd_retD (de_var (i := 1) rfl (pv 1)) (hP p rfl) hq
/-! ### read_patches -/
def F_read_patches : Spx := fun _ rs P R => ∃ ls : List Str, rs = [.d (lsD ls)] ∧ LinesOk ls ∧ (∀ ps, readAll ls ls.length 0 = .ok ps → P (.d (.list (ps.map Pt.d)))) ∧ ∀ e : Nat, readAll ls ls.length 0 = .error e → R (e : Int)
def psR (ls : List Str) (ps : List Pt) (f k : Nat) : RdR (List Pt) := match readAll ls f k with | .ok us => .ok (ps ++ us) | .error e => .error e
theorem ok_read_patches (B : Bt mg) (T : Ct mg) (hw : We P w K mg base CW) (g_read_from : OkX P w K mg base CW 9 "read_from" ["lines", "at"] F_read_from) (D : Df K mg "read_patches" s_read_patches ["lines"] f fd) : OkX P w K mg base CW 10 "read_patches" ["lines"] F_read_patches := by
  refine D.okX (fokX D.1 c_read_patches (fun C rs R Rx h => by obtain ⟨_, rfl, _⟩ := h; rfl) ?_)
  rintro X ⟨cdv, A, outer, s, H, E, rfl, hr⟩ W tk po C I0 H0 rs R Rx D ⟨ls, rfl, hls, hP, hR⟩ hq hx
  have nd := c_read_patches.nd
  refine bd_setN (i := 1) ((dn_lst (ds := []) da_nil) C) fun p ds e => ?_
  subst e
  refine bd_setD (i := 2) (de_int (i := 0)) ?_
  refine bd_while po (fun m G' L' => ∃ k ps f r, G' = [.d (lsD ls), .v (.ref p), .d (.int (k : Nat)), r] ∧ L' = some (p, ps.map Pt.d) ∧ m = ls.length - k ∧ ps.length ≤ k ∧ ls.length - k ≤ f ∧ readAll ls ls.length 0 = psR ls ps f k)
    (fun m G' L' b => ∀ k : Nat, G'[2]? = some (.d (.int (k : Int))) → b = decide (k < ls.length)) (m0 := ls.length) ⟨0, [], ls.length, .no, rfl, rfl, rfl, Nat.zero_le _, Nat.le_refl _, ?_⟩ ?_ ?_ ?_
  · unfold psR
    cases readAll ls ls.length 0 <;> rfl
  · rintro m G' L' ⟨k, ps, f, r, rfl, rfl, hm, hn, hf, hps⟩
    refine EvT.imp (dt_ltI (de_var (i := 2) rfl (pv 2)) (de_lenL (de_var (i := 0) rfl (pv 0)) rfl B.len) C) fun b eb k' hk' => ?_
    cases hk'
    rw [eb, List.length_map]
    exact decide_eq_decide.mpr Int.ofNat_lt
  · rintro m G' L' ⟨k, ps, f, r, rfl, rfl, hm, hn, hf, hps⟩ hb bk
    have hk := of_decide_eq_true (hb k rfl).symm
    obtain ⟨f', rfl⟩ : ∃ f', f = f' + 1 := ⟨f - 1, by omega⟩
    have e1 : readAll ls (f' + 1) k = (match readFrom ls k with | .error e => .error e | .ok (p, e) => match readAll ls f' e with | .ok ps => .ok (p :: ps) | .error e => .error e) := by
      conv => lhs; unfold readAll
      refine (if_pos hk).trans ?_
      cases readFrom ls k with
      | error e => rfl
      | ok q =>
        obtain ⟨p, e⟩ := q
        first
          | rfl
          | (dsimp only; cases readAll ls f' e <;> rfl)
    have er : ∀ e : Nat, readFrom ls k = .error e → readAll ls ls.length 0 = .error e := fun e h => by rw [hps]; unfold psR; rw [e1, h]
    refine bd_un2X (i := 3) (j := 2) (Pd := fun u w => ∃ (q : Pt) (e : Nat), readFrom ls k = .ok (q, e) ∧ u = q.d ∧ w = .int (e : Int)) (R := Rx) (ev_fnX g_read_from (hr.mono (by decide)) tk (da_cons (de_var (i := 0) rfl (pv 0)) (da_cons (de_var (i := 2) rfl (pv 2)) da_nil)) ⟨ls, k, rfl, hls, fun p e h => ⟨_, _, rfl, p, e, h, rfl, rfl⟩, fun e he => hR e (er e he)⟩) hx (fun u w ⟨q, e, hq', eu, ew⟩ => ?_) (pg_name (i := 3) nd rfl (Or.inl rfl)) (pg_name (i := 2) nd rfl (Or.inl rfl))
    subst eu ew
    have fr := readFrom_ok hq'
    refine bd_app (Pd := fun y => y = q.d) (i := 1) (pv 1) rfl (Ev.imp (de_var (i := 3) rfl (pv 3) C) fun r e => ⟨_, e, rfl⟩) (Nat.lt_of_le_of_lt (by rw [List.length_map]; have := hls.1; omega : _ ≤ 100000) (by decide)) (fun y ey => ?_)
    subst ey
    refine bd_nil fun _ _ h => ⟨_, _, ?_, h⟩
    refine ⟨ls.length - e, by omega, e, ps ++ [q], f', _, rfl, by rw [List.map_append]; rfl, rfl, by rw [List.length_append, List.length_singleton]; omega, by omega, ?_⟩
    rw [hps]
    unfold psR
    rw [e1, hq']
    dsimp only
    cases readAll ls f' e with
    | error e => rfl
    | ok us => simp
  · rintro m G' L' ⟨k, ps, f, r, rfl, rfl, hm, hn, hf, hps⟩ hb
    have hk := of_decide_eq_false (hb k rfl).symm
    refine bd_frz (i := 1) rfl ?_
    refine bd_retD (de_var (i := 1) rfl (pv 1)) (hP ps ?_) hq
    have e1 : readAll ls f k = .ok [] := by
      cases f with
      | zero => rfl
      | succ f => unfold readAll; rw [if_neg hk]
    rw [hps]
    unfold psR
    rw [e1]
    show Except.ok (ps ++ []) = _
    rw [List.append_nil]
end
end QL
namespace QL
open PySem PySem.Spec PyProof.Rows L2
theorem digs_snoc (cs : List Nat) (c : Nat) : val (cs ++ [c]) = val cs * 10 + (c - 48) := by
  show List.foldl (fun acc c => acc * 10 + (c - 48)) 0 (cs ++ [c]) = List.foldl (fun acc c => acc * 10 + (c - 48)) 0 cs * 10 + (c - 48)
  rw [List.foldl_append]; rfl
theorem idx_dig {c : Nat} (h : 48 ≤ c ∧ c ≤ 57) : ∃ r, Builtin.Str.occurrences ("0123456789" : Str) ⟨#[c]⟩ 0 (("0123456789" : Str)).length 1 = (c - 48) :: r := by
  have : c = 48 ∨ c = 49 ∨ c = 50 ∨ c = 51 ∨ c = 52 ∨ c = 53 ∨ c = 54 ∨ c = 55 ∨ c = 56 ∨ c = 57 := by omega
  rcases this with rfl | rfl | rfl | rfl | rfl | rfl | rfl | rfl | rfl | rfl <;> exact ⟨[], by decide +kernel⟩
theorem dig_fold : ∀ (cs : List Nat) (a : Nat), (∀ c ∈ cs, c ≤ 57) → List.foldl (fun acc c => acc * 10 + (c - 48)) a cs < (a + 1) * 10 ^ cs.length
  | [], a, _ => by simp
  | c :: cs, a, h => by
    have h1 := dig_fold cs (a * 10 + (c - 48)) fun x hx => h x (List.mem_cons_of_mem _ hx)
    have h2 := h c List.mem_cons_self
    rw [List.foldl_cons, List.length_cons, Nat.pow_succ]
    refine Nat.lt_of_lt_of_le h1 ?_
    rw [Nat.mul_comm (10 ^ cs.length) 10, ← Nat.mul_assoc]
    exact Nat.mul_le_mul_right _ (by omega)
section
variable {P : Program} {w : World} {K : PySem.W.Frag} {mg : Str → Option Value} {base : Heap} {f : Addr} {fd : FuncData}
/-! ### _law_is_text -/
def F_law_is_text : Spc := fun _ rs P => ∃ t : Str, rs = [.d (.str t)] ∧ t.length ≤ 1000000 ∧ ∀ r, r = .d (.bool (isText t)) → P r
theorem ok_law_is_text (B : Bt mg) (T : Ct mg)  (D : Df K mg "_law_is_text" s_law_is_text ["_law_text"] f fd) : Ok P w K mg base 1 "_law_is_text" ["_law_text"] F_law_is_text := by
  refine D.ok (fok D.1 c_law_is_text (fun C rs R h => by obtain ⟨t, rfl, _⟩ := h; rfl) ?_)
  rintro X ⟨cdv, A, outer, s, H, E, rfl, hr⟩ C I0 H0 rs R D ⟨t, rfl, hz, hP⟩ hq
  have nd := c_law_is_text.nd
  refine bd_retD (de_and (de_leI (de_lenS (x' := "") (de_var (i := 0) rfl (pv 0)) (sz (by omega)) B.len) de_int) fun _ => (de_one (de_eqI (de_lenL (de_frz (DLc.n (dlc (j := 1) (x := "_law_char") sg _ (fun n => !(decide (32 ≤ n) && decide (n ≤ 126))) _ (di_str (de_var (i := 0) rfl (pv 0))) (tlz hz) (blkOk_by (N := n_law_is_text) (sc := defScope s_law_is_text) (by decide +kernel)) (fun _ _ _ _ _ => pg_name (i := 1) nd rfl (Or.inl rfl)) (fun y hy _ _ _ _ _ => DT.is (dt_not (dt_leleS de_str (de_var (i := 1) rfl (pv 1)) de_str)) ?_) (fun y hy hc _ _ _ _ _ => (de_var (i := 1) rfl (pv 1)))))) rfl B.len) de_int))) (hP _ ?_) hq
  · show (!((!decide ([y] < [32])) && (!decide ([126] < [y])))) = _
    rw [one_lt, one_lt, Bool.eq_iff_iff]
    simp
    try omega
  · rw [len_filter0]
    unfold isText
    congr 2
    rw [show (decide ((t.length : Int) ≤ 40)) = decide (t.length ≤ 40) from by rw [Bool.eq_iff_iff]; simp; omega]
/-! ### _law_is_number -/
def F_law_is_number : Spc := fun _ rs P => ∃ (t : Str) (a b : Int), rs = [.d (.str t), .d (.int a), .d (.int b)] ∧ t.length ≤ 1000000 ∧ ∀ r, r = .d (.bool (readNum t a b).isSome) → P r
theorem ok_law_is_number (B : Bt mg) (T : Ct mg)  (D : Df K mg "_law_is_number" s_law_is_number ["_law_text", "_law_least", "_law_most"] f fd) : Ok P w K mg base 1 "_law_is_number" ["_law_text", "_law_least", "_law_most"] F_law_is_number := by
  refine D.ok (fok D.1 c_law_is_number (fun C rs R h => by obtain ⟨t, a, b, rfl, _⟩ := h; rfl) ?_)
  rintro X ⟨cdv, A, outer, s, H, E, rfl, hr⟩ C I0 H0 rs R D ⟨t, a, b, rfl, hz, hP⟩ hq
  have nd := c_law_is_number.nd
  have hl := len_tl' t
  refine bd_whenD (k := !(!(tl t).isEmpty && decide (t.length ≤ 5) && onlyHas (tl t) DIG)) (DT.is (DW.t (dw_or (dt_eqI (de_lenS (x' := "") (de_var (i := 0) rfl (pv 0)) (sz (by omega)) B.len) de_int) fun _ => (dw_or (dt_gtI (de_lenS (x' := "") (de_var (i := 0) rfl (pv 0)) (sz (by omega)) B.len) de_int) fun _ => (dw_one (dt_gtI (de_lenL (de_frz (DLc.n (dlc (j := 3) (x := "_law_char") sg _ (fun n => !decide (n ∈ DIG)) _ (di_str (de_var (i := 0) rfl (pv 0))) (tlz hz) (blkOk_by (N := n_law_is_number) (sc := defScope s_law_is_number) (by decide +kernel)) (fun _ _ _ _ _ => pg_name (i := 3) nd rfl (Or.inl rfl)) (fun y hy _ _ _ _ _ => (dt_niC (de_var (i := 3) rfl (pv 3)) de_str)) (fun y hy hc _ _ _ _ _ => (de_var (i := 3) rfl (pv 3)))))) rfl B.len) de_int))))) ?_) (fun hb => ?_) (fun hb => ?_)
  · rw [gt0, show decide ((t.length : Int) = 0) = (tl t).isEmpty from by rw [← hl, Bool.eq_iff_iff]; simp, show decide ((5 : Int) < (t.length : Int)) = !decide (t.length ≤ 5) from by rw [Bool.eq_iff_iff]; simp; omega]
    unfold onlyHas
    cases (tl t).isEmpty <;> cases decide (t.length ≤ 5) <;> simp
  ·
    refine bd_retD de_bool (hP _ ?_) hq
    unfold readNum
    rw [if_neg]
    · rfl
    · rintro ⟨h1, _⟩
      unfold numOk at h1
      simp only [Bool.and_eq_true] at h1
      rw [hl] at h1
      rw [h1.1.1.1, h1.1.1.2, h1.1.2] at hb
      simp at hb
  · have hb' : (!(tl t).isEmpty && decide (t.length ≤ 5) && onlyHas (tl t) DIG) = true := nf hb
    simp only [Bool.and_eq_true, decide_eq_true_eq] at hb'
    obtain ⟨⟨h1, h2⟩, h3⟩ := hb'
    have hd := only_dig.mp h3
    obtain ⟨c, r, hcr⟩ : ∃ c r, tl t = c :: r := by
      cases e : tl t with
      | nil => rw [e] at h1; simp at h1
      | cons c r => exact ⟨c, r, rfl⟩
    have hr1 : t.length = r.length + 1 := by rw [← hl, hcr]; rfl
    refine bd_setD (i := 4) (de_int (i := 0)) ?_
    refine bd_forD (j := 3) PassesOwn.never (di_str (de_var (i := 0) rfl (pv 0))) (pg_name (i := 3) nd rfl (Or.inl rfl)) (fun i G' L' => ∃ r, G' = [.d (.str t), .d (.int a), .d (.int b), r, .d (.int (val ((tl t).take i) : Int))] ∧ L' = none) ⟨.no, rfl, rfl⟩ ?_ ?_
    · rintro I1 bs i d G' L' hdd ⟨r', rfl, rfl⟩ bk
      obtain ⟨x, hx, rfl⟩ := getq_map hdd
      have xm := List.mem_of_getElem? hx
      have x1 : 48 ≤ x ∧ x ≤ 57 := hd x xm
      have hi := (List.getElem?_eq_some_iff.mp hx).1
      obtain ⟨rr, hrr⟩ := idx_dig x1
      refine bd_setD (i := 4) (DE.is (d' := .int (val ((tl t).take (i + 1)) : Int)) (de_addI (de_mulI (de_var (i := 4) rfl (pv 4)) de_int (.inr (by decide))) (de_index de_str (de_var (i := 3) rfl (pv 3)) hrr)) ?_) ?_
      · rw [List.take_add_one, hx]
        show _ = PyData.int ((val (List.take i (tl t) ++ [x]) : Nat) : Int)
        rw [digs_snoc]
        congr 1
      · refine bd_nil fun _ _ h => ⟨_, _, ?_, h⟩
        exact ⟨_, rfl, rfl⟩
    · rintro I1 bs G' L' ⟨r', rfl, rfl⟩
      rw [List.length_map, List.take_length]
      refine bd_retD (de_and (de_lele (de_var (i := 1) rfl (pv 1)) (de_var (i := 4) rfl (pv 4)) (de_var (i := 2) rfl (pv 2))) fun _ => (de_one (de_or (de_neS (de_ixS (n := c) (de_var (i := 0) rfl (pv 0)) de_int (sz (by omega)) (atI_nat (j := 0) (by rw [hcr]; rfl))) de_str) fun _ => (de_one (de_eqI (de_lenS (x' := "") (de_var (i := 0) rfl (pv 0)) (sz (by omega)) B.len) de_int))))) (hP _ ?_) (hq.bs bs)
      have e1 : decide ((⟨#[c]⟩ : Str) = ("0" : Str)) = decide (c = 48) := sg_eq
      have e2 : decide ((t.length : Int) = 1) = decide (r.length = 0) := decide_eq_decide.mpr (by omega)
      have n1 : numOk (tl t) = (decide (r.length = 0) || !decide (c = 48)) := by
        unfold numOk
        rw [h3, hl, h1, hcr, decide_eq_true h2]
        simp only [List.head?_cons, Option.some.injEq, Bool.true_and]
        rw [show decide (t.length ≤ 1) = decide (r.length = 0) from decide_eq_decide.mpr (by omega)]
      rw [e1, e2]
      congr 2
      unfold readNum
      rw [n1]
      by_cases q1 : a ≤ (val (tl t) : Int) <;> by_cases q2 : (val (tl t) : Int) ≤ b <;> by_cases q3 : c = 48 <;> by_cases q4 : r.length = 0 <;> simp [q1, q2, q3, q4]
/-! ### _law_is_label -/
def F_law_is_label : Spc := fun _ rs P => ∃ t : Str, rs = [.d (.str t)] ∧ t.length ≤ 1000000 ∧ ∀ r, r = .d (.bool (readLab t).isSome) → P r
theorem asc_geN (ms : List Nat) : ((List.range (ms.length - 1)).all fun k => decide (ms.getD k 0 < ms.getD (k + 1) 0)) = ascN ms := by
  rw [adjAll_range (fun a b => decide (a < b)), adjAll_lt]
theorem ok_law_is_label (B : Bt mg) (T : Ct mg)  (D : Df K mg "_law_is_label" s_law_is_label ["_law_text"] f fd) : Ok P w K mg base 1 "_law_is_label" ["_law_text"] F_law_is_label := by
  refine D.ok (fok D.1 c_law_is_label (fun C rs R h => by obtain ⟨t, rfl, _⟩ := h; rfl) ?_)
  rintro X ⟨cdv, A, outer, s, H, E, rfl, hr⟩ C I0 H0 rs R D ⟨t, rfl, hz, hP⟩ hq
  have nd := c_law_is_label.nd
  have hl := len_tl' t
  unfold readLab at hP
  refine bd_whenD (k := !(decide (0 < t.length) && lvOk ((tl t).headD 0))) (DT.is (DW.t (dw_or (dt_eqI (de_lenS (x' := "") (de_var (i := 0) rfl (pv 0)) (sz (by omega)) B.len) de_int) fun hb => (dw_one (dt_niC (n := (tl t).headD 0) (de_ixS (de_var (i := 0) rfl (pv 0)) de_int (sz (by omega)) (atI_nat (j := 0) (by
    have := of_decide_eq_false hb
    cases e : tl t with
    | nil => rw [e] at hl; simp at hl; omega
    | cons c r => rfl))) de_str)))) ?_) (fun hb => ?_) (fun hb => ?_)
  · rw [show decide ((t.length : Int) = 0) = !decide (0 < t.length) from by rw [Bool.eq_iff_iff]; simp, show decide ((tl t).headD 0 ∈ tl "01234567") = lvOk ((tl t).headD 0) from by
      rw [Bool.eq_iff_iff, decide_eq_true_eq]; exact ⟨lv_of, lab_no⟩]
    cases decide (0 < t.length) <;> cases lvOk ((tl t).headD 0) <;> rfl
  ·
    refine bd_retD de_bool (hP _ ?_) hq
    have hb := nt hb
    match e : tl t with
    | [] => rfl
    | [c] =>
      rw [e] at hb hl
      rw [labOf_1, if_neg]
      · rfl
      · intro z
        rw [← hl] at hb
        simp [z] at hb
    | [c, d] => rfl
    | c :: k :: m :: ms =>
      rw [e] at hb hl
      rw [labOf_3, if_neg]
      · rfl
      · rintro ⟨z, _⟩
        rw [← hl] at hb
        simp [z] at hb
  · have hb := nf hb
    simp only [Bool.and_eq_true, decide_eq_true_eq] at hb
    obtain ⟨h0, h1⟩ := hb
    refine bd_whenD (dt_eqI (de_lenS (x' := "") (de_var (i := 0) rfl (pv 0)) (sz (by omega)) B.len) de_int) (fun hb => ?_) (fun hb => ?_)
    ·
      refine bd_retD de_bool (hP _ ?_) hq
      have hb := of_decide_eq_true hb
      obtain ⟨c, hc⟩ := List.length_eq_one_iff.mp (show (tl t).length = 1 by omega)
      rw [hc] at h1 ⊢
      have h1 : lvOk c = true := h1
      rw [labOf_1, if_pos h1]
      rfl
    · have hb := of_decide_eq_false hb
      obtain ⟨c, k, ms, hc⟩ : ∃ c k ms, tl t = c :: k :: ms := by
        match e : tl t with
        | [] => rw [e] at hl; simp at hl; omega
        | [c] => rw [e] at hl; simp at hl; omega
        | c :: k :: ms => exact ⟨c, k, ms, rfl⟩
      rw [hc] at h1 hP
      have h1 : lvOk c = true := h1
      have hm : tl (suf t 2) = ms := by rw [tl_suf, hc]; rfl
      have hml := len_tl' (suf t 2)
      rw [hm] at hml
      have hs2 := len_suf t 2
      refine bd_setD (i := 1) (DE.is (d' := .str (suf t 2)) (de_slS (de_var (i := 0) rfl (pv 0)) (do_some (i := ((2 : Nat) : Int)) de_int) do_none (sz (by omega))) (congrArg PyData.str (cut_suf t 2))) ?_
      refine bd_whenD (k := !(decide (k = 58) && (decide (0 < ms.length) && ms.all fun n => decide (n ∈ tl "012345")))) (DT.is (DW.t (dw_or (dt_neS (de_ixS (n := k) (de_var (i := 0) rfl (pv 0)) de_int (sz (by omega)) (atI_nat (j := 1) (by rw [hc]; rfl))) de_str) fun _ => (dw_or (dt_eqI (de_lenS (x' := "") (de_var (i := 1) rfl (pv 1)) (sz (by omega)) B.len) de_int) fun _ => (dw_one (dt_gtI (de_lenL (de_frz (DLc.n (dlc (j := 3) (x := "_law_char") sg ms (fun n => !decide (n ∈ tl "012345")) _ (DI_of hm (di_str (de_var (i := 1) rfl (pv 1)))) (sz (by omega)) (blkOk_by (N := n_law_is_label) (sc := defScope s_law_is_label) (by decide +kernel)) (fun _ _ _ _ _ => pg_name (i := 3) nd rfl (Or.inl rfl)) (fun y hy _ _ _ _ _ => (dt_niC (de_var (i := 3) rfl (pv 3)) de_str)) (fun y hy hc _ _ _ _ _ => (de_var (i := 3) rfl (pv 3)))))) rfl B.len) de_int))))) ?_) (fun hb => ?_) (fun hb => ?_)
      · rw [gt0, show decide ((⟨#[k]⟩ : Str) = ":") = decide (k = 58) from sg_eq, show decide (((suf t 2).length : Int) = 0) = !decide (0 < ms.length) from by rw [← hml, Bool.eq_iff_iff]; simp]
        cases decide (k = 58) <;> cases decide (0 < ms.length) <;> simp
      ·
        refine bd_retD de_bool (hP _ ?_) hq
        have hb := nt hb
        cases ms with
        | nil => rfl
        | cons m ms =>
          rw [labOf_3, if_neg]
          · rfl
          · rintro ⟨_, z2, z3⟩
            unfold mkOk at z3
            simp only [Bool.and_eq_true, List.all_eq_true, decide_eq_true_eq] at z3
            have : ((m :: ms).all fun n => decide (n ∈ tl "012345")) = true := List.all_eq_true.mpr fun x hx => decide_eq_true (mem_mk.mpr (z3.1 x hx))
            rw [this, z2] at hb
            simp at hb
      · have hb := nf hb
        simp only [Bool.and_eq_true, decide_eq_true_eq, List.all_eq_true] at hb
        obtain ⟨b1, b2, b3⟩ := hb
        have hk : ∀ y ∈ List.range ((((suf t 2).length : Int) - 1).toNat), y + 1 < ms.length := fun y hy => by
          have := List.mem_range.mp hy
          omega
        have ga : ∀ y, y < ms.length → (tl (suf t 2))[y]? = some (ms.getD y 0) := fun y hy => by rw [hm, List.getElem?_eq_getElem hy, List.getD_eq_getElem?_getD, List.getElem?_eq_getElem hy]; rfl
        refine bd_retD (de_eqI (de_lenL (de_frz (DLc.n (dlc (j := 2) (x := "_law_k") (fun (k : Nat) => .int (1 + (k : Int))) _ (fun k => !decide (ms.getD k 0 < ms.getD (k + 1) 0)) _ (di_rng2 de_int (de_lenS (x' := "") (de_var (i := 1) rfl (pv 1)) (sz (by omega)) B.len) B.range ⟨by omega, by omega⟩ ⟨by omega, by omega⟩) (sz (by rw [List.length_range]; omega)) (blkOk_by (N := n_law_is_label) (sc := defScope s_law_is_label) (by decide +kernel)) (fun _ _ _ _ _ => pg_name (i := 2) nd rfl (Or.inl rfl)) (fun y hy _ _ _ _ _ => DT.is (dt_geS (x := ⟨#[ms.getD y 0]⟩) (y := ⟨#[ms.getD (y + 1) 0]⟩) (de_ixS (de_var (i := 1) rfl (pv 1)) (de_subI (de_var (i := 2) rfl (pv 2)) de_int) (sz (by omega)) (by rw [show (1 + (y : Int) - 1) = ((y : Nat) : Int) from by omega]; exact atI_nat (ga y (by have := hk y hy; omega)))) (de_ixS (de_var (i := 1) rfl (pv 1)) (de_var (i := 2) rfl (pv 2)) (sz (by omega)) (by rw [show (1 + (y : Int)) = ((y + 1 : Nat) : Int) from by omega]; exact atI_nat (ga (y + 1) (hk y hy))))) (by show (!decide ([ms.getD y 0] < [ms.getD (y + 1) 0])) = _; rw [one_lt])) (fun y hy hc _ _ _ _ _ => (de_var (i := 2) rfl (pv 2)))))) rfl B.len) de_int) (hP _ ?_) hq
        rw [len_filter0, show (((suf t 2).length : Int) - 1).toNat = ms.length - 1 from by omega, asc_geN]
        cases ms with
        | nil => simp at b2
        | cons m ms =>
          rw [labOf_3]
          have e : mkOk (m :: ms) = ascN (m :: ms) := by
            unfold mkOk
            rw [show ((m :: ms).all fun c => decide (48 ≤ c) && decide (c ≤ 53)) = true from List.all_eq_true.mpr fun x hx => by
              have := mem_mk.mp (b3 x hx)
              simp [this.1, this.2]]
            rfl
          rw [e]
          cases ascN (m :: ms) with
          | true => rw [if_pos ⟨h1, b1, rfl⟩]; rfl
          | false => rw [if_neg fun z => by cases z.2.2]; rfl
/-! ### _law_is_path -/
def F_law_is_path : Spc := fun _ rs P => ∃ t : Str, rs = [.d (.str t)] ∧ t.length ≤ 900000 ∧ ∀ r, r = .d (.bool (readPath t).isSome) → P r
theorem ok_law_is_path (B : Bt mg) (T : Ct mg)  (D : Df K mg "_law_is_path" s_law_is_path ["_law_text"] f fd) : Ok P w K mg base 1 "_law_is_path" ["_law_text"] F_law_is_path := by
  refine D.ok (fok D.1 c_law_is_path (fun C rs R h => by obtain ⟨t, rfl, _⟩ := h; rfl) ?_)
  rintro X ⟨cdv, A, outer, s, H, E, rfl, hr⟩ C I0 H0 rs R D ⟨t, rfl, hz, hP⟩ hq
  have nd := c_law_is_path.nd
  unfold readPath at hP
  have h1 : (Txt.split t "/").length ≤ t.length + 2 := split_many t 47
  have h2 : ∀ p ∈ Txt.split t "/", p.length ≤ t.length := fun p hp => split_len (s := 47) hp
  have h3 : Txt.split t "/" ≠ [] := split_ne t 47
  refine bd_setD (i := 1) (de_frz (dn_split (de_var (i := 0) rfl (pv 0)) de_str rfl (sz (by omega)))) ?_
  generalize Txt.split t "/" = ps at *
  refine bd_setD (i := 2) de_str ?_
  refine bd_setLcD (i := 3) (dlc (j := 4) (x := "_law_part") PyData.str ps (fun p => !partOk p) PyData.str (di_list (de_var (i := 1) rfl (pv 1))) (sz (by omega)) (blkOk_by (N := n_law_is_path) (sc := defScope s_law_is_path) (by decide +kernel)) (fun _ _ _ _ _ => pg_name (i := 4) nd rfl (Or.inl rfl)) (fun y hy _ _ _ _ _ => DT.is (DW.t (dw_or (dt_eqI (de_lenS (x' := "") (de_var (i := 4) rfl (pv 4)) (sz (by have := h2 y hy; omega)) B.len) de_int) fun _ => (dw_or (dt_gtI (de_lenS (x' := "") (de_var (i := 4) rfl (pv 4)) (sz (by have := h2 y hy; omega)) B.len) de_int) fun _ => (dw_one (dt_gtI (de_lenL (de_frz (DLc.n (dlc (j := 5) (x := "_law_char") sg (tl y) (fun n => !decide (n ∈ tl "abcdefghijklmnopqrstuvwxyz0123456789")) sg (di_str (de_var (i := 4) rfl (pv 4))) (sz (by rw [len_tl']; have := h2 y hy; omega)) (blkOk_by (N := n_law_is_path) (sc := _) (by kernel_rfl)) (fun _ _ _ _ _ => pg_name (i := 5) nd rfl (Or.inl rfl)) (fun y hy _ _ _ _ _ => (dt_niC (de_var (i := 5) rfl (pv 5)) (de_var (i := 2) rfl (pv 2)))) (fun y hy hc _ _ _ _ _ => (de_var (i := 5) rfl (pv 5)))))) rfl B.len) de_int))))) ?_) (fun y hy hc _ _ _ _ _ => (de_var (i := 4) rfl (pv 4)))) ?_
  · rw [gt0]
    unfold partOk onlyHas
    rw [show LOW ++ DIG = tl "abcdefghijklmnopqrstuvwxyz0123456789" from by decide +kernel]
    rw [show decide ((y.length : Int) = 0) = !decide (1 ≤ y.length) from by (rw [Bool.eq_iff_iff]; simp; try omega), show decide ((8 : Int) < (y.length : Int)) = !decide (y.length ≤ 8) from by (rw [Bool.eq_iff_iff]; simp; try omega)]
    cases decide (1 ≤ y.length) <;> cases decide (y.length ≤ 8) <;> simp
  refine bd_retD (de_and (de_leI (de_lenL (de_var (i := 1) rfl (pv 1)) rfl B.len) de_int) fun _ => (de_one (de_eqI (de_lenL (de_var (i := 3) rfl (pv 3)) rfl B.len) de_int))) (hP _ ?_) hq
  rw [len_filter0, List.length_map, dle (j := 4) (b := 4) (a := ps.length) rfl rfl]
  have h4 : 1 ≤ ps.length := List.length_pos_iff.mpr h3
  unfold isPath
  rw [decide_eq_true h4]
  cases decide (ps.length ≤ 4) <;> cases ps.all partOk <;> rfl
/-! ### _law_is_id -/
def F_law_is_id : Spc := fun _ rs P => ∃ ps : List Str, rs = [.d (.list (ps.map .str))] ∧ (∀ p ∈ ps, p.length ≤ 900000) ∧ ∀ r, r = .d (.bool (idParts ps).isSome) → P r
theorem idParts_ne {ps : List Str} (h : ps.length ≠ 3) : idParts ps = none := by
  match ps, h with
  | [], _ => rfl
  | [_], _ => rfl
  | [_, _], _ => rfl
  | [_, _, _], h => exact absurd rfl h
  | _ :: _ :: _ :: _ :: _, _ => rfl
theorem ok_law_is_id (B : Bt mg) (T : Ct mg) (g_law_is_label : Ok P w K mg base 1 "_law_is_label" ["_law_text"] F_law_is_label) (g_law_is_number : Ok P w K mg base 1 "_law_is_number" ["_law_text", "_law_least", "_law_most"] F_law_is_number) (D : Df K mg "_law_is_id" s_law_is_id ["_law_parts"] f fd) : Ok P w K mg base 2 "_law_is_id" ["_law_parts"] F_law_is_id := by
  refine D.ok (fok D.1 c_law_is_id (fun C rs R h => by obtain ⟨t, rfl, _⟩ := h; rfl) ?_)
  rintro X ⟨cdv, A, outer, s, H, E, rfl, hr⟩ C I0 H0 rs R D ⟨ps, rfl, hz, hP⟩ hq
  have nd := c_law_is_id.nd
  have gw := getW hz
  refine bd_setD (i := 1) de_str ?_
  refine bd_whenD (k := !(decide (ps.length = 3) && nmOk (ps.getD 1 ""))) (DT.is (DW.t (dw_or (DT.is (b' := !decide (ps.length = 3)) (dt_neI (de_lenL (de_var (i := 0) rfl (pv 0)) rfl B.len) de_int) (congrArg (fun b => !b) (lenI _ ps 3))) fun hb => (dw_or (dt_not (dt_lele de_int (de_lenS (x' := "") (x := ps.getD 1 "") (de_ixL (de_var (i := 0) rfl (pv 0)) de_int (atW 1 (by have := of_decide_eq_true (nf hb); omega))) (sz (by have := gw 1; omega)) B.len) de_int)) fun _ => (dw_one (dt_gtI (de_lenL (de_frz (DLc.n (dlc (j := 2) (x := "_law_char") sg (tl (ps.getD 1 "")) (fun n => !decide (n ∈ LOW)) sg (di_str (t := ps.getD 1 "") (de_ixL (de_var (i := 0) rfl (pv 0)) de_int (atW 1 (by have := of_decide_eq_true (nf hb); omega)))) (sz (by rw [len_tl']; have := gw 1; omega)) (blkOk_by (N := n_law_is_id) (sc := defScope s_law_is_id) (by decide +kernel)) (fun _ _ _ _ _ => pg_name (i := 2) nd rfl (Or.inl rfl)) (fun y hy _ _ _ _ _ => (dt_niC (de_var (i := 2) rfl (pv 2)) (de_var (i := 1) rfl (pv 1)))) (fun y hy hc _ _ _ _ _ => (de_var (i := 2) rfl (pv 2)))))) rfl B.len) de_int))))) ?_) (fun hb => ?_) (fun hb => ?_)
  · rw [gt0, dle (i := 1) (a := 1) (b := (ps.getD 1 "").length) rfl rfl, dle (j := 8) (b := 8) (a := (ps.getD 1 "").length) rfl rfl]
    unfold nmOk onlyHas
    cases decide (ps.length = 3) <;> cases decide (1 ≤ (ps.getD 1 "").length) <;> cases decide ((ps.getD 1 "").length ≤ 8) <;> simp
  ·
    refine bd_retD de_bool (hP _ ?_) hq
    have hb := nt hb
    by_cases h3 : ps.length = 3
    · rw [decide_eq_true h3] at hb
      rw [w3 h3, idParts_3]
      have hb : nmOk (ps.getD 1 "") = false := by simpa using hb
      rw [hb]
      cases readLab (ps.getD 0 "") <;> cases readNum (ps.getD 2 "") 1 99999 <;> rfl
    · rw [idParts_ne h3]; rfl
  · have hb := nf hb
    simp only [Bool.and_eq_true, decide_eq_true_eq] at hb
    obtain ⟨h3, h4⟩ := hb
    refine bd_retD (de_and (de_fn g_law_is_label (hr.mono (by decide)) (da_cons (de_ixL (de_var (i := 0) rfl (pv 0)) de_int (atW 0 (by omega))) da_nil) (fun C => ⟨_, rfl, (by have := gw 0; omega), fun r e => e⟩)) fun _ => (de_one (de_fn g_law_is_number (hr.mono (by decide)) (da_cons (de_ixL (de_var (i := 0) rfl (pv 0)) de_int (atW 2 (by omega))) (da_cons de_int (da_cons de_int da_nil))) (fun C => ⟨_, _, _, rfl, (by have := gw 2; omega), fun r e => e⟩)))) (hP _ ?_) hq
    congr 2
    conv => rhs; rw [w3 h3, idParts_3]
    rw [h4]
    cases readLab (ps.getD 0 "") <;> cases readNum (ps.getD 2 "") 1 99999 <;> rfl
/-! ### _law_is_vertex -/
def F_law_is_vertex : Spc := fun _ rs P => ∃ ps : List Str, rs = [.d (.list (ps.map .str))] ∧ (∀ p ∈ ps, p.length ≤ 900000) ∧ ∀ r, r = .d (.bool (vxParts ps).isSome) → P r
theorem vxParts_ne {ps : List Str} (h : ps.length ≠ 5) : vxParts ps = none := by
  match ps, h with
  | [], _ => rfl
  | [_], _ => rfl
  | [_, _], _ => rfl
  | [_, _, _], _ => rfl
  | [_, _, _, _], _ => rfl
  | [_, _, _, _, _], h => exact absurd rfl h
  | _ :: _ :: _ :: _ :: _ :: _ :: _, _ => rfl
theorem ok_law_is_vertex (B : Bt mg) (T : Ct mg) (g_law_is_id : Ok P w K mg base 2 "_law_is_id" ["_law_parts"] F_law_is_id) (g_law_is_number : Ok P w K mg base 1 "_law_is_number" ["_law_text", "_law_least", "_law_most"] F_law_is_number) (D : Df K mg "_law_is_vertex" s_law_is_vertex ["_law_parts"] f fd) : Ok P w K mg base 3 "_law_is_vertex" ["_law_parts"] F_law_is_vertex := by
  refine D.ok (fok D.1 c_law_is_vertex (fun C rs R h => by obtain ⟨t, rfl, _⟩ := h; rfl) ?_)
  rintro X ⟨cdv, A, outer, s, H, E, rfl, hr⟩ C I0 H0 rs R D ⟨ps, rfl, hz, hP⟩ hq
  have nd := c_law_is_vertex.nd
  have gw := getW hz
  refine bd_retD (de_and (k := decide (ps.length = 5)) (DE.is (de_eqI (de_lenL (de_var (i := 0) rfl (pv 0)) rfl B.len) de_int) (congrArg PyData.bool (lenI _ ps 5))) fun hb => (de_and (de_fn (d := .bool (idParts [ps.getD 0 "", ps.getD 1 "", ps.getD 2 ""]).isSome) g_law_is_id (hr.mono (by decide)) (da_cons (de_frz (dn_slL (de_var (i := 0) rfl (pv 0)) do_none (do_some (i := 3) de_int))) da_nil) (fun C => ⟨[ps.getD 0 "", ps.getD 1 "", ps.getD 2 ""], by rw [w5 (of_decide_eq_true hb)]; rfl, by
    simp only [List.mem_cons, List.not_mem_nil, or_false, forall_eq_or_imp, forall_eq]
    exact ⟨gw 0, gw 1, gw 2⟩, fun r e => e⟩)) fun _ => (de_and (de_fn g_law_is_number (hr.mono (by decide)) (da_cons (de_ixL (de_var (i := 0) rfl (pv 0)) de_int (atW 3 (by have := of_decide_eq_true hb; omega))) (da_cons de_int (da_cons de_int da_nil))) (fun C => ⟨_, _, _, rfl, (by have := gw 3; omega), fun r e => e⟩)) fun _ => (de_one (de_fn g_law_is_number (hr.mono (by decide)) (da_cons (de_ixL (de_var (i := 0) rfl (pv 0)) de_int (atW 4 (by have := of_decide_eq_true hb; omega))) (da_cons de_int (da_cons de_int da_nil))) (fun C => ⟨_, _, _, rfl, (by have := gw 4; omega), fun r e => e⟩)))))) (hP _ ?_) hq
  congr 2
  by_cases h5 : ps.length = 5
  · rw [decide_eq_true h5]
    conv => rhs; rw [w5 h5, vxParts_5]
    cases idParts [ps.getD 0 "", ps.getD 1 "", ps.getD 2 ""] <;> cases readNum (ps.getD 3 "") 0 11 <;> cases readNum (ps.getD 4 "") 0 199 <;> rfl
  · rw [decide_eq_false h5, vxParts_ne h5]; rfl
end
end QL
namespace QL
open PySem PySem.Spec PyProof.Rows L2
/-! ### a vertex's key -/
def Vx.key (v : Vx) : PyData := .tuple [inat v.id.lab.lv, .tuple (v.id.lab.ms.map inat), .str v.id.nm, inat v.id.no, inat v.pl, inat v.ix]
section
open PySem.W
theorem eqv_ints : ∀ a b : List Nat, PyData.eqvAll (a.map inat) (b.map inat) = true → a = b
  | [], [], _ => rfl
  | [], _ :: _, h => by simp [PyData.eqvAll] at h
  | _ :: _, [], h => by simp [PyData.eqvAll] at h
  | x :: a, y :: b, h => by
    rw [List.map_cons, List.map_cons, eqv_all_cons, Bool.and_eq_true] at h
    have h1 : (x : Int) = (y : Int) := by
      have := h.1
      simpa [inat, PyData.eqv] using this
    rw [eqv_ints a b h.2, show x = y from by omega]
theorem lt_ms {a b : List Nat} (h : a ≠ b) (l m : List (Int ⊕ List Nat)) : lexLt itemOrd (keyToks (.tuple (a.map inat)) ++ l) (keyToks (.tuple (b.map inat)) ++ m) = lexLt itemOrd (keyToks (.tuple (a.map inat))) (keyToks (.tuple (b.map inat))) :=
  (toks_eqv (.tuple (a.map inat)) (.tuple (b.map inat)) (by rw [alike]; exact alike_intsN a b)).2 (by
    cases e : PyData.eqv (.tuple (a.map inat)) (.tuple (b.map inat)) with
    | false => rfl
    | true => exact absurd (eqv_ints a b (by rw [PyData.eqv] at e; exact e)) h) l m
theorem key_lt (a b : Vx) : dataLt a.key b.key = ltV a b := by
  have ta : ∀ v : Vx, keyToks v.key = .inl 1 :: .inl (v.id.lab.lv : Int) :: .inl 1 :: (keyToks (.tuple (v.id.lab.ms.map inat)) ++ (.inl 1 :: .inr v.id.nm.cps.toList :: .inl 1 :: .inl (v.id.no : Int) :: .inl 1 :: .inl (v.pl : Int) :: .inl 1 :: .inl (v.ix : Int) :: [.inl 0])) := fun v => by
    simp only [Vx.key, keyToks, keyToksAll, inat, List.cons_append, List.nil_append, List.append_assoc]
  have tb : ∀ v : Vx, keyToks v.d = .inl 1 :: .inl 1 :: .inl 1 :: .inr ("label" : Str).cps.toList :: .inl 1 :: .inl (v.id.lab.lv : Int) :: .inl 1 :: (keyToks (.tuple (v.id.lab.ms.map inat)) ++ (.inl 0 :: .inl 1 :: .inr v.id.nm.cps.toList :: .inl 1 :: .inl (v.id.no : Int) :: .inl 0 :: .inl 1 :: .inl (v.pl : Int) :: .inl 1 :: .inl (v.ix : Int) :: [.inl 0])) := fun v => by
    simp only [Vx.d, Idn.d, Lab.d, keyToks, keyToksAll, inat, List.cons_append, List.nil_append, List.append_assoc]
  have lx : ∀ (x : Int ⊕ List Nat) (l m : List (Int ⊕ List Nat)), lexLt itemOrd (x :: l) (x :: m) = lexLt itemOrd l m := fun x l m => lex_self (O := itemOrd) x l m
  unfold ltV dataLt
  rw [ta, ta, tb, tb]
  simp only [lx]
  by_cases e1 : (Sum.inl (a.id.lab.lv : Int) : Int ⊕ List Nat) = .inl (b.id.lab.lv : Int)
  · rw [e1]
    simp only [lx]
    by_cases e2 : a.id.lab.ms = b.id.lab.ms
    · rw [e2, lex_pre, lex_pre]
      simp only [lx]
      by_cases e3 : (Sum.inr a.id.nm.cps.toList : Int ⊕ List Nat) = .inr b.id.nm.cps.toList
      · rw [e3]
        simp only [lx]
        by_cases e4 : (Sum.inl (a.id.no : Int) : Int ⊕ List Nat) = .inl (b.id.no : Int)
        · rw [e4]
          simp only [lx]
        · exact (lex_atom e4 _ _).trans (lex_atom e4 _ _).symm
      · exact (lex_atom e3 _ _).trans (lex_atom e3 _ _).symm
    · rw [lt_ms e2, lt_ms e2]
  · exact (lex_atom e1 _ _).trans (lex_atom e1 _ _).symm
end
theorem alike_key (a b : Vx) : PySem.W.alike a.key b.key = true := by
  show (true && (PySem.W.alike (.tuple (a.id.lab.ms.map inat)) (.tuple (b.id.lab.ms.map inat)) && true)) = true
  rw [show PySem.W.alike (.tuple (a.id.lab.ms.map inat)) (.tuple (b.id.lab.ms.map inat)) = PySem.W.alikeAll (a.id.lab.ms.map inat) (b.id.lab.ms.map inat) from by rw [PySem.W.alike], alike_intsN]
  rfl
theorem dep_key (v : Vx) : v.key.depth ≤ 8 := by
  show max 0 (max (PyData.depthAll (v.id.lab.ms.map inat) + 1) (max 0 (max 0 (max 0 (max 0 0))))) + 1 ≤ 8
  rw [dep_ints]; decide
theorem cmp_key (vs : List Vx) : Cmp (vs.map Vx.key) := fun a ha b hb => by
  obtain ⟨x, _, rfl⟩ := List.mem_map.mp ha
  obtain ⟨y, _, rfl⟩ := List.mem_map.mp hb
  exact ⟨alike_key x y, ⟨(by intro z; cases z), Nat.le_trans (dep_key x) (by decide)⟩⟩
theorem asc_key (vs : List Vx) : ascD (vs.map Vx.key) = adjAll ltV vs := by
  unfold ascD
  rw [adjAll_range (fun a b => PySem.W.dataLt a b), adjAll_map]
  exact adjAll_congr fun a _ b _ => key_lt a b
/-- a number's text -/
theorem num_int {t : Str} {lo hi : Int} {n : Nat} (h : readNum t lo hi = some n) : PySem.intText? t = some (n : Int) ∧ t.length ≤ 5 := by
  obtain ⟨h1, rfl, _⟩ := readNum_some h
  obtain ⟨h2, h3, h4⟩ := numOk_dig h1
  have h5 : t.length ≤ 5 := by rw [← len_tl']; exact h4
  exact ⟨intText_digits h2 h3 (by omega), h5⟩
theorem lab_text {t : Str} {l : Lab} (h : readLab t = some l) : (tl t)[0]? = some (48 + l.lv) ∧ tl (suf t 2) = l.ms.map (48 + ·) ∧ l.lv ≤ 7 ∧ (∀ m ∈ l.ms, m ≤ 5) ∧ t.length ≤ 8 := by
  have ⟨h1, h2⟩ := labOf_ok h
  have ml := marks_len h1
  refine ⟨by rw [h2]; rfl, ?_, h1.1, h1.2.1, ?_⟩
  · rw [tl_suf, h2]
    by_cases e : l.ms = []
    · rw [if_pos e, e]; rfl
    · rw [if_neg e]; rfl
  · rw [← len_tl', h2]
    split
    · simp
    · simp; omega
section
variable {P : Program} {w : World} {K : PySem.W.Frag} {mg : Str → Option Value} {base : Heap} {f : Addr} {fd : FuncData}
/-! ### _law_key -/
def F_law_key : Spc := fun _ rs P => ∃ (t : Str) (v : Vx), rs = [.d (.str t)] ∧ t.length ≤ 900000 ∧ readVx t = some v ∧ ∀ r, r = .d v.key → P r
theorem ok_law_key (B : Bt mg) (T : Ct mg)  (D : Df K mg "_law_key" s_law_key ["_law_text"] f fd) : Ok P w K mg base 1 "_law_key" ["_law_text"] F_law_key := by
  refine D.ok (fok D.1 c_law_key (fun C rs R h => by obtain ⟨t, v, rfl, _⟩ := h; rfl) ?_)
  rintro X ⟨cdv, A, outer, s, H, E, rfl, hr⟩ C I0 H0 rs R D ⟨t, v, rfl, hz, hv, hP⟩ hq
  have nd := c_law_key.nd
  unfold readVx at hv
  have h2 : ∀ p ∈ Txt.split t ".", p.length ≤ t.length := fun p hp => split_len (s := 46) hp
  refine bd_setD (i := 1) (de_frz (dn_split (de_var (i := 0) rfl (pv 0)) de_str rfl (sz (by omega)))) ?_
  generalize Txt.split t "." = ps at *
  obtain ⟨a, b, c, d, e, rfl, hid, hd, he⟩ := vxParts_some hv
  obtain ⟨a', b', c', eq3, hlab, hb, hc, hn⟩ := idParts_some hid
  simp only [List.cons.injEq, and_true] at eq3
  obtain ⟨rfl, rfl, rfl⟩ := eq3
  obtain ⟨l1, l2, l3, l4, l5⟩ := lab_text hlab
  obtain ⟨c1, c2⟩ := num_int hc
  obtain ⟨d1, d2⟩ := num_int hd
  obtain ⟨e1, e2⟩ := num_int he
  have ix : ∀ {i : Nat} {x : Str}, [a, b, c, d, e][i]? = some x → atI ([a, b, c, d, e].map PyData.str) (i : Int) = some (.str x) := fun {i x} h => at3 (by rw [List.getElem?_map, h]; rfl)
  refine bd_setLcD (i := 2) (dlc0 (j := 3) (x := "_law_char") sg (v.id.lab.ms.map (48 + ·)) (fun c => inat (c - 48)) (DI_of l2 (di_str (t := suf a 2) (DE.is (d' := .str (suf a 2)) (de_slS (x := a) (de_ixL (de_var (i := 1) rfl (pv 1)) de_int (ix (i := 0) rfl)) (do_some (i := ((2 : Nat) : Int)) de_int) do_none (sz (by omega))) (congrArg PyData.str (cut_suf a 2))))) (sz (by have := congrArg List.length l2; rw [len_tl'] at this; have := len_suf a 2; omega)) (blkOk_by (N := n_law_key) (sc := defScope s_law_key) (by decide +kernel)) (fun _ _ _ _ _ => pg_name (i := 3) nd rfl (Or.inl rfl)) (fun y hy _ _ _ _ _ => (de_intS (de_var (i := 3) rfl (pv 3)) (int_sg (by obtain ⟨m, hm, rfl⟩ := List.mem_map.mp hy; have := l4 m hm; omega)) (by show 1 ≤ 640; decide) B.int))) ?_
  refine bd_retD (de_tup (ds := [_, _, _, _, _, _]) (da_cons (de_intS (de_ixS (n := 48 + v.id.lab.lv) (x := a) (de_ixL (de_var (i := 1) rfl (pv 1)) de_int (ix (i := 0) rfl)) de_int (sz (by omega)) (atI_nat (j := 0) l1)) (int_sg (by omega)) (by show 1 ≤ 640; decide) B.int) (da_cons (de_tupL (de_var (i := 2) rfl (pv 2)) B.tuple) (da_cons (de_ixL (d := .str b) (de_var (i := 1) rfl (pv 1)) de_int (ix (i := 1) rfl)) (da_cons (de_intS (x := c) (de_ixL (de_var (i := 1) rfl (pv 1)) de_int (ix (i := 2) rfl)) c1 (by omega) B.int) (da_cons (de_intS (x := d) (de_ixL (de_var (i := 1) rfl (pv 1)) de_int (ix (i := 3) rfl)) d1 (by omega) B.int) (da_cons (de_intS (x := e) (de_ixL (de_var (i := 1) rfl (pv 1)) de_int (ix (i := 4) rfl)) e1 (by omega) B.int) da_nil))))))) (hP _ ?_) hq
  unfold Vx.key
  rw [List.map_map, hb, show (48 + v.id.lab.lv - 48) = v.id.lab.lv from by omega]
  congr 4
  refine congrArg PyData.tuple (List.map_congr_left fun m _ => ?_)
  show inat (48 + m - 48) = inat m
  rw [show 48 + m - 48 = m from by omega]
/-! ### _law_are_vertices -/
def areVx (t : Str) (a : Int) (m : Nat) : Bool := if t = "-" then decide (a = 0) else (readVxs t m).isSome
def F_law_are_vertices : Spc := fun _ rs P => ∃ (t : Str) (a : Int) (m : Nat), rs = [.d (.str t), .d (.int a), .d (.int (m : Int))] ∧ t.length ≤ 700000 ∧ ∀ r, r = .d (.bool (areVx t a m)) → P r
theorem ok_law_are_vertices (B : Bt mg) (T : Ct mg) (g_law_is_vertex : Ok P w K mg base 3 "_law_is_vertex" ["_law_parts"] F_law_is_vertex) (g_law_key : Ok P w K mg base 1 "_law_key" ["_law_text"] F_law_key) (D : Df K mg "_law_are_vertices" s_law_are_vertices ["_law_text", "_law_least", "_law_most"] f fd) : Ok P w K mg base 4 "_law_are_vertices" ["_law_text", "_law_least", "_law_most"] F_law_are_vertices := by
  refine D.ok (fok D.1 c_law_are_vertices (fun C rs R h => by obtain ⟨t, a, m, rfl, _⟩ := h; rfl) ?_)
  rintro X ⟨cdv, A, outer, s, H, E, rfl, hr⟩ C I0 H0 rs R D ⟨t, a, m, rfl, hz, hP⟩ hq
  have nd := c_law_are_vertices.nd
  unfold areVx at hP
  refine bd_whenD (dt_eqS (de_var (i := 0) rfl (pv 0)) de_str) (fun hb => ?_) (fun hb => ?_)
  ·
    refine bd_retD (de_eqI (de_var (i := 1) rfl (pv 1)) de_int) (hP _ ?_) hq
    rw [if_pos (of_decide_eq_true hb)]
  · have hne := of_decide_eq_false hb
    rw [if_neg hne] at hP
    unfold readVxs at hP
    rw [if_neg hne] at hP
    have h1 : (Txt.split t ",").length ≤ t.length + 2 := split_many t 44
    have h2 : ∀ p ∈ Txt.split t ",", p.length ≤ t.length := fun p hp => split_len (s := 44) hp
    refine bd_setD (i := 3) (de_frz (dn_split (de_var (i := 0) rfl (pv 0)) de_str rfl (sz (by omega)))) ?_
    generalize Txt.split t "," = ps at *
    refine bd_whenD (k := !(decide (ps.length ≤ m) && ps.all fun p => (readVx p).isSome)) (DT.is (DW.t (dw_or (dt_gtI (de_lenL (de_var (i := 3) rfl (pv 3)) rfl B.len) (de_var (i := 2) rfl (pv 2))) fun _ => (dw_one (dt_gtI (de_lenL (de_frz (DLc.n (dlc (j := 5) (x := "_law_part") PyData.str ps (fun p => !(readVx p).isSome) PyData.str (di_list (de_var (i := 3) rfl (pv 3))) (sz (by omega)) (blkOk_by (N := n_law_are_vertices) (sc := defScope s_law_are_vertices) (by decide +kernel)) (fun _ _ _ _ _ => pg_name (i := 5) nd rfl (Or.inl rfl)) (fun y hy _ _ _ _ _ => (dt_not (dt_val (de_fn (d := .bool (readVx y).isSome) g_law_is_vertex (hr.mono (by decide)) (da_cons (de_frz (dn_split (x := y) (de_var (i := 5) rfl (pv 5)) de_str rfl (sz (by have := h2 y hy; omega)))) da_nil) (fun C => ⟨Txt.split y ".", rfl, fun p hp => by have := split_len (s := 46) hp; have := h2 y hy; omega, fun r e => e⟩))))) (fun y hy hc _ _ _ _ _ => (de_var (i := 5) rfl (pv 5)))))) rfl B.len) de_int)))) ?_) (fun hb => ?_) (fun hb => ?_)
    · rw [gt0, List.length_map, show decide ((m : Int) < (ps.length : Int)) = !decide (ps.length ≤ m) from by (rw [Bool.eq_iff_iff]; simp; try omega)]
      cases decide (ps.length ≤ m) <;> simp
    ·
      refine bd_retD de_bool (hP _ ?_) hq
      rw [if_neg]
      · rfl
      · rintro ⟨z1, z2, _⟩
        rw [decide_eq_true z1, z2] at hb
        cases hb
    · have hb := nf hb
      rw [Bool.and_eq_true, decide_eq_true_eq] at hb
      obtain ⟨b1, b2⟩ := hb
      have b3 : ∀ p ∈ ps, (readVx p).isSome = true := List.all_eq_true.mp b2
      refine bd_setD (i := 4) (de_frz (DLc.n (dlc0 (j := 5) (x := "_law_part") PyData.str ps (fun p => optD Vx.key (readVx p)) (di_list (de_var (i := 3) rfl (pv 3))) (sz (by omega)) (blkOk_by (N := n_law_are_vertices) (sc := defScope s_law_are_vertices) (by decide +kernel)) (fun _ _ _ _ _ => pg_name (i := 5) nd rfl (Or.inl rfl)) (fun y hy _ _ _ _ _ => (de_fn g_law_key (hr.mono (by decide)) (da_cons (de_var (i := 5) rfl (pv 5)) da_nil) (fun C => by
        obtain ⟨v, hv⟩ := Option.isSome_iff_exists.mp (b3 y hy)
        exact ⟨y, v, rfl, (by have := h2 y hy; omega), hv, fun r e => by rw [e, hv]; rfl⟩)))))) ?_
      rw [opt_map _ _ ps b3]
      have fl : (ps.filterMap readVx).length ≤ ps.length := List.length_filterMap_le _ _
      generalize ps.filterMap readVx = vs at *
      have hk : ∀ y ∈ List.range ((((vs.map Vx.key).length : Int) - 1).toNat), y < (vs.map Vx.key).length ∧ y + 1 < (vs.map Vx.key).length := fun y hy => by
        have := List.mem_range.mp hy
        omega
      have hc := cmp_key vs
      have lk : (vs.map Vx.key).length = vs.length := List.length_map _
      refine bd_retD (de_eqI (de_lenL (de_frz (DLc.n (dlc (j := 6) (x := "_law_k") (fun (k : Nat) => .int (1 + (k : Int))) _ (fun k => !PySem.W.dataLt ((vs.map Vx.key).getD k .none) ((vs.map Vx.key).getD (k + 1) .none)) _ (di_rng2 de_int (de_lenL (de_var (i := 4) rfl (pv 4)) rfl B.len) B.range ⟨by omega, by omega⟩ ⟨by omega, by omega⟩) (sz (by rw [List.length_range]; omega)) (blkOk_by (N := n_law_are_vertices) (sc := defScope s_law_are_vertices) (by decide +kernel)) (fun _ _ _ _ _ => pg_name (i := 6) nd rfl (Or.inl rfl)) (fun y hy _ _ _ _ _ => (dt_not (dt_ltD hr.units (de_ixL (de_var (i := 4) rfl (pv 4)) (de_subI (de_var (i := 6) rfl (pv 6)) de_int) (atD (hk y hy).1 (by omega))) (de_ixL (de_var (i := 4) rfl (pv 4)) (de_var (i := 6) rfl (pv 6)) (atD (hk y hy).2 (by omega)))
        (hc _ (getD_mem (hk y hy).1) _ (getD_mem (hk y hy).2)).1 (hc _ (getD_mem (hk y hy).1) _ (getD_mem (hk y hy).2)).2.1 (Nat.le_trans (Nat.min_le_left _ _) (hc _ (getD_mem (hk y hy).1) _ (getD_mem (hk y hy).2)).2.2)))) (fun y hy hc _ _ _ _ _ => (de_var (i := 6) rfl (pv 6)))))) rfl B.len) de_int) (hP _ ?_) hq
      rw [len_filter0, show (((vs.map Vx.key).length : Int) - 1).toNat = (vs.map Vx.key).length - 1 from by omega]
      have ea := asc_key vs
      unfold ascD at ea
      rw [ea]
      cases e : adjAll ltV vs with
      | true => rw [if_pos ⟨b1, b2, rfl⟩]; rfl
      | false => rw [if_neg fun z => by cases z.2.2]; rfl
end
end QL
namespace QL
open PySem PySem.Spec PyProof.Rows L2
/-! ### when a line's words are a change -/
theorem areVx1 (t : Str) (m : Nat) : areVx t 1 m = (!decide (t = "-") && (readVxs t m).isSome) := by
  unfold areVx
  by_cases h : t = "-"
  · rw [if_pos h, decide_eq_true h]; rfl
  · rw [if_neg h, decide_eq_false h]; rfl
theorem areVx0 (t : Str) (m : Nat) : areVx t 0 m = (readVxs t m).isSome := by
  unfold areVx
  by_cases h : t = "-"
  · rw [if_pos h]
    unfold readVxs
    rw [if_pos h]; rfl
  · rw [if_neg h]
theorem par_add {ws : List Str} (h : ws.getD 0 "" = "add") : (parse ws).isSome = (decide (ws.length = 2) && (readPath (ws.getD 1 "")).isSome) := by
  unfold parse
  rw [headW, h]
  by_cases h2 : ws.length = 2
  · rw [if_pos ⟨rfl, h2⟩, decide_eq_true h2]
    cases readPath (ws.getD 1 "") <;> rfl
  · rw [decide_eq_false h2]
    repeat rw [if_neg (by rintro ⟨z, y⟩; first | exact h2 y | exact absurd z (by decide))]
    rfl
theorem par_back {ws : List Str} (h : ws.getD 0 "" = "back") : (parse ws).isSome = (decide (ws.length = 2) && (readIdn (ws.getD 1 "")).isSome) := by
  unfold parse
  rw [headW, h, if_neg (by rintro ⟨z, y⟩; exact absurd z (by decide))]
  by_cases h2 : ws.length = 2
  · rw [if_pos ⟨rfl, h2⟩, decide_eq_true h2]
    cases readIdn (ws.getD 1 "") <;> rfl
  · rw [decide_eq_false h2]
    repeat rw [if_neg (by rintro ⟨z, y⟩; first | exact h2 y | exact absurd z (by decide))]
    rfl
theorem par_drop {ws : List Str} (h : ws.getD 0 "" = "drop") : (parse ws).isSome = (decide (ws.length = 3) && ((readVx (ws.getD 1 "")).isSome && areVx (ws.getD 2 "") 1 12)) := by
  unfold parse
  rw [headW, h, if_neg (by rintro ⟨z, y⟩; exact absurd z (by decide)), if_neg (by rintro ⟨z, y⟩; exact absurd z (by decide)), areVx1]
  by_cases h2 : ws.length = 3
  · by_cases h3 : ws.getD 2 "" = "-"
    · rw [decide_eq_true h2, decide_eq_true h3]
      repeat rw [if_neg (by rintro ⟨z, y⟩; first | exact y.2 h3 | exact absurd z (by decide))]
      cases readVx (ws.getD 1 "") <;> rfl
    · rw [if_pos ⟨rfl, h2, h3⟩, decide_eq_true h2, decide_eq_false h3]
      cases readVx (ws.getD 1 "") <;> cases readVxs (ws.getD 2 "") 12 <;> rfl
  · rw [decide_eq_false h2]
    repeat rw [if_neg (by rintro ⟨z, y⟩; first | exact h2 y.1 | exact absurd z (by decide))]
    rfl
theorem par_move {ws : List Str} (h : ws.getD 0 "" = "move") : (parse ws).isSome = (decide (ws.length = 4) && ((readVx (ws.getD 1 "")).isSome && ((readPath (ws.getD 2 "")).isSome && areVx (ws.getD 3 "") 1 12))) := by
  unfold parse
  rw [headW, h, if_neg (by rintro ⟨z, y⟩; exact absurd z (by decide)), if_neg (by rintro ⟨z, y⟩; exact absurd z (by decide)), if_neg (by rintro ⟨z, y⟩; exact absurd z (by decide)), areVx1]
  by_cases h2 : ws.length = 4
  · by_cases h3 : ws.getD 3 "" = "-"
    · rw [decide_eq_true h2, decide_eq_true h3]
      repeat rw [if_neg (by rintro ⟨z, y⟩; first | exact y.2 h3 | exact absurd z (by decide))]
      cases readVx (ws.getD 1 "") <;> cases readPath (ws.getD 2 "") <;> rfl
    · rw [if_pos ⟨rfl, h2, h3⟩, decide_eq_true h2, decide_eq_false h3]
      cases readVx (ws.getD 1 "") <;> cases readPath (ws.getD 2 "") <;> cases readVxs (ws.getD 3 "") 12 <;> rfl
  · rw [decide_eq_false h2]
    repeat rw [if_neg (by rintro ⟨z, y⟩; first | exact h2 y.1 | exact absurd z (by decide))]
    rfl
theorem par_cut {ws : List Str} (h : ws.getD 0 "" = "cut") : (parse ws).isSome = (decide (ws.length = 3) && ((readVx (ws.getD 1 "")).isSome && areVx (ws.getD 2 "") 1 200)) := by
  unfold parse
  rw [headW, h, if_neg (by rintro ⟨z, y⟩; exact absurd z (by decide)), if_neg (by rintro ⟨z, y⟩; exact absurd z (by decide)), if_neg (by rintro ⟨z, y⟩; exact absurd z (by decide)), if_neg (by rintro ⟨z, y⟩; exact absurd z (by decide)), areVx1]
  by_cases h2 : ws.length = 3
  · by_cases h3 : ws.getD 2 "" = "-"
    · rw [decide_eq_true h2, decide_eq_true h3]
      repeat rw [if_neg (by rintro ⟨z, y⟩; first | exact y.2 h3 | exact absurd z (by decide))]
      cases readVx (ws.getD 1 "") <;> rfl
    · rw [if_pos ⟨rfl, h2, h3⟩, decide_eq_true h2, decide_eq_false h3]
      cases readVx (ws.getD 1 "") <;> cases readVxs (ws.getD 2 "") 200 <;> rfl
  · rw [decide_eq_false h2]
    repeat rw [if_neg (by rintro ⟨z, y⟩; first | exact h2 y.1 | exact absurd z (by decide))]
    rfl
theorem par_order {ws : List Str} (h : ws.getD 0 "" = "order") : (parse ws).isSome = (decide (ws.length = 4) && ((readVx (ws.getD 1 "")).isSome && ((readVx (ws.getD 2 "")).isSome && ((readVx (ws.getD 3 "")).isSome && !decide (ws.getD 2 "" = ws.getD 3 ""))))) := by
  unfold parse
  rw [headW, h, if_neg (by rintro ⟨z, y⟩; exact absurd z (by decide)), if_neg (by rintro ⟨z, y⟩; exact absurd z (by decide)), if_neg (by rintro ⟨z, y⟩; exact absurd z (by decide)), if_neg (by rintro ⟨z, y⟩; exact absurd z (by decide)), if_neg (by rintro ⟨z, y⟩; exact absurd z (by decide))]
  by_cases h2 : ws.length = 4
  · by_cases h3 : ws.getD 2 "" = ws.getD 3 ""
    · rw [decide_eq_true h2, decide_eq_true h3]
      repeat rw [if_neg (by rintro ⟨z, y⟩; first | exact y.2 h3 | exact absurd z (by decide))]
      cases readVx (ws.getD 1 "") <;> cases readVx (ws.getD 2 "") <;> cases readVx (ws.getD 3 "") <;> rfl
    · rw [if_pos ⟨rfl, h2, h3⟩, decide_eq_true h2, decide_eq_false h3]
      cases readVx (ws.getD 1 "") <;> cases readVx (ws.getD 2 "") <;> cases readVx (ws.getD 3 "") <;> rfl
  · rw [decide_eq_false h2]
    repeat rw [if_neg (by rintro ⟨z, y⟩; first | exact h2 y.1 | exact absurd z (by decide))]
    rfl
theorem par_lines {ws : List Str} (h : ws.getD 0 "" = "lines") : (parse ws).isSome = (decide (ws.length = 5) && ((readVx (ws.getD 1 "")).isSome && (areVx (ws.getD 2 "") 0 12 && (areVx (ws.getD 3 "") 0 12 && (readNum (ws.getD 4 "") 1 200).isSome)))) := by
  unfold parse
  rw [headW, h, if_neg (by rintro ⟨z, y⟩; exact absurd z (by decide)), if_neg (by rintro ⟨z, y⟩; exact absurd z (by decide)), if_neg (by rintro ⟨z, y⟩; exact absurd z (by decide)), if_neg (by rintro ⟨z, y⟩; exact absurd z (by decide)), if_neg (by rintro ⟨z, y⟩; exact absurd z (by decide)), if_neg (by rintro ⟨z, y⟩; exact absurd z (by decide)), areVx0, areVx0]
  by_cases h2 : ws.length = 5
  · rw [if_pos ⟨rfl, h2⟩, decide_eq_true h2]
    cases readVx (ws.getD 1 "") <;> cases readVxs (ws.getD 2 "") 12 <;> cases readVxs (ws.getD 3 "") 12 <;> cases readNum (ws.getD 4 "") 1 200 <;> rfl
  · rw [if_neg (fun z => h2 z.2), decide_eq_false h2]; rfl
theorem par_else {ws : List Str} (h1 : ws.getD 0 "" ≠ "add") (h2 : ws.getD 0 "" ≠ "back") (h3 : ws.getD 0 "" ≠ "drop") (h4 : ws.getD 0 "" ≠ "move") (h5 : ws.getD 0 "" ≠ "cut") (h6 : ws.getD 0 "" ≠ "order") (h7 : ws.getD 0 "" ≠ "lines") : parse ws = none := by
  unfold parse
  rw [headW, if_neg (fun z => h1 z.1), if_neg (fun z => h2 z.1), if_neg (fun z => h3 z.1), if_neg (fun z => h4 z.1), if_neg (fun z => h5 z.1), if_neg (fun z => h6 z.1), if_neg (fun z => h7 z.1)]
section
variable {P : Program} {w : World} {K : PySem.W.Frag} {mg : Str → Option Value} {base : Heap} {f : Addr} {fd : FuncData}
def F_law_change_fits : Spc := fun _ rs P => ∃ ws : List Str, rs = [.d (.list (ws.map .str))] ∧ 0 < ws.length ∧ ws.length ≤ 1000000 ∧ (∀ x ∈ ws, x.length ≤ 600000) ∧ ∀ r, r = .d (.bool (parse ws).isSome) → P r
theorem all2 (ws : List Str) (h : ws.length = 4) (q : Str → Bool) : (ws.drop 2).all q = (q (ws.getD 2 "") && q (ws.getD 3 "")) := by
  rw [w4 h]
  simp
theorem ok_law_change_fits (B : Bt mg) (T : Ct mg) (g_law_are_vertices : Ok P w K mg base 4 "_law_are_vertices" ["_law_text", "_law_least", "_law_most"] F_law_are_vertices) (g_law_is_id : Ok P w K mg base 2 "_law_is_id" ["_law_parts"] F_law_is_id) (g_law_is_number : Ok P w K mg base 1 "_law_is_number" ["_law_text", "_law_least", "_law_most"] F_law_is_number) (g_law_is_path : Ok P w K mg base 1 "_law_is_path" ["_law_text"] F_law_is_path) (g_law_is_vertex : Ok P w K mg base 3 "_law_is_vertex" ["_law_parts"] F_law_is_vertex) (D : Df K mg "_law_change_fits" s_law_change_fits ["_law_words"] f fd) : Ok P w K mg base 5 "_law_change_fits" ["_law_words"] F_law_change_fits := by
  refine D.ok (fok D.1 c_law_change_fits (fun C rs R h => by obtain ⟨t, rfl, _⟩ := h; rfl) ?_)
  rintro X ⟨cdv, A, outer, s, H, E, rfl, hr⟩ C I0 H0 rs R D ⟨ws, rfl, h0, hz, hw, hP⟩ hq
  have nd := c_law_change_fits.nd
  have gw := getW hw
  have sp : ∀ (i : Nat), ∀ p ∈ Txt.split (ws.getD i "") ".", p.length ≤ 900000 := fun i p hp => by have := split_len (s := 46) hp; have := gw i; omega
  have L : ∀ n : Nat, decide (((ws.map PyData.str).length : Int) = (n : Int)) = decide (ws.length = n) := lenI _ ws
  refine bd_setD (i := 1) (de_ixL (de_var (i := 0) rfl (pv 0)) de_int (atW 0 h0)) ?_
  refine bd_whenD (DW.t (dw_or (dt_eqS (de_var (i := 1) rfl (pv 1)) de_str) fun _ => (dw_one (dt_eqS (de_var (i := 1) rfl (pv 1)) de_str)))) (fun hb => ?_) (fun hb => ?_)
  ·
    refine bd_retD (P := R) (d := .bool (decide (ws.length = 2) && (if decide (ws.getD 0 "" = "add") = true then (readPath (ws.getD 1 "")).isSome else (readIdn (ws.getD 1 "")).isSome))) (de_and (DE.is (de_eqI (de_lenL (de_var (i := 0) rfl (pv 0)) rfl B.len) de_int) (congrArg PyData.bool (L 2))) fun hl => (de_one (DE.is (de_ife (dt_eqS (de_var (i := 1) rfl (pv 1)) de_str) (fun _ => (de_fn g_law_is_path (hr.mono (by decide)) (da_cons (de_ixL (de_var (i := 0) rfl (pv 0)) de_int (atW 1 (by have := of_decide_eq_true hl; omega))) da_nil) (fun C => ⟨_, rfl, (by have := gw 1; omega), fun r e => e⟩))) (fun _ => (de_fn (d := .bool (readIdn (ws.getD 1 "")).isSome) g_law_is_id (hr.mono (by decide)) (da_cons (de_frz (dn_split (x := ws.getD 1 "") (de_ixL (de_var (i := 0) rfl (pv 0)) de_int (atW 1 (by have := of_decide_eq_true hl; omega))) de_str rfl (sz (by have := gw 1; omega)))) da_nil) (fun C => ⟨Txt.split (ws.getD 1 "") ".", rfl, sp 1, fun r e => e⟩)))) (by split <;> rfl)))) (hP _ ?_) hq
    by_cases ha : ws.getD 0 "" = "add"
    · rw [par_add ha, decide_eq_true ha]; rfl
    · have hk : ws.getD 0 "" = "back" := by
        rw [decide_eq_false ha] at hb
        exact of_decide_eq_true hb
      rw [par_back hk, decide_eq_false ha]; rfl
  rw [Bool.or_eq_false_iff] at hb
  have k1 := of_decide_eq_false hb.1
  have k2 := of_decide_eq_false hb.2
  refine bd_whenD (k := !(decide (3 ≤ ws.length) && (readVx (ws.getD 1 "")).isSome)) (DT.is (DW.t (dw_or (DT.is (b' := !decide (3 ≤ ws.length)) (dt_ltI (de_lenL (de_var (i := 0) rfl (pv 0)) rfl B.len) de_int) (by rw [List.length_map, Bool.eq_iff_iff]; simp; try omega)) fun hl => (dw_one (dt_not (dt_val (de_fn (d := .bool (readVx (ws.getD 1 "")).isSome) g_law_is_vertex (hr.mono (by decide)) (da_cons (de_frz (dn_split (x := ws.getD 1 "") (de_ixL (de_var (i := 0) rfl (pv 0)) de_int (atW 1 (by have := of_decide_eq_true (nf hl); omega))) de_str rfl (sz (by have := gw 1; omega)))) da_nil) (fun C => ⟨Txt.split (ws.getD 1 "") ".", rfl, sp 1, fun r e => e⟩))))))) (by cases decide (3 ≤ ws.length) <;> rfl)) (fun hb => ?_) (fun hb => ?_)
  ·
    refine bd_retD de_bool (hP _ ?_) hq
    have hb := nt hb
    have sh : (parse ws).isSome = false := by
      by_cases z3 : 3 ≤ ws.length
      · rw [decide_eq_true z3] at hb
        have hv : (readVx (ws.getD 1 "")).isSome = false := by simpa using hb
        by_cases k3 : ws.getD 0 "" = "drop"
        · rw [par_drop k3, hv]; simp
        by_cases k4 : ws.getD 0 "" = "move"
        · rw [par_move k4, hv]; simp
        by_cases k5 : ws.getD 0 "" = "cut"
        · rw [par_cut k5, hv]; simp
        by_cases k6 : ws.getD 0 "" = "order"
        · rw [par_order k6, hv]; simp
        by_cases k7 : ws.getD 0 "" = "lines"
        · rw [par_lines k7, hv]; simp
        rw [par_else k1 k2 k3 k4 k5 k6 k7]; rfl
      · by_cases k3 : ws.getD 0 "" = "drop"
        · rw [par_drop k3, decide_eq_false (by omega)]; rfl
        by_cases k4 : ws.getD 0 "" = "move"
        · rw [par_move k4, decide_eq_false (by omega)]; rfl
        by_cases k5 : ws.getD 0 "" = "cut"
        · rw [par_cut k5, decide_eq_false (by omega)]; rfl
        by_cases k6 : ws.getD 0 "" = "order"
        · rw [par_order k6, decide_eq_false (by omega)]; rfl
        by_cases k7 : ws.getD 0 "" = "lines"
        · rw [par_lines k7, decide_eq_false (by omega)]; rfl
        rw [par_else k1 k2 k3 k4 k5 k6 k7]; rfl
    rw [sh]
  have hb := nf hb
  rw [Bool.and_eq_true, decide_eq_true_eq] at hb
  obtain ⟨l3, hv⟩ := hb
  have g2 := gw 2
  have g3 := gw 3
  have g4 := gw 4
  refine bd_whenD (DW.t (dw_or (dt_eqS (de_var (i := 1) rfl (pv 1)) de_str) fun _ => (dw_one (dt_eqS (de_var (i := 1) rfl (pv 1)) de_str)))) (fun hb => ?_) (fun hb => ?_)
  ·
    refine bd_retD (P := R) (d := .bool (decide (ws.length = 3) && areVx (ws.getD 2 "") 1 (if decide (ws.getD 0 "" = "drop") = true then 12 else 200))) (de_and (DE.is (de_eqI (de_lenL (de_var (i := 0) rfl (pv 0)) rfl B.len) de_int) (congrArg PyData.bool (L 3))) fun _ => (de_one (de_fn g_law_are_vertices (hr.mono (by decide)) (da_cons (de_ixL (de_var (i := 0) rfl (pv 0)) de_int (atW 2 (by omega))) (da_cons de_int (da_cons (DE.is (d' := .int ((if decide (ws.getD 0 "" = "drop") = true then 12 else 200 : Nat) : Int)) (de_ife (d1 := .int 12) (d2 := .int 200) (dt_eqS (de_var (i := 1) rfl (pv 1)) de_str) (fun _ => de_int) (fun _ => de_int)) (by split <;> rfl)) da_nil))) (fun C => ⟨_, 1, _, rfl, (by omega), fun r e => e⟩)))) (hP _ ?_) hq
    by_cases ha : ws.getD 0 "" = "drop"
    · rw [par_drop ha, decide_eq_true ha, hv]; rfl
    · have hk : ws.getD 0 "" = "cut" := by
        rw [decide_eq_false ha] at hb
        exact of_decide_eq_true hb
      rw [par_cut hk, decide_eq_false ha, hv]; rfl
  rw [Bool.or_eq_false_iff] at hb
  have k3 := of_decide_eq_false hb.1
  have k5 := of_decide_eq_false hb.2
  refine bd_whenD (dt_eqS (de_var (i := 1) rfl (pv 1)) de_str) (fun hb => ?_) (fun hb => ?_)
  ·
    refine bd_retD (de_and (k := decide (ws.length = 4)) (DE.is (de_eqI (de_lenL (de_var (i := 0) rfl (pv 0)) rfl B.len) de_int) (congrArg PyData.bool (L 4))) fun hl => (de_and (de_fn g_law_is_path (hr.mono (by decide)) (da_cons (de_ixL (de_var (i := 0) rfl (pv 0)) de_int (atW 2 (by omega))) da_nil) (fun C => ⟨_, rfl, (by omega), fun r e => e⟩)) fun _ => (de_one (de_fn g_law_are_vertices (hr.mono (by decide)) (da_cons (de_ixL (de_var (i := 0) rfl (pv 0)) de_int (atW 3 (by have := of_decide_eq_true hl; omega))) (da_cons de_int (da_cons (de_int (i := ((12 : Nat) : Int))) da_nil))) (fun C => ⟨_, 1, 12, rfl, (by omega), fun r e => e⟩))))) (hP _ ?_) hq
    rw [par_move (of_decide_eq_true hb), hv]
    rfl
  have k4 := of_decide_eq_false hb
  refine bd_whenD (dt_eqS (de_var (i := 1) rfl (pv 1)) de_str) (fun hb => ?_) (fun hb => ?_)
  ·
    have cd : cutD (ws.map PyData.str) (some ((2 : Nat) : Int)) none = (ws.drop 2).map PyData.str := by
      unfold cutD
      rw [HT.sIx_none, HT.sIx_nat, List.length_map, Nat.min_eq_left (by omega), List.take_of_length_le (by rw [List.length_drop, List.length_map]; omega), List.map_drop]
    refine bd_setLcD (i := 2) (dlc (j := 3) (x := "_law_word_here") PyData.str (ws.drop 2) (fun p => !(readVx p).isSome) PyData.str (di_list (DE.is (de_frz (dn_slL (de_var (i := 0) rfl (pv 0)) (do_some (i := ((2 : Nat) : Int)) de_int) do_none)) (congrArg PyData.list cd))) (sz (by rw [List.length_drop]; omega)) (blkOk_by (N := n_law_change_fits) (sc := defScope s_law_change_fits) (by decide +kernel)) (fun _ _ _ _ _ => pg_name (i := 3) nd rfl (Or.inl rfl)) (fun y hy _ _ _ _ _ => (dt_not (dt_val (de_fn (d := .bool (readVx y).isSome) g_law_is_vertex (hr.mono (by decide)) (da_cons (de_frz (dn_split (x := y) (de_var (i := 3) rfl (pv 3)) de_str rfl (sz (by have := hw y (List.mem_of_mem_drop hy); omega)))) da_nil) (fun C => ⟨Txt.split y ".", rfl, fun p hp => by have := split_len (s := 46) hp; have := hw y (List.mem_of_mem_drop hy); omega, fun r e => e⟩))))) (fun y hy hc _ _ _ _ _ => (de_var (i := 3) rfl (pv 3)))) ?_
    refine bd_retD (de_and (k := decide (ws.length = 4)) (DE.is (de_eqI (de_lenL (de_var (i := 0) rfl (pv 0)) rfl B.len) de_int) (congrArg PyData.bool (L 4))) fun hl => (de_and (de_eqI (de_lenL (de_var (i := 2) rfl (pv 2)) rfl B.len) de_int) fun _ => (de_one (de_neS (de_ixL (de_var (i := 0) rfl (pv 0)) de_int (atW 2 (by omega))) (de_ixL (de_var (i := 0) rfl (pv 0)) de_int (atW 3 (by have := of_decide_eq_true hl; omega))))))) (hP _ ?_) hq
    rw [par_order (of_decide_eq_true hb), hv, len_filter0]
    by_cases l4 : ws.length = 4
    · rw [all2 ws l4]
      cases (readVx (ws.getD 2 "")).isSome <;> cases (readVx (ws.getD 3 "")).isSome <;> simp
    · rw [decide_eq_false l4]; rfl
  have k6 := of_decide_eq_false hb
  refine bd_whenD (k := !(decide (ws.getD 0 "" = "lines") && (decide (ws.length = 5) && (areVx (ws.getD 2 "") 0 12 && areVx (ws.getD 3 "") 0 12)))) (DT.is (DW.t (dw_or (dt_neS (de_var (i := 1) rfl (pv 1)) de_str) fun _ => (dw_or (DT.is (b' := !decide (ws.length = 5)) (dt_neI (de_lenL (de_var (i := 0) rfl (pv 0)) rfl B.len) de_int) (congrArg (fun b => !b) (L 5))) fun hl => (dw_or (dt_not (dt_val (de_fn g_law_are_vertices (hr.mono (by decide)) (da_cons (de_ixL (de_var (i := 0) rfl (pv 0)) de_int (atW 2 (by omega))) (da_cons de_int (da_cons (de_int (i := ((12 : Nat) : Int))) da_nil))) (fun C => ⟨_, 0, 12, rfl, (by omega), fun r e => e⟩)))) fun _ => (dw_one (dt_not (dt_val (de_fn g_law_are_vertices (hr.mono (by decide)) (da_cons (de_ixL (de_var (i := 0) rfl (pv 0)) de_int (atW 3 (by have := of_decide_eq_true (nf hl); omega))) (da_cons de_int (da_cons (de_int (i := ((12 : Nat) : Int))) da_nil))) (fun C => ⟨_, 0, 12, rfl, (by omega), fun r e => e⟩))))))))) (by
    cases decide (ws.getD 0 "" = "lines") <;> cases decide (ws.length = 5) <;> cases areVx (ws.getD 2 "") 0 12 <;> rfl)) (fun hb => ?_) (fun hb => ?_)
  ·
    refine bd_retD de_bool (hP _ ?_) hq
    have hb := nt hb
    have sh : (parse ws).isSome = false := by
      by_cases k7 : ws.getD 0 "" = "lines"
      · rw [par_lines k7, hv]
        rw [decide_eq_true k7] at hb
        revert hb
        cases decide (ws.length = 5) <;> cases areVx (ws.getD 2 "") 0 12 <;> cases areVx (ws.getD 3 "") 0 12 <;> intro hb <;> first | rfl | cases hb
      · rw [par_else k1 k2 k3 k4 k5 k6 k7]; rfl
    rw [sh]
  · have hb := nf hb
    simp only [Bool.and_eq_true, decide_eq_true_eq] at hb
    obtain ⟨b1, b2, b3, b4⟩ := hb
    refine bd_retD (de_fn g_law_is_number (hr.mono (by decide)) (da_cons (de_ixL (de_var (i := 0) rfl (pv 0)) de_int (atW 4 (by omega))) (da_cons de_int (da_cons de_int da_nil))) (fun C => ⟨_, 1, 200, rfl, (by omega), fun r e => e⟩)) (hP _ ?_) hq
    rw [par_lines b1, decide_eq_true b2, hv, b3, b4]
    rfl
end
end QL
namespace QL
open PySem PySem.Spec PyProof.Rows L2
/-! ### the draws -/
theorem ext_st {s c : Addr} {I H H' : Hp} {z' : Int} {ns' : List Int} (st : StOk (some (s, c)) I H) (hS : Same I H) (k : ∀ a, a ≠ s → a ≠ c → H' a = H a) (hs : H' s = some (.lst [.ref c, .int z'])) (hc : H' c = some (.lst (ns'.map V.int))) (h0 : 0 ≤ z') (h1 : z' < 2147483648) :
    Ext (some (s, c)) I H I H' ∧ StOk (some (s, c)) I H' := by
  obtain ⟨hne, n1, n2, z, ns, h3, h4, h5⟩ := st
  refine ⟨⟨Same.refl I, fun a o e => ?_, fun a o nd e => ?_, fun a e => ?_, fun a e => .inl e⟩, hne, n1, n2, z', ns', hs, hc, h0, h1⟩
  · have as : a ≠ s := fun z => by rw [z, n1] at e; cases e
    have ac : a ≠ c := fun z => by rw [z, n2] at e; cases e
    rw [k a as ac]; exact hS a o e
  · have as : a ≠ s := fun z => nd (.inl z)
    have ac : a ≠ c := fun z => nd (.inr z)
    rw [k a as ac]; exact e
  · by_cases as : a = s
    · rw [as, hs]; exact fun z => by cases z
    · by_cases ac : a = c
      · rw [ac, hc]; exact fun z => by cases z
      · rw [k a as ac]; exact e
theorem wpT_pw {X : Cx} {e : Expr} {t : TT} {σ : L2.St} {H : Hp} {Q : Bool → Hp → Prop} (h : PW X e t) (q : t σ H Q) : wpT X e σ H Q := ⟨fun pins s I => h.run _ pins s σ H Q I q⟩
theorem fmod_lt {a m : Int} (h : 0 < m) : 0 ≤ a.fmod m ∧ a.fmod m < m := ⟨Int.fmod_nonneg_of_pos a h, Int.fmod_lt_of_pos a h⟩
theorem iteT' {b : Bool} {A B : Prop} (e : b = true) (h : A) : if b = true then A else B := by rw [if_pos e]; exact h
theorem iteF' {b : Bool} {A B : Prop} (e : b = false) (h : B) : if b = true then A else B := by rw [e, if_neg Bool.false_ne_true]; exact h
def DrawR (m k : Int) : Prop := 0 ≤ k ∧ (k < m ∨ (m < 1 ∧ k = 0))
section
variable {P : Program} {w : World} {K : PySem.W.Frag} {mg : Str → Option Value} {base : Heap} {f : Addr} {fd : FuncData}
def F_law_draw : Spc := fun C rs P => ∃ (s c : Addr) (m : Int), C = some (s, c) ∧ rs = [.v (.ref s), .d (.int m)] ∧ m < 1000000 ∧ ∀ k, DrawR m k → P (.d (.int k))
theorem ok_law_draw (B : Bt mg) (T : Ct mg) (D : Df K mg "_law_draw" s_law_draw ["_law_state_here", "_law_many"] f fd) : Ok P w K mg base 1 "_law_draw" ["_law_state_here", "_law_many"] F_law_draw := by
  refine D.ok (fok D.1 c_law_draw (fun C rs R h => by obtain ⟨_, _, _, _, rfl, _⟩ := h; rfl) ?_)
  rintro X ⟨cdv, A, outer, s₀, H₀, E, rfl, hr⟩ C I0 H0 rs R D ⟨s, c, m, rfl, rfl, hm, hP⟩ hq
  have nd := c_law_draw.nd
  rintro σ H ⟨I, hE, hx, hst, _⟩
  -- the slots
  obtain ⟨v2, v3, v4, rfl⟩ : ∃ v2 v3 v4, σ = [some (.ref s), some (.int m), v2, v3, v4] := by
    obtain ⟨h1, h2⟩ := hE
    obtain ⟨u0, g0, e0⟩ := (h2 0 _ rfl).resolve_left (fun z => by cases z)
    obtain ⟨u1, g1, e1⟩ := (h2 1 _ rfl).resolve_left (fun z => by cases z)
    have e0' : u0 = .ref s := e0
    have e1' : u1 = .int m := by cases e1; rfl
    subst e0' e1'
    match σ, h1, g0, g1 with
    | [_, _, x, y, z], _, g0, g1 =>
      simp at g0 g1
      exact ⟨x, y, z, by rw [g0, g1]⟩
  have out : ∀ (k z' : Int) (ns' : List Int) (H' : Hp), DrawR m k → (∀ a, a ≠ s → a ≠ c → H' a = H a) → H' s = some (.lst [.ref c, .int z']) → H' c = some (.lst (ns'.map V.int)) → 0 ≤ z' → z' < 2147483648 → D.rt (.int k) H' := fun k z' ns' H' hk e1 e2 e3 e4 e5 => by
    obtain ⟨x1, c1⟩ := ext_st hst hx.sub e1 e2 e3 e4 e5
    exact hq (.int k) I H' _ (hP k hk) (hx.trans x1) c1 (.int k)
  obtain ⟨hne, nIs, nIc, z, ns, hs, hc, z0, z1⟩ := id hst
  refine of_pss (pss_cons (ps_if (pt_cmpR op_lt (pv 1) pe_int (nomark _)) (pss_one (ps_ret pe_int)) pss_nil) (pss_wp (st := _))) ?_
  refine ⟨_, rfl, _, _, rfl, rfl, _, rfl, ?_⟩
  by_cases hm1 : m < 1
  · exact iteT' (decide_eq_true hm1) (out 0 z ns H ⟨Int.le_refl _, .inr ⟨hm1, rfl⟩⟩ (fun _ _ _ => rfl) hs hc z0 z1)
  refine iteF' (decide_eq_false hm1) ?_
  have hm0 : 0 < m := by omega
  refine of_pss (pss_cons (ps_set (i := 2) nd rfl (.inl rfl) (pe_ix ix_list (pv 0) pe_int (fun _ _ => rfl))) (pss_wp (st := _))) ?_
  refine ⟨_, rfl, s, _, 0, .ref c, rfl, rfl, .inl (.inl hs), rfl, ?_⟩
  refine of_pss (pss_cons (ps_while PassesOwn.never pt_wp (pss_one (ps_expr (pe_bm PySem.F.plainAttrs_list PySem.F.slot_list_pop PySem.F.type_list_pop mt_popAt (pv 2) (pa_cons pe_int pa_nil))))) (pss_wp (st := _))) ?_
  refine ⟨fun j σ' H' => ∃ ns' : List Int, j = ns'.length ∧ σ' = [some (.ref s), some (.int m), some (.ref c), v3, v4] ∧ (∀ a, a ≠ s → a ≠ c → H' a = H a) ∧ H' s = some (.lst [.ref c, .int z]) ∧ H' c = some (.lst (ns'.map V.int)), ⟨_, ns, rfl, rfl, fun _ _ _ => rfl, hs, hc⟩, ?_⟩
  rintro j σ' H' ⟨ns', rfl, rfl, k1, k2, k3⟩
  refine wpT_pw (pw_and (pt_cmpR op_gt (pe_callB call_len_seq rfl B.len PySem.boot_len (pa_cons (pv 2) pa_nil)) pe_int (nomark _)) (pw_and1 (pt_cmpR op_eq (pe_ix ix_list (pv 2) pe_int (fun _ _ => rfl)) pe_int (nomark _)))) ?_
  refine ⟨_, rfl, c, _, rfl, .inl (.inl (.inl k3)), _, _, rfl, rfl, _, rfl, ?_⟩
  cases ns' with
  | nil =>
    refine iteF' (decide_eq_false (by simp)) (iteF ?_)
    refine of_pss (pss_cons (ps_if (pt_cmpR op_gt (pe_callB call_len_seq rfl B.len PySem.boot_len (pa_cons (pv 2) pa_nil)) pe_int (nomark _)) (pss_wp (st := _)) pss_nil) (pss_wp (st := _))) ?_
    refine ⟨_, rfl, c, _, rfl, .inl (.inl (.inl k3)), _, _, rfl, rfl, _, rfl, ?_⟩
    refine iteF' (decide_eq_false (by simp)) ?_
    refine of_pss (pss_cons (ps_set (i := 4) nd rfl (.inl rfl) (pe_op op_modN (pe_callTy call_int1 rfl B.int (by decide +kernel) (pa_cons (pe_op op_add (pe_op op_mul (pe_ix ix_list (pv 0) pe_int (fun _ _ => rfl)) pe_int) pe_int) pa_nil) (by decide) (by decide)) pe_int)) (pss_wp (st := _))) ?_
    refine ⟨_, rfl, s, _, 1, .int z, rfl, rfl, .inl (.inl k2), atI_nat (j := 1) rfl, _, _, rfl, rfl, .inr (by decide), _, _, rfl, rfl, .inl ⟨_, rfl, _, _, rfl, rfl, (show (2147483647 : Int) ≠ 0 by decide), ?_⟩⟩
    obtain ⟨b1, b2⟩ := fmod_lt (a := z * 48271 + 12345) (m := 2147483647) (by decide)
    refine of_pss (pss_cons (ps_asg (pv 4) (pg_sub (pv 0) pe_int set_list)) (pss_wp (st := _))) ?_
    refine ⟨_, rfl, _, rfl, s, _, 1, 1, rfl, rfl, k2, rfl, ?_⟩
    refine of_pss (pss_cons (ps_ret (pe_op op_modN (pe_callTy call_int1 rfl B.int (by decide +kernel) (pa_cons (pe_op op_fdivN (pv 4) pe_int) pa_nil) (by decide) (by decide)) (pv 1))) (pss_wp (st := _))) ?_
    refine ⟨_, rfl, _, _, rfl, rfl, ⟨by decide, by decide⟩, .inl ⟨_, rfl, _, rfl, _, _, rfl, rfl, by omega, ?_⟩⟩
    obtain ⟨d1, d2⟩ := fmod_lt (a := ((z * 48271 + 12345).fmod 2147483647).fdiv 64) hm0
    refine out _ ((z * 48271 + 12345).fmod 2147483647) [] _ ⟨d1, .inl d2⟩ (fun a h1 h2 => by rw [upd_ne h1]; exact k1 a h1 h2) upd_same (by rw [upd_ne (Ne.symm hne)]; exact k3) b1 (by omega)
  | cons n ns' =>
    refine iteT' (decide_eq_true (by simp)) ?_
    refine ⟨_, rfl, c, _, 0, .int n, rfl, rfl, .inl (.inl k3), atI_nat (j := 0) rfl, rfl, _, rfl, ?_⟩
    by_cases hn : n = 0
    · refine iteT' (decide_eq_true (by rw [hn])) ⟨fun σ' H' => ∃ ns2 : List Int, ns2.length = ns'.length ∧ σ' = [some (.ref s), some (.int m), some (.ref c), v3, v4] ∧ (∀ a, a ≠ s → a ≠ c → H' a = H a) ∧ H' s = some (.lst [.ref c, .int z]) ∧ H' c = some (.lst (ns2.map V.int)), fun σ2 H2 ⟨ns2, e1, e2⟩ => ⟨ns2.length, by rw [e1]; exact Nat.lt_succ_self _, ns2, rfl, e2⟩, ?_⟩
      refine ⟨_, rfl, .inl ⟨rfl, _, .inl (.inl k3)⟩, c, _, 0, 0, .int n, rfl, rfl, k3, by decide, by decide, by simp [seqIndex?], rfl, ns', rfl, rfl, fun a h1 h2 => ?_, ?_, upd_same⟩
      · rw [upd_ne h2]; exact k1 a h1 h2
      · rw [upd_ne hne]; exact k2
    · refine iteF' (decide_eq_false (by simpa using hn)) ?_
      refine of_pss (pss_cons (ps_if (pt_cmpR op_gt (pe_callB call_len_seq rfl B.len PySem.boot_len (pa_cons (pv 2) pa_nil)) pe_int (nomark _)) (pss_wp (st := _)) pss_nil) (pss_wp (st := _))) ?_
      refine ⟨_, rfl, c, _, rfl, .inl (.inl (.inl k3)), _, _, rfl, rfl, _, rfl, ?_⟩
      refine iteT' (decide_eq_true (by simp)) ?_
      refine of_pss (pss_cons (ps_set (i := 3) nd rfl (.inl rfl) (pe_ix ix_list (pv 2) pe_int (fun _ _ => rfl))) (pss_wp (st := _))) ?_
      refine ⟨_, rfl, c, _, 0, .int n, rfl, rfl, .inl (.inl k3), atI_nat (j := 0) rfl, ?_⟩
      refine of_pss (pss_cons (ps_asg (pe_op op_fdivN (pv 3) (pv 1)) (pg_sub (pv 2) pe_int set_list)) (pss_wp (st := _))) ?_
      refine ⟨_, rfl, _, rfl, _, _, rfl, rfl, ⟨by omega, by omega⟩, _, rfl, c, _, 0, 0, rfl, rfl, k3, by simp [ixN], ?_⟩
      refine of_pss (pss_cons (ps_ret (pe_op op_modN (pe_callTy call_int1 rfl B.int (by decide +kernel) (pa_cons (pv 3) pa_nil) (by decide) (by decide)) (pv 1))) (pss_wp (st := _))) ?_
      refine ⟨_, rfl, .inl ⟨_, rfl, _, rfl, _, _, rfl, rfl, by omega, ?_⟩⟩
      obtain ⟨d1, d2⟩ := fmod_lt (a := n) hm0
      refine out _ z (n.fdiv m :: ns') _ ⟨d1, .inl d2⟩ (fun a h1 h2 => by rw [upd_ne h2]; exact k1 a h1 h2) (by rw [upd_ne hne]; exact k2) upd_same z0 z1
end
end QL
namespace QL
open PySem PySem.Spec PyProof.Rows L2
section
variable {X : Cx} {K : PySem.W.Frag}
/-! ### data compared -/
def rEqDt (K : PySem.W.Frag) : R2 := fun x y H Q => ∃ d e, Dp K H x d ∧ Dp K H y e ∧ d.canLay0 = true ∧ e.canLay0 = true ∧ min d.depth e.depth ≤ 60 ∧ Q (.bl (PyData.eqv d e)) H
def rNeDt (K : PySem.W.Frag) : R2 := fun x y H Q => ∃ d e, Dp K H x d ∧ Dp K H y e ∧ d.canLay0 = true ∧ e.canLay0 = true ∧ min d.depth e.depth ≤ 60 ∧ Q (.bl (!PyData.eqv d e)) H
theorem op_eqDt (hu : X.A.units + 65 < cLine) : OpR X (compareOp .Eq) (rEqDt X.K) := by
  intro pins s σ H x y v u Q I rx ry h
  obtain ⟨d, e, hd, he, sd, se, hz, q⟩ := h
  obtain ⟨as, r1⟩ := Dp.reads I d x v hd rx
  obtain ⟨bs, r2⟩ := Dp.reads I e y u he ry
  exact SeqAt.compareEq_reads r1 r2 sd se (by omega) ⟨.bl _, H, I, rfl, q⟩
theorem op_neDt (hu : X.A.units + 65 < cLine) : OpR X (compareOp .NotEq) (rNeDt X.K) := by
  intro pins s σ H x y v u Q I rx ry h
  obtain ⟨d, e, hd, he, sd, se, hz, q⟩ := h
  obtain ⟨as, r1⟩ := Dp.reads I d x v hd rx
  obtain ⟨bs, r2⟩ := Dp.reads I e y u he ry
  exact SeqAt.compareNe_reads r1 r2 sd se (by omega) ⟨.bl _, H, I, rfl, q⟩
def LayOk (d : PyData) : Prop := d.canLay0 = true ∧ d.depth ≤ 60
theorem od_eqDt {d e : PyData} (h1 : LayOk d) (h2 : LayOk e) : OpD (rEqDt X.K) (.d d) (.d e) (.d (.bool (PyData.eqv d e))) := fun I H v u Q s o1 o2 q =>
  ⟨d, e, (Dq.mono s o1).dp, (Dq.mono s o2).dp, h1.1, h2.1, Nat.le_trans (Nat.min_le_left _ _) h1.2, q _ I H (Ext.refl s) (.bl _)⟩
theorem od_neDt {d e : PyData} (h1 : LayOk d) (h2 : LayOk e) : OpD (rNeDt X.K) (.d d) (.d e) (.d (.bool (!PyData.eqv d e))) := fun I H v u Q s o1 o2 q =>
  ⟨d, e, (Dq.mono s o1).dp, (Dq.mono s o2).dp, h1.1, h2.1, Nat.le_trans (Nat.min_le_left _ _) h1.2, q _ I H (Ext.refl s) (.bl _)⟩
variable {a b : Expr} {G : List Sl} {pos : Pos} {d e : PyData} {C : Cs}
theorem dt_eqDt (hu : X.A.units + 65 < cLine) (ha : DE X a G d) (hb : DE X b G e) (h1 : LayOk d) (h2 : LayOk e) : DT X (.Compare a [.Eq] [b] pos) G (PyData.eqv d e) := dt_cmp (op_eqDt hu) ha hb (od_eqDt h1 h2)
theorem de_eqDt (hu : X.A.units + 65 < cLine) (ha : DE X a G d) (hb : DE X b G e) (h1 : LayOk d) (h2 : LayOk e) : DE X (.Compare a [.Eq] [b] pos) G (.bool (PyData.eqv d e)) := de_cmp (op_eqDt hu) ha hb (od_eqDt h1 h2)
theorem dt_neDt (hu : X.A.units + 65 < cLine) (ha : DE X a G d) (hb : DE X b G e) (h1 : LayOk d) (h2 : LayOk e) : DT X (.Compare a [.NotEq] [b] pos) G (!PyData.eqv d e) := dt_cmp (op_neDt hu) ha hb (od_neDt h1 h2)
/-! ### sorted, of alike data -/
open PySem.W in
theorem each_zip {h : Heap} : ∀ {xs : List V} {ds : List PyData} {vs : List Value} {as : List Addr}, Vals xs vs → ReadsAll h vs ds as → EachIs (fun u (b : V × PyData) => RelV b.1 u) vs (xs.zip ds) ∧ EachIs (fun u (b : V × PyData) => ∃ as, Reads h u b.2 as) vs (xs.zip ds)
  | _, _, _, _, .nil, .nil => ⟨.nil, .nil⟩
  | _, _, _, _, .cons r1 t1, .cons r2 t2 => by
    obtain ⟨e1, e2⟩ := each_zip t1 t2
    exact ⟨.cons r1 e1, .cons ⟨_, r2⟩ e2⟩
open PySem.W in
theorem each_vals {cs : List (V × PyData)} : ∀ {out : List Value}, EachIs (fun u (b : V × PyData) => RelV b.1 u) out cs → Vals (cs.map (·.1)) out := by
  induction cs with
  | nil => intro out h; cases h; exact .nil
  | cons c cs ih =>
    intro out h
    cases h with
    | cons r t => exact .cons r (ih t)
theorem dpall_len {H : Hp} : ∀ {xs : List V} {ds : List PyData}, DpAll K H xs ds → xs.length = ds.length
  | _, _, .nil => rfl
  | _, _, .cons _ t => congrArg (· + 1) (dpall_len t)
def rSortedD (K : PySem.W.Frag) : List V → Hp → VK → Prop := fun vs H Q => ∃ a xs ds, vs = [.ref a] ∧ SqL K H a xs ∧ DpAll K H xs ds ∧ PySem.W.AllAlike ds ∧ PySem.W.Sortable ds ∧ ds.length ≤ 1000 ∧ (∀ d ∈ ds, d.depth ≤ 60) ∧
  ∀ (cs : List (V × PyData)) (p : Addr), cs.Perm (xs.zip ds) → H p = none → Q (.ref p) (upd H p (.lst (cs.map (·.1))))
theorem cr_sortedD (hu : X.A.units + 65 < cLine) : CallR X (.builtin "sorted") (rSortedD X.K) := by
  intro pins s σ H vs us Q I r h
  obtain ⟨a, xs, ds, rfl, hs, hd, hal, hso, hn, hdep, q⟩ := h
  obtain ⟨its, rv, hl, _⟩ := I.list hs
  rw [Vals.ref1 r]
  obtain ⟨as, ra⟩ := Dp.readsAll I ds xs its hd rv
  obtain ⟨e1, e2⟩ := each_zip rv ra
  have lx : xs.length = ds.length := dpall_len hd
  have ez : (xs.zip ds).map (·.2) = ds := List.map_snd_zip (by omega)
  refine PySem.W.sorted_data (enc := fun b : V × PyData => b.2) hl.isList e1 e2 (by rw [ez]; exact hal) (by rw [ez]; exact hso) (by rw [List.length_zip]; exact Nat.le_trans (Nat.min_le_right _ _) (Nat.le_trans hn (by decide))) (fun b hb => ?_) fun out h1 h2 => ?_
  · have := hdep b.2 (by rw [← ez]; exact List.mem_map_of_mem hb)
    omega
  · obtain ⟨ep, he'⟩ := PyProof.Rows.sortedAll_at s.heap its out.toArray
    have pm := List.mergeSort_perm (xs.zip ds) (PySem.W.dataLe false fun b : V × PyData => b.2)
    generalize (xs.zip ds).mergeSort (PySem.W.dataLe false fun b : V × PyData => b.2) = cs at h2 pm
    have hlen : (cs.map (·.1)).length ≤ sizeLine := by
      rw [List.length_map, pm.length_eq, List.length_zip]
      exact Nat.le_trans (Nat.min_le_right _ _) (Nat.le_trans hn (by decide))
    exact ⟨.ref _, upd H (s.heap.objs.size + 1) (.lst (cs.map (·.1))), I.laid (t' := s.toks) (fun _ _ => PyProof.Rows.sortedAll_old) (Nat.le_succ _) ⟨hlen, out, ep, each_vals h2, he'⟩, rfl, q cs _ pm (I.hok.fresh (Nat.le_succ _))⟩
end
end QL
namespace QL
open PySem PySem.Spec PyProof.Rows L2
/-! ### what is known of data that is not determined -/
abbrev EvP (X : Cx) (C : Cs) (e : Expr) (G : List Sl) (P : PyData → Prop) : Prop := Ev X C e G (fun r => ∃ d, P d ∧ r = .d d)
abbrev EvPA (X : Cx) (C : Cs) (es : List Expr) (G : List Sl) (P : List PyData → Prop) : Prop := EvA X C es G (fun rs => ∃ ds, P ds ∧ rs = dats ds)
def StrW (n : Nat) (x : Str) : Prop := x.length ≤ n ∧ ∀ c ∈ tl x, c < 1114112
def SD (n : Nat) (d : PyData) : Prop := ∃ x, StrW n x ∧ d = .str x
def ZD (P : Int → Prop) (d : PyData) : Prop := ∃ k, P k ∧ d = .int k
theorem StrW.mono {n m : Nat} {x : Str} (h : StrW n x) (k : n ≤ m) : StrW m x := ⟨Nat.le_trans h.1 k, h.2⟩
theorem SD.mono {n m : Nat} {d : PyData} (h : SD n d) (k : n ≤ m) : SD m d := by obtain ⟨x, h1, h2⟩ := h; exact ⟨x, h1.mono k, h2⟩
theorem strW_app {n m : Nat} {x y : Str} (h : StrW n x) (k : StrW m y) : StrW (n + m) (x ++ y) := ⟨by rw [len_app]; exact Nat.add_le_add h.1 k.1, fun c hc => by
  rw [tl_app] at hc
  rcases List.mem_append.mp hc with z | z
  · exact h.2 c z
  · exact k.2 c z⟩
theorem strW_cut {n : Nat} {x : Str} (h : StrW n x) (l u : Option Int) : StrW n (cutS x l u) := by
  have sub : ∀ c ∈ tl (cutS x l u), c ∈ tl x := fun c hc => List.mem_of_mem_drop (List.mem_of_mem_take hc)
  refine ⟨?_, fun c hc => h.2 c (sub c hc)⟩
  refine Nat.le_trans ?_ h.1
  rw [← len_tl', ← len_tl']
  show (((tl x).drop (HT.sIx x.length 0 l)).take (HT.sIx x.length x.length u - HT.sIx x.length 0 l)).length ≤ _
  rw [List.length_take, List.length_drop]
  omega
theorem strW_join {n m k : Nat} {s : Str} {xs : List Str} (hs : StrW k s) (h : ∀ x ∈ xs, StrW n x) (hl : xs.length ≤ m) : StrW (m * n + m * k) (Txt.join s xs) := by
  constructor
  · have h1 := len_join s xs
    have h2 : (xs.map (·.length)).sum ≤ xs.length * n := sum_le fun x hx => (h x hx).1
    have h3 : xs.length * n ≤ m * n := Nat.mul_le_mul_right _ hl
    have h4 : xs.length * s.length ≤ m * k := Nat.mul_le_mul hl hs.1
    omega
  · intro c hc
    rw [tl_joinn] at hc
    have key : ∀ (S : List Nat) (qs : List (List Nat)), c ∈ TL.joinL S qs → c ∈ S ∨ ∃ q ∈ qs, c ∈ q := by
      intro S qs
      induction qs with
      | nil => intro h; cases h
      | cons q qs ih =>
        cases qs with
        | nil => intro h; exact .inr ⟨q, List.mem_cons_self, h⟩
        | cons r rs =>
          intro h
          have h' : c ∈ q ++ (S ++ TL.joinL S (r :: rs)) := h
          rcases List.mem_append.mp h' with z | z
          · exact .inr ⟨q, List.mem_cons_self, z⟩
          · rcases List.mem_append.mp z with z | z
            · exact .inl z
            · rcases ih z with y | ⟨p, hp, y⟩
              · exact .inl y
              · exact .inr ⟨p, List.mem_cons_of_mem _ hp, y⟩
    rcases key _ _ hc with z | ⟨q, hq, z⟩
    · exact hs.2 c z
    · obtain ⟨x, hx, rfl⟩ := List.mem_map.mp hq
      exact (h x hx).2 c z
section
variable {X : Cx} {C : Cs} {a b e : Expr} {es : List Expr} {G : List Sl} {pos : Pos} {P P1 P2 : PyData → Prop} {n m : Nat}
theorem EvP.imp (h : EvP X C e G P1) (i : ∀ d, P1 d → P d) : EvP X C e G P := Ev.imp h fun r ⟨d, h1, h2⟩ => ⟨d, i d h1, h2⟩
theorem evp_of {d : PyData} (h : DE X e G d) (p : P d) : EvP X C e G P := (h C).imp fun r z => ⟨d, p, z⟩
theorem evpa_nil {P : List PyData → Prop} (p : P []) : EvPA X C [] G P := EvA.imp eva_nil fun r z => ⟨[], p, z⟩
theorem evpa_cons {P Ps : List PyData → Prop} (ha : EvP X C e G P1) (hr : EvPA X C es G Ps) (h : ∀ x xs, P1 x → Ps xs → P (x :: xs)) (hs : starEach (e :: es) X.env = (false, eval e X.env) :: starEach es X.env := by rfl) : EvPA X C (e :: es) G P :=
  eva_cons ha hr (fun x xs ⟨d, p1, e1⟩ ⟨ds, p2, e2⟩ => ⟨d :: ds, h d ds p1 p2, by rw [e1, e2]; rfl⟩) hs
theorem evp_tup {Ps : List PyData → Prop} {x1} (ha : EvPA X C es G Ps) (h : ∀ ds, Ps ds → ds.length ≤ sizeLine ∧ P (.tuple ds)) : EvP X C (.Tuple es x1 pos) G P :=
  ev_tup ha fun rs ⟨ds, p, e⟩ => ⟨ds, e, (h ds p).1, _, (h ds p).2, rfl⟩
theorem evn_lstP {Ps : List PyData → Prop} (ha : EvPA X C es G Ps) (h : ∀ ds, Ps ds → ds.length ≤ sizeLine) : EvN X C (.List es pos) G Ps :=
  evn_lst ha fun rs ⟨ds, p, e⟩ => ⟨ds, e, h ds p, p⟩
theorem evp_frz {Ps : List PyData → Prop} (h : EvN X C e G Ps) (i : ∀ ds, Ps ds → P (.list ds)) : EvP X C e G P := (ev_frz h).imp fun r ⟨ds, p, e⟩ => ⟨_, i ds p, e⟩
theorem evp_addS (ha : EvP X C a G (SD n)) (hb : EvP X C b G (SD m)) (hz : n + m ≤ 10000000) : EvP X C (.BinOp a .Add b pos) G (SD (n + m)) := ev_bin op_add_str ha hb fun x y ⟨d1, ⟨s, p1, e1⟩, r1⟩ ⟨d2, ⟨t, p2, e2⟩, r2⟩ => by
  subst e1 e2 r1 r2
  refine ⟨_, ⟨_, ⟨s ++ t, strW_app p1 p2, rfl⟩, rfl⟩, fun I H v u Q st o1 o2 q => ?_⟩
  cases o1; cases o2
  exact ⟨s, t, rfl, rfl, sz (by have := p1.1; have := p2.1; omega), q _ I H (Ext.refl st) (.str _)⟩
theorem evp_sl {lo hi : Option Expr} {p2 : Pos} {Pl Ph : Option Int → Prop} (ha : EvP X C a G (SD n)) (hl : EvO X C lo G Pl) (hh : EvO X C hi G Ph) (hz : n ≤ 10000000) : EvP X C (.Subscript a (.Slice lo hi none p2) pos) G (SD n) := ev_sl sl_str ha hl hh fun x l u ⟨d1, ⟨s, p1, e1⟩, r1⟩ _ _ => by
  subst e1 r1
  refine ⟨_, ⟨_, ⟨cutS s l u, strW_cut p1 l u, rfl⟩, rfl⟩, fun I H v Q st o q => ?_⟩
  cases o
  exact ⟨s, rfl, sz (by have := p1.1; omega), q _ I H (Ext.refl st) (.str _)⟩
theorem evo_z {Pz : Int → Prop} (h : EvP X C e G (ZD Pz)) : EvO X C (some e) G (fun o => ∃ k, Pz k ∧ o = some k) := evo_some (P := fun o => ∃ k, Pz k ∧ o = some k) (Ev.imp h fun r ⟨d, ⟨k, p, e1⟩, e2⟩ => ⟨k, ⟨k, p, rfl⟩, by rw [e2, e1]⟩)
theorem evp_addI {Pa Pb Pc : Int → Prop} (ha : EvP X C a G (ZD Pa)) (hb : EvP X C b G (ZD Pb)) (h : ∀ i j, Pa i → Pb j → Pc (i + j)) : EvP X C (.BinOp a .Add b pos) G (ZD Pc) := ev_bin op_add ha hb fun x y ⟨d1, ⟨i, p1, e1⟩, r1⟩ ⟨d2, ⟨j, p2, e2⟩, r2⟩ => by
  subst e1 e2 r1 r2
  exact ⟨_, ⟨_, ⟨i + j, h i j p1 p2, rfl⟩, rfl⟩, od_I0 i j fun _ => .int _⟩
theorem evp_subI {Pa Pb Pc : Int → Prop} (ha : EvP X C a G (ZD Pa)) (hb : EvP X C b G (ZD Pb)) (h : ∀ i j, Pa i → Pb j → Pc (i - j)) : EvP X C (.BinOp a .Sub b pos) G (ZD Pc) := ev_bin op_sub ha hb fun x y ⟨d1, ⟨i, p1, e1⟩, r1⟩ ⟨d2, ⟨j, p2, e2⟩, r2⟩ => by
  subst e1 e2 r1 r2
  exact ⟨_, ⟨_, ⟨i - j, h i j p1 p2, rfl⟩, rfl⟩, od_I0 i j fun _ => .int _⟩
theorem evt_eqI {Pa : Int → Prop} {j : Int} (ha : EvP X C a G (ZD Pa)) (hb : DE X b G (.int j)) (hm : behindInMarks .Eq b = false := by first | exact nomark _ | rfl) : EvT X C (.Compare a [.Eq] [b] pos) G (fun k => ∃ i, Pa i ∧ k = decide (i = j)) := evt_op op_eq ha (hb C) (fun x y ⟨d1, ⟨i, p1, e1⟩, r1⟩ e2 => by
  subst e1 e2 r1
  refine ⟨decide (i = j), ⟨i, p1, rfl⟩, ?_⟩
  rw [← dec_vint]
  exact od_eq rfl rfl rfl) hm
/-- s.join(xs), xs a list of texts -/
theorem evp_join {apos : Pos} {x : Str} {k : Nat} (ha : DE X a G (.str x)) (hx : StrW k x) (hb : EvP X C b G (fun d => ∃ xs : List Str, xs.length ≤ m ∧ (∀ y ∈ xs, StrW n y) ∧ d = .list (xs.map .str))) (hz : m * n + m * k ≤ 10000000) (hs : starEach [b] X.env = [(false, eval b X.env)] := by rfl) (hbase : attributeBase a "join" X.env (eval a X.env) = eval a X.env := by rfl) (hline : (apos.endLine == pos.line) = true := by rfl) :
    EvP X C (.Call (.Attribute a "join" apos) [b] [] pos) G (SD (m * n + m * k)) := by
  obtain ⟨K', hK⟩ : ∃ K', K' = X.K := ⟨_, rfl⟩
  refine ev_m1 (pe_m1 F.slot_str_join F.type_str_join mt_join pe_wp pe_wp hs hbase hline) (ha C) hb (fun u v e1 ⟨d, ⟨xs, h1, h2, h3⟩, e2⟩ => ?_) fun u e1 => ⟨x, e1⟩
  subst e1 e2 h3
  have hw := strW_join hx h2 h1
  refine ⟨⟨x, rfl⟩, _, ⟨_, ⟨_, hw, rfl⟩, rfl⟩, om_join rfl ?_⟩
  have h4 : (xs.map (·.length)).sum ≤ xs.length * n := sum_le fun y hy => (h2 y hy).1
  have h5 : xs.length * n ≤ m * n := Nat.mul_le_mul_right _ h1
  have h6 : xs.length * x.length ≤ m * k := Nat.mul_le_mul h1 hx.1
  omega
end
/-- the draw's state as an argument -/
theorem eva_st {X : Cx} {C : Cs} {G : List Sl} {s : Addr} {es : List Expr} {i : Nat} {x : Str} {p : Pos} {Ps : List PyData → Prop} (hG : G[i]? = some (.v (.ref s))) (hv : PE X (.Name x p) (tVar i)) (hr : EvPA X C es G Ps)
    (hs : starEach (.Name x p :: es) X.env = (false, eval (.Name x p) X.env) :: starEach es X.env := by rfl) : EvA X C (.Name x p :: es) G (fun rs => ∃ ds, Ps ds ∧ rs = .v (.ref s) :: dats ds) :=
  eva_cons (ev_var hG (fun z => by cases z) hv) hr (fun x xs e1 ⟨ds, p, e2⟩ => ⟨ds, p, by rw [e1, e2]⟩) hs
section
variable {P : Program} {w : World} {K : PySem.W.Frag} {mg : Str → Option Value} {base : Heap} {f : Addr} {fd : FuncData}
abbrev GDraw (P : Program) (w : World) (K : PySem.W.Frag) (mg : Str → Option Value) (base : Heap) : Prop := Ok P w K mg base 1 "_law_draw" ["_law_state_here", "_law_many"] F_law_draw
section
variable {X : Cx} {s c : Addr} {i : Nat} {G : List Sl} {x : Str} {p p2 pos : Pos} {e : Expr}
theorem evp_draw {m : Int} (g : GDraw X.prog X.w X.K X.mg X.base) (hr : Room 1 X.A) (hG : G[i]? = some (.v (.ref s))) (hv : PE X (.Name x p2) (tVar i)) (hm : DE X e G (.int m)) (hz : m < 1000000 := by decide)
    (hg : Gl X "_law_draw" := by rfl) (he : starEach (.Name x p2 :: [e]) X.env = (false, eval (.Name x p2) X.env) :: starEach [e] X.env := by rfl) (he2 : starEach (e :: []) X.env = (false, eval e X.env) :: starEach [] X.env := by rfl) (hpl : (backTo pos (starEach [e] X.env)).any (·.1) = false := by rfl) :
    EvP X (some (s, c)) (.Call (.Name "_law_draw" p) [.Name x p2, e] [] pos) G (ZD (DrawR m)) :=
  ev_fn g hr (eva_st (Ps := fun ds => ds = [.int m]) hG hv (evpa_cons (P1 := (· = .int m)) (Ps := (· = [])) (evp_of hm rfl) (evpa_nil rfl) (fun x xs e1 e2 => by rw [e1, e2]) he2) he) (fun rs ⟨ds, e1, e2⟩ => ⟨s, c, m, rfl, by rw [e2, e1]; rfl, hz, fun k hk => ⟨_, ⟨k, hk, rfl⟩, rfl⟩⟩) hg (by decide) he hpl
end
/-! ### _law_pick -/
def F_law_pick : Spc := fun C rs P => ∃ (s c : Addr) (ds : List PyData), C = some (s, c) ∧ rs = [.v (.ref s), .d (.list ds)] ∧ ds ≠ [] ∧ ds.length < 1000000 ∧ ∀ d ∈ ds, P (.d d)
theorem ok_law_pick (B : Bt mg) (T : Ct mg) (g : GDraw P w K mg base) (D : Df K mg "_law_pick" s_law_pick ["_law_state_here", "_law_row"] f fd) : Ok P w K mg base 2 "_law_pick" ["_law_state_here", "_law_row"] F_law_pick := by
  refine D.ok (fok D.1 c_law_pick (fun C rs R h => by obtain ⟨_, _, _, _, rfl, _⟩ := h; rfl) ?_)
  rintro X ⟨cdv, A, outer, s₀, H₀, E, rfl, hr⟩ C I0 H0 rs R D ⟨s, c, ds, rfl, rfl, hne, hz, hP⟩ hq
  have nd := c_law_pick.nd
  have hl : 0 < ds.length := List.length_pos_iff.mpr hne
  refine bd_ret (ev_ix ix_list (de_var (i := 1) rfl (pv 1) (some (s, c))) (evp_draw (i := 0) g (hr.mono (by decide)) rfl (pv 0) (de_lenL (de_var (i := 1) rfl (pv 1)) rfl B.len) (by omega)) fun u v e1 ⟨d, ⟨k, hk, e2⟩, e3⟩ => ?_) hq
  subst e1 e2 e3
  obtain ⟨k0, k1⟩ := hk
  have kl : k.toNat < ds.length := by omega
  obtain ⟨d, hd⟩ : ∃ d, ds[k.toNat]? = some d := ⟨ds[k.toNat], List.getElem?_eq_getElem kl⟩
  refine ⟨.d d, hP d (List.mem_of_getElem? hd), fun I H v u Q st o1 o2 q => ?_⟩
  cases o2
  cases o1 with
  | lst h1 h2 =>
    have ha : atI ds k = some d := by rw [show k = (k.toNat : Int) from by omega]; exact atI_nat hd
    obtain ⟨w, g1, g2⟩ := at_all h2 ha
    exact ⟨_, _, k, w, rfl, rfl, sql_inj h1 st, g1, q _ I H (Ext.refl st) g2⟩
abbrev GPick (P : Program) (w : World) (K : PySem.W.Frag) (mg : Str → Option Value) (base : Heap) : Prop := Ok P w K mg base 2 "_law_pick" ["_law_state_here", "_law_row"] F_law_pick
section
variable {X : Cx} {s c : Addr} {i : Nat} {G : List Sl} {x : Str} {p p2 pos : Pos} {e : Expr} {Pe : PyData → Prop}
theorem evp_pick (g : GPick X.prog X.w X.K X.mg X.base) (hr : Room 2 X.A) (hG : G[i]? = some (.v (.ref s))) (hv : PE X (.Name x p2) (tVar i)) (hm : EvP X (some (s, c)) e G (fun d => ∃ ds, ds ≠ [] ∧ ds.length < 1000000 ∧ (∀ d ∈ ds, Pe d) ∧ d = .list ds))
    (hg : Gl X "_law_pick" := by rfl) (he : starEach (.Name x p2 :: [e]) X.env = (false, eval (.Name x p2) X.env) :: starEach [e] X.env := by rfl) (he2 : starEach (e :: []) X.env = (false, eval e X.env) :: starEach [] X.env := by rfl) (hpl : (backTo pos (starEach [e] X.env)).any (·.1) = false := by rfl) :
    EvP X (some (s, c)) (.Call (.Name "_law_pick" p) [.Name x p2, e] [] pos) G Pe :=
  ev_fn g hr (eva_st (Ps := fun rs => ∃ ds, ds ≠ [] ∧ ds.length < 1000000 ∧ (∀ d ∈ ds, Pe d) ∧ rs = [.list ds]) hG hv (evpa_cons (Ps := (· = [])) hm (evpa_nil rfl) (fun x xs ⟨ds, h1, h2, h3, e1⟩ e2 => ⟨ds, h1, h2, h3, by rw [e1, e2]⟩) he2) he) (fun rs ⟨rs', ⟨ds, h1, h2, h3, e1⟩, e2⟩ => ⟨s, c, ds, rfl, by rw [e2, e1]; rfl, h1, h2, fun d hd => ⟨d, h3 d hd, rfl⟩⟩) hg (by decide) he hpl
/-- a row written out -/
theorem evp_row {C : Cs} {es : List Expr} {n : Nat} (ha : EvPA X C es G (fun ds => ds.length = n ∧ ∀ d ∈ ds, Pe d)) (h0 : n ≠ 0 := by decide) (h1 : n < 1000000 := by decide) : EvP X C (.List es pos) G (fun d => ∃ ds, ds ≠ [] ∧ ds.length < 1000000 ∧ (∀ d ∈ ds, Pe d) ∧ d = .list ds) :=
  evp_frz (evn_lstP ha fun ds h => sz (by rw [h.1]; omega)) fun ds h => ⟨ds, fun z => h0 (by rw [← h.1, z]; rfl), by rw [h.1]; exact h1, h.2, rfl⟩
theorem row_nil {C : Cs} : EvPA X C [] G (fun ds => ds.length = 0 ∧ ∀ d ∈ ds, Pe d) := evpa_nil ⟨rfl, fun d h => by cases h⟩
theorem row_cons {C : Cs} {es : List Expr} {n : Nat} (ha : EvP X C e G Pe) (hr : EvPA X C es G (fun ds => ds.length = n ∧ ∀ d ∈ ds, Pe d)) (hs : starEach (e :: es) X.env = (false, eval e X.env) :: starEach es X.env := by rfl) : EvPA X C (e :: es) G (fun ds => ds.length = n + 1 ∧ ∀ d ∈ ds, Pe d) :=
  evpa_cons ha hr (fun x xs h1 h2 => ⟨by rw [List.length_cons, h2.1], fun d hd => by
    rcases List.mem_cons.mp hd with rfl | hd
    · exact h1
    · exact h2.2 d hd⟩) hs
end
/-! ### _law_label -/
def LabW (l : Lab) : Prop := l.lv ≤ 7 ∧ l.ms.length ≤ 6 ∧ ∀ m ∈ l.ms, m ≤ 5
def LabWD (d : PyData) : Prop := ∃ l, LabW l ∧ d = l.d
def NatD (n : Nat) (d : PyData) : Prop := ∃ k : Nat, k ≤ n ∧ d = inat k
theorem natD_of {m k : Int} {n : Nat} (h : DrawR m k) (hm : m ≤ (n : Int) + 1) : NatD n (.int k) := ⟨k.toNat, by have h1 := h.1; have h2 := h.2; omega, by unfold inat; rw [Int.toNat_of_nonneg h.1]⟩
theorem nats_of : ∀ {ds : List PyData} {n : Nat}, (∀ d ∈ ds, NatD n d) → ∃ ms : List Nat, ds = ms.map inat ∧ ∀ m ∈ ms, m ≤ n
  | [], _, _ => ⟨[], rfl, by simp⟩
  | d :: ds, n, h => by
    obtain ⟨k, hk, rfl⟩ := h d List.mem_cons_self
    obtain ⟨ms, rfl, hm⟩ := nats_of fun d hd => h d (List.mem_cons_of_mem _ hd)
    exact ⟨k :: ms, rfl, fun m hm' => by
      rcases List.mem_cons.mp hm' with rfl | z
      · exact hk
      · exact hm m z⟩
def F_law_label : Spc := fun C rs P => ∃ (s c : Addr), C = some (s, c) ∧ rs = [.v (.ref s)] ∧ ∀ d, LabWD d → P (.d d)
theorem ok_law_label (B : Bt mg) (T : Ct mg) (g : GDraw P w K mg base) (D : Df K mg "_law_label" s_law_label ["_law_state_here"] f fd) : Ok P w K mg base 2 "_law_label" ["_law_state_here"] F_law_label := by
  refine D.ok (fok D.1 c_law_label (fun C rs R h => by obtain ⟨_, _, _, rfl, _⟩ := h; rfl) ?_)
  rintro X ⟨cdv, A, outer, s₀, H₀, E, rfl, hr⟩ C I0 H0 rs R D ⟨s, c, rfl, rfl, hP⟩ hq
  have nd := c_law_label.nd
  refine bd_ret (P := fun r => ∃ d, LabWD d ∧ r = .d d) (evp_tup (Ps := fun ds => ∃ l, LabW l ∧ ds = [.str "label", inat l.lv, .tuple (l.ms.map inat)]) (evpa_cons (P1 := (· = .str "label")) (Ps := fun ds => ∃ l, LabW l ∧ ds = [inat l.lv, .tuple (l.ms.map inat)]) (evp_of de_str rfl) (evpa_cons (P1 := NatD 7) (Ps := fun ds => ∃ ms : List Nat, ms.length ≤ 6 ∧ (∀ m ∈ ms, m ≤ 5) ∧ ds = [.tuple (ms.map inat)])
    (EvP.imp (evp_draw (i := 0) g (hr.mono (by decide)) rfl (pv 0) (de_int (i := 8))) fun d ⟨k, hk, e⟩ => by rw [e]; exact natD_of hk (by decide))
    (evpa_cons (P1 := fun d => ∃ ms : List Nat, ms.length ≤ 6 ∧ (∀ m ∈ ms, m ≤ 5) ∧ d = .tuple (ms.map inat)) (Ps := (· = []))
      (Ev.imp (ev_tupL (P := fun ds => ∃ ms : List Nat, ms.length ≤ 6 ∧ (∀ m ∈ ms, m ≤ 5) ∧ ds = ms.map inat) (Ev.imp (ev_frz (LcN.n (lcPt (j := 1) (x := "_law_mark") (NatD 5) ((di_rng1 (de_int (i := 6)) B.range (by decide)) _) (blkOk_by (N := n_law_label) (sc := defScope s_law_label) (by decide +kernel)) (fun _ _ _ _ _ => pg_name (i := 1) nd rfl (Or.inl rfl)) (fun ds e => by rw [e]; decide)
        (fun ds d e hd s1 H1 Ca cl fp => EvT.imp (evt_eqI (evp_draw (i := 0) g (hr.mono (by decide)) rfl (pv 0) (de_int (i := 3))) (de_int (i := 0))) fun _ _ => True.intro)
        (fun ds d e hd s1 H1 Ca cl fp => Ev.imp (de_var (i := 1) (d := d) rfl (pv 1) _) fun r er => ⟨d, er, by
          rw [e] at hd
          obtain ⟨k, hk, rfl⟩ := List.mem_map.mp hd
          have hk' : k < 6 := by simpa using hk
          exact ⟨k, by omega, by unfold inat; congr 1; omega⟩⟩)))) fun r ⟨ds, ⟨ds0, e0, hl, hm⟩, er⟩ => by
            obtain ⟨ms, e1, e2⟩ := nats_of hm
            exact ⟨ds, ⟨ms, by rw [← List.length_map inat, ← e1]; rw [e0] at hl; simpa using hl, e2, e1⟩, er⟩) B.tuple) fun r ⟨ds, ⟨ms, h1, h2, h3⟩, er⟩ => ⟨_, ⟨ms, h1, h2, rfl⟩, by rw [er, h3]⟩)
      (evpa_nil rfl) (fun x xs ⟨ms, h1, h2, e1⟩ e2 => ⟨ms, h1, h2, by rw [e1, e2]⟩))
    (fun x xs ⟨k, hk, e1⟩ ⟨ms, h1, h2, e2⟩ => ⟨⟨k, ms⟩, ⟨hk, h1, h2⟩, by rw [e1, e2]⟩)) (fun x xs e1 ⟨l, hl, e2⟩ => ⟨l, hl, by rw [e1, e2]⟩))
    (fun ds ⟨l, hl, e⟩ => ⟨by rw [e]; exact (by decide : 3 ≤ sizeLine), l, hl, by rw [e]; rfl⟩)) ?_
  exact fun v I' H' r ⟨d, hd, er⟩ => by rw [er]; exact hq v I' H' _ (hP d hd)
end
end QL
namespace QL
open PySem PySem.Spec PyProof.Rows L2
theorem strW_sg {c : Nat} (h : c < 1114112) : StrW 1 ⟨#[c]⟩ := ⟨Nat.le_refl _, fun d hd => by
  have : d ∈ [c] := hd
  rw [List.mem_singleton.mp this]; exact h⟩
theorem strs_of : ∀ {ds : List PyData} {n : Nat}, (∀ d ∈ ds, SD n d) → ∃ xs : List Str, ds = xs.map PyData.str ∧ ∀ x ∈ xs, StrW n x
  | [], _, _ => ⟨[], rfl, by simp⟩
  | d :: ds, n, h => by
    obtain ⟨k, hk, rfl⟩ := h d List.mem_cons_self
    obtain ⟨ms, rfl, hm⟩ := strs_of fun d hd => h d (List.mem_cons_of_mem _ hd)
    exact ⟨k :: ms, rfl, fun m hm' => by
      rcases List.mem_cons.mp hm' with rfl | z
      · exact hk
      · exact hm m z⟩
theorem objs_of {α : Type} (f : α → PyData) (Pa : α → Prop) : ∀ {ds : List PyData}, (∀ d ∈ ds, ∃ a, Pa a ∧ d = f a) → ∃ xs : List α, ds = xs.map f ∧ ∀ x ∈ xs, Pa x
  | [], _ => ⟨[], rfl, by simp⟩
  | d :: ds, h => by
    obtain ⟨k, hk, rfl⟩ := h d List.mem_cons_self
    obtain ⟨ms, rfl, hm⟩ := objs_of f Pa fun d hd => h d (List.mem_cons_of_mem _ hd)
    exact ⟨k :: ms, rfl, fun m hm' => by
      rcases List.mem_cons.mp hm' with rfl | z
      · exact hk
      · exact hm m z⟩
section
variable {X : Cx} {C : Cs} {tg a : Expr} {G : List Sl} {pos p : Pos}
/-- range(e), e from 0 to n -/
theorem evi_rngZ {Pz : Int → Prop} {n : Nat} (h : EvP X C a G (ZD Pz)) (hn : ∀ k, Pz k → 0 ≤ k ∧ k ≤ (n : Int)) (hz : n ≤ 1000000) (hm : X.mg "range" = none) (hg : Gl X "range" := by rfl) (hs : starEach [a] X.env = [(false, eval a X.env)] := by rfl) :
    EvI X C tg (.Call (.Name "range" p) [a] [] pos) G (fun ds => ∃ j : Nat, j ≤ n ∧ ds = (List.range j).map fun (i : Nat) => .int (0 + (i : Int))) :=
  evi_rng1 (P := fun ds => ∃ j : Nat, j ≤ n ∧ ds = (List.range j).map fun (i : Nat) => .int (0 + (i : Int))) (Ev.imp h fun r ⟨d, ⟨k, hk, e1⟩, e2⟩ => ⟨k, by have := hn k hk; omega, ⟨k.toNat, by have := hn k hk; omega, rfl⟩, by rw [e2, e1]⟩) hm hg hs
end
section
variable {P : Program} {w : World} {K : PySem.W.Frag} {mg : Str → Option Value} {base : Heap} {f : Addr} {fd : FuncData}
/-! ### _law_word -/
def F_law_word : Spc := fun C rs P => ∃ (s c : Addr) (l : Str) (m : Nat), C = some (s, c) ∧ rs = [.v (.ref s), .d (.str l), .d (.int (m : Int))] ∧ StrW 100 l ∧ tl l ≠ [] ∧ 1 ≤ m ∧ m ≤ 100 ∧ ∀ x, StrW m x → P (.d (.str x))
theorem ok_law_word (B : Bt mg) (T : Ct mg) (g : GDraw P w K mg base) (gp : GPick P w K mg base) (D : Df K mg "_law_word" s_law_word ["_law_state_here", "_law_letters", "_law_most"] f fd) : Ok P w K mg base 3 "_law_word" ["_law_state_here", "_law_letters", "_law_most"] F_law_word := by
  refine D.ok (fok D.1 c_law_word (fun C rs R h => by obtain ⟨_, _, _, _, _, rfl, _⟩ := h; rfl) ?_)
  rintro X ⟨cdv, A, outer, s₀, H₀, E, rfl, hr⟩ C I0 H0 rs R D ⟨s, c, l, m, rfl, rfl, hl, hne, hm1, hm2, hP⟩ hq
  have nd := c_law_word.nd
  have hl1 := hl.1
  refine bd_ret (P := fun r => ∃ d, SD (m * 1 + m * 0) d ∧ r = .d d) (evp_join (x := "") (k := 0) (n := 1) (m := m) de_str ⟨Nat.le_refl _, fun c hc => by cases hc⟩ (Ev.imp (ev_frz (LcN.n (lcP (j := 3) (x := "_law_k") (SD 1) (evi_rngZ (n := m) (Pz := fun k => 1 ≤ k ∧ k ≤ (m : Int)) (evp_addI (Pa := (· = 1)) (Pb := DrawR (m : Int)) (evp_of de_int ⟨1, rfl, rfl⟩) (evp_draw (i := 0) g (hr.mono (by decide)) rfl (pv 0) (de_var (i := 2) rfl (pv 2)) (by omega)) fun i j e1 hk => by
      have h1 := hk.1
      have h2 := hk.2
      omega) (fun k hk => by omega) (by omega) B.range) (blkOk_by (N := n_law_word) (sc := defScope s_law_word) (by decide +kernel)) (fun _ _ _ _ _ => pg_name (i := 3) nd rfl (Or.inl rfl)) (fun ds ⟨j, hj, e⟩ => by rw [e, List.length_map, List.length_range]; exact sz (by omega))
      (fun ds d _ hd s1 H1 Ca cl fp => Ev.imp (evp_pick (i := 0) (Pe := SD 1) gp (hr.mono (by decide)) rfl (pv 0) (evp_frz ((dn_listS (x := l) (de_var (i := 1) rfl (pv 1)) (sz (by omega)) B.list) (some (s, c))) fun ds e => ⟨ds, by rw [e]; simpa using hne, by rw [e, List.length_map, len_tl']; omega, fun d hd => by
        rw [e] at hd
        obtain ⟨n, hn, rfl⟩ := List.mem_map.mp hd
        exact ⟨_, strW_sg (hl.2 n hn), rfl⟩, rfl⟩)) fun r ⟨d, h1, h2⟩ => ⟨d, h2, h1⟩)))) fun r ⟨ds, ⟨ds0, ⟨j, hj, e0⟩, hl0, hm0⟩, er⟩ => by
        obtain ⟨xs, e1, e2⟩ := strs_of hm0
        exact ⟨_, ⟨xs, by rw [← List.length_map PyData.str, ← e1, hl0, e0, List.length_map, List.length_range]; exact hj, e2, by rw [e1]⟩, er⟩) (by omega)) ?_
  exact fun v I' H' r ⟨d, ⟨x, hx, e1⟩, er⟩ => by rw [er, e1]; exact hq v I' H' _ (hP x (hx.mono (by omega)))
abbrev GWord (P : Program) (w : World) (K : PySem.W.Frag) (mg : Str → Option Value) (base : Heap) : Prop := Ok P w K mg base 3 "_law_word" ["_law_state_here", "_law_letters", "_law_most"] F_law_word
section
variable {X : Cx} {s c : Addr} {i : Nat} {G : List Sl} {x : Str} {p p2 pos : Pos} {e1 e2 : Expr}
theorem evp_word {l : Str} {m : Nat} (g : GWord X.prog X.w X.K X.mg X.base) (hr : Room 3 X.A) (hG : G[i]? = some (.v (.ref s))) (hv : PE X (.Name x p2) (tVar i)) (h1 : DE X e1 G (.str l)) (h2 : DE X e2 G (.int (m : Int))) (hl : StrW 100 l) (hne : tl l ≠ []) (hm : 1 ≤ m ∧ m ≤ 100)
    (hg : Gl X "_law_word" := by rfl) (he : starEach (.Name x p2 :: [e1, e2]) X.env = (false, eval (.Name x p2) X.env) :: starEach [e1, e2] X.env := by rfl) (he2 : starEach (e1 :: [e2]) X.env = (false, eval e1 X.env) :: starEach [e2] X.env := by rfl) (he3 : starEach (e2 :: []) X.env = (false, eval e2 X.env) :: starEach [] X.env := by rfl) (hpl : (backTo pos (starEach [e1, e2] X.env)).any (·.1) = false := by rfl) :
    EvP X (some (s, c)) (.Call (.Name "_law_word" p) [.Name x p2, e1, e2] [] pos) G (SD m) :=
  ev_fn g hr (eva_st (Ps := fun ds => ds = [.str l, .int (m : Int)]) hG hv (evpa_cons (P1 := (· = .str l)) (Ps := (· = [.int (m : Int)])) (evp_of h1 rfl) (evpa_cons (P1 := (· = .int (m : Int))) (Ps := (· = [])) (evp_of h2 rfl) (evpa_nil rfl) (fun x xs e1 e2 => by rw [e1, e2]) he3) (fun x xs e1 e2 => by rw [e1, e2]) he2) he) (fun rs ⟨ds, e1, e2⟩ => ⟨s, c, l, m, rfl, by rw [e2, e1]; rfl, hl, hne, hm.1, hm.2, fun x hx => ⟨_, ⟨x, hx, rfl⟩, rfl⟩⟩) hg (by decide) he hpl
end
/-! ### _law_name -/
def IdW (i : Idn) : Prop := LabW i.lab ∧ StrW 8 i.nm ∧ i.no ≤ 99999
def IdWD (d : PyData) : Prop := ∃ i, IdW i ∧ d = i.d
def F_law_name : Spc := fun C rs P => ∃ (s c : Addr) (l : Lab), C = some (s, c) ∧ rs = [.v (.ref s), .d l.d] ∧ LabW l ∧ ∀ d, IdWD d → P (.d d)
theorem ok_law_name (B : Bt mg) (T : Ct mg) (g : GDraw P w K mg base) (gp : GPick P w K mg base) (gw : GWord P w K mg base) (D : Df K mg "_law_name" s_law_name ["_law_state_here", "_law_label_here"] f fd) : Ok P w K mg base 4 "_law_name" ["_law_state_here", "_law_label_here"] F_law_name := by
  refine D.ok (fok D.1 c_law_name (fun C rs R h => by obtain ⟨_, _, _, _, rfl, _⟩ := h; rfl) ?_)
  rintro X ⟨cdv, A, outer, s₀, H₀, E, rfl, hr⟩ C I0 H0 rs R D ⟨s, c, l, rfl, rfl, hl, hP⟩ hq
  have nd := c_law_name.nd
  refine bd_set (i := 2) (evp_pick (i := 0) (Pe := NatD 99999) gp (hr.mono (by decide)) rfl (pv 0) (evp_row (n := 6) (row_cons (evp_of de_int ⟨1, by decide, rfl⟩) (row_cons (evp_of de_int ⟨2, by decide, rfl⟩) (row_cons (evp_of de_int ⟨9, by decide, rfl⟩) (row_cons (evp_of de_int ⟨10, by decide, rfl⟩) (row_cons (evp_of de_int ⟨99999, by decide, rfl⟩)
    (row_cons (EvP.imp (evp_addI (Pa := (· = 1)) (Pb := DrawR 99999) (Pc := fun k => 1 ≤ k ∧ k ≤ 99999) (evp_of de_int ⟨1, rfl, rfl⟩) (evp_draw (i := 0) g (hr.mono (by decide)) rfl (pv 0) (de_int (i := 99999))) fun i j e1 hk => by
      have h1 := hk.1
      have h2 := hk.2
      omega) fun d ⟨k, hk, e⟩ => ⟨k.toNat, by omega, by rw [e]; unfold inat; rw [Int.toNat_of_nonneg (by omega)]⟩) row_nil)))))))) (fun r ⟨d, ⟨n, hn, e⟩, er⟩ => ?_)
  subst e er
  refine bd_ret (P := fun r => ∃ d, IdWD d ∧ r = .d d) (evp_tup (Ps := fun ds => ∃ x, StrW 8 x ∧ ds = [l.d, .str x, inat n]) (evpa_cons (P1 := (· = l.d)) (Ps := fun ds => ∃ x, StrW 8 x ∧ ds = [.str x, inat n]) (evp_of (de_var (i := 1) rfl (pv 1)) rfl) (evpa_cons (Ps := (· = [inat n])) (evp_word (l := "abz") (m := 8) (i := 0) gw (hr.mono (by decide)) rfl (pv 0) de_str (de_int (i := ((8 : Nat) : Int))) ⟨by decide, by decide⟩ (by decide) (by decide))
    (evpa_cons (P1 := (· = inat n)) (Ps := (· = [])) (evp_of (de_var (i := 2) rfl (pv 2)) rfl) (evpa_nil rfl) (fun x xs e1 e2 => by rw [e1, e2])) (fun x xs ⟨y, h1, e1⟩ e2 => ⟨y, h1, by rw [e1, e2]⟩)) (fun x xs e1 ⟨y, h1, e2⟩ => ⟨y, h1, by rw [e1, e2]⟩)) (fun ds ⟨x, hx, e⟩ => ⟨by rw [e]; exact (by decide : 3 ≤ sizeLine), ⟨l, x, n⟩, ⟨hl, hx, hn⟩, by rw [e]; rfl⟩)) ?_
  exact fun v I' H' r ⟨d, hd, er⟩ => by rw [er]; exact hq v I' H' _ (hP d hd)
abbrev GName (P : Program) (w : World) (K : PySem.W.Frag) (mg : Str → Option Value) (base : Heap) : Prop := Ok P w K mg base 4 "_law_name" ["_law_state_here", "_law_label_here"] F_law_name
section
variable {X : Cx} {s c : Addr} {i : Nat} {G : List Sl} {x : Str} {p p2 pos : Pos} {e1 : Expr}
theorem evp_name {l : Lab} (g : GName X.prog X.w X.K X.mg X.base) (hr : Room 4 X.A) (hG : G[i]? = some (.v (.ref s))) (hv : PE X (.Name x p2) (tVar i)) (h1 : DE X e1 G l.d) (hl : LabW l)
    (hg : Gl X "_law_name" := by rfl) (he : starEach (.Name x p2 :: [e1]) X.env = (false, eval (.Name x p2) X.env) :: starEach [e1] X.env := by rfl) (he2 : starEach (e1 :: []) X.env = (false, eval e1 X.env) :: starEach [] X.env := by rfl) (hpl : (backTo pos (starEach [e1] X.env)).any (·.1) = false := by rfl) :
    EvP X (some (s, c)) (.Call (.Name "_law_name" p) [.Name x p2, e1] [] pos) G IdWD :=
  ev_fn g hr (eva_st (Ps := fun ds => ds = [l.d]) hG hv (evpa_cons (P1 := (· = l.d)) (Ps := (· = [])) (evp_of h1 rfl) (evpa_nil rfl) (fun x xs e1 e2 => by rw [e1, e2]) he2) he) (fun rs ⟨ds, e1, e2⟩ => ⟨s, c, l, rfl, by rw [e2, e1]; rfl, hl, fun d hd => ⟨d, hd, rfl⟩⟩) hg (by decide) he hpl
end
/-! ### _law_vertex -/
def VxW (v : Vx) : Prop := IdW v.id ∧ v.pl ≤ 11 ∧ v.ix ≤ 199
def VxWD (d : PyData) : Prop := ∃ v, VxW v ∧ d = v.d
def F_law_vertex : Spc := fun C rs P => ∃ (s c : Addr) (l : Lab), C = some (s, c) ∧ rs = [.v (.ref s), .d l.d] ∧ LabW l ∧ ∀ d, VxWD d → P (.d d)
theorem ok_law_vertex (B : Bt mg) (T : Ct mg) (g : GDraw P w K mg base) (gp : GPick P w K mg base) (gn : GName P w K mg base) (D : Df K mg "_law_vertex" s_law_vertex ["_law_state_here", "_law_label_here"] f fd) : Ok P w K mg base 5 "_law_vertex" ["_law_state_here", "_law_label_here"] F_law_vertex := by
  refine D.ok (fok D.1 c_law_vertex (fun C rs R h => by obtain ⟨_, _, _, _, rfl, _⟩ := h; rfl) ?_)
  rintro X ⟨cdv, A, outer, s₀, H₀, E, rfl, hr⟩ C I0 H0 rs R D ⟨s, c, l, rfl, rfl, hl, hP⟩ hq
  have nd := c_law_vertex.nd
  refine bd_set (i := 2) (evp_pick (i := 0) (Pe := NatD 11) gp (hr.mono (by decide)) rfl (pv 0) (evp_row (n := 3) (row_cons (evp_of de_int ⟨0, by decide, rfl⟩) (row_cons (evp_of de_int ⟨11, by decide, rfl⟩) (row_cons (EvP.imp (evp_draw (i := 0) g (hr.mono (by decide)) rfl (pv 0) (de_int (i := 12))) fun d ⟨k, hk, e⟩ => by rw [e]; exact natD_of hk (by decide)) row_nil))))) (fun r ⟨d, ⟨n, hn, e⟩, er⟩ => ?_)
  subst e er
  refine bd_ret (P := fun r => ∃ d, VxWD d ∧ r = .d d) (evp_tup (Ps := fun ds => ∃ i k, IdW i ∧ k ≤ 199 ∧ ds = [i.d, inat n, inat k]) (evpa_cons (Ps := fun ds => ∃ k, k ≤ 199 ∧ ds = [inat n, inat k]) (evp_name (i := 0) gn (hr.mono (by decide)) rfl (pv 0) (de_var (i := 1) rfl (pv 1)) hl) (evpa_cons (P1 := (· = inat n)) (Ps := fun ds => ∃ k, k ≤ 199 ∧ ds = [inat k]) (evp_of (de_var (i := 2) rfl (pv 2)) rfl)
    (evpa_cons (Ps := (· = [])) (evp_pick (i := 0) (Pe := NatD 199) gp (hr.mono (by decide)) rfl (pv 0) (evp_row (n := 4) (row_cons (evp_of de_int ⟨0, by decide, rfl⟩) (row_cons (evp_of de_int ⟨199, by decide, rfl⟩) (row_cons (evp_of de_int ⟨10, by decide, rfl⟩) (row_cons (EvP.imp (evp_draw (i := 0) g (hr.mono (by decide)) rfl (pv 0) (de_int (i := 200))) fun d ⟨k, hk, e⟩ => by rw [e]; exact natD_of hk (by decide)) row_nil)))))) (evpa_nil rfl) (fun x xs ⟨k, hk, e1⟩ e2 => ⟨k, hk, by rw [e1, e2]⟩))
    (fun x xs e1 ⟨k, hk, e2⟩ => ⟨k, hk, by rw [e1, e2]⟩)) (fun x xs ⟨i, hi, e1⟩ ⟨k, hk, e2⟩ => ⟨i, k, hi, hk, by rw [e1, e2]⟩)) (fun ds ⟨i, k, hi, hk, e⟩ => ⟨by rw [e]; exact (by decide : 3 ≤ sizeLine), ⟨i, n, k⟩, ⟨hi, hn, hk⟩, by rw [e]; rfl⟩)) ?_
  exact fun v I' H' r ⟨d, hd, er⟩ => by rw [er]; exact hq v I' H' _ (hP d hd)
abbrev GVertex (P : Program) (w : World) (K : PySem.W.Frag) (mg : Str → Option Value) (base : Heap) : Prop := Ok P w K mg base 5 "_law_vertex" ["_law_state_here", "_law_label_here"] F_law_vertex
section
variable {X : Cx} {s c : Addr} {i : Nat} {G : List Sl} {x : Str} {p p2 pos : Pos} {e1 : Expr}
theorem evp_vertex {l : Lab} (g : GVertex X.prog X.w X.K X.mg X.base) (hr : Room 5 X.A) (hG : G[i]? = some (.v (.ref s))) (hv : PE X (.Name x p2) (tVar i)) (h1 : DE X e1 G l.d) (hl : LabW l)
    (hg : Gl X "_law_vertex" := by rfl) (he : starEach (.Name x p2 :: [e1]) X.env = (false, eval (.Name x p2) X.env) :: starEach [e1] X.env := by rfl) (he2 : starEach (e1 :: []) X.env = (false, eval e1 X.env) :: starEach [] X.env := by rfl) (hpl : (backTo pos (starEach [e1] X.env)).any (·.1) = false := by rfl) :
    EvP X (some (s, c)) (.Call (.Name "_law_vertex" p) [.Name x p2, e1] [] pos) G VxWD :=
  ev_fn g hr (eva_st (Ps := fun ds => ds = [l.d]) hG hv (evpa_cons (P1 := (· = l.d)) (Ps := (· = [])) (evp_of h1 rfl) (evpa_nil rfl) (fun x xs e1 e2 => by rw [e1, e2]) he2) he) (fun rs ⟨ds, e1, e2⟩ => ⟨s, c, l, rfl, by rw [e2, e1]; rfl, hl, fun d hd => ⟨d, hd, rfl⟩⟩) hg (by decide) he hpl
end
/-! ### _law_path -/
def PathW (p : List Str) : Prop := p.length ≤ 4 ∧ ∀ x ∈ p, StrW 8 x
def PathWD (d : PyData) : Prop := ∃ p, PathW p ∧ d = pathD p
def F_law_path : Spc := fun C rs P => ∃ (s c : Addr), C = some (s, c) ∧ rs = [.v (.ref s)] ∧ ∀ d, PathWD d → P (.d d)
theorem ok_law_path (B : Bt mg) (T : Ct mg) (g : GDraw P w K mg base) (gw : GWord P w K mg base) (D : Df K mg "_law_path" s_law_path ["_law_state_here"] f fd) : Ok P w K mg base 4 "_law_path" ["_law_state_here"] F_law_path := by
  refine D.ok (fok D.1 c_law_path (fun C rs R h => by obtain ⟨_, _, _, rfl, _⟩ := h; rfl) ?_)
  rintro X ⟨cdv, A, outer, s₀, H₀, E, rfl, hr⟩ C I0 H0 rs R D ⟨s, c, rfl, rfl, hP⟩ hq
  have nd := c_law_path.nd
  refine bd_ret (P := fun r => ∃ d, PathWD d ∧ r = .d d) (Ev.imp (ev_tupL (P := fun ds => ∃ p, PathW p ∧ ds = p.map .str) (Ev.imp (ev_frz (LcN.n (lcP (j := 1) (x := "_law_k") (SD 8) (evi_rngZ (n := 4) (Pz := fun k => 1 ≤ k ∧ k ≤ 4) (evp_addI (Pa := (· = 1)) (Pb := DrawR 4) (evp_of de_int ⟨1, rfl, rfl⟩) (evp_draw (i := 0) g (hr.mono (by decide)) rfl (pv 0) (de_int (i := 4))) fun i j e1 hk => by
      have h1 := hk.1
      have h2 := hk.2
      omega) (fun k hk => by omega) (by decide) B.range) (blkOk_by (N := n_law_path) (sc := defScope s_law_path) (by decide +kernel)) (fun _ _ _ _ _ => pg_name (i := 1) nd rfl (Or.inl rfl)) (fun ds ⟨j, hj, e⟩ => by rw [e, List.length_map, List.length_range]; exact sz (by omega))
      (fun ds d _ hd s1 H1 Ca cl fp => Ev.imp (evp_word (l := "az09") (m := 8) (i := 0) gw (hr.mono (by decide)) rfl (pv 0) de_str (de_int (i := ((8 : Nat) : Int))) ⟨by decide, by decide⟩ (by decide) (by decide)) fun r ⟨d, h1, h2⟩ => ⟨d, h2, h1⟩)))) fun r ⟨ds, ⟨ds0, ⟨j, hj, e0⟩, hl0, hm0⟩, er⟩ => by
        obtain ⟨xs, e1, e2⟩ := strs_of hm0
        exact ⟨_, ⟨xs, ⟨by rw [← List.length_map PyData.str, ← e1, hl0, e0, List.length_map, List.length_range]; exact hj, e2⟩, rfl⟩, by rw [er, e1]⟩) B.tuple) fun r ⟨ds, ⟨p, h1, h2⟩, er⟩ => ⟨_, ⟨p, h1, rfl⟩, by rw [er, h2]; rfl⟩) ?_
  exact fun v I' H' r ⟨d, hd, er⟩ => by rw [er]; exact hq v I' H' _ (hP d hd)
abbrev GPath (P : Program) (w : World) (K : PySem.W.Frag) (mg : Str → Option Value) (base : Heap) : Prop := Ok P w K mg base 4 "_law_path" ["_law_state_here"] F_law_path
section
variable {X : Cx} {s c : Addr} {i : Nat} {G : List Sl} {x : Str} {p p2 pos : Pos}
theorem evp_path (g : GPath X.prog X.w X.K X.mg X.base) (hr : Room 4 X.A) (hG : G[i]? = some (.v (.ref s))) (hv : PE X (.Name x p2) (tVar i))
    (hg : Gl X "_law_path" := by rfl) (he : starEach (.Name x p2 :: []) X.env = (false, eval (.Name x p2) X.env) :: starEach [] X.env := by rfl) (hpl : (backTo pos (starEach [] X.env)).any (·.1) = false := by rfl) :
    EvP X (some (s, c)) (.Call (.Name "_law_path" p) [.Name x p2] [] pos) G PathWD :=
  ev_fn g hr (eva_st (Ps := (· = [])) hG hv (evpa_nil rfl) he) (fun rs ⟨ds, e1, e2⟩ => ⟨s, c, rfl, by rw [e2, e1]; rfl, fun d hd => ⟨d, hd, rfl⟩⟩) hg (by decide) he hpl
end
end
end QL
namespace QL
open PySem PySem.Spec PyProof.Rows L2
theorem lay_vxS {v : Vx} (h : PyData.strOk v.id.nm = true) : v.d.canLay0 = true ∧ v.d.depth ≤ 4 := by
  obtain ⟨h1, h2⟩ := lay_lab v.id.lab
  constructor
  · show ((PyData.canLay0 v.id.lab.d && (PyData.canLay0 (.str v.id.nm) && (true && true))) && (true && (true && true))) = true
    rw [h1, show PyData.canLay0 (.str v.id.nm) = PyData.strOk v.id.nm from by rw [PyData.canLay0], h]
    rfl
  · rw [dep_vx]; exact Nat.le_refl _
theorem lay_vxW {v : Vx} (h : VxW v) : v.d.canLay0 = true ∧ v.d.depth ≤ 4 := lay_vxS (ok_chars h.1.2.1.2)
section
variable {X : Cx} {C : Cs} {a b e : Expr} {es : List Expr} {G : List Sl} {pos p : Pos} {ds : List PyData}
/-- sorted(xs), xs alike -/
theorem evn_sorted (hu : X.A.units + 65 < cLine) (ha : DE X a G (.list ds)) (h1 : PySem.W.AllAlike ds) (h2 : PySem.W.Sortable ds) (h3 : ds.length ≤ 1000) (h4 : ∀ d ∈ ds, d.depth ≤ 60) (hm : X.mg "sorted" = none) (hg : Gl X "sorted" := by rfl)
    (he : starEach (a :: []) X.env = (false, eval a X.env) :: starEach [] X.env := by rfl) (hpl : (backTo pos (starEach [] X.env)).any (·.1) = false := by rfl) : EvN X C (.Call (.Name "sorted" p) [a] [] pos) G (fun es => es.Perm ds) := fun σ I H Q hE hS hC q =>
  of_pe (pe_callB (cr_sortedD hu) hg hm (by decide +kernel) pa_wp (by decide) (by decide) he hpl) (da_cons ha da_nil he C σ I H _ hE hS hC fun vs I1 H1 rs er x c o => by
    subst er
    cases o with
    | cons o1 o2 =>
      cases o2
      cases o1 with
      | @lst l xs _ g1 g2 =>
        have ez : (xs.zip ds).map (·.2) = ds := List.map_snd_zip (by rw [g2.len]; exact Nat.le_refl _)
        refine ⟨l, xs, ds, rfl, sql_inj g1 x.sub, (DqAll.mono x.sub g2).dp, h1, h2, h3, h4, fun cs p pm hp => ?_⟩
        have ex := Ext.mut (C := none) (o := .lst (cs.map (·.1))) x.sub hp
        have rel : ∀ {xs : List V} {ds : List PyData}, DqAll I1 xs ds → ∀ b ∈ xs.zip ds, Dq I1 b.1 b.2 := by
          intro xs ds h
          induction ds generalizing xs with
          | nil => cases h; intro b hb; simp at hb
          | cons d ds ih =>
            cases h with
            | cons r t =>
              intro b hb
              rw [List.zip_cons_cons] at hb
              rcases List.mem_cons.mp hb with rfl | hb
              · exact r
              · exact ih t b hb
        have all : ∀ {cs : List (V × PyData)}, (∀ b ∈ cs, Dq I1 b.1 b.2) → DqAll I1 (cs.map (·.1)) (cs.map (·.2)) := by
          intro cs
          induction cs with
          | nil => intro _; exact .nil
          | cons b cs ih => intro h; exact .cons (h b List.mem_cons_self) (ih fun b hb => h b (List.mem_cons_of_mem _ hb))
        refine q p (cs.map (·.1)) I1 _ (cs.map (·.2)) ?_ (x.trans ex.of0) (c.ext0 ex) (x.free hp) (x.sub.free hp) upd_same (all fun b hb => rel g2 b (pm.mem_iff.mp hb))
        have := pm.map (·.2)
        rw [ez] at this
        exact this)
/-- '~' * 40 -/
def tld : Str := ⟨(List.replicate 40 ("~" : Str).cps).foldl (· ++ ·) #[]⟩
theorem op_tld : OpR X (binaryOp .Mult) (fun x y H Q => x = .str "~" ∧ y = .int 40 ∧ Q (.str tld) H) := by
  intro pins s σ H x y v u Q I rx ry h
  obtain ⟨rfl, rfl, q⟩ := h
  obtain ⟨t, rfl⟩ := rx
  obtain ⟨t', rfl⟩ := ry
  refine PySem.P.mul_str (by decide) (fun _ _ => by decide) (fun _ _ => by decide) ?_
  rw [if_neg (by decide), if_neg (by decide)]
  exact ⟨by decide +kernel, ⟨.str tld, H, I.tok _, ⟨_, rfl⟩, q⟩⟩
theorem de_tld {j k : Nat} {p1 p2 : Pos} : DE X (.BinOp (.Constant (.str "~") j p1) .Mult (.Constant (.int 40) k p2) pos) G (.str tld) := de_bin op_tld de_str de_int fun I H v u Q s o1 o2 q => by
  cases o1; cases o2
  exact ⟨rfl, rfl, q _ I H (Ext.refl s) (.str _)⟩
/-- xs * 12 -/
theorem dn_rep {n : Nat} (ha : DE X a G (.list ds)) (hb : DE X b G (.int (n : Int))) (hn : n ≤ 1000) (hz : ds.length ≤ 1000) : DN X (.BinOp a .Mult b pos) G (List.replicate n ds).flatten := dn_bin op_rep ha hb fun I H v u Q s o1 o2 q => by
  cases o2
  cases o1 with
  | @lst l xs _ g1 g2 =>
    have hl := g2.len
    refine ⟨l, n, xs, rfl, rfl, s _ _ g1, by omega, by omega, ?_, fun p hp => ?_⟩
    · rw [Int.toNat_natCast, hl]
      exact Nat.le_trans (Nat.mul_le_mul hz hn) (by decide)
    · rw [Int.toNat_natCast]
      have all : ∀ k : Nat, DqAll I (List.replicate k xs).flatten (List.replicate k ds).flatten := by
        intro k
        induction k with
        | zero => exact .nil
        | succ k ih => rw [List.replicate_succ, List.replicate_succ, List.flatten_cons, List.flatten_cons]; exact g2.app ih
      exact q p _ I (Ext.mut (C := none) s hp) hp (s.free hp) (all n)
end
section
variable {P : Program} {w : World} {K : PySem.W.Frag} {mg : Str → Option Value} {base : Heap} {f : Addr} {fd : FuncData}
/-! ### _law_vertices -/
def VsW (vs : List Vx) : Prop := vs.length ≤ 4 ∧ ∀ v ∈ vs, VxW v
def VsWD (d : PyData) : Prop := ∃ vs, VsW vs ∧ d = vxsD vs
def F_law_vertices : Spc := fun C rs P => ∃ (s c : Addr) (l : Lab) (a b : Nat), C = some (s, c) ∧ rs = [.v (.ref s), .d l.d, .d (.int (a : Int)), .d (.int (b : Int))] ∧ LabW l ∧ a ≤ b ∧ b ≤ 4 ∧ ∀ d, VsWD d → P (.d d)
theorem ok_law_vertices (B : Bt mg) (T : Ct mg) (g : GDraw P w K mg base) (gv : GVertex P w K mg base) (D : Df K mg "_law_vertices" s_law_vertices ["_law_state_here", "_law_label_here", "_law_least", "_law_most"] f fd) : Ok P w K mg base 6 "_law_vertices" ["_law_state_here", "_law_label_here", "_law_least", "_law_most"] F_law_vertices := by
  refine D.ok (fok D.1 c_law_vertices (fun C rs R h => by obtain ⟨_, _, _, _, _, _, rfl, _⟩ := h; rfl) ?_)
  rintro X ⟨cdv, A, outer, s₀, H₀, E, rfl, hr⟩ C I0 H0 rs R D ⟨s, c, l, a, b, rfl, rfl, hl, hab, hb, hP⟩ hq
  have nd := c_law_vertices.nd
  refine bd_setN (i := 4) ((dn_lst (ds := []) da_nil) _) fun p ds e => ?_
  subst e
  refine bd_for (j := 5) PassesOwn.never rfl (evi_rngZ (n := 4) (Pz := fun k => 0 ≤ k ∧ k ≤ (b : Int)) (evp_addI (Pa := (· = (a : Int))) (Pb := DrawR ((b : Int) - (a : Int) + 1)) (evp_of (de_var (i := 2) rfl (pv 2)) ⟨_, rfl, rfl⟩) (evp_draw (i := 0) g (hr.mono (by decide)) rfl (pv 0) (de_addI (de_subI (de_var (i := 3) rfl (pv 3)) (de_var (i := 2) rfl (pv 2))) de_int) (by omega)) fun i j e1 hk => by
      have h1 := hk.1
      have h2 := hk.2
      omega) (fun k hk => by omega) (by decide) B.range) (pg_name (i := 5) nd rfl (Or.inl rfl))
    (fun _ i G' L' => ∃ (p : Addr) (vs : List Vx) (r5 r6 : Sl), G' = [.v (.ref s), .d l.d, .d (.int (a : Int)), .d (.int (b : Int)), .v (.ref p), r5, r6] ∧ L' = some (p, vs.map Vx.d) ∧ vs.length ≤ i ∧ ∀ v ∈ vs, VxW v) ?_ ?_ ?_
  · rintro ds _
    exact ⟨p, [], .no, .no, rfl, rfl, Nat.le_refl _, by simp⟩
  · rintro I1 bs ds i d G' L' ⟨j, hj, rfl⟩ hd ⟨p, vs, r5, r6, rfl, rfl, hvl, hv⟩ bk
    have hi : i < 4 := by
      have := (List.getElem?_eq_some_iff.mp hd).1
      rw [List.length_map, List.length_range] at this
      omega
    refine bd_set (i := 6) (evp_vertex (i := 0) gv (hr.mono (by decide)) rfl (pv 0) (de_var (i := 1) rfl (pv 1)) hl) fun r ⟨d1, ⟨v, hvw, e1⟩, er⟩ => ?_
    subst e1 er
    have s1 := lay_vxW hvw
    have s2 := lay_list (ds := vs.map Vx.d) (n := 4) fun d hd => by
      obtain ⟨x, hx, rfl⟩ := List.mem_map.mp hd
      exact lay_vxW (hv x hx)
    refine bd_whenL (i := 4) rfl (dt_niD (ds := vs.map Vx.d) (room65 hr) (de_var (i := 6) (d := v.d) rfl (pv 6)) (de_var (i := 4) rfl (pv 4)) (shaped_of s1.1 (Nat.le_trans s1.2 (by decide))) (shaped_of s2.1 (Nat.le_trans s2.2 (by decide)))) (fun hb => ?_) (fun hb => ?_)
    · -- _law_found.append(_law_one)
      refine bd_app (Pd := fun y => y = v.d) (i := 4) (pv 4) rfl (Ev.imp (de_var (i := 6) rfl (pv 6) _) fun r e => ⟨_, e, rfl⟩) (Nat.lt_of_le_of_lt (by rw [List.length_map]; omega : _ ≤ 100) (by decide)) (fun y ey => ?_)
      subst ey
      refine bd_end (bd_nil fun _ _ h => ⟨_, _, ?_, h⟩)
      exact ⟨p, vs ++ [v], _, _, rfl, by rw [List.map_append]; rfl, by rw [List.length_append, List.length_singleton]; omega, fun x hx => by
        rcases List.mem_append.mp hx with z | z
        · exact hv x z
        · rw [List.mem_singleton.mp z]; exact hvw⟩
    · refine bd_nil fun _ _ h => ⟨_, _, ?_, h⟩
      exact ⟨p, vs, _, _, rfl, rfl, by omega, hv⟩
  · rintro I1 bs ds G' L' ⟨j, hj, rfl⟩ ⟨p, vs, r5, r6, rfl, rfl, hvl, hv⟩
    rw [List.length_map, List.length_range] at hvl
    refine bd_frz (i := 4) rfl ?_
    refine bd_ret (P := fun r => ∃ d, VsWD d ∧ r = .d d) (evp_frz (evn_sorted (room65 hr) (de_var (i := 4) rfl (pv 4)) (PySem.W.AllAlike.of fun x y => alike_vx x y) (PySem.W.Sortable.tuples fun x => ⟨_, _, rfl⟩) (by rw [List.length_map]; omega) (fun d hd => by
      obtain ⟨x, hx, rfl⟩ := List.mem_map.mp hd
      rw [dep_vx]; decide) B.sorted) fun es pm => ?_) ?_
    · obtain ⟨ws, e1, e2⟩ := objs_of Vx.d VxW (ds := es) fun d hd => by
        obtain ⟨x, hx, rfl⟩ := List.mem_map.mp (pm.mem_iff.mp hd)
        exact ⟨x, hv x hx, rfl⟩
      refine ⟨ws, ⟨?_, e2⟩, by rw [e1]; rfl⟩
      have := pm.length_eq
      rw [e1, List.length_map, List.length_map] at this
      omega
    · exact fun v I' H' r ⟨d, hd, er⟩ => by rw [er]; exact (hq.bs bs) v I' H' _ (hP d hd)
abbrev GVertices (P : Program) (w : World) (K : PySem.W.Frag) (mg : Str → Option Value) (base : Heap) : Prop := Ok P w K mg base 6 "_law_vertices" ["_law_state_here", "_law_label_here", "_law_least", "_law_most"] F_law_vertices
section
variable {X : Cx} {s c : Addr} {i : Nat} {G : List Sl} {x : Str} {p p2 pos : Pos} {e1 e2 e3 : Expr}
theorem evp_vertices {l : Lab} {a b : Nat} (g : GVertices X.prog X.w X.K X.mg X.base) (hr : Room 6 X.A) (hG : G[i]? = some (.v (.ref s))) (hv : PE X (.Name x p2) (tVar i)) (h1 : DE X e1 G l.d) (h2 : DE X e2 G (.int (a : Int))) (h3 : DE X e3 G (.int (b : Int))) (hl : LabW l) (hab : a ≤ b ∧ b ≤ 4)
    (hg : Gl X "_law_vertices" := by rfl) (he : starEach (.Name x p2 :: [e1, e2, e3]) X.env = (false, eval (.Name x p2) X.env) :: starEach [e1, e2, e3] X.env := by rfl) (he2 : starEach (e1 :: [e2, e3]) X.env = (false, eval e1 X.env) :: starEach [e2, e3] X.env := by rfl) (he3 : starEach (e2 :: [e3]) X.env = (false, eval e2 X.env) :: starEach [e3] X.env := by rfl) (he4 : starEach (e3 :: []) X.env = (false, eval e3 X.env) :: starEach [] X.env := by rfl) (hpl : (backTo pos (starEach [e1, e2, e3] X.env)).any (·.1) = false := by rfl) :
    EvP X (some (s, c)) (.Call (.Name "_law_vertices" p) [.Name x p2, e1, e2, e3] [] pos) G VsWD :=
  ev_fn g hr (eva_st (Ps := fun ds => ds = [l.d, .int (a : Int), .int (b : Int)]) hG hv (evpa_cons (P1 := (· = l.d)) (Ps := (· = [.int (a : Int), .int (b : Int)])) (evp_of h1 rfl) (evpa_cons (P1 := (· = .int (a : Int))) (Ps := (· = [.int (b : Int)])) (evp_of h2 rfl) (evpa_cons (P1 := (· = .int (b : Int))) (Ps := (· = [])) (evp_of h3 rfl) (evpa_nil rfl) (fun x xs e1 e2 => by rw [e1, e2]) he4) (fun x xs e1 e2 => by rw [e1, e2]) he3) (fun x xs e1 e2 => by rw [e1, e2]) he2) he) (fun rs ⟨ds, e1, e2⟩ => ⟨s, c, l, a, b, rfl, by rw [e2, e1]; rfl, hl, hab.1, hab.2, fun d hd => ⟨d, hd, rfl⟩⟩) hg (by decide) he hpl
end
end
end QL
namespace QL
open PySem PySem.Spec PyProof.Rows L2
section
variable {P : Program} {w : World} {K : PySem.W.Frag} {mg : Str → Option Value} {base : Heap} {f : Addr} {fd : FuncData}
/-- a row written out, by places -/
def RowEv (X : Cx) (C : Cs) (G : List Sl) (Pe : PyData → Prop) : List Expr → Prop
  | [] => True
  | e :: es => EvP X C e G Pe ∧ starEach (e :: es) X.env = (false, eval e X.env) :: starEach es X.env ∧ RowEv X C G Pe es
theorem row_ev {X : Cx} {C : Cs} {G : List Sl} {Pe : PyData → Prop} : ∀ {es : List Expr}, RowEv X C G Pe es → EvPA X C es G (fun ds => ds.length = es.length ∧ ∀ d ∈ ds, Pe d)
  | [], _ => row_nil
  | _ :: _, ⟨h1, h2, h3⟩ => row_cons h1 (row_ev h3) h2
theorem evp_rowE {X : Cx} {C : Cs} {G : List Sl} {Pe : PyData → Prop} {es : List Expr} {pos : Pos} (n : Nat) (h : RowEv X C G Pe es) (hn : es.length = n) (h0 : n ≠ 0) (h1 : n < 1000000) : EvP X C (.List es pos) G (fun d => ∃ ds, ds ≠ [] ∧ ds.length < 1000000 ∧ (∀ d ∈ ds, Pe d) ∧ d = .list ds) :=
  evp_row (n := n) (EvA.imp (row_ev h) fun rs ⟨ds, ⟨l, p⟩, e⟩ => ⟨ds, ⟨by rw [l, hn], p⟩, e⟩) h0 h1
/-! ### _law_line -/
theorem evp_pickR {X : Cx} {s c : Addr} {i : Nat} {G : List Sl} {x : Str} {p p2 pos lp : Pos} {es : List Expr} {Pe : PyData → Prop} (g : GPick X.prog X.w X.K X.mg X.base) (hr : Room 2 X.A) (hG : G[i]? = some (.v (.ref s))) (hv : PE X (.Name x p2) (tVar i)) (n : Nat) (h : RowEv X (some (s, c)) G Pe es) (hn : es.length = n := by rfl) (h0 : n ≠ 0 := by decide) (h1 : n < 1000000 := by decide)
    (hg : Gl X "_law_pick" := by rfl) (he : starEach (.Name x p2 :: [.List es lp]) X.env = (false, eval (.Name x p2) X.env) :: starEach [.List es lp] X.env := by rfl) (he2 : starEach (.List es lp :: []) X.env = (false, eval (.List es lp) X.env) :: starEach [] X.env := by rfl) (hpl : (backTo pos (starEach [.List es lp] X.env)).any (·.1) = false := by rfl) :
    EvP X (some (s, c)) (.Call (.Name "_law_pick" p) [.Name x p2, .List es lp] [] pos) G Pe := evp_pick g hr hG hv (evp_rowE n h hn h0 h1) hg he he2 hpl
def F_law_line : Spc := fun C rs P => ∃ (s c : Addr), C = some (s, c) ∧ rs = [.v (.ref s)] ∧ ∀ d, SD 41 d → P (.d d)
theorem ok_law_line (B : Bt mg) (T : Ct mg) (gp : GPick P w K mg base) (D : Df K mg "_law_line" s_law_line ["_law_state_here"] f fd) : Ok P w K mg base 3 "_law_line" ["_law_state_here"] F_law_line := by
  refine D.ok (fok D.1 c_law_line (fun C rs R h => by obtain ⟨_, _, _, rfl, _⟩ := h; rfl) ?_)
  rintro X ⟨cdv, A, outer, s₀, H₀, E, rfl, hr⟩ C I0 H0 rs R D ⟨s, c, rfl, rfl, hP⟩ hq
  have nd := c_law_line.nd
  have sd : ∀ (n : Nat) (x : Str), (decide (x.length ≤ n) && (tl x).all fun c => decide (c < 1114112)) = true → SD n (.str x) := fun n x h => by
    simp only [Bool.and_eq_true, decide_eq_true_eq, List.all_eq_true] at h
    exact ⟨x, h, rfl⟩
  have k0 : SD 40 (.str ("" : Str)) := sd _ _ (by decide +kernel)
  have k1 : SD 40 (.str (" " : Str)) := sd _ _ (by decide +kernel)
  have k2 : SD 40 (.str ("a" : Str)) := sd _ _ (by decide +kernel)
  have k3 : SD 40 (.str ("end" : Str)) := sd _ _ (by decide +kernel)
  have k4 : SD 40 (.str ("|x" : Str)) := sd _ _ (by decide +kernel)
  have k5 : SD 40 (.str ("patch 0.a.1" : Str)) := sd _ _ (by decide +kernel)
  have k6 : SD 40 (.str ("add a" : Str)) := sd _ _ (by decide +kernel)
  have k7 : SD 40 (.str tld) := sd _ _ (by decide +kernel)
  have k8 : SD 40 (.str ("a,b.c:d-e" : Str)) := sd _ _ (by decide +kernel)
  have j0 : SD 1 (.str ("" : Str)) := sd _ _ (by decide +kernel)
  have j1 : SD 1 (.str (" " : Str)) := sd _ _ (by decide +kernel)
  refine bd_set (i := 1) (evp_pickR (i := 0) (Pe := SD 40) gp (hr.mono (by decide)) rfl (pv 0) 9 ⟨evp_of de_str k0, rfl, evp_of de_str k1, rfl, evp_of de_str k2, rfl, evp_of de_str k3, rfl, evp_of de_str k4, rfl, evp_of de_str k5, rfl, evp_of de_str k6, rfl, evp_of de_tld k7, rfl, evp_of de_str k8, rfl, True.intro⟩) (fun r ⟨d, ⟨x, hx, e⟩, er⟩ => ?_)
  subst e er
  refine bd_ret (P := fun r => ∃ d, SD (40 + 1) d ∧ r = .d d) (evp_addS (evp_of (de_var (i := 1) rfl (pv 1)) ⟨x, hx, rfl⟩) (evp_sl (n := 1) (evp_pickR (i := 0) (Pe := SD 1) gp (hr.mono (by decide)) rfl (pv 0) 3 ⟨evp_of de_str j0, rfl, evp_of de_str j0, rfl, evp_of de_str j1, rfl, True.intro⟩) evo_none (evo_z (Pz := fun _ => True) (evp_of (de_subI de_int (de_lenS (x' := "") (de_var (i := 1) rfl (pv 1)) (sz (by have := hx.1; omega)) B.len)) ⟨_, True.intro, rfl⟩)) (by decide)) (by decide)) ?_
  exact fun v I' H' r ⟨d, hd, er⟩ => by rw [er]; exact hq v I' H' _ (hP d hd)
abbrev GLine (P : Program) (w : World) (K : PySem.W.Frag) (mg : Str → Option Value) (base : Heap) : Prop := Ok P w K mg base 3 "_law_line" ["_law_state_here"] F_law_line
section
variable {X : Cx} {s c : Addr} {i : Nat} {G : List Sl} {x : Str} {p p2 pos : Pos}
theorem evp_line (g : GLine X.prog X.w X.K X.mg X.base) (hr : Room 3 X.A) (hG : G[i]? = some (.v (.ref s))) (hv : PE X (.Name x p2) (tVar i))
    (hg : Gl X "_law_line" := by rfl) (he : starEach (.Name x p2 :: []) X.env = (false, eval (.Name x p2) X.env) :: starEach [] X.env := by rfl) (hpl : (backTo pos (starEach [] X.env)).any (·.1) = false := by rfl) :
    EvP X (some (s, c)) (.Call (.Name "_law_line" p) [.Name x p2] [] pos) G (SD 41) :=
  ev_fn g hr (eva_st (Ps := (· = [])) hG hv (evpa_nil rfl) he) (fun rs ⟨ds, e1, e2⟩ => ⟨s, c, rfl, by rw [e2, e1]; rfl, fun d hd => ⟨d, hd, rfl⟩⟩) hg (by decide) he hpl
end
end
end QL
namespace QL
open PySem PySem.Spec PyProof.Rows L2
section
variable {X : Cx} {C : Cs} {I0 H0 : Hp} {G : List Sl} {L : Lo} {D : Ends} {rest : List Stmt} {a b : Expr} {pos : Pos}
/-- x, y = a, b -/
theorem bd_par {i j : Nat} {x y : Str} {px py pt pt2 : Pos} {kt k2 : Nat} {Pd : PyData → PyData → Prop} (h : EvPA X C [a, b] G (fun ds => ∃ u w, ds = [u, w] ∧ Pd u w)) (k : ∀ u w, Pd u w → Bd X C I0 H0 rest ((G.set i (.d u)).set j (.d w)) L D) (hij : i ≠ j := by decide) (hi : X.N[i]? = some x := by rfl) (hj : X.N[j]? = some y := by rfl)
    (hx : X.env.scope.names.lookup x = some .local := by rfl) (hy : X.env.scope.names.lookup y = some .local := by rfl) (hw : swappedStores [.Tuple [.Name x px, .Name y py] kt pt] (.Tuple [a, b] k2 pt2) X.env = pure (some [x, y]) := by rfl) (hc : X.calm = true := by rfl) (hN : X.N.Nodup := by assumption)
    (hs : swapsWithSole [.Tuple [.Name x px, .Name y py] kt pt] (.Tuple [a, b] k2 pt2) pos.line X.env = pure false := by rfl) : Bd X C I0 H0 (.Assign [.Tuple [.Name x px, .Name y py] kt pt] (.Tuple [a, b] k2 pt2) pos :: rest) G L D := fun σ H ⟨I, h1, h2, h3, h4⟩ =>
  of_pss (pss_cons (ps_par hc hN hi hj hij hx hy pa_wp hw hs) (pss_wp (st := rest))) (h σ I H _ h1 h2.sub h3 fun vs I' H' rs ⟨ds, ⟨u, w, e, pd⟩, er⟩ x c o => by
    subst e er
    cases o with
    | cons o1 o2 =>
      cases o2 with
      | cons o2 o3 =>
        cases o3
        exact ⟨_, _, rfl, k u w pd _ H' ⟨I', ((h1.mono x.im).set i (r := .d u) o1).set j (r := .d w) o2, h2.trans x, c, h4.ext x⟩⟩)
end
section
variable {P : Program} {w : World} {K : PySem.W.Frag} {mg : Str → Option Value} {base : Heap} {f : Addr} {fd : FuncData}
/-! ### _law_change -/
def Cg0W : Cg0 → Prop
  | .add p => PathW p
  | .back i => IdW i
  | .drop f o => VxW f ∧ VsW o
  | .move f p o => VxW f ∧ PathW p ∧ VsW o
  | .cut f o => VxW f ∧ VsW o
  | .order f a b => VxW f ∧ VxW a ∧ VxW b
  | .lines f u d _ => VxW f ∧ VsW u ∧ VsW d
def CgW (c : Cg) : Prop := Cg0W c.c ∧ c.ts.length ≤ 4 ∧ ∀ t ∈ c.ts, StrW 41 t
def CgWD (d : PyData) : Prop := ∃ c, CgW c ∧ d = c.d
theorem cgw {c : Cg0} (h : Cg0W c) (e : (Cg.mk c []).d = d) : CgWD d := ⟨⟨c, []⟩, ⟨h, Nat.zero_le _, by simp⟩, e.symm⟩
def F_law_change : Spc := fun C rs P => ∃ (s c : Addr) (l : Lab), C = some (s, c) ∧ rs = [.v (.ref s), .d l.d] ∧ LabW l ∧ ∀ d, CgWD d → P (.d d)
theorem ok_law_change (B : Bt mg) (T : Ct mg) (g : GDraw P w K mg base) (gn : GName P w K mg base) (gv : GVertex P w K mg base) (gpa : GPath P w K mg base) (gvs : GVertices P w K mg base) (gl : GLine P w K mg base) (D : Df K mg "_law_change" s_law_change ["_law_state_here", "_law_label_here"] f fd) : Ok P w K mg base 7 "_law_change" ["_law_state_here", "_law_label_here"] F_law_change := by
  refine D.ok (fok D.1 c_law_change (fun C rs R h => by obtain ⟨_, _, _, _, rfl, _⟩ := h; rfl) ?_)
  rintro X ⟨cdv, A, outer, s₀, H₀, E, rfl, hr⟩ C I0 H0 rs R D ⟨s, c, l, rfl, rfl, hl, hP⟩ hq
  have nd := c_law_change.nd
  have hq' : RtOk (some (s, c)) I0 H0 (fun r => ∃ d, CgWD d ∧ r = .d d) D.rt := fun v I' H' r ⟨d, hd, er⟩ => by rw [er]; exact hq v I' H' _ (hP d hd)
  refine bd_set (i := 2) (evp_draw (i := 0) g (hr.mono (by decide)) rfl (pv 0) (de_int (i := 7))) (fun r ⟨d, ⟨k, hk, e⟩, er⟩ => ?_)
  subst e er
  refine bd_whenD (dt_eqI (de_var (i := 2) rfl (pv 2)) de_int) (fun hb => ?_) (fun hb => ?_)
  · -- return ('add', _law_path(_law_state_here))
    exact bd_ret (evp_tup (Ps := fun ds => ∃ p, PathW p ∧ ds = [.str "add", pathD p]) (evpa_cons (P1 := (· = .str "add")) (Ps := fun ds => ∃ p, PathW p ∧ ds = [pathD p]) (evp_of de_str rfl) (evpa_cons (Ps := (· = [])) (evp_path (i := 0) gpa (hr.mono (by decide)) rfl (pv 0)) (evpa_nil rfl) (fun x xs ⟨p, h1, e1⟩ e2 => ⟨p, h1, by rw [e1, e2]⟩)) (fun x xs e1 ⟨p, h1, e2⟩ => ⟨p, h1, by rw [e1, e2]⟩)) (fun ds ⟨p, h, e⟩ => ⟨by rw [e]; exact (by decide : 2 ≤ sizeLine), by rw [e]; exact cgw (c := .add p) h rfl⟩)) hq'
  refine bd_whenD (dt_eqI (de_var (i := 2) rfl (pv 2)) de_int) (fun hb => ?_) (fun hb => ?_)
  · exact bd_ret (evp_tup (Ps := fun ds => ∃ p, IdW p ∧ ds = [.str "back", p.d]) (evpa_cons (P1 := (· = .str "back")) (Ps := fun ds => ∃ p, IdW p ∧ ds = [p.d]) (evp_of de_str rfl) (evpa_cons (Ps := (· = [])) (evp_name (i := 0) gn (hr.mono (by decide)) rfl (pv 0) (de_var (i := 1) rfl (pv 1)) hl) (evpa_nil rfl) (fun x xs ⟨p, h1, e1⟩ e2 => ⟨p, h1, by rw [e1, e2]⟩)) (fun x xs e1 ⟨p, h1, e2⟩ => ⟨p, h1, by rw [e1, e2]⟩)) (fun ds ⟨p, h, e⟩ => ⟨by rw [e]; exact (by decide : 2 ≤ sizeLine), by rw [e]; exact cgw (c := .back p) h rfl⟩)) hq'
  refine bd_set (i := 3) (evp_vertex (i := 0) gv (hr.mono (by decide)) rfl (pv 0) (de_var (i := 1) rfl (pv 1)) hl) fun r ⟨d1, ⟨v, hv, e1⟩, er⟩ => ?_
  subst e1 er
  refine bd_whenD (dt_eqI (de_var (i := 2) rfl (pv 2)) de_int) (fun hb => ?_) (fun hb => ?_)
  · exact bd_ret (evp_tup (Ps := fun ds => ∃ o, VsW o ∧ ds = [.str "drop", v.d, vxsD o]) (evpa_cons (P1 := (· = .str "drop")) (Ps := fun ds => ∃ o, VsW o ∧ ds = [v.d, vxsD o]) (evp_of de_str rfl) (evpa_cons (P1 := (· = v.d)) (Ps := fun ds => ∃ o, VsW o ∧ ds = [vxsD o]) (evp_of (de_var (i := 3) rfl (pv 3)) rfl) (evpa_cons (Ps := (· = [])) (evp_vertices (a := 1) (b := 3) (i := 0) gvs (hr.mono (by decide)) rfl (pv 0) (de_var (i := 1) rfl (pv 1)) de_int de_int hl (by decide)) (evpa_nil rfl)
      (fun x xs ⟨p, h1, e1⟩ e2 => ⟨p, h1, by rw [e1, e2]⟩)) (fun x xs e1 ⟨p, h1, e2⟩ => ⟨p, h1, by rw [e1, e2]⟩)) (fun x xs e1 ⟨p, h1, e2⟩ => ⟨p, h1, by rw [e1, e2]⟩)) (fun ds ⟨o, h, e⟩ => ⟨by rw [e]; exact (by decide : 3 ≤ sizeLine), by rw [e]; exact cgw (c := .drop v o) ⟨hv, h⟩ rfl⟩)) hq'
  refine bd_whenD (dt_eqI (de_var (i := 2) rfl (pv 2)) de_int) (fun hb => ?_) (fun hb => ?_)
  · exact bd_ret (evp_tup (Ps := fun ds => ∃ p o, PathW p ∧ VsW o ∧ ds = [.str "move", v.d, pathD p, vxsD o]) (evpa_cons (P1 := (· = .str "move")) (Ps := fun ds => ∃ p o, PathW p ∧ VsW o ∧ ds = [v.d, pathD p, vxsD o]) (evp_of de_str rfl) (evpa_cons (P1 := (· = v.d)) (Ps := fun ds => ∃ p o, PathW p ∧ VsW o ∧ ds = [pathD p, vxsD o]) (evp_of (de_var (i := 3) rfl (pv 3)) rfl)
      (evpa_cons (Ps := fun ds => ∃ o, VsW o ∧ ds = [vxsD o]) (evp_path (i := 0) gpa (hr.mono (by decide)) rfl (pv 0)) (evpa_cons (Ps := (· = [])) (evp_vertices (a := 1) (b := 3) (i := 0) gvs (hr.mono (by decide)) rfl (pv 0) (de_var (i := 1) rfl (pv 1)) de_int de_int hl (by decide)) (evpa_nil rfl)
      (fun x xs ⟨p, h1, e1⟩ e2 => ⟨p, h1, by rw [e1, e2]⟩)) (fun x xs ⟨p, h1, e1⟩ ⟨o, h2, e2⟩ => ⟨p, o, h1, h2, by rw [e1, e2]⟩)) (fun x xs e1 ⟨p, o, h1, h2, e2⟩ => ⟨p, o, h1, h2, by rw [e1, e2]⟩)) (fun x xs e1 ⟨p, o, h1, h2, e2⟩ => ⟨p, o, h1, h2, by rw [e1, e2]⟩)) (fun ds ⟨p, o, h1, h2, e⟩ => ⟨by rw [e]; exact (by decide : 4 ≤ sizeLine), by rw [e]; exact cgw (c := .move v p o) ⟨hv, h1, h2⟩ rfl⟩)) hq'
  refine bd_whenD (dt_eqI (de_var (i := 2) rfl (pv 2)) de_int) (fun hb => ?_) (fun hb => ?_)
  · exact bd_ret (evp_tup (Ps := fun ds => ∃ o, VsW o ∧ ds = [.str "cut", v.d, vxsD o]) (evpa_cons (P1 := (· = .str "cut")) (Ps := fun ds => ∃ o, VsW o ∧ ds = [v.d, vxsD o]) (evp_of de_str rfl) (evpa_cons (P1 := (· = v.d)) (Ps := fun ds => ∃ o, VsW o ∧ ds = [vxsD o]) (evp_of (de_var (i := 3) rfl (pv 3)) rfl) (evpa_cons (Ps := (· = [])) (evp_vertices (a := 1) (b := 4) (i := 0) gvs (hr.mono (by decide)) rfl (pv 0) (de_var (i := 1) rfl (pv 1)) de_int de_int hl (by decide)) (evpa_nil rfl)
      (fun x xs ⟨p, h1, e1⟩ e2 => ⟨p, h1, by rw [e1, e2]⟩)) (fun x xs e1 ⟨p, h1, e2⟩ => ⟨p, h1, by rw [e1, e2]⟩)) (fun x xs e1 ⟨p, h1, e2⟩ => ⟨p, h1, by rw [e1, e2]⟩)) (fun ds ⟨o, h, e⟩ => ⟨by rw [e]; exact (by decide : 3 ≤ sizeLine), by rw [e]; exact cgw (c := .cut v o) ⟨hv, h⟩ rfl⟩)) hq'
  refine bd_whenD (dt_eqI (de_var (i := 2) rfl (pv 2)) de_int) (fun hb => ?_) (fun hb => ?_)
  · -- _law_one, _law_other = (_law_vertex(..), _law_vertex(..))
    refine bd_par (i := 4) (j := 5) (Pd := fun u w => ∃ a b, VxW a ∧ VxW b ∧ u = a.d ∧ w = b.d) (evpa_cons (Ps := fun ds => ∃ b, VxW b ∧ ds = [b.d]) (evp_vertex (i := 0) gv (hr.mono (by decide)) rfl (pv 0) (de_var (i := 1) rfl (pv 1)) hl) (evpa_cons (Ps := (· = [])) (evp_vertex (i := 0) gv (hr.mono (by decide)) rfl (pv 0) (de_var (i := 1) rfl (pv 1)) hl) (evpa_nil rfl) (fun x xs ⟨p, h1, e1⟩ e2 => ⟨p, h1, by rw [e1, e2]⟩)) (fun x xs ⟨p, h1, e1⟩ ⟨o, h2, e2⟩ => ⟨p.d, o.d, by rw [e1, e2], p, o, h1, h2, rfl, rfl⟩))
      (fun u w ⟨a, b, h1, h2, e1, e2⟩ => ?_)
    subst e1 e2
    have ix : (199 : Int) - (a.ix : Int) = ((199 - a.ix : Nat) : Int) := by have := h1.2.2; omega
    have la := lay_vxW h1
    have lb := lay_vxW h2
    refine bd_ret (evp_tup (Ps := fun ds => ∃ o, VxW o ∧ ds = [.str "order", v.d, a.d, o.d]) (evpa_cons (P1 := (· = .str "order")) (Ps := fun ds => ∃ o, VxW o ∧ ds = [v.d, a.d, o.d]) (evp_of de_str rfl) (evpa_cons (P1 := (· = v.d)) (Ps := fun ds => ∃ o, VxW o ∧ ds = [a.d, o.d]) (evp_of (de_var (i := 3) rfl (pv 3)) rfl) (evpa_cons (P1 := (· = a.d)) (Ps := fun ds => ∃ o, VxW o ∧ ds = [o.d]) (evp_of (de_var (i := 4) rfl (pv 4)) rfl)
      (evpa_cons (P1 := VxWD) (Ps := (· = [])) (evp_of (de_ife (d1 := Vx.d ⟨a.id, a.pl, 199 - a.ix⟩) (d2 := b.d) (dt_eqDt (room65 hr) (de_var (i := 4) (d := a.d) rfl (pv 4)) (de_var (i := 5) (d := b.d) rfl (pv 5)) ⟨la.1, Nat.le_trans la.2 (by decide)⟩ ⟨lb.1, Nat.le_trans lb.2 (by decide)⟩)
        (fun _ => de_tup (ds := [a.id.d, inat a.pl, inat (199 - a.ix)]) (da_cons (de_ixT (ds := [a.id.d, inat a.pl, inat a.ix]) (de_var (i := 4) rfl (pv 4)) de_int (at3 (i := 0) rfl)) (da_cons (de_ixT (ds := [a.id.d, inat a.pl, inat a.ix]) (de_var (i := 4) rfl (pv 4)) de_int (at3 (i := 1) rfl)) (da_cons (DE.is (d' := inat (199 - a.ix)) (de_subI (j := (a.ix : Int)) de_int (de_ixT (ds := [a.id.d, inat a.pl, inat a.ix]) (de_var (i := 4) rfl (pv 4)) de_int (at3 (i := 2) rfl))) (by rw [ix]; rfl)) da_nil)))) (fun _ => de_var (i := 5) rfl (pv 5))) (by
          split
          · exact ⟨⟨a.id, a.pl, 199 - a.ix⟩, ⟨h1.1, h1.2.1, Nat.sub_le _ _⟩, rfl⟩
          · exact ⟨b, h2, rfl⟩)) (evpa_nil rfl)
      (fun x xs ⟨p, h1, e1⟩ e2 => ⟨p, h1, by rw [e1, e2]⟩)) (fun x xs e1 ⟨p, h1, e2⟩ => ⟨p, h1, by rw [e1, e2]⟩)) (fun x xs e1 ⟨p, h1, e2⟩ => ⟨p, h1, by rw [e1, e2]⟩)) (fun x xs e1 ⟨p, h1, e2⟩ => ⟨p, h1, by rw [e1, e2]⟩)) (fun ds ⟨o, h, e⟩ => ⟨by rw [e]; exact (by decide : 4 ≤ sizeLine), by rw [e]; exact cgw (c := .order v a o) ⟨hv, h1, h⟩ rfl⟩)) hq'
  refine bd_setLc (i := 6) (lcP (j := 7) (x := "_law_k") (SD 41) (evi_rngZ (n := 4) (Pz := fun k => 1 ≤ k ∧ k ≤ 4) (evp_addI (Pa := (· = 1)) (Pb := DrawR 4) (evp_of de_int ⟨1, rfl, rfl⟩) (evp_draw (i := 0) g (hr.mono (by decide)) rfl (pv 0) (de_int (i := 4))) fun i j e1 hk => by
      have h1 := hk.1
      have h2 := hk.2
      omega) (fun k hk => by omega) (by decide) B.range) (blkOk_by (N := n_law_change) (sc := defScope s_law_change) (by decide +kernel)) (fun _ _ _ _ _ => pg_name (i := 7) nd rfl (Or.inl rfl)) (fun ds ⟨j, hj, e⟩ => by rw [e, List.length_map, List.length_range]; exact sz (by omega))
      (fun ds d _ hd s1 H1 Ca cl fp => Ev.imp (evp_line (i := 0) gl (hr.mono (by decide)) rfl (pv 0)) fun r ⟨d, h1, h2⟩ => ⟨d, h2, h1⟩)) fun ds ⟨ds0, ⟨j, hj, e0⟩, hl0, hm0⟩ => ?_
  obtain ⟨ts, e1, e2⟩ := strs_of hm0
  have ht : ts.length ≤ 4 := by rw [← List.length_map PyData.str, ← e1, hl0, e0, List.length_map, List.length_range]; exact hj
  subst e1
  exact bd_ret (evp_tup (Ps := fun ds => ∃ u o, VsW u ∧ VsW o ∧ ds = [.str "lines", v.d, vxsD u, vxsD o, .list (ts.map .str)]) (evpa_cons (P1 := (· = .str "lines")) (Ps := fun ds => ∃ u o, VsW u ∧ VsW o ∧ ds = [v.d, vxsD u, vxsD o, .list (ts.map .str)]) (evp_of de_str rfl) (evpa_cons (P1 := (· = v.d)) (Ps := fun ds => ∃ u o, VsW u ∧ VsW o ∧ ds = [vxsD u, vxsD o, .list (ts.map .str)]) (evp_of (de_var (i := 3) rfl (pv 3)) rfl)
      (evpa_cons (Ps := fun ds => ∃ o, VsW o ∧ ds = [vxsD o, .list (ts.map .str)]) (evp_vertices (a := 0) (b := 3) (i := 0) gvs (hr.mono (by decide)) rfl (pv 0) (de_var (i := 1) rfl (pv 1)) de_int de_int hl (by decide)) (evpa_cons (Ps := fun ds => ds = [.list (ts.map .str)]) (evp_vertices (a := 0) (b := 3) (i := 0) gvs (hr.mono (by decide)) rfl (pv 0) (de_var (i := 1) rfl (pv 1)) de_int de_int hl (by decide))
      (evpa_cons (P1 := (· = .list (ts.map .str))) (Ps := (· = [])) (evp_of (de_var (i := 6) rfl (pv 6)) rfl) (evpa_nil rfl) (fun x xs e1 e2 => by rw [e1, e2]))
      (fun x xs ⟨p, h1, e1⟩ e2 => ⟨p, h1, by rw [e1, e2]⟩)) (fun x xs ⟨p, h1, e1⟩ ⟨o, h2, e2⟩ => ⟨p, o, h1, h2, by rw [e1, e2]⟩)) (fun x xs e1 ⟨p, o, h1, h2, e2⟩ => ⟨p, o, h1, h2, by rw [e1, e2]⟩)) (fun x xs e1 ⟨p, o, h1, h2, e2⟩ => ⟨p, o, h1, h2, by rw [e1, e2]⟩)) (fun ds ⟨u, o, h1, h2, e⟩ => ⟨by rw [e]; exact (by decide : 5 ≤ sizeLine), by rw [e]; exact ⟨⟨.lines v u o 0, ts⟩, ⟨⟨hv, h1, h2⟩, ht, e2⟩, rfl⟩⟩)) hq'
abbrev GChange (P : Program) (w : World) (K : PySem.W.Frag) (mg : Str → Option Value) (base : Heap) : Prop := Ok P w K mg base 7 "_law_change" ["_law_state_here", "_law_label_here"] F_law_change
section
variable {X : Cx} {s c : Addr} {i : Nat} {G : List Sl} {x : Str} {p p2 pos : Pos} {e1 : Expr}
theorem evp_change {l : Lab} (g : GChange X.prog X.w X.K X.mg X.base) (hr : Room 7 X.A) (hG : G[i]? = some (.v (.ref s))) (hv : PE X (.Name x p2) (tVar i)) (h1 : DE X e1 G l.d) (hl : LabW l)
    (hg : Gl X "_law_change" := by rfl) (he : starEach (.Name x p2 :: [e1]) X.env = (false, eval (.Name x p2) X.env) :: starEach [e1] X.env := by rfl) (he2 : starEach (e1 :: []) X.env = (false, eval e1 X.env) :: starEach [] X.env := by rfl) (hpl : (backTo pos (starEach [e1] X.env)).any (·.1) = false := by rfl) :
    EvP X (some (s, c)) (.Call (.Name "_law_change" p) [.Name x p2, e1] [] pos) G CgWD :=
  ev_fn g hr (eva_st (Ps := fun ds => ds = [l.d]) hG hv (evpa_cons (P1 := (· = l.d)) (Ps := (· = [])) (evp_of h1 rfl) (evpa_nil rfl) (fun x xs e1 e2 => by rw [e1, e2]) he2) he) (fun rs ⟨ds, e1, e2⟩ => ⟨s, c, l, rfl, by rw [e2, e1]; rfl, hl, fun d hd => ⟨d, hd, rfl⟩⟩) hg (by decide) he hpl
end
/-! ### _law_patch -/
structure PtW (p : Pt) : Prop where
  id : IdW p.id
  n : p.cs.length ≤ 12
  cs : ∀ c ∈ p.cs, CgW c
  note : StrW 41 p.note
def PtWD (d : PyData) : Prop := ∃ p, PtW p ∧ d = p.d
def F_law_patch : Spc := fun C rs P => ∃ (s c : Addr), C = some (s, c) ∧ rs = [.v (.ref s)] ∧ ∀ d, PtWD d → P (.d d)
theorem ok_law_patch (B : Bt mg) (T : Ct mg) (g : GDraw P w K mg base) (gla : Ok P w K mg base 2 "_law_label" ["_law_state_here"] F_law_label) (gn : GName P w K mg base) (gl : GLine P w K mg base) (gc : GChange P w K mg base) (D : Df K mg "_law_patch" s_law_patch ["_law_state_here"] f fd) : Ok P w K mg base 8 "_law_patch" ["_law_state_here"] F_law_patch := by
  refine D.ok (fok D.1 c_law_patch (fun C rs R h => by obtain ⟨_, _, _, rfl, _⟩ := h; rfl) ?_)
  rintro X ⟨cdv, A, outer, s₀, H₀, E, rfl, hr⟩ C I0 H0 rs R D ⟨s, c, rfl, rfl, hP⟩ hq
  have nd := c_law_patch.nd
  have hq' : RtOk (some (s, c)) I0 H0 (fun r => ∃ d, PtWD d ∧ r = .d d) D.rt := fun v I' H' r ⟨d, hd, er⟩ => by rw [er]; exact hq v I' H' _ (hP d hd)
  refine bd_set (i := 1) (Pe := fun r => ∃ d, LabWD d ∧ r = .d d) (ev_fn gla (hr.mono (by decide)) (eva_st (i := 0) (Ps := (· = [])) rfl (pv 0) (evpa_nil rfl)) (fun rs ⟨ds, e1, e2⟩ => ⟨s, c, rfl, by rw [e2, e1]; rfl, fun d hd => ⟨d, hd, rfl⟩⟩)) fun r ⟨d, ⟨l, hl, e⟩, er⟩ => ?_
  subst e er
  refine bd_setLc (i := 2) (lcP (j := 3) (x := "_law_k") CgWD (evi_rngZ (n := 4) (Pz := fun k => 1 ≤ k ∧ k ≤ 4) (evp_addI (Pa := (· = 1)) (Pb := DrawR 4) (evp_of de_int ⟨1, rfl, rfl⟩) (evp_draw (i := 0) g (hr.mono (by decide)) rfl (pv 0) (de_int (i := 4))) fun i j e1 hk => by
      have h1 := hk.1
      have h2 := hk.2
      omega) (fun k hk => by omega) (by decide) B.range) (blkOk_by (N := n_law_patch) (sc := defScope s_law_patch) (by decide +kernel)) (fun _ _ _ _ _ => pg_name (i := 3) nd rfl (Or.inl rfl)) (fun ds ⟨j, hj, e⟩ => by rw [e, List.length_map, List.length_range]; exact sz (by omega))
      (fun ds d _ hd s1 H1 Ca cl fp => Ev.imp (evp_change (i := 0) gc (hr.mono (by decide)) rfl (pv 0) (de_var (i := 1) rfl (pv 1)) hl) fun r ⟨d, h1, h2⟩ => ⟨d, h2, h1⟩)) fun ds ⟨ds0, ⟨j, hj, e0⟩, hl0, hm0⟩ => ?_
  have hds : ds.length ≤ 12 := by rw [hl0, e0, List.length_map, List.length_range]; omega
  clear hl0 e0
  -- the end, whichever the changes
  have fin : ∀ (ds : List PyData) (D' : Ends), D'.rt = D.rt → ds.length ≤ 12 → (∀ d ∈ ds, CgWD d) → ∀ r3, Bd (cxOf CX0 P w K mg base n_law_patch "_law_patch" (defScope s_law_patch) f cdv A outer s₀ H₀ E).nox (some (s, c)) I0 H0 [(defBody s_law_patch).getD 3 (.Pass ⟨0, 0, 0, 0⟩)] [.v (.ref s), .d l.d, .d (.list ds), r3] none D' := fun ds D' eD h1 h2 r3 => by
    obtain ⟨cs, e1, e2⟩ := objs_of Cg.d CgW (ds := ds) h2
    subst e1
    rw [List.length_map] at h1
    refine bd_ret (P := fun r => ∃ d, PtWD d ∧ r = .d d) (evp_tup (Ps := fun ds => ∃ i t, IdW i ∧ StrW 41 t ∧ ds = [.str "patch", i.d, .list (cs.map Cg.d), .str t]) (evpa_cons (P1 := (· = .str "patch")) (Ps := fun ds => ∃ i t, IdW i ∧ StrW 41 t ∧ ds = [i.d, .list (cs.map Cg.d), .str t]) (evp_of de_str rfl) (evpa_cons (Ps := fun ds => ∃ t, StrW 41 t ∧ ds = [.list (cs.map Cg.d), .str t]) (evp_name (i := 0) gn (hr.mono (by decide)) rfl (pv 0) (de_var (i := 1) rfl (pv 1)) hl)
      (evpa_cons (P1 := (· = .list (cs.map Cg.d))) (Ps := fun ds => ∃ t, StrW 41 t ∧ ds = [.str t]) (evp_of (de_var (i := 2) rfl (pv 2)) rfl) (evpa_cons (Ps := (· = [])) (evp_line (i := 0) gl (hr.mono (by decide)) rfl (pv 0)) (evpa_nil rfl) (fun x xs ⟨t, h1, e1⟩ e2 => ⟨t, h1, by rw [e1, e2]⟩)) (fun x xs e1 ⟨t, h1, e2⟩ => ⟨t, h1, by rw [e1, e2]⟩)) (fun x xs ⟨i, h1, e1⟩ ⟨t, h2, e2⟩ => ⟨i, t, h1, h2, by rw [e1, e2]⟩)) (fun x xs e1 ⟨i, t, h1, h2, e2⟩ => ⟨i, t, h1, h2, by rw [e1, e2]⟩))
      (fun ds ⟨i, t, hi, ht, e⟩ => ⟨by rw [e]; exact (by decide : 4 ≤ sizeLine), ⟨i, cs, t⟩, ⟨hi, h1, e2, ht⟩, by rw [e]; rfl⟩)) (by rw [eD]; exact hq')
  refine bd_when (evt_eqI (evp_draw (i := 0) g (hr.mono (by decide)) rfl (pv 0) (de_int (i := 12))) (de_int (i := 0))) (fun _ => ?_) (fun _ => ?_)
  · -- _law_changes = [('add', ('a',))] * 12
    refine bd_setD (i := 2) (d := .list (List.replicate 12 [.tuple [.str "add", pathD ["a"]]]).flatten) (de_frz (dn_rep (n := 12) (de_frz (dn_lst (ds := [.tuple [.str "add", pathD ["a"]]]) (da_cons (de_tup (ds := [.str "add", pathD ["a"]]) (da_cons de_str (da_cons (de_tup (ds := [.str "a"]) (da_cons de_str da_nil)) da_nil))) da_nil))) de_int (by decide) (by decide))) ?_
    refine bd_end (fin _ _ rfl (by decide) (fun d hd => ?_) _)
    obtain ⟨x, hx, hd⟩ := List.mem_flatten.mp hd
    rw [List.mem_replicate] at hx
    rw [hx.2, List.mem_singleton] at hd
    rw [hd]
    exact cgw (c := .add ["a"]) ⟨by decide, fun x hx => by rw [List.mem_singleton.mp hx]; exact ⟨by decide, by decide⟩⟩ rfl
  · exact fin _ _ rfl hds hm0 _
end
end QL
namespace QL
open PySem PySem.Spec PyProof.Rows L2
theorem strW_num {n : Nat} (h : n ≤ 99999) : StrW 5 (nS n) := ⟨nS_small h, fun c hc => by
  rw [tl_nS] at hc
  have : 48 ≤ c ∧ c ≤ 57 := TL.numL_digits n c hc
  omega⟩
theorem strW_lit {n : Nat} {x : Str} (h : (decide (x.length ≤ n) && (tl x).all fun c => decide (c < 1114112)) = true) : StrW n x := by
  simp only [Bool.and_eq_true, decide_eq_true_eq, List.all_eq_true] at h
  exact h
theorem sd_lit {n : Nat} {x : Str} (h : (decide (x.length ≤ n) && (tl x).all fun c => decide (c < 1114112)) = true) : SD n (.str x) := ⟨x, strW_lit h, rfl⟩
section
variable {X : Cx} {C : Cs} {a b e : Expr} {G : List Sl} {pos p : Pos}
/-- str(n), n not above 99999 -/
theorem evp_strN {n : Nat} (ha : DE X a G (inat n)) (hn : n ≤ 99999) (hm : X.mg "str" = none) (hg : Gl X "str" := by rfl) (he : starEach (a :: []) X.env = (false, eval a X.env) :: starEach [] X.env := by rfl) (hpl : (backTo pos (starEach [] X.env)).any (·.1) = false := by rfl) :
    EvP X C (.Call (.Name "str" p) [a] [] pos) G (SD 5) := evp_of (de_strI ha (log_sm hn) hm hg he hpl) ⟨nS n, strW_num hn, rfl⟩
end
section
variable {P : Program} {w : World} {K : PySem.W.Frag} {mg : Str → Option Value} {base : Heap} {f : Addr} {fd : FuncData}
/-! ### _law_show_id -/
def F_law_show_id : Spc := fun _ rs P => ∃ i : Idn, rs = [.d i.d] ∧ IdW i ∧ ∀ d, SD 60 d → P (.d d)
theorem ok_law_show_id (B : Bt mg) (T : Ct mg) (D : Df K mg "_law_show_id" s_law_show_id ["_law_name_here"] f fd) : Ok P w K mg base 1 "_law_show_id" ["_law_name_here"] F_law_show_id := by
  refine D.ok (fok D.1 c_law_show_id (fun C rs R h => by obtain ⟨_, rfl, _⟩ := h; rfl) ?_)
  rintro X ⟨cdv, A, outer, s, H, E, rfl, hr⟩ C I0 H0 rs R D ⟨i, rfl, ⟨⟨l1, l2, l3⟩, hn, ho⟩, hP⟩ hq
  have nd := c_law_show_id.nd
  have di : i.d = .tuple [i.lab.d, .str i.nm, inat i.no] := rfl
  have hm : StrW (6 * 5 + 6 * 0) (Txt.join "" (i.lab.ms.map nS)) := strW_join (strW_lit (by decide)) (fun x hx => by
    obtain ⟨m, hm, rfl⟩ := List.mem_map.mp hx
    exact strW_num (by have := l3 m hm; omega)) (by rw [List.length_map]; exact l2)
  have hj : ((i.lab.ms.map nS).map (·.length)).sum + (i.lab.ms.map nS).length * (("" : Str)).length ≤ 16777216 := joinOk (k := 5) (n := 6) _ (fun p hp => by
    obtain ⟨m, hm, rfl⟩ := List.mem_map.mp hp
    exact nS_small (by have := l3 m hm; omega)) (by rw [List.length_map]; exact l2) (by decide)
  refine bd_setD (i := 1) (d := .str (Txt.join "" (i.lab.ms.map nS))) (de_join (x := "") (ys := i.lab.ms.map nS) de_str (de_frz (DLc.n (dlc0 (j := 2) (x := "_law_mark") inat i.lab.ms (fun m => .str (nS m)) (di_tup (de_ixT (ds := [.str "label", inat i.lab.lv, .tuple (i.lab.ms.map inat)]) (de_ixT (ds := [i.lab.d, .str i.nm, inat i.no]) (de_var (i := 0) rfl (pv 0)) de_int (at3 (i := 0) rfl)) de_int (at3 (i := 2) rfl))) (sz (by omega)) (blkOk_by (N := n_law_show_id) (sc := defScope s_law_show_id) (by decide +kernel)) (fun _ _ _ _ _ => pg_name (i := 2) nd rfl (Or.inl rfl)) (fun y hy _ _ _ _ _ => de_strI (de_var (i := 2) rfl (pv 2)) (log_sm (by have := l3 y hy; omega)) B.str)))) (by rw [List.map_map]; rfl) hj) ?_
  generalize Txt.join "" (i.lab.ms.map nS) = M at hm
  refine bd_ret (P := fun r => ∃ d, SD (5 + (1 + 30) + 1 + 8 + 1 + 5) d ∧ r = .d d) (evp_addS (evp_addS (evp_addS (evp_addS (evp_addS (evp_strN (n := i.lab.lv) (de_ixT (ds := [.str "label", inat i.lab.lv, .tuple (i.lab.ms.map inat)]) (de_ixT (ds := [i.lab.d, .str i.nm, inat i.no]) (de_var (i := 0) rfl (pv 0)) de_int (at3 (i := 0) rfl)) de_int (at3 (i := 1) rfl)) (by omega) B.str)
    (ev_ife (dt_neS (de_var (i := 1) rfl (pv 1)) de_str C) (fun _ => evp_addS (n := 1) (m := 30) (evp_of de_str (sd_lit (by decide))) (evp_of (de_var (i := 1) rfl (pv 1)) ⟨M, hm, rfl⟩) (by decide)) (fun _ => evp_of de_str (sd_lit (by decide)))) (by decide)) (evp_of de_str (sd_lit (by decide))) (by decide)) (evp_of (de_ixT (d := .str i.nm) (ds := [i.lab.d, .str i.nm, inat i.no]) (de_var (i := 0) rfl (pv 0)) de_int (at3 (i := 1) rfl)) ⟨i.nm, hn, rfl⟩) (by decide)) (evp_of de_str (sd_lit (by decide))) (by decide)) (evp_strN (n := i.no) (de_ixT (ds := [i.lab.d, .str i.nm, inat i.no]) (de_var (i := 0) rfl (pv 0)) de_int (at3 (i := 2) rfl)) ho B.str) (by decide)) ?_
  exact fun v I' H' r ⟨d, hd, er⟩ => by rw [er]; exact hq v I' H' _ (hP d (hd.mono (by decide)))
/-! ### _law_show_vertex -/
def F_law_show_vertex : Spc := fun _ rs P => ∃ v : Vx, rs = [.d v.d] ∧ VxW v ∧ ∀ d, SD 80 d → P (.d d)
theorem ok_law_show_vertex (B : Bt mg) (T : Ct mg) (g : Ok P w K mg base 1 "_law_show_id" ["_law_name_here"] F_law_show_id) (D : Df K mg "_law_show_vertex" s_law_show_vertex ["_law_vertex_here"] f fd) : Ok P w K mg base 2 "_law_show_vertex" ["_law_vertex_here"] F_law_show_vertex := by
  refine D.ok (fok D.1 c_law_show_vertex (fun C rs R h => by obtain ⟨_, rfl, _⟩ := h; rfl) ?_)
  rintro X ⟨cdv, A, outer, s, H, E, rfl, hr⟩ C I0 H0 rs R D ⟨v, rfl, ⟨h1, h2, h3⟩, hP⟩ hq
  have nd := c_law_show_vertex.nd
  refine bd_ret (P := fun r => ∃ d, SD (60 + 1 + 5 + 1 + 5) d ∧ r = .d d) (evp_addS (evp_addS (evp_addS (evp_addS (ev_fn (Pa := (· = [.d v.id.d])) g (hr.mono (by decide)) (da_cons (de_ixT (ds := [v.id.d, inat v.pl, inat v.ix]) (de_var (i := 0) rfl (pv 0)) de_int (at3 (i := 0) rfl)) da_nil (by rfl) C) (fun rs e => ⟨v.id, e, h1, fun d hd => ⟨d, hd, rfl⟩⟩)) (evp_of de_str (sd_lit (by decide))) (by decide)) (evp_strN (n := v.pl) (de_ixT (ds := [v.id.d, inat v.pl, inat v.ix]) (de_var (i := 0) rfl (pv 0)) de_int (at3 (i := 1) rfl)) (by omega) B.str) (by decide)) (evp_of de_str (sd_lit (by decide))) (by decide)) (evp_strN (n := v.ix) (de_ixT (ds := [v.id.d, inat v.pl, inat v.ix]) (de_var (i := 0) rfl (pv 0)) de_int (at3 (i := 2) rfl)) (by omega) B.str) (by decide)) ?_
  exact fun v I' H' r ⟨d, hd, er⟩ => by rw [er]; exact hq v I' H' _ (hP d (hd.mono (by decide)))
abbrev GSv (P : Program) (w : World) (K : PySem.W.Frag) (mg : Str → Option Value) (base : Heap) : Prop := Ok P w K mg base 2 "_law_show_vertex" ["_law_vertex_here"] F_law_show_vertex
section
variable {X : Cx} {C : Cs} {G : List Sl} {p pos : Pos} {e : Expr}
theorem evp_sv {v : Vx} (g : GSv X.prog X.w X.K X.mg X.base) (hr : Room 2 X.A) (h1 : DE X e G v.d) (hv : VxW v)
    (hg : Gl X "_law_show_vertex" := by rfl) (he : starEach (e :: []) X.env = (false, eval e X.env) :: starEach [] X.env := by rfl) (hpl : (backTo pos (starEach [] X.env)).any (·.1) = false := by rfl) :
    EvP X C (.Call (.Name "_law_show_vertex" p) [e] [] pos) G (SD 80) :=
  ev_fn (Pa := (· = [.d v.d])) g hr (da_cons h1 da_nil he C) (fun rs e => ⟨v, e, hv, fun d hd => ⟨d, hd, rfl⟩⟩) hg (by decide) he hpl
end
/-! ### _law_show_vertices -/
def VsS (vs : List Vx) : Prop := vs.length ≤ 4 ∧ ∀ v ∈ vs, VxW v
def F_law_show_vertices : Spc := fun _ rs P => ∃ vs : List Vx, rs = [.d (vxsD vs)] ∧ VsS vs ∧ ∀ d, SD 400 d → P (.d d)
theorem ok_law_show_vertices (B : Bt mg) (T : Ct mg) (g : GSv P w K mg base) (D : Df K mg "_law_show_vertices" s_law_show_vertices ["_law_vertices_here"] f fd) : Ok P w K mg base 3 "_law_show_vertices" ["_law_vertices_here"] F_law_show_vertices := by
  refine D.ok (fok D.1 c_law_show_vertices (fun C rs R h => by obtain ⟨_, rfl, _⟩ := h; rfl) ?_)
  rintro X ⟨cdv, A, outer, s, H, E, rfl, hr⟩ C I0 H0 rs R D ⟨vs, rfl, ⟨h1, h2⟩, hP⟩ hq
  have nd := c_law_show_vertices.nd
  refine bd_ret (P := fun r => ∃ d, SD 400 d ∧ r = .d d) (ev_ife (dt_gtI (de_lenL (ds := vs.map Vx.d) (de_var (i := 0) rfl (pv 0)) rfl B.len) de_int C) (fun _ => EvP.imp (evp_join (x := ",") (k := 1) (n := 80) (m := 4) de_str (strW_lit (by decide)) (Ev.imp (ev_frz (LcN.n (lcP (j := 1) (x := "_law_vertex_here") (SD 80) ((di_list (ds := vs.map Vx.d) (de_var (i := 0) rfl (pv 0))) C) (blkOk_by (N := n_law_show_vertices) (sc := defScope s_law_show_vertices) (by decide +kernel)) (fun _ _ _ _ _ => pg_name (i := 1) nd rfl (Or.inl rfl)) (fun ds e => by rw [e, List.length_map]; exact sz (by omega))
    (fun ds d e hd s1 H1 Ca cl fp => by
      rw [e] at hd
      obtain ⟨v, hv, rfl⟩ := List.mem_map.mp hd
      exact Ev.imp (evp_sv g (hr.mono (by decide)) (de_var (i := 1) rfl (pv 1)) (h2 v hv)) fun r ⟨d, h1, h2⟩ => ⟨d, h2, h1⟩)))) fun r ⟨ds, ⟨ds0, e0, hl0, hm0⟩, er⟩ => by
        obtain ⟨xs, e1, e2⟩ := strs_of hm0
        exact ⟨_, ⟨xs, by rw [← List.length_map PyData.str, ← e1, hl0, e0, List.length_map]; exact h1, e2, by rw [e1]⟩, er⟩) (by decide)) fun d hd => hd.mono (by decide)) (fun _ => evp_of de_str (sd_lit (by decide)))) ?_
  exact fun v I' H' r ⟨d, hd, er⟩ => by rw [er]; exact hq v I' H' _ (hP d hd)
end
end QL
namespace QL
open PySem PySem.Spec PyProof.Rows L2
/-! ### the law's own reading of lines -/
def fm : Nat → Nat → Nat → Nat → List Nat → List Str → Option Nat × List Nat
  | k, w, _, _, ends, [] => (if w = 0 then none else some k, ends)
  | k, w, left, cnt, ends, l :: r =>
    if w = 0 then (if (hasPre "patch " l && (readIdn (suf l 6)).isSome) = true then fm (k + 1) 1 left cnt ends r else (some k, ends))
    else if w = 1 then (if (hasPre "note " l && isText (suf l 5)) = true then fm (k + 1) 2 left 0 ends r else (some k, ends))
    else if 0 < left then (if (hasPre "|" l && isText (suf l 1)) = true then fm (k + 1) w (left - 1) cnt ends r else (some k, ends))
    else if l = "end" ∧ 0 < cnt then fm (k + 1) 0 left cnt (ends ++ [k + 1]) r
    else if cnt = 12 then (some k, ends) else
      match parse (Txt.split l " ") with
      | none => (some k, ends)
      | some c => fm (k + 1) w c.cnt (cnt + 1) ends r
theorem fm_nil (k w left cnt : Nat) (ends : List Nat) : fm k w left cnt ends [] = (if w = 0 then none else some k, ends) := by rw [fm]
theorem fm_cons (k w left cnt : Nat) (ends : List Nat) (l : Str) (r : List Str) : fm k w left cnt ends (l :: r) =
    if w = 0 then (if (hasPre "patch " l && (readIdn (suf l 6)).isSome) = true then fm (k + 1) 1 left cnt ends r else (some k, ends))
    else if w = 1 then (if (hasPre "note " l && isText (suf l 5)) = true then fm (k + 1) 2 left 0 ends r else (some k, ends))
    else if 0 < left then (if (hasPre "|" l && isText (suf l 1)) = true then fm (k + 1) w (left - 1) cnt ends r else (some k, ends))
    else if l = "end" ∧ 0 < cnt then fm (k + 1) 0 left cnt (ends ++ [k + 1]) r
    else if cnt = 12 then (some k, ends) else
      match parse (Txt.split l " ") with
      | none => (some k, ends)
      | some c => fm (k + 1) w c.cnt (cnt + 1) ends r := by rw [fm]
theorem drop_end {lines : List Str} {k : Nat} (h : lines.length ≤ k) : lines.drop k = [] := List.drop_of_length_le h
theorem fm_texts (lines : List Str) (cnt : Nat) (ends : List Nat) : ∀ (n k : Nat), fm k 2 n cnt ends (lines.drop k) = (match readTexts lines k n with | .ok _ => fm (k + n) 2 0 cnt ends (lines.drop (k + n)) | .error e => (some e, ends))
  | 0, k => rfl
  | n + 1, k => by
    unfold readTexts
    by_cases hk : k < lines.length
    · rw [getL hk]
      rw [fm_cons, if_neg (by decide), if_neg (by decide), if_pos (Nat.succ_pos n)]
      have e : textAt lines k = (hasPre "|" (lines.getD k "") && isText (suf (lines.getD k "") 1)) := by unfold textAt; rw [decide_eq_true hk]; rfl
      rw [e]
      by_cases c : (hasPre "|" (lines.getD k "") && isText (suf (lines.getD k "") 1)) = true
      · rw [if_pos c, if_pos c, Nat.add_sub_cancel, fm_texts lines cnt ends n (k + 1)]
        cases readTexts lines (k + 1) n with
        | error e => rfl
        | ok ts => rw [show k + 1 + n = k + (n + 1) from by omega]
      · rw [if_neg c, if_neg c]
    · have ht : textAt lines k = false := by unfold textAt; rw [decide_eq_false hk]; rfl
      rw [drop_end (by omega), fm_nil, ht]
      rfl
theorem fm_cs (lines : List Str) (ends : List Nat) : ∀ (m k cnt : Nat), cnt + m = 12 → ∃ cnt', fm k 2 0 cnt ends (lines.drop k) = (match readCs lines m k (decide (0 < cnt)) with | .ok (_, e) => fm e 0 0 cnt' (ends ++ [e]) (lines.drop e) | .error e => (some e, ends)) := by
  intro m
  induction m with
  | zero =>
    intro k cnt hm
    refine ⟨cnt, ?_⟩
    unfold readCs
    by_cases hk : lines.length ≤ k
    · rw [if_pos hk, drop_end hk, fm_nil]; rfl
    · rw [if_neg hk, getL (by omega)]
      rw [fm_cons, if_neg (by decide), if_neg (by decide), if_neg (Nat.lt_irrefl 0)]
      by_cases c : lines.getD k "" = "end" ∧ 0 < cnt
      · rw [if_pos c, if_pos ⟨c.1, decide_eq_true c.2⟩]
      · have c' : ¬ (lines.getD k "" = "end" ∧ decide (0 < cnt) = true) := fun z => c ⟨z.1, of_decide_eq_true z.2⟩
        rw [if_neg c, if_pos (show cnt = 12 by omega), if_neg c']
  | succ m ih =>
    intro k cnt hm
    unfold readCs
    by_cases hk : lines.length ≤ k
    · exact ⟨cnt, by rw [if_pos hk, drop_end hk, fm_nil]; rfl⟩
    · rw [if_neg hk, getL (by omega)]
      by_cases c : lines.getD k "" = "end" ∧ 0 < cnt
      · refine ⟨cnt, ?_⟩
        rw [fm_cons, if_neg (by decide), if_neg (by decide), if_neg (Nat.lt_irrefl 0), if_pos c, if_pos ⟨c.1, decide_eq_true c.2⟩]
      · rw [if_neg (fun z => c ⟨z.1, of_decide_eq_true z.2⟩)]
        dsimp only
        have e0 : fm k 2 0 cnt ends (lines.getD k "" :: lines.drop (k + 1)) = (match parse (Txt.split (lines.getD k "") " ") with | none => (some k, ends) | some c => fm (k + 1) 2 c.cnt (cnt + 1) ends (lines.drop (k + 1))) := by
          rw [fm_cons, if_neg (by decide), if_neg (by decide), if_neg (Nat.lt_irrefl 0), if_neg c, if_neg (by omega)]
        rw [e0]
        unfold readChange
        cases parse (Txt.split (lines.getD k "") " ") with
        | none => exact ⟨cnt, rfl⟩
        | some c0 =>
          dsimp only
          rw [fm_texts]
          cases readTexts lines (k + 1) c0.cnt with
          | error e => exact ⟨cnt, rfl⟩
          | ok ts =>
            dsimp only
            obtain ⟨cnt', h⟩ := ih (k + 1 + c0.cnt) (cnt + 1) (by omega)
            rw [decide_eq_true (Nat.succ_pos cnt)] at h
            refine ⟨cnt', ?_⟩
            rw [h]
            cases readCs lines m (k + 1 + c0.cnt) true with
            | error e => rfl
            | ok q => rfl
theorem fm_from (lines : List Str) (ends : List Nat) (k cnt : Nat) (hk : k < lines.length) : ∃ cnt', fm k 0 0 cnt ends (lines.drop k) = (match readFrom lines k with | .ok (_, e) => fm e 0 0 cnt' (ends ++ [e]) (lines.drop e) | .error e => (some e, ends)) := by
  rw [getL hk]
  have e0 : fm k 0 0 cnt ends (lines.getD k "" :: lines.drop (k + 1)) = (if (hasPre "patch " (lines.getD k "") && (readIdn (suf (lines.getD k "") 6)).isSome) = true then fm (k + 1) 1 0 cnt ends (lines.drop (k + 1)) else (some k, ends)) := by
    rw [fm_cons, if_pos rfl]
  rw [e0]
  unfold readFrom readHead
  have h1 : headAt lines k = hasPre "patch " (lines.getD k "") := by unfold headAt; rw [decide_eq_true hk]; rfl
  rw [h1]
  cases hp : hasPre "patch " (lines.getD k "") with
  | false => exact ⟨cnt, by rw [if_neg (by simp), if_neg (by decide)]⟩
  | true =>
    rw [if_pos rfl]
    cases hi : readIdn (suf (lines.getD k "") 6) with
    | none => exact ⟨cnt, by rw [if_neg (by simp)]⟩
    | some i =>
      rw [if_pos (by simp)]
      dsimp only
      by_cases hk1 : k + 1 < lines.length
      · have h2 : noteAt lines (k + 1) = hasPre "note " (lines.getD (k + 1) "") := by unfold noteAt; rw [decide_eq_true hk1]; rfl
        rw [h2, getL hk1]
        have e1 : fm (k + 1) 1 0 cnt ends (lines.getD (k + 1) "" :: lines.drop (k + 1 + 1)) = (if (hasPre "note " (lines.getD (k + 1) "") && isText (suf (lines.getD (k + 1) "") 5)) = true then fm (k + 1 + 1) 2 0 0 ends (lines.drop (k + 1 + 1)) else (some (k + 1), ends)) := by
          rw [fm_cons, if_neg (by decide), if_pos rfl]
        rw [e1]
        cases hn : hasPre "note " (lines.getD (k + 1) "") with
        | false => exact ⟨cnt, by rw [if_neg (by simp), if_neg (by decide)]⟩
        | true =>
          rw [if_pos rfl]
          cases ht : isText (suf (lines.getD (k + 1) "") 5) with
          | false => exact ⟨cnt, by rw [if_neg (by simp), if_neg (by decide)]⟩
          | true =>
            rw [if_pos (by simp), if_pos rfl]
            dsimp only
            obtain ⟨cnt', h⟩ := fm_cs lines ends 12 (k + 1 + 1) 0 rfl
            refine ⟨cnt', ?_⟩
            rw [h]
            show (match readCs lines 12 (k + 2) false with | .ok (_, e) => _ | .error e => _) = _
            cases readCs lines 12 (k + 2) false with
            | error e => rfl
            | ok q => rfl
      · refine ⟨cnt, ?_⟩
        have ht : noteAt lines (k + 1) = false := by unfold noteAt; rw [decide_eq_false hk1]; rfl
        rw [drop_end (by omega), fm_nil, ht]
        rfl
/-- all the patches -/
theorem fm_all (lines : List Str) : ∀ (f k cnt : Nat) (ends : List Nat), lines.length - k ≤ f → k ≤ lines.length → ∃ es, fm k 0 0 cnt ends (lines.drop k) = ((match readAll lines f k with | .ok _ => none | .error j => some j), ends ++ es) ∧
    (∀ ps, readAll lines f k = .ok ps → es.length = ps.length) ∧ (∀ e t, es = e :: t → ∃ p, readFrom lines k = .ok (p, e)) ∧ (es = [] → (k = lines.length ∧ readAll lines f k = .ok []) ∨ ∃ j, readAll lines f k = .error j ∧ readFrom lines k = .error j) := by
  intro f
  induction f with
  | zero =>
    intro k cnt ends hf hk
    have e : k = lines.length := by omega
    refine ⟨[], ?_, fun ps h => (by cases h; rfl), fun _ _ h => (by cases h), fun _ => Or.inl ⟨e, rfl⟩⟩
    rw [drop_end (by omega), List.append_nil, fm_nil]; rfl
  | succ f ih =>
    intro k cnt ends hf hk
    unfold readAll
    by_cases hlt : k < lines.length
    · rw [if_pos hlt]
      obtain ⟨cnt', h⟩ := fm_from lines ends k cnt hlt
      rw [h]
      cases hr : readFrom lines k with
      | error j => exact ⟨[], by rw [List.append_nil], fun ps h => (by cases h), fun _ _ h => (by cases h), fun _ => Or.inr ⟨j, rfl, rfl⟩⟩
      | ok q =>
        obtain ⟨p, e⟩ := q
        have fr := readFrom_ok hr
        obtain ⟨es, i1, i2, i3, i4⟩ := ih e cnt' (ends ++ [e]) (by omega) fr.2.2.2
        dsimp only
        refine ⟨e :: es, ?_, fun ps h => ?_, fun e' t he => ?_, fun z => by cases z⟩
        · rw [i1, List.append_assoc]
          cases readAll lines f e <;> rfl
        · cases ha : readAll lines f e with
          | error j => rw [ha] at h; cases h
          | ok qs =>
            rw [ha] at h
            cases h
            rw [List.length_cons, List.length_cons, i2 qs ha]
        · cases he; exact ⟨p, rfl⟩
    · rw [if_neg hlt, drop_end (by omega)]
      refine ⟨[], by rw [List.append_nil, fm_nil]; rfl, fun ps h => (by cases h; rfl), fun _ _ h => (by cases h), fun _ => Or.inl ⟨by omega, rfl⟩⟩
/-- THE PLAIN LAW -/
theorem law_plain (lines : List Str) : (fm 0 0 0 0 [] lines).1 = (match readAll lines lines.length 0 with | .ok _ => none | .error j => some j) ∧
    ((fm 0 0 0 0 [] lines).1 = none → (fm 0 0 0 0 [] lines).2.length = 1 → ∃ p, readAll lines lines.length 0 = .ok [p] ∧ readPatch lines = .ok p) ∧
    (¬ ((fm 0 0 0 0 [] lines).1 = none ∧ (fm 0 0 0 0 [] lines).2.length = 1) → ∀ e t, (fm 0 0 0 0 [] lines).2 = e :: t → readPatch lines = .error e) ∧
    ((fm 0 0 0 0 [] lines).2 = [] → readPatch lines = .error ((fm 0 0 0 0 [] lines).1.getD 0)) := by
  obtain ⟨es, h1, h2, h3, h4⟩ := fm_all lines lines.length 0 0 [] (by omega) (Nat.zero_le _)
  rw [List.drop_zero, List.nil_append] at h1
  rw [h1]
  dsimp only
  have step : ∀ p e, readFrom lines 0 = .ok (p, e) → 0 < lines.length ∧ ((e < lines.length ∧ readPatch lines = .error e) ∨ (¬ e < lines.length ∧ readPatch lines = .ok p ∧ readAll lines lines.length 0 = .ok [p])) := fun p e hr => by
    have fr := readFrom_ok hr
    have hl : 0 < lines.length := by omega
    refine ⟨hl, ?_⟩
    unfold readPatch
    rw [hr]
    dsimp only
    by_cases he : e < lines.length
    · exact .inl ⟨he, if_pos he⟩
    · refine .inr ⟨he, if_neg he, ?_⟩
      obtain ⟨n, hn⟩ : ∃ n, lines.length = n + 1 := ⟨lines.length - 1, by omega⟩
      have e1 : readAll lines n e = .ok [] := by
        cases n with
        | zero => rfl
        | succ n => unfold readAll; rw [if_neg he]
      conv => lhs; rw [hn]
      unfold readAll
      rw [if_pos hl, hr]
      dsimp only
      rw [e1]
  refine ⟨rfl, fun a b => ?_, fun a e t he => ?_, fun he => ?_⟩
  · match es, b with
    | [e], _ =>
      obtain ⟨p, hp⟩ := h3 e [] rfl
      cases ha : readAll lines lines.length 0 with
      | error j => rw [ha] at a; cases a
      | ok ps =>
        have l1 := h2 ps ha
        rcases (step p e hp).2 with ⟨g1, g2⟩ | ⟨g1, g2, g3⟩
        · -- more than one patch would be there
          exfalso
          have hl := (step p e hp).1
          obtain ⟨n, hn⟩ : ∃ n, lines.length = n + 1 := ⟨lines.length - 1, by omega⟩
          rw [hn] at ha
          unfold readAll at ha
          rw [if_pos hl, hp] at ha
          dsimp only at ha
          have fr := readFrom_ok hp
          obtain ⟨n', hn'⟩ : ∃ n', n = n' + 1 := ⟨n - 1, by omega⟩
          cases hb : readAll lines n e with
          | error j => rw [hb] at ha; cases ha
          | ok qs =>
            rw [hb] at ha
            cases ha
            have : qs = [] := List.length_eq_zero_iff.mp (by have : 1 = qs.length + 1 := l1; omega)
            subst this
            rw [hn'] at hb
            unfold readAll at hb
            rw [if_pos g1] at hb
            cases hc : readFrom lines e with
            | error j => rw [hc] at hb; cases hb
            | ok q =>
              obtain ⟨q1, q2⟩ := q
              rw [hc] at hb
              dsimp only at hb
              cases hd : readAll lines n' q2 with
              | error j => rw [hd] at hb; cases hb
              | ok z => rw [hd] at hb; cases hb
        · rw [g3] at ha
          cases ha
          exact ⟨p, rfl, g2⟩
  · obtain ⟨p, hp⟩ := h3 e t he
    rcases (step p e hp).2 with ⟨g1, g2⟩ | ⟨g1, g2, g3⟩
    · exact g2
    · exfalso
      apply a
      rw [g3]
      exact ⟨rfl, h2 _ g3⟩
  · rcases h4 he with ⟨g1, g2⟩ | ⟨j, g1, g2⟩
    · rw [g2]
      unfold readPatch readFrom readHead headAt
      rw [← g1]
      rfl
    · rw [g1]
      unfold readPatch
      rw [g2]
      rfl
end QL
namespace QL
open PySem PySem.Spec PyProof.Rows L2
section
variable {X : Cx} {C : Cs} {I0 H0 : Hp} {c : Expr} {G : List Sl} {L : Lo} {D : Ends} {rest sa sb : List Stmt} {pos : Pos}
theorem bd_ifT {k : Bool} (hc : DT X c G k) (hk : k = true) (h1 : Bd X C I0 H0 sa G L { D with nx := wpS X rest D }) : Bd X C I0 H0 (.If c sa sb pos :: rest) G L D := bd_ifD hc (fun _ => h1) fun z => by rw [hk] at z; cases z
theorem bd_ifF {k : Bool} (hc : DT X c G k) (hk : k = false) (h1 : Bd X C I0 H0 sb G L { D with nx := wpS X rest D }) : Bd X C I0 H0 (.If c sa sb pos :: rest) G L D := bd_ifD hc (fun z => by rw [hk] at z; cases z) fun _ => h1
end
def wS (w : Nat) : Str := if w = 0 then "patch" else if w = 1 then "note" else "change"
def faultD (r : Option Nat × List Nat) : PyData := .tuple [optD inat r.1, .list (r.2.map inat)]
section
variable {P : Program} {w : World} {K : PySem.W.Frag} {mg : Str → Option Value} {base : Heap} {f : Addr} {fd : FuncData}
def F_law_fault : Spc := fun _ rs P => ∃ ls : List Str, rs = [.d (lsD ls)] ∧ LinesOk ls ∧ ∀ r, r = .d (faultD (fm 0 0 0 0 [] ls)) → P r
theorem ok_law_fault (B : Bt mg) (T : Ct mg) (g_id : Ok P w K mg base 2 "_law_is_id" ["_law_parts"] F_law_is_id) (g_text : Ok P w K mg base 1 "_law_is_text" ["_law_text"] F_law_is_text) (g_fits : Ok P w K mg base 5 "_law_change_fits" ["_law_words"] F_law_change_fits) (D : Df K mg "_law_fault" s_law_fault ["_law_lines"] f fd) : Ok P w K mg base 6 "_law_fault" ["_law_lines"] F_law_fault := by
  refine D.ok (fok D.1 c_law_fault (fun C rs R h => by obtain ⟨_, rfl, _⟩ := h; rfl) ?_)
  rintro X ⟨cdv, A, outer, s, H, E, rfl, hr⟩ C I0 H0 rs R D ⟨ls, rfl, hls, hP⟩ hq
  have nd := c_law_fault.nd
  refine bd_setD (i := 1) de_str ?_
  refine bd_setD (i := 2) (de_int (i := 0)) ?_
  refine bd_setD (i := 3) (de_int (i := 0)) ?_
  refine bd_setN (i := 4) ((dn_lst (ds := []) da_nil) C) fun p ds e => ?_
  subst e
  refine bd_forD (j := 5) PassesOwn.never (di_rng1 (de_lenL (de_var (i := 0) rfl (pv 0)) rfl B.len) B.range (by rw [List.length_map]; have := hls.1; omega)) (pg_name (i := 5) nd rfl (Or.inl rfl))
    (fun i G' L' => ∃ (w left cnt : Nat) (ends : List Nat) (p : Addr) (r5 r6 r7 : Sl), w ≤ 2 ∧ G' = [.d (lsD ls), .d (.str (wS w)), .d (inat left), .d (inat cnt), .v (.ref p), r5, r6, r7] ∧ L' = some (p, ends.map inat) ∧ ends.length ≤ i ∧ fm 0 0 0 0 [] ls = fm i w left cnt ends (ls.drop i)) ⟨0, 0, 0, [], p, .no, .no, .no, by decide, rfl, rfl, Nat.le_refl _, rfl⟩ ?_ ?_
  · rintro I1 bs i d G' L' hd ⟨w, left, cnt, ends, p, r5, r6, r7, hw, rfl, rfl, hel, hfm⟩ bk
    obtain ⟨j, hj, rfl⟩ := getq_map hd
    obtain ⟨hj1, hj2⟩ := List.getElem?_eq_some_iff.mp hj
    rw [List.getElem_range] at hj2
    subst hj2
    have hi : i < ls.length := by
      rw [List.length_range, List.length_map] at hj1
      omega
    have hL := hls.at i
    rw [getL hi] at hfm
    have ev5 : (PyData.int (0 + (i : Int))) = inat i := by unfold inat; rw [Int.zero_add]
    rw [ev5]
    generalize hl : ls.getD i "" = l at hfm hL
    have six := len_suf l 6
    have five := len_suf l 5
    have one := len_suf l 1
    have hsp : ∀ p ∈ Txt.split (suf l 6) ".", p.length ≤ 900000 := fun p hp => by have := split_len (s := 46) hp; omega
    refine bd_setD (i := 6) (d := .str l) (de_ixL (de_var (i := 0) rfl (pv 0)) (de_var (i := 5) rfl (pv 5)) (by rw [← hl]; exact atW i hi)) ?_
    -- the answer where a line is at fault
    have out : ∀ {rest : List Stmt} {pos : Pos} {D' : Ends} {w' left' cnt' : Nat} {r7' : Sl} {e1 e2 : Expr} {x1 : Nat} {p1 : Pos}, True := fun {_ _ _ _ _ _ _ _ _ _ _} => True.intro
    have w012 : w = 0 ∨ w = 1 ∨ w = 2 := by omega
    rcases w012 with rfl | rfl | rfl
    · rw [fm_cons, if_pos rfl] at hfm
      refine bd_ifT (dt_eqS (x := wS 0) (de_var (i := 1) rfl (pv 1)) de_str) (by decide) ?_
      refine bd_whenD (k := !(hasPre "patch " l && (readIdn (suf l 6)).isSome)) (DT.is (DW.t (dw_or (dt_neS (de_slS (x := l) (de_var (i := 6) rfl (pv 6)) do_none (do_some (i := ((6 : Nat) : Int)) de_int) (sz (by omega))) de_str) fun _ => (dw_one (dt_not (dt_val (de_fn (d := .bool (readIdn (suf l 6)).isSome) g_id (hr.mono (by decide)) (da_cons (de_frz (dn_split (x := suf l 6) (DE.is (d' := .str (suf l 6)) (de_slS (x := l) (de_var (i := 6) rfl (pv 6)) (do_some (i := ((6 : Nat) : Int)) de_int) do_none (sz (by omega))) (congrArg PyData.str (cut_suf l 6))) de_str rfl (sz (by omega)))) da_nil) (fun C => ⟨Txt.split (suf l 6) ".", rfl, hsp, fun r e => e⟩))))))) ?_) (fun hb => ?_) (fun hb => ?_)
      · rw [cut_pre]
        show (!decide (pre l 6 = "patch ") || _) = _
        unfold hasPre
        rw [show (("patch " : Str)).length = 6 from rfl]
        cases decide (pre l 6 = "patch ") <;> simp
      · rw [if_neg (by rw [nt hb]; decide)] at hfm
        refine bd_frz (i := 4) rfl ?_
        refine bd_retD (de_tup (ds := [inat i, .list (ends.map inat)]) (da_cons (de_var (i := 5) rfl (pv 5)) (da_cons (de_var (i := 4) rfl (pv 4)) da_nil))) (hP _ ?_) (hq.bs bs)
        rw [hfm]; rfl
      · rw [if_pos (nf hb)] at hfm
        refine bd_setD (i := 1) de_str ?_
        refine bd_end (bd_nil fun _ _ h => ⟨_, _, ?_, h⟩)
        exact ⟨1, left, cnt, ends, p, _, _, _, by decide, rfl, rfl, Nat.le_succ_of_le hel, hfm⟩
    · rw [fm_cons, if_neg (by decide), if_pos rfl] at hfm
      refine bd_ifF (dt_eqS (x := wS 1) (de_var (i := 1) rfl (pv 1)) de_str) (by decide) ?_
      refine bd_ifT (dt_eqS (x := wS 1) (de_var (i := 1) rfl (pv 1)) de_str) (by decide) ?_
      refine bd_whenD (k := !(hasPre "note " l && isText (suf l 5))) (DT.is (DW.t (dw_or (dt_neS (de_slS (x := l) (de_var (i := 6) rfl (pv 6)) do_none (do_some (i := ((5 : Nat) : Int)) de_int) (sz (by omega))) de_str) fun _ => (dw_one (dt_not (dt_val (de_fn (d := .bool (isText (suf l 5))) g_text (hr.mono (by decide)) (da_cons (DE.is (d' := .str (suf l 5)) (de_slS (x := l) (de_var (i := 6) rfl (pv 6)) (do_some (i := ((5 : Nat) : Int)) de_int) do_none (sz (by omega))) (congrArg PyData.str (cut_suf l 5))) da_nil) (fun C => ⟨suf l 5, rfl, by omega, fun r e => e⟩))))))) ?_) (fun hb => ?_) (fun hb => ?_)
      · rw [cut_pre]
        show (!decide (pre l 5 = "note ") || _) = _
        unfold hasPre
        rw [show (("note " : Str)).length = 5 from rfl]
        cases decide (pre l 5 = "note ") <;> simp
      · rw [if_neg (by rw [nt hb]; decide)] at hfm
        refine bd_frz (i := 4) rfl ?_
        refine bd_retD (de_tup (ds := [inat i, .list (ends.map inat)]) (da_cons (de_var (i := 5) rfl (pv 5)) (da_cons (de_var (i := 4) rfl (pv 4)) da_nil))) (hP _ ?_) (hq.bs bs)
        rw [hfm]; rfl
      · rw [if_pos (nf hb)] at hfm
        refine bd_setD (i := 1) de_str ?_
        refine bd_setD (i := 3) (de_int (i := 0)) ?_
        refine bd_end (bd_end (bd_nil fun _ _ h => ⟨_, _, ?_, h⟩))
        exact ⟨2, left, 0, ends, p, _, _, _, by decide, rfl, rfl, Nat.le_succ_of_le hel, hfm⟩
    · rw [fm_cons, if_neg (by decide), if_neg (by decide)] at hfm
      refine bd_ifF (dt_eqS (x := wS 2) (de_var (i := 1) rfl (pv 1)) de_str) (by decide) ?_
      refine bd_ifF (dt_eqS (x := wS 2) (de_var (i := 1) rfl (pv 1)) de_str) (by decide) ?_
      refine bd_ifD (DT.is (b' := decide (0 < left)) (dt_gtI (i := (left : Int)) (de_var (i := 2) rfl (pv 2)) de_int) (decide_eq_decide.mpr (by omega))) (fun hb => ?_) (fun hb => ?_)
      · rw [if_pos (of_decide_eq_true hb)] at hfm
        have hlf := of_decide_eq_true hb
        refine bd_whenD (k := !(hasPre "|" l && isText (suf l 1))) (DT.is (DW.t (dw_or (dt_neS (de_slS (x := l) (de_var (i := 6) rfl (pv 6)) do_none (do_some (i := ((1 : Nat) : Int)) de_int) (sz (by omega))) de_str) fun _ => (dw_one (dt_not (dt_val (de_fn (d := .bool (isText (suf l 1))) g_text (hr.mono (by decide)) (da_cons (DE.is (d' := .str (suf l 1)) (de_slS (x := l) (de_var (i := 6) rfl (pv 6)) (do_some (i := ((1 : Nat) : Int)) de_int) do_none (sz (by omega))) (congrArg PyData.str (cut_suf l 1))) da_nil) (fun C => ⟨suf l 1, rfl, by omega, fun r e => e⟩))))))) ?_) (fun hb => ?_) (fun hb => ?_)
        · rw [cut_pre]
          show (!decide (pre l 1 = "|") || _) = _
          unfold hasPre
          rw [show (("|" : Str)).length = 1 from rfl]
          cases decide (pre l 1 = "|") <;> simp
        · rw [if_neg (by rw [nt hb]; decide)] at hfm
          refine bd_frz (i := 4) rfl ?_
          refine bd_retD (de_tup (ds := [inat i, .list (ends.map inat)]) (da_cons (de_var (i := 5) rfl (pv 5)) (da_cons (de_var (i := 4) rfl (pv 4)) da_nil))) (hP _ ?_) (hq.bs bs)
          rw [hfm]; rfl
        · rw [if_pos (nf hb)] at hfm
          refine bd_setD (i := 2) (d := inat (left - 1)) (DE.is (de_subI (i := (left : Int)) (de_var (i := 2) rfl (pv 2)) de_int) (by unfold inat; congr 1; omega)) ?_
          refine bd_end (bd_end (bd_end (bd_nil fun _ _ h => ⟨_, _, ?_, h⟩)))
          exact ⟨2, left - 1, cnt, ends, p, _, _, _, by decide, rfl, rfl, Nat.le_succ_of_le hel, hfm⟩
      have hlf := of_decide_eq_false hb
      rw [if_neg hlf] at hfm
      have l0 : left = 0 := by omega
      subst l0
      refine bd_ifD (k := decide (l = "end" ∧ 0 < cnt)) (DT.is (DW.t (dw_and (dt_eqS (de_var (i := 6) rfl (pv 6)) de_str) fun _ => (dw_one (dt_gtI (i := (cnt : Int)) (de_var (i := 3) rfl (pv 3)) de_int)))) (by rw [Bool.eq_iff_iff]; simp)) (fun hb => ?_) (fun hb => ?_)
      · rw [if_pos (of_decide_eq_true hb)] at hfm
        refine bd_setD (i := 1) de_str ?_
        refine bd_app (Pd := fun y => y = inat (i + 1)) (i := 4) (pv 4) rfl (Ev.imp ((de_add1 (k := i) (de_var (i := 5) rfl (pv 5))) C) fun r e => ⟨_, e, rfl⟩) (Nat.lt_of_le_of_lt (by rw [List.length_map]; have := hls.1; omega : _ ≤ 100000) (by decide)) (fun y ey => ?_)
        subst ey
        refine bd_end (bd_end (bd_end (bd_end (bd_nil fun _ _ h => ⟨_, _, ?_, h⟩))))
        exact ⟨0, 0, cnt, ends ++ [i + 1], p, _, _, _, by decide, rfl, by rw [List.map_append]; rfl, by rw [List.length_append, List.length_singleton]; omega, hfm⟩
      rw [if_neg (of_decide_eq_false hb)] at hfm
      have hwl : ∀ x ∈ Txt.split l " ", x.length ≤ 600000 := fun x hx => by have := split_len (s := 32) hx; omega
      have hw0 : 0 < (Txt.split l " ").length := List.length_pos_iff.mpr (split_ne _ 32)
      have hwn : (Txt.split l " ").length ≤ 1000000 := by
        have q : (Txt.split l " ").length ≤ l.length + 2 := split_many l 32
        omega
      refine bd_setD (i := 7) (de_frz (dn_split (x := l) (de_var (i := 6) rfl (pv 6)) de_str rfl (sz (by omega)))) ?_
      generalize hws : Txt.split l " " = ws at *
      have hws' : Txt.split l ⟨#[32]⟩ = ws := hws
      refine bd_whenD (k := decide (cnt = 12) || !(parse ws).isSome) (DT.is (DW.t (dw_or (dt_eqI (x := (cnt : Int)) (de_var (i := 3) rfl (pv 3)) de_int) fun _ => (dw_one (dt_not (dt_val (de_fn g_fits (hr.mono (by decide)) (da_cons (de_var (i := 7) rfl (pv 7)) da_nil) (fun C => ⟨ws, rfl, hw0, hwn, hwl, fun r e => e⟩))))))) (by rw [show decide ((cnt : Int) = 12) = decide (cnt = 12) from decide_eq_decide.mpr (by omega)])) (fun hb => ?_) (fun hb => ?_)
      · have hfm' : fm 0 0 0 0 [] ls = (some i, ends) := by
          rw [hfm]
          by_cases c12 : cnt = 12
          · rw [if_pos c12]
          · rw [if_neg c12]
            rw [decide_eq_false c12, Bool.false_or] at hb
            cases hp : parse ws with
            | none => rfl
            | some c => rw [hp] at hb; cases hb
        refine bd_frz (i := 4) rfl ?_
        refine bd_retD (de_tup (ds := [inat i, .list (ends.map inat)]) (da_cons (de_var (i := 5) rfl (pv 5)) (da_cons (de_var (i := 4) rfl (pv 4)) da_nil))) (hP _ ?_) (hq.bs bs)
        rw [hfm']; rfl
      · rw [Bool.or_eq_false_iff] at hb
        have c12 := of_decide_eq_false hb.1
        obtain ⟨c, hp⟩ : ∃ c, parse ws = some c := by
          cases hp : parse ws with
          | none => rw [hp] at hb; cases hb.2
          | some c => exact ⟨c, rfl⟩
        rw [if_neg c12, hp] at hfm
        dsimp only at hfm
        have pl := parse_line hp
        refine bd_setD (i := 3) (de_add1 (k := cnt) (de_var (i := 3) rfl (pv 3))) ?_
        refine bd_whenD (k := decide (ws.getD 0 "" = "lines")) (dt_eqS (de_ixL (de_var (i := 7) rfl (pv 7)) de_int (atW 0 hw0)) de_str) (fun hb2 => ?_) (fun hb2 => ?_)
        · have hk : c.kind = "lines" := by rw [pl.2.2.2.2.1]; exact of_decide_eq_true hb2
          obtain ⟨n1, n2⟩ := num_int (pl.2.2.2.2.2 hk)
          have h5 : 4 < ws.length := by
            rcases Nat.lt_or_ge 4 ws.length with z | z
            · exact z
            · have : ws.getD 4 "" = "" := by rw [List.getD_eq_getElem?_getD, List.getElem?_eq_none z]; rfl
              have q := pl.2.2.2.2.2 hk
              rw [this] at q
              exact absurd q (by unfold readNum; rw [if_neg (by rintro ⟨z, _⟩; revert z; decide)]; exact fun z => by cases z)
          refine bd_setD (i := 2) (de_intS (x := ws.getD 4 "") (de_ixL (de_var (i := 7) rfl (pv 7)) de_int (atW 4 h5)) n1 (by omega) B.int) ?_
          refine bd_end (bd_end (bd_end (bd_end (bd_end (bd_nil fun _ _ h => ⟨_, _, ?_, h⟩)))))
          exact ⟨2, c.cnt, cnt + 1, ends, p, _, _, _, by decide, rfl, rfl, Nat.le_succ_of_le hel, hfm⟩
        · have hk : c.cnt = 0 := by
            rcases Nat.eq_zero_or_pos c.cnt with z | z
            · exact z
            · exact absurd (by rw [← pl.2.2.2.2.1]; exact pl.2.2.2.1.mp z) (of_decide_eq_false hb2)
          refine bd_end (bd_end (bd_end (bd_end (bd_nil fun _ _ h => ⟨_, _, ?_, h⟩))))
          rw [hk] at hfm
          exact ⟨2, 0, cnt + 1, ends, p, _, _, _, by decide, rfl, rfl, Nat.le_succ_of_le hel, hfm⟩
  · rintro I1 bs G' L' ⟨w, left, cnt, ends, p, r5, r6, r7, hw, rfl, rfl, hel, hfm⟩
    have e0 : (List.map (fun (i : Nat) => PyData.int (0 + (i : Int))) (List.range ((ls.map PyData.str).length : Int).toNat)).length = ls.length := by rw [List.length_map, List.length_range, List.length_map]; omega
    rw [e0, drop_end (Nat.le_refl _), fm_nil] at hfm
    refine bd_frz (i := 4) rfl ?_
    refine bd_retD (de_tup (ds := [_, .list (ends.map inat)]) (da_cons (de_ife (dt_eqS (x := wS w) (de_var (i := 1) rfl (pv 1)) de_str) (fun _ => de_none) (fun _ => de_lenL (de_var (i := 0) rfl (pv 0)) rfl B.len)) (da_cons (de_var (i := 4) rfl (pv 4)) da_nil))) (hP _ ?_) (hq.bs bs)
    rw [hfm]
    have w012 : w = 0 ∨ w = 1 ∨ w = 2 := by omega
    rcases w012 with rfl | rfl | rfl
    · rw [if_pos (by decide), if_pos rfl]; rfl
    · rw [if_neg (by decide), if_neg (by decide), List.length_map]; rfl
    · rw [if_neg (by decide), if_neg (by decide), List.length_map]; rfl
end
end QL
namespace QL
open PySem PySem.Spec PyProof.Rows L2
def LD (n m : Nat) (ds : List PyData) : Prop := ds.length ≤ m ∧ ∀ d ∈ ds, SD n d
def ListD (n m : Nat) (d : PyData) : Prop := ∃ ds, LD n m ds ∧ d = .list ds
theorem LD.app {n m k : Nat} {a b : List PyData} (h1 : LD n m a) (h2 : LD n k b) : LD n (m + k) (a ++ b) := ⟨by rw [List.length_append]; exact Nat.add_le_add h1.1 h2.1, fun d hd => by
  rcases List.mem_append.mp hd with z | z
  · exact h1.2 d z
  · exact h2.2 d z⟩
theorem LD.mono {n m n' m' : Nat} {a : List PyData} (h : LD n m a) (hn : n ≤ n') (hm : m ≤ m') : LD n' m' a := ⟨Nat.le_trans h.1 hm, fun d hd => (h.2 d hd).mono hn⟩
section
variable {X : Cx} {C : Cs} {I0 H0 : Hp} {a b c e : Expr} {es : List Expr} {G : List Sl} {L : Lo} {D : Ends} {rest sa sb : List Stmt} {pos p : Pos} {n m k : Nat}
theorem ld_nil : EvPA X C [] G (LD n 0) := evpa_nil ⟨Nat.le_refl _, by simp⟩
theorem ld_cons (ha : EvP X C e G (SD n)) (hr : EvPA X C es G (LD n m)) (hs : starEach (e :: es) X.env = (false, eval e X.env) :: starEach es X.env := by rfl) : EvPA X C (e :: es) G (LD n (m + 1)) :=
  evpa_cons ha hr (fun x xs h1 h2 => ⟨by rw [List.length_cons]; exact Nat.succ_le_succ h2.1, fun d hd => by
    rcases List.mem_cons.mp hd with rfl | hd
    · exact h1
    · exact h2.2 d hd⟩) hs
theorem evn_ld (ha : EvPA X C es G (LD n m)) (hm : m ≤ 1000000 := by decide) : EvN X C (.List es pos) G (LD n m) := evn_lstP ha fun ds h => sz (by have := h.1; omega)
theorem evp_ld (h : EvN X C e G (LD n m)) : EvP X C e G (ListD n m) := evp_frz h fun ds h => ⟨ds, h, rfl⟩
theorem evn_cat (ha : EvP X C a G (ListD n m)) (hb : EvP X C b G (ListD n k)) (hz : m + k ≤ 1000000) : EvN X C (.BinOp a .Add b pos) G (LD n (m + k)) := evn_bin op_cat ha hb fun x y ⟨d1, ⟨xs, h1, e1⟩, r1⟩ ⟨d2, ⟨ys, h2, e2⟩, r2⟩ => by
  subst e1 e2 r1 r2
  refine ⟨xs ++ ys, h1.app h2, fun I H v u Q s o1 o2 q => ?_⟩
  cases o1 with
  | lst g1 g2 =>
    cases o2 with
    | lst g3 g4 => exact ⟨_, _, _, _, rfl, rfl, s _ _ g1, s _ _ g3, sz (by rw [g2.len, g4.len]; have := h1.1; have := h2.1; omega), fun l n => q _ _ I (Ext.mut (C := none) s n) n (s.free n) (g2.app g4)⟩
theorem evp_joinL {apos : Pos} {x : Str} {j : Nat} (ha : DE X a G (.str x)) (hx : StrW j x) (hb : EvP X C b G (ListD n m)) (hz : m * n + m * j ≤ 10000000) (hs : starEach [b] X.env = [(false, eval b X.env)] := by rfl) (hbase : attributeBase a "join" X.env (eval a X.env) = eval a X.env := by rfl) (hline : (apos.endLine == pos.line) = true := by rfl) :
    EvP X C (.Call (.Attribute a "join" apos) [b] [] pos) G (SD (m * n + m * j)) := evp_join ha hx (EvP.imp hb fun d ⟨ds, h, e⟩ => by
      obtain ⟨xs, e1, e2⟩ := strs_of h.2
      exact ⟨xs, by have := h.1; rw [e1, List.length_map] at this; exact this, e2, by rw [e, e1]⟩) hz hs hbase hline
theorem EvP.sd (h : EvP X C e G (SD n)) (hk : n ≤ k) : EvP X C e G (SD k) := EvP.imp h fun d hd => hd.mono hk
/-- p.append(e), e a text; p a list of texts -/
theorem bd_appS {p : Addr} {ds : List PyData} {i : Nat} {o : Expr} {apos cpos : Pos} (ho : PE X o (tVar i)) (hG : G[i]? = some (.v (.ref p))) (h : EvP X C e G (SD n)) (hd : LD n m ds) (hz : m ≤ 1000000) (k : ∀ ds', LD n (m + 1) ds' → Bd X C I0 H0 rest G (some (p, ds')) D)
    (hs0 : starEach (e :: []) X.env = (false, eval e X.env) :: starEach [] X.env := by rfl) (hbase : attributeBase o "append" X.env (eval o X.env) = eval o X.env := by rfl)
    (hfew : ((backTo cpos (starEach (e :: []) X.env)).all (fun x => !x.1) && (backToKw cpos (keywordEach [] X.env)).all (fun x => x.1.isSome)
      && decide ((e :: []).length + ([] : List Keyword).length + (if ([] : List Keyword).isEmpty then 0 else 1) < 30)) = true := by rfl)
    (hline : (apos.endLine == cpos.line) = true := by rfl) (hplain : (backTo cpos (starEach [] X.env)).any (·.1) = false := by rfl) (hsw : swapsWith (.Call (.Attribute o "append" apos) [e] [] cpos) none pos.line X.env = pure false := by rfl) :
    Bd X C I0 H0 (.Expr (.Call (.Attribute o "append" apos) [e] [] cpos) pos :: rest) G (some (p, ds)) D :=
  bd_app (Pd := SD n) ho hG (Ev.imp h fun r ⟨d, h1, h2⟩ => ⟨d, h2, h1⟩) (Nat.lt_of_le_of_lt (Nat.le_trans hd.1 hz) (by decide)) (fun y hy => k _ (hd.app ⟨Nat.le_refl _, fun d hd => by rw [List.mem_singleton.mp hd]; exact hy⟩)) hs0 hbase hfew hline hplain hsw
end
section
variable {P : Program} {w : World} {K : PySem.W.Frag} {mg : Str → Option Value} {base : Heap} {f : Addr} {fd : FuncData}
abbrev GSid (P : Program) (w : World) (K : PySem.W.Frag) (mg : Str → Option Value) (base : Heap) : Prop := Ok P w K mg base 1 "_law_show_id" ["_law_name_here"] F_law_show_id
abbrev GSvs (P : Program) (w : World) (K : PySem.W.Frag) (mg : Str → Option Value) (base : Heap) : Prop := Ok P w K mg base 3 "_law_show_vertices" ["_law_vertices_here"] F_law_show_vertices
section
variable {X : Cx} {C : Cs} {G : List Sl} {p pos : Pos} {e : Expr}
theorem evp_sid {i : Idn} (g : GSid X.prog X.w X.K X.mg X.base) (hr : Room 1 X.A) (h1 : DE X e G i.d) (hv : IdW i)
    (hg : Gl X "_law_show_id" := by rfl) (he : starEach (e :: []) X.env = (false, eval e X.env) :: starEach [] X.env := by rfl) (hpl : (backTo pos (starEach [] X.env)).any (·.1) = false := by rfl) :
    EvP X C (.Call (.Name "_law_show_id" p) [e] [] pos) G (SD 60) :=
  ev_fn (Pa := (· = [.d i.d])) g hr (da_cons h1 da_nil he C) (fun rs e => ⟨i, e, hv, fun d hd => ⟨d, hd, rfl⟩⟩) hg (by decide) he hpl
theorem evp_svs {vs : List Vx} (g : GSvs X.prog X.w X.K X.mg X.base) (hr : Room 3 X.A) (h1 : DE X e G (vxsD vs)) (hv : VsW vs)
    (hg : Gl X "_law_show_vertices" := by rfl) (he : starEach (e :: []) X.env = (false, eval e X.env) :: starEach [] X.env := by rfl) (hpl : (backTo pos (starEach [] X.env)).any (·.1) = false := by rfl) :
    EvP X C (.Call (.Name "_law_show_vertices" p) [e] [] pos) G (SD 400) :=
  ev_fn (Pa := (· = [.d (vxsD vs)])) g hr (da_cons h1 da_nil he C) (fun rs e => ⟨vs, e, hv, fun d hd => ⟨d, hd, rfl⟩⟩) hg (by decide) he hpl
end
def F_law_show_patch : Spc := fun _ rs P => ∃ p : Pt, rs = [.d p.d] ∧ PtW p ∧ ∀ d, ListD 2100 100 d → P (.d d)
/-- kind in ('drop', 'cut') -/
theorem dt_in2 {X : Cx} {a b : Expr} {G : List Sl} {pos : Pos} {x : Str} {k : Bool} (hu : X.A.units + 65 < cLine) (ha : DE X a G (.str x)) (hb : DE X b G (.tuple [.str "drop", .str "cut"])) (hx : PyData.strOk x = true) (hk : (([.str "drop", .str "cut"] : List PyData).any fun z => PyData.eqv z (.str x)) = k) (hm : behindInMarks .In b = false := by rfl) : DT X (.Compare a [.In] [b] pos) G k :=
  DT.is (dt_inT hu ha hb (shaped_of (by rw [PyData.canLay0]; exact hx) (Nat.zero_le _)) (by decide +kernel) hm) hk
theorem ok_law_show_patch (B : Bt mg) (T : Ct mg) (gi : GSid P w K mg base) (gv : GSv P w K mg base) (gs : GSvs P w K mg base) (D : Df K mg "_law_show_patch" s_law_show_patch ["_law_patch_here"] f fd) : Ok P w K mg base 4 "_law_show_patch" ["_law_patch_here"] F_law_show_patch := by
  refine D.ok (fok D.1 c_law_show_patch (fun C rs R h => by obtain ⟨_, rfl, _⟩ := h; rfl) ?_)
  rintro X ⟨cdv, A, outer, s, H, E, rfl, hr⟩ C I0 H0 rs R D ⟨pt, rfl, ⟨z1, z2, z3, z4⟩, hP⟩ hq
  have nd := c_law_show_patch.nd
  have dP : pt.d = .tuple [.str "patch", pt.id.d, .list (pt.cs.map Cg.d), .str pt.note] := rfl
  rw [dP]
  refine bd_setN (i := 1) (Pn := LD 2100 2) (evn_ld (ld_cons (EvP.sd (evp_addS (n := 6) (m := 60) (evp_of de_str (sd_lit (by decide))) (evp_sid gi (hr.mono (by decide)) (de_ixT (ds := [.str "patch", pt.id.d, .list (pt.cs.map Cg.d), .str pt.note]) (de_var (i := 0) rfl (pv 0)) de_int (at3 (i := 1) rfl)) z1) (by decide)) (by decide)) (ld_cons (EvP.sd (evp_addS (n := 5) (m := 41) (evp_of de_str (sd_lit (by decide))) (evp_of (de_ixT (ds := [.str "patch", pt.id.d, .list (pt.cs.map Cg.d), .str pt.note]) (d := .str pt.note) (de_var (i := 0) rfl (pv 0)) de_int (at3 (i := 3) rfl)) ⟨_, z4, rfl⟩) (by decide)) (by decide)) ld_nil))) fun p ds hds => ?_
  refine bd_forD (j := 2) PassesOwn.never (di_list (de_ixT (ds := [.str "patch", pt.id.d, .list (pt.cs.map Cg.d), .str pt.note]) (de_var (i := 0) rfl (pv 0)) de_int (at3 (i := 2) rfl))) (pg_name (i := 2) nd rfl (Or.inl rfl))
    (fun i G' L' => ∃ (p : Addr) (ds : List PyData) (r2 r3 r4 : Sl), G' = [.d (.tuple [.str "patch", pt.id.d, .list (pt.cs.map Cg.d), .str pt.note]), .v (.ref p), r2, r3, r4, .no, .no] ∧ L' = some (p, ds) ∧ LD 2100 (2 + 5 * i) ds) ⟨p, ds, .no, .no, .no, rfl, rfl, hds⟩ ?_ ?_
  · rintro I1 bs i d G' L' hd ⟨p, ds, r2, r3, r4, rfl, rfl, hds⟩ bk
    obtain ⟨c, hc, rfl⟩ := getq_map hd
    obtain ⟨c0, ct1, ct2⟩ := z3 c (List.mem_of_getElem? hc)
    have hi : i < 12 := by have := (List.getElem?_eq_some_iff.mp hc).1; omega
    obtain ⟨c, ts⟩ := c
    have ct3 : ts.length ≤ 4 := ct1
    have nx : ∀ {ds' : List PyData}, LD 2100 (2 + 5 * i + 1) ds' → LD 2100 (2 + 5 * (i + 1)) ds' := fun h => h.mono (Nat.le_refl _) (by omega)
    have u65 := room65 hr
    cases c with
    | add pa =>
      refine bd_setD (i := 3) (de_ixT (ds := [.str "add", pathD pa]) (de_var (i := 2) rfl (pv 2)) de_int (at3 (i := 0) rfl)) ?_
      refine bd_ifT (dt_eqS (de_var (i := 3) rfl (pv 3)) de_str) (by decide) ?_
      refine bd_appS (i := 1) (n := 2100) (pv 1) rfl (EvP.sd (evp_addS (n := 4) (m := 4 * 8 + 4 * 1) (evp_of de_str (sd_lit (by decide))) (evp_of (de_join (x := "/") (ys := pa) de_str (de_ixT (ds := [.str "add", pathD pa]) (d := pathD pa) (de_var (i := 2) rfl (pv 2)) de_int (at3 (i := 1) rfl)) rfl (joinOk (k := 8) (n := 4) _ (fun x hx => (c0.2 x hx).1) c0.1 (by decide))) ⟨_, strW_join (strW_lit (by decide)) c0.2 c0.1, rfl⟩) (by decide)) (by decide)) hds (by omega) (fun ds' h => ?_)
      refine bd_end (bd_nil fun _ _ h' => ⟨_, _, ?_, h'⟩)
      exact ⟨p, ds', _, _, _, rfl, rfl, nx h⟩
    | back ib =>
      refine bd_setD (i := 3) (de_ixT (ds := [.str "back", ib.d]) (de_var (i := 2) rfl (pv 2)) de_int (at3 (i := 0) rfl)) ?_
      refine bd_ifF (dt_eqS (de_var (i := 3) rfl (pv 3)) de_str) (by decide) ?_
      refine bd_ifT (dt_eqS (de_var (i := 3) rfl (pv 3)) de_str) (by decide) ?_
      refine bd_appS (i := 1) (n := 2100) (pv 1) rfl (EvP.sd (evp_addS (n := 5) (m := 60) (evp_of de_str (sd_lit (by decide))) (evp_sid gi (hr.mono (by decide)) (de_ixT (ds := [.str "back", ib.d]) (de_var (i := 2) rfl (pv 2)) de_int (at3 (i := 1) rfl)) c0) (by decide)) (by decide)) hds (by omega) (fun ds' h => ?_)
      refine bd_end (bd_end (bd_nil fun _ _ h' => ⟨_, _, ?_, h'⟩))
      exact ⟨p, ds', _, _, _, rfl, rfl, nx h⟩
    | drop fl o =>
      refine bd_setD (i := 3) (de_ixT (ds := [.str "drop", fl.d, vxsD o]) (de_var (i := 2) rfl (pv 2)) de_int (at3 (i := 0) rfl)) ?_
      refine bd_ifF (dt_eqS (de_var (i := 3) rfl (pv 3)) de_str) (by decide) ?_
      refine bd_ifF (dt_eqS (de_var (i := 3) rfl (pv 3)) de_str) (by decide) ?_
      refine bd_ifT (dt_in2 u65 (de_var (i := 3) rfl (pv 3)) (de_tup (ds := [_, _]) (da_cons de_str (da_cons de_str da_nil))) (by decide +kernel) (by decide +kernel : _ = true)) rfl ?_
      refine bd_appS (i := 1) (n := 2100) (pv 1) rfl (EvP.sd (evp_joinL (x := " ") (j := 1) (n := 400) (m := 3) de_str (strW_lit (by decide)) (evp_ld (evn_ld (ld_cons (EvP.sd (evp_of (de_var (i := 3) rfl (pv 3)) (sd_lit (n := 10) (by decide))) (by decide)) (ld_cons (EvP.sd (evp_sv gv (hr.mono (by decide)) (de_ixT (ds := [.str "drop", fl.d, vxsD o]) (de_var (i := 2) rfl (pv 2)) de_int (at3 (i := 1) rfl)) c0.1) (by decide)) (ld_cons (evp_svs gs (hr.mono (by decide)) (de_ixT (ds := [.str "drop", fl.d, vxsD o]) (de_var (i := 2) rfl (pv 2)) de_int (at3 (i := 2) rfl)) c0.2) ld_nil))))) (by decide)) (by decide)) hds (by omega) (fun ds' h => ?_)
      refine bd_end (bd_end (bd_end (bd_nil fun _ _ h' => ⟨_, _, ?_, h'⟩)))
      exact ⟨p, ds', _, _, _, rfl, rfl, nx h⟩
    | cut fl o =>
      refine bd_setD (i := 3) (de_ixT (ds := [.str "cut", fl.d, vxsD o]) (de_var (i := 2) rfl (pv 2)) de_int (at3 (i := 0) rfl)) ?_
      refine bd_ifF (dt_eqS (de_var (i := 3) rfl (pv 3)) de_str) (by decide) ?_
      refine bd_ifF (dt_eqS (de_var (i := 3) rfl (pv 3)) de_str) (by decide) ?_
      refine bd_ifT (dt_in2 u65 (de_var (i := 3) rfl (pv 3)) (de_tup (ds := [_, _]) (da_cons de_str (da_cons de_str da_nil))) (by decide +kernel) (by decide +kernel : _ = true)) rfl ?_
      refine bd_appS (i := 1) (n := 2100) (pv 1) rfl (EvP.sd (evp_joinL (x := " ") (j := 1) (n := 400) (m := 3) de_str (strW_lit (by decide)) (evp_ld (evn_ld (ld_cons (EvP.sd (evp_of (de_var (i := 3) rfl (pv 3)) (sd_lit (n := 10) (by decide))) (by decide)) (ld_cons (EvP.sd (evp_sv gv (hr.mono (by decide)) (de_ixT (ds := [.str "cut", fl.d, vxsD o]) (de_var (i := 2) rfl (pv 2)) de_int (at3 (i := 1) rfl)) c0.1) (by decide)) (ld_cons (evp_svs gs (hr.mono (by decide)) (de_ixT (ds := [.str "cut", fl.d, vxsD o]) (de_var (i := 2) rfl (pv 2)) de_int (at3 (i := 2) rfl)) c0.2) ld_nil))))) (by decide)) (by decide)) hds (by omega) (fun ds' h => ?_)
      refine bd_end (bd_end (bd_end (bd_nil fun _ _ h' => ⟨_, _, ?_, h'⟩)))
      exact ⟨p, ds', _, _, _, rfl, rfl, nx h⟩
    | move fl pa o =>
      refine bd_setD (i := 3) (de_ixT (ds := [.str "move", fl.d, pathD pa, vxsD o]) (de_var (i := 2) rfl (pv 2)) de_int (at3 (i := 0) rfl)) ?_
      refine bd_ifF (dt_eqS (de_var (i := 3) rfl (pv 3)) de_str) (by decide) ?_
      refine bd_ifF (dt_eqS (de_var (i := 3) rfl (pv 3)) de_str) (by decide) ?_
      refine bd_ifF (dt_in2 u65 (de_var (i := 3) rfl (pv 3)) (de_tup (ds := [_, _]) (da_cons de_str (da_cons de_str da_nil))) (by decide +kernel) (by decide +kernel : _ = false)) rfl ?_
      refine bd_ifT (dt_eqS (de_var (i := 3) rfl (pv 3)) de_str) (by decide) ?_
      refine bd_appS (i := 1) (n := 2100) (pv 1) rfl (EvP.sd (evp_joinL (x := " ") (j := 1) (n := 400) (m := 4) de_str (strW_lit (by decide)) (evp_ld (evn_ld (ld_cons (EvP.sd (evp_of (de_var (i := 3) rfl (pv 3)) (sd_lit (n := 10) (by decide))) (by decide)) (ld_cons (EvP.sd (evp_sv gv (hr.mono (by decide)) (de_ixT (ds := [.str "move", fl.d, pathD pa, vxsD o]) (de_var (i := 2) rfl (pv 2)) de_int (at3 (i := 1) rfl)) c0.1) (by decide)) (ld_cons (EvP.sd (evp_of (de_join (x := "/") (ys := pa) de_str (de_ixT (ds := [.str "move", fl.d, pathD pa, vxsD o]) (d := pathD pa) (de_var (i := 2) rfl (pv 2)) de_int (at3 (i := 2) rfl)) rfl (joinOk (k := 8) (n := 4) _ (fun x hx => (c0.2.1.2 x hx).1) c0.2.1.1 (by decide))) ⟨_, strW_join (strW_lit (by decide)) c0.2.1.2 c0.2.1.1, rfl⟩) (by decide : 4 * 8 + 4 * 1 ≤ 400)) (ld_cons (evp_svs gs (hr.mono (by decide)) (de_ixT (ds := [.str "move", fl.d, pathD pa, vxsD o]) (de_var (i := 2) rfl (pv 2)) de_int (at3 (i := 3) rfl)) c0.2.2) ld_nil)))))) (by decide)) (by decide)) hds (by omega) (fun ds' h => ?_)
      refine bd_end (bd_end (bd_end (bd_end (bd_nil fun _ _ h' => ⟨_, _, ?_, h'⟩))))
      exact ⟨p, ds', _, _, _, rfl, rfl, nx h⟩
    | order fl a b =>
      refine bd_setD (i := 3) (de_ixT (ds := [.str "order", fl.d, a.d, b.d]) (de_var (i := 2) rfl (pv 2)) de_int (at3 (i := 0) rfl)) ?_
      refine bd_ifF (dt_eqS (de_var (i := 3) rfl (pv 3)) de_str) (by decide) ?_
      refine bd_ifF (dt_eqS (de_var (i := 3) rfl (pv 3)) de_str) (by decide) ?_
      refine bd_ifF (dt_in2 u65 (de_var (i := 3) rfl (pv 3)) (de_tup (ds := [_, _]) (da_cons de_str (da_cons de_str da_nil))) (by decide +kernel) (by decide +kernel : _ = false)) rfl ?_
      refine bd_ifF (dt_eqS (de_var (i := 3) rfl (pv 3)) de_str) (by decide) ?_
      refine bd_ifT (dt_eqS (de_var (i := 3) rfl (pv 3)) de_str) (by decide) ?_
      refine bd_appS (i := 1) (n := 2100) (pv 1) rfl (EvP.sd (evp_joinL (x := " ") (j := 1) (n := 400) (m := 1 + 3) de_str (strW_lit (by decide)) (evp_ld (evn_cat (evp_ld (evn_ld (ld_cons (EvP.sd (evp_of (de_var (i := 3) rfl (pv 3)) (sd_lit (n := 10) (by decide))) (by decide)) ld_nil))) (evp_ld (EvN.imp (LcN.n (lcP (j := 6) (x := "_law_vertex_here") (SD 80) ((di_tup (de_slT (ds := [.str "order", fl.d, a.d, b.d]) (l := some 1) (u := none) (de_var (i := 2) rfl (pv 2)) (do_some de_int) do_none (by show ¬ (1 = 0 ∧ 4 = 4); decide))) C) (blkOk_by (N := n_law_show_patch) (sc := defScope s_law_show_patch) (by decide +kernel)) (fun _ _ _ _ _ => pg_name (i := 6) nd rfl (Or.inl rfl)) (fun ds e => by rw [e]; exact (show 3 ≤ sizeLine by decide))
        (fun ds d e hd s1 H1 Ca cl fp => by
          rw [e] at hd
          have hd' : d ∈ [fl.d, a.d, b.d] := hd
          have : ∃ v : Vx, VxW v ∧ d = v.d := by
            simp only [List.mem_cons, List.not_mem_nil, or_false] at hd'
            rcases hd' with h | h | h
            · exact ⟨fl, c0.1, h⟩
            · exact ⟨a, c0.2.1, h⟩
            · exact ⟨b, c0.2.2, h⟩
          obtain ⟨v, hv, rfl⟩ := this
          exact Ev.imp (evp_sv gv (hr.mono (by decide)) (de_var (i := 6) rfl (pv 6)) hv) fun r ⟨d, h1, h2⟩ => ⟨d, h2, h1⟩))) fun xs ⟨ds0, e0, hl, hm⟩ => ⟨by rw [hl, e0]; exact Nat.le_refl 3, fun d hd => (hm d hd).mono (by decide)⟩)) (by decide))) (by decide)) (by decide)) hds (by omega) (fun ds' h => ?_)
      refine bd_end (bd_end (bd_end (bd_end (bd_end (bd_nil fun _ _ h' => ⟨_, _, ?_, h'⟩)))))
      exact ⟨p, ds', _, _, _, rfl, rfl, nx h⟩
    | lines fl u d n =>
      refine bd_setD (i := 3) (de_ixT (ds := [.str "lines", fl.d, vxsD u, vxsD d, .list (ts.map .str)]) (de_var (i := 2) rfl (pv 2)) de_int (at3 (i := 0) rfl)) ?_
      refine bd_ifF (dt_eqS (de_var (i := 3) rfl (pv 3)) de_str) (by decide) ?_
      refine bd_ifF (dt_eqS (de_var (i := 3) rfl (pv 3)) de_str) (by decide) ?_
      refine bd_ifF (dt_in2 u65 (de_var (i := 3) rfl (pv 3)) (de_tup (ds := [_, _]) (da_cons de_str (da_cons de_str da_nil))) (by decide +kernel) (by decide +kernel : _ = false)) rfl ?_
      refine bd_ifF (dt_eqS (de_var (i := 3) rfl (pv 3)) de_str) (by decide) ?_
      refine bd_ifF (dt_eqS (de_var (i := 3) rfl (pv 3)) de_str) (by decide) ?_
      refine bd_set (i := 4) (Pe := fun r => ∃ d, ListD 400 2 d ∧ r = .d d) (evp_ld (evn_ld (ld_cons (evp_svs gs (hr.mono (by decide)) (de_ixT (ds := [.str "lines", fl.d, vxsD u, vxsD d, .list (ts.map .str)]) (de_var (i := 2) rfl (pv 2)) de_int (at3 (i := 2) rfl)) c0.2.1) (ld_cons (evp_svs gs (hr.mono (by decide)) (de_ixT (ds := [.str "lines", fl.d, vxsD u, vxsD d, .list (ts.map .str)]) (de_var (i := 2) rfl (pv 2)) de_int (at3 (i := 3) rfl)) c0.2.2) ld_nil)))) fun r ⟨d1, ⟨bs2, hb2, e1⟩, er⟩ => ?_
      subst e1 er
      refine bd_appS (i := 1) (n := 2100) (pv 1) rfl (EvP.sd (evp_joinL (x := " ") (j := 1) (n := 400) (m := 2 + 2 + 1) de_str (strW_lit (by decide)) (evp_ld (evn_cat (evp_ld (evn_cat (evp_ld (evn_ld (ld_cons (EvP.sd (evp_of (de_var (i := 3) rfl (pv 3)) (sd_lit (n := 10) (by decide))) (by decide)) (ld_cons (EvP.sd (evp_sv gv (hr.mono (by decide)) (de_ixT (ds := [.str "lines", fl.d, vxsD u, vxsD d, .list (ts.map .str)]) (de_var (i := 2) rfl (pv 2)) de_int (at3 (i := 1) rfl)) c0.1) (by decide)) ld_nil)))) (evp_of (de_var (i := 4) rfl (pv 4)) ⟨bs2, hb2, rfl⟩) (by decide))) (evp_ld (evn_ld (ld_cons (EvP.sd (evp_strN (n := ts.length) (DE.is (d' := inat ts.length) (de_lenL (ds := ts.map .str) (de_ixT (ds := [.str "lines", fl.d, vxsD u, vxsD d, .list (ts.map .str)]) (de_var (i := 2) rfl (pv 2)) de_int (at3 (i := 4) rfl)) rfl B.len) (by rw [List.length_map]; rfl)) (by omega) B.str) (by decide)) ld_nil))) (by decide))) (by decide)) (by decide)) hds (by omega) (fun ds' h => ?_)
      refine bd_frz (i := 1) rfl ?_
      refine bd_setN (i := 1) (Pn := LD 2100 (2 + 5 * i + 1 + 4)) (evn_cat (evp_of (de_var (i := 1) rfl (pv 1)) ⟨ds', h, rfl⟩) (evp_ld (EvN.imp (LcN.n (lcP (j := 5) (x := "_law_text") (SD 42) ((di_list (de_ixT (ds := [.str "lines", fl.d, vxsD u, vxsD d, .list (ts.map .str)]) (de_var (i := 2) rfl (pv 2)) de_int (at3 (i := 4) rfl))) C) (blkOk_by (N := n_law_show_patch) (sc := defScope s_law_show_patch) (by decide +kernel)) (fun _ _ _ _ _ => pg_name (i := 5) nd rfl (Or.inl rfl)) (fun ds e => by rw [e, List.length_map]; exact sz (by omega))
        (fun ds d e hd s1 H1 Ca cl fp => by
          rw [e] at hd
          obtain ⟨t, ht, rfl⟩ := List.mem_map.mp hd
          exact Ev.imp (evp_addS (n := 1) (m := 41) (evp_of de_str (sd_lit (by decide))) (evp_of (de_var (i := 5) rfl (pv 5)) ⟨t, ct2 t ht, rfl⟩) (by decide)) fun r ⟨d, h1, h2⟩ => ⟨d, h2, h1⟩))) fun xs ⟨ds0, e0, hl, hm⟩ => ⟨by rw [hl, e0, List.length_map]; exact ct1, fun d hd => (hm d hd).mono (by decide)⟩)) (by omega)) fun p' ds'' h'' => ?_
      refine bd_end (bd_end (bd_end (bd_end (bd_end (bd_nil fun _ _ h' => ⟨_, _, ?_, h'⟩)))))
      exact ⟨p', ds'', _, _, _, rfl, rfl, h''.mono (Nat.le_refl _) (by omega)⟩
  · rintro I1 bs G' L' ⟨p, ds, r2, r3, r4, rfl, rfl, hds⟩
    rw [List.length_map] at hds
    have hds' : LD 2100 62 ds := hds.mono (Nat.le_refl _) (by omega)
    refine bd_frz (i := 1) rfl ?_
    refine bd_ret (P := fun r => ∃ d, ListD 2100 100 d ∧ r = .d d) (EvP.imp (evp_ld (evn_cat (n := 2100) (m := 62) (k := 1) (evp_of (de_var (i := 1) rfl (pv 1)) ⟨ds, hds', rfl⟩) (evp_ld (evn_ld (ld_cons (evp_of de_str (sd_lit (by decide))) ld_nil))) (by decide))) fun d ⟨xs, h, e⟩ => ⟨xs, h.mono (Nat.le_refl _) (by decide), e⟩) ?_
    exact fun v I' H' r ⟨d, hd, er⟩ => by rw [er]; exact (hq.bs bs) v I' H' _ (hP d hd)
end
end QL
namespace QL
open PySem PySem.Spec PyProof.Rows L2
/-! ### try: return e1; except WrittenError as e: return e2 -/
/-- what is known of the class of the errors, for except and isinstance -/
structure Ec (K : PySem.W.Frag) (mg : Str → Option Value) (CW CA : Addr) : Prop where
  gW : mg "WrittenError" = some (.ref CW)
  gA : mg "WardError" = some (.ref CA)
  te : PySem.W.exmOne K (.ref CW) (.ref CW) = some true
  xf : XfC K CW
  no : PySem.W.findIn K (.ref CW) "at" = some none
  cl : (PySem.W.clsIn K CW).isSome = true
  ac : PySem.W.findIn K (.ref CW) "__class__" = some (some (.builtin "object.__class__"))
  an : PySem.W.specialIn K (.builtin "object.__class__") "__get__" = some (some (.builtin "getset_descriptor.__get__"))
  at_ : PySem.W.takesIn K (.builtin "object.__class__") = some true
  am : PySem.W.mroIn K CW (.type "object") = some true
  is : PySem.W.kitOne K (.ref CW) (.ref CA) = some true
  nb : PySem.W.kitOne K (.type "int") (.type "bool") = some false
def rIsED (K : PySem.W.Frag) (D a dd : Addr) : List V → Hp → VK → Prop := fun xs H Q => ∃ (c : V) (cv : Value) (b : Bool) (fs : List (Str × V)), xs = [.ref a, c] ∧ (∀ u, RelV c u → u = cv) ∧ H dd = some (.xd fs) ∧ PySem.W.kitOne K (.ref D) cv = some b ∧ Q (.bl b) H
theorem call_isED {X : Cx} {a CW CA dd : Addr} {oe : Obj} {pn : List (Addr × Obj)} (T : Ec X.K X.mg CW CA) (hz : Zc (.ref CW) (some dd) oe) (hf : ∃ vs, oe.data = .fields vs) : CallR (X.suite a ((a, oe) :: pn)) (.builtin "isinstance") (rIsED X.K CW a dd) := by
  intro pins s σ H xs us Q I r h
  obtain ⟨c, cv, b, fs, rfl, hcv, hd, e, q⟩ := h
  cases r with
  | cons rx rr =>
    cases rr with
    | cons rt rr =>
      cases rr
      cases rx
      have ec := hcv _ rt
      subst ec
      obtain ⟨hget, _⟩ := I.pin (a, oe) (List.mem_append.mpr (.inl List.mem_cons_self))
      obtain ⟨vs, hv⟩ := hf
      have hx : ObjOk X.prog X.w H s.heap dd (.xd fs) := I.hok dd _ hd
      obtain ⟨mA, hns, hr⟩ := hx
      obtain ⟨od, ho, hl⟩ := lookIn_ns hns
      have J : PySem.W.InstAt s.heap a oe CW (some od) := ⟨hget, hz.1, by unfold PySem.W.notCls; rw [hv] <;> rfl, by rw [hz.2]; exact ho⟩
      exact PySem.W.kia_one (PySem.W.kitx_exc T.cl T.xf.ga T.xf.gg T.xf.exC T.ac T.an T.at_ T.am) I.kIn J e (fun z => nomatch z) fun tk => ⟨.bl b, H, I.kept (t' := tk) fun _ _ z => z, rfl, q⟩
section
variable {X : Cx} {C : Cs} {CW CA : Addr} {I0 H0 : Hp} {G : List Sl} {L : Lo} {D : Ends} {rest : List Stmt} {e1 e2 : Expr} {P : Sl → Prop} {R : Int → Prop} {np p1 p2 p3 p4 : Pos} {i : Nat}
theorem bd_tryRet (T : Ec X.K X.mg CW CA) (h1 : ∀ pn xe W, Takes (X.tr pn xe) W → EvX (X.tr pn xe) C W CW e1 G P R)
    (h2 : ∀ a oe d pn k, Zc (.ref CW) (some d) oe → (∃ vs, oe.data = .fields vs) → R k → ∀ σ I' H' (Q : VK), EnvOk σ G I' → Same I' H' → StOk C I' H' → XdAt H' d k → (∀ v I2 H2 r, P r → Ext C I' H' I2 H2 → StOk C I2 H2 → r.ok I2 v → Q v H2) → wpE (X.suite a ((a, oe) :: pn)) e2 (σ.set i (some (.ref a))) H' Q)
    (hq : RtOk C I0 H0 P D.rt) (hs : X.stack = X.env :: X.outer) (hf : X.env.frame = some X.env.locals) (hN : X.N.Nodup) (hi : X.N[i]? = some "e") (hln : X.env.kindOf "e" = some .local) (hg : Gl X "WrittenError") :
    Bd X C I0 H0 (.Try [.Return (some e1) p1] [.ExceptHandler (some (.Name "WrittenError" np)) (some "e") [.Return (some e2) p2] p3] [] [] p4 :: rest) G L D := fun σ H ⟨I, hE, hx, hc, hl⟩ => by
  refine of_pss (pss_cons (ps_try_as (i := i) (c := .ref CW) (tb := fun W => fun D σ H => ∀ pn xe, Takes (X.tr pn xe) W → wpS (X.tr pn xe) [.Return (some e1) p1] D σ H)
    (ts := fun a cls d => fun D σ H => ∀ oe pn, Zc cls d oe → (∃ vs, oe.data = .fields vs) → wpS (X.suite a ((a, oe) :: pn)) [.Return (some e2) p2] D σ H) (Wout := fun _ _ _ _ => False) hs hf hN hi hln ⟨hg, by decide, .inl T.gW⟩ takes0
    (fun W pn xe tk _ => ⟨fun pins s σ H D I h => h pn xe tk pins s I⟩) (fun a oe cls d pn hz hf => ⟨fun pins s σ H D I h => h oe pn hz hf pins s I⟩)) (pss_wp (st := rest))) ?_
  intro pn xe tk
  refine of_pss (pss_cons (ps_ret pe_wp) (pss_wp (st := []))) (h1 pn xe _ tk σ I H _ hE hx.sub hc (fun v I' H' r p x c o => hq v I' H' r p (hx.trans x) c o) fun k d I' H' rk x c xd => ⟨true, T.te, fun _ a ha oe pn' hz hfd => ?_, fun z => by cases z⟩)
  exact of_pss (pss_cons (ps_ret pe_wp) (pss_wp (st := []))) (h2 a oe d pn' k hz hfd rk σ I' H' _ (hE.mono x.im) x.sub c xd fun v I2 H2 r p x2 c2 o => hq v I2 H2 r p ((hx.trans x).trans x2) c2 o)
end
theorem evx_imp {X : Cx} {C : Cs} {W : WX} {CW : Addr} {e : Expr} {G : List Sl} {P P' : Sl → Prop} {R : Int → Prop} (h : EvX X C W CW e G P R) (i : ∀ r, P r → P' r) : EvX X C W CW e G P' R := fun σ I H Q hE hS hC q z => h σ I H Q hE hS hC (fun v I' H' r p => q v I' H' r (i r p)) z
def allD (ls : List Str) : PyData := match readAll ls ls.length 0 with | .ok ps => .tuple [.none, .list (ps.map Pt.d)] | .error e => .tuple [inat e, .list []]
def firstD (ls : List Str) : PyData := match readPatch ls with | .ok p => .tuple [.none, .list [p.d]] | .error e => .tuple [inat e, .list []]
section
variable {P : Program} {w : World} {K : PySem.W.Frag} {mg : Str → Option Value} {base : Heap} {f : Addr} {fd : FuncData} {CW CA : Addr}
theorem sl_get {σ : L2.St} {G : List Sl} {I : Hp} {i : Nat} {v : V} (h : EnvOk σ G I) (hi : i < G.length) : (σ.set i (some v))[i]? = some (some v) := List.getElem?_set_self (by rw [h.1]; exact hi)
/-- (v, []) -/
theorem pair_nil {I H : Hp} {C : Cs} {v : V} {d : PyData} {Q : VK} (hS : Same I H) (hC : StOk C I H) (hd : Dq I v d) (q : ∀ v I2 H2 r, r = Sl.d (.tuple [d, .list []]) → Ext C I H I2 H2 → StOk C I2 H2 → r.ok I2 v → Q v H2) :
    ∀ p, H p = none → ∀ p', (upd H p (.lst [])) p' = none → Q (.ref p') (upd (upd H p (.lst [])) p' (.tup [v, .ref p])) := fun p hp p' hp' => by
  have x1 := Ext.imm (C := none) (o := .lst []) hS hp
  have x2 := Ext.imm (C := none) (o := .tup [v, .ref p]) x1.sub hp'
  refine q (.ref p') _ _ _ rfl (x1.trans x2).of0 (hC.ext0 (x1.trans x2)) (.tup upd_same (.cons (hd.mono (x1.im.trans x2.im)) (.cons (.lst (x2.im p _ upd_same) .nil) .nil)))
def F_law_all : Spc := fun _ rs P => ∃ ls : List Str, rs = [.d (lsD ls)] ∧ LinesOk ls ∧ ∀ r, r = .d (allD ls) → P r
def F_law_first : Spc := fun _ rs P => ∃ ls : List Str, rs = [.d (lsD ls)] ∧ LinesOk ls ∧ ∀ r, r = .d (firstD ls) → P r
theorem ok_law_first (B : Bt mg) (T : Ec K mg CW CA) (g : OkX P w K mg base CW 10 "read_patch" ["lines"] F_read_patch) (D : Df K mg "_law_first" s_law_first ["_law_lines"] f fd) : Ok P w K mg base 11 "_law_first" ["_law_lines"] F_law_first := by
  refine D.ok (fok D.1 c_law_first (fun C rs R h => by obtain ⟨_, rfl, _⟩ := h; rfl) ?_)
  rintro X ⟨cdv, A, outer, s, H, E, rfl, hr⟩ C I0 H0 rs R D ⟨ls, rfl, hls, hP⟩ hq
  have nd := c_law_first.nd
  refine bd_tryRet (i := 1) (P := R) (R := fun k => ∃ e : Nat, k = (e : Int) ∧ readPatch ls = .error e) T (fun pn xe W tk => ?_) (fun a oe d pn k hz hf ⟨e, ek, he⟩ σ I' H' Q hE hS hC xd q => ?_) hq rfl rfl nd rfl rfl rfl
  · exact evx_imp (evx_tup2 (P1 := (· = .none)) (P2 := fun z => ∃ p, readPatch ls = .ok p ∧ z = .list [p.d]) (evp_of de_none rfl) (evx_imp (evx_lst1 (P2 := fun z => ∃ p, readPatch ls = .ok p ∧ z = p.d) (ev_fnX g (hr.mono (by decide)) tk (da_cons (de_var (i := 0) rfl (pv 0)) da_nil) ⟨ls, rfl, hls, fun p hp => ⟨_, ⟨p, hp, rfl⟩, rfl⟩, fun e he => ⟨e, rfl, he⟩⟩)) fun r ⟨y, ⟨p, hp, e1⟩, er⟩ => ⟨_, ⟨p, hp, rfl⟩, by rw [er, e1]⟩)) fun r ⟨y, z, e1, ⟨p, hp, e2⟩, er⟩ => hP r (by rw [er, e1, e2]; unfold firstD; rw [hp])
  · subst ek
    refine of_pe (pe_tup (pa_cons (pe_xf T.xf T.no hz hf (pv 1)) (pa_cons (pe_lst pa_nil) pa_nil))) ?_
    refine ⟨.ref a, sl_get hE (show 1 < 2 by decide), rfl, rfl, d, _, .int (e : Int), rfl, xd, by simp [List.lookup], (show 0 ≤ sizeLine by decide), fun p hp => ⟨(show 2 ≤ sizeLine by decide), fun p' hp' => ?_⟩⟩
    exact pair_nil hS hC (.int (e : Int)) (fun v I2 H2 r er x c o => q v I2 H2 r (hP r (by rw [er]; unfold firstD; rw [he]; rfl)) x c o) p hp p' hp'
theorem ok_law_all (B : Bt mg) (T : Ec K mg CW CA) (g : OkX P w K mg base CW 10 "read_patches" ["lines"] F_read_patches) (D : Df K mg "_law_all" s_law_all ["_law_lines"] f fd) : Ok P w K mg base 11 "_law_all" ["_law_lines"] F_law_all := by
  refine D.ok (fok D.1 c_law_all (fun C rs R h => by obtain ⟨_, rfl, _⟩ := h; rfl) ?_)
  rintro X ⟨cdv, A, outer, s, H, E, rfl, hr⟩ C I0 H0 rs R D ⟨ls, rfl, hls, hP⟩ hq
  have nd := c_law_all.nd
  refine bd_tryRet (i := 1) (P := R) (R := fun k => ∃ e : Nat, k = (e : Int) ∧ readAll ls ls.length 0 = .error e) T (fun pn xe W tk => ?_) (fun a oe d pn k hz hf ⟨e, ek, he⟩ σ I' H' Q hE hS hC xd q => ?_) hq rfl rfl nd rfl rfl rfl
  · exact evx_imp (evx_tup2 (P1 := (· = .none)) (P2 := fun z => ∃ ps, readAll ls ls.length 0 = .ok ps ∧ z = .list (ps.map Pt.d)) (evp_of de_none rfl) (ev_fnX g (hr.mono (by decide)) tk (da_cons (de_var (i := 0) rfl (pv 0)) da_nil) ⟨ls, rfl, hls, fun p hp => ⟨_, ⟨p, hp, rfl⟩, rfl⟩, fun e he => ⟨e, rfl, he⟩⟩)) fun r ⟨y, z, e1, ⟨p, hp, e2⟩, er⟩ => hP r (by rw [er, e1, e2]; unfold allD; rw [hp])
  · subst ek
    have s1 := sl_get (v := .ref a) hE (show 1 < 2 by decide)
    refine of_pe (pe_tup (pa_cons (pe_ifExp pt_wp (pe_xf T.xf T.no hz hf (pv 1)) pe_wp) (pa_cons (pe_lst pa_nil) pa_nil))) ?_
    refine wpT_pw (pw_and (pt_val (pe_callB (call_isED T hz hf) rfl B.isin PyProof.Rows.boot_isinstance (pa_cons (pv 1) (pa_cons (pe_glob (v := .ref CA) rfl T.gA rfl) pa_nil)))) (pw_and1 (pt_not (pt_val (pe_callB call_isi rfl B.isin PyProof.Rows.boot_isinstance (pa_cons (pe_xf T.xf T.no hz hf (pv 1)) (pa_cons (pe_bltn (v := .ty "bool") rfl B.bool (by decide +kernel) rfl) pa_nil))))))) ?_
    refine ⟨.ref a, s1, .ref CA, .ref CA, true, _, rfl, fun u hu => hu, xd, T.is, true, rfl, iteT ?_⟩
    refine ⟨.ref a, s1, rfl, rfl, d, _, .int (e : Int), rfl, xd, by simp [List.lookup], .int (e : Int), .ty "bool", .type "int", .type "bool", false, rfl, .ty "bool", .base (by constructor), T.nb, false, rfl, iteT ?_⟩
    refine ⟨.ref a, s1, rfl, rfl, d, _, .int (e : Int), rfl, xd, by simp [List.lookup], (show 0 ≤ sizeLine by decide), fun p hp => ⟨(show 2 ≤ sizeLine by decide), fun p' hp' => ?_⟩⟩
    exact pair_nil hS hC (.int (e : Int)) (fun v I2 H2 r er x c o => q v I2 H2 r (hP r (by rw [er]; unfold allD; rw [he]; rfl)) x c o) p hp p' hp'
end
end QL
namespace QL
open PySem PySem.Spec PyProof.Rows L2
section
variable {X : Cx} {C : Cs} {I0 H0 : Hp} {G : List Sl} {D : Ends} {rest : List Stmt} {a b e : Expr} {pos : Pos} {p : Addr} {ds : List PyData} {i : Nat}
theorem DqAll.eraseIdx {H : Hp} : ∀ {vs : List V} {ds : List PyData} (n : Nat), DqAll H vs ds → DqAll H (vs.eraseIdx n) (ds.eraseIdx n)
  | _, _, _, .nil => .nil
  | _, _, 0, .cons _ t => t
  | _, _, n + 1, .cons r t => .cons r (t.eraseIdx n)
/-- p.insert(k, y), p the list in hand, y a text -/
theorem bd_insert {o : Expr} {k : Int} {n : Nat} {apos cpos : Pos} (ho : PE X o (tVar i)) (hG : G[i]? = some (.v (.ref p))) (h1 : DE X a (G.set i (.d (.list ds))) (.int k)) (h2 : EvP X C b (G.set i (.d (.list ds))) (SD n)) (hk : 0 ≤ k ∧ k < 1000000) (hz : ds.length < sizeLine)
    (kk : ∀ y, SD n y → Bd X C I0 H0 rest G (some (p, ds.take k.toNat ++ [y] ++ ds.drop k.toNat)) D)
    (hs0 : starEach (a :: [b]) X.env = (false, eval a X.env) :: starEach [b] X.env := by rfl) (hs1 : starEach (b :: []) X.env = (false, eval b X.env) :: starEach [] X.env := by rfl) (hbase : attributeBase o "insert" X.env (eval o X.env) = eval o X.env := by rfl)
    (hfew : ((backTo cpos (starEach (a :: [b]) X.env)).all (fun x => !x.1) && (backToKw cpos (keywordEach [] X.env)).all (fun x => x.1.isSome)
      && decide ((a :: [b]).length + ([] : List Keyword).length + (if ([] : List Keyword).isEmpty then 0 else 1) < 30)) = true := by rfl)
    (hline : (apos.endLine == cpos.line) = true := by rfl) (hplain : (backTo cpos (starEach [b] X.env)).any (·.1) = false := by rfl) (hsw : swapsWith (.Call (.Attribute o "insert" apos) [a, b] [] cpos) none pos.line X.env = pure false := by rfl) :
    Bd X C I0 H0 (.Expr (.Call (.Attribute o "insert" apos) [a, b] [] cpos) pos :: rest) G (some (p, ds)) D := fun σ H he => by
  obtain ⟨I, xs, h1', h2', h3', h4', h5', h6', h7', kq⟩ := frz_pre hG he
  obtain ⟨v, g1, g2⟩ := h1'.get hG (fun z => by cases z)
  have g2' : v = .ref p := g2
  subst g2'
  obtain ⟨n0, nI, nd, xs', hl, hd⟩ := h4'
  refine of_pss (pss_cons (ps_expr (pe_bm PySem.F.plainAttrs_list PySem.F.slot_list_insert PySem.F.type_list_insert mt_insert ho (pa_cons pe_wp (pa_cons pe_wp pa_nil hs1) hs0) hbase hfew hline hs0 hplain) hsw) (pss_wp (st := rest))) ⟨_, g1, .inl ⟨rfl, _, .inl (.inl hl)⟩, ?_⟩
  refine h1 C σ _ H _ h5' h6' h7' fun w I1 H1 r er x1 c1 o1 => ?_
  subst er
  cases o1
  refine h2 σ I1 H1 _ (h5'.mono x1.im) x1.sub c1 fun w I2 H2 r ⟨d, ⟨y, hy, e1⟩, er⟩ x2 c2 o2 => ?_
  subst er e1
  cases o2
  obtain ⟨_, xx, cc, n0', nI', nd', xs2, hl2, hd2⟩ := kq I2 H2 (x1.trans x2) c2
  have dl := hd2.len
  refine ⟨p, xs2, k, .str y, rfl, rfl, hl2, by omega, hk.1, by omega, kk (.str y) ⟨y, hy, rfl⟩ σ _ ⟨I, h1', (h2'.trans xx).updNew n0 nI, cc.upd nd, n0, nI, nd, _, upd_same, ?_⟩⟩
  exact ((hd2.take k.toNat).app (.cons (.str y) .nil)).app (hd2.drop k.toNat)
/-- p.pop(k), its value dropped -/
theorem bd_popAt {o : Expr} {k : Int} {apos cpos : Pos} (ho : PE X o (tVar i)) (hG : G[i]? = some (.v (.ref p))) (h1 : DE X a (G.set i (.d (.list ds))) (.int k)) (hk : 0 ≤ k ∧ k < (ds.length : Int)) (hz : ds.length ≤ 1000000)
    (kk : Bd X C I0 H0 rest G (some (p, ds.eraseIdx k.toNat)) D)
    (hs0 : starEach (a :: []) X.env = (false, eval a X.env) :: starEach [] X.env := by rfl) (hbase : attributeBase o "pop" X.env (eval o X.env) = eval o X.env := by rfl)
    (hfew : ((backTo cpos (starEach (a :: []) X.env)).all (fun x => !x.1) && (backToKw cpos (keywordEach [] X.env)).all (fun x => x.1.isSome)
      && decide ((a :: []).length + ([] : List Keyword).length + (if ([] : List Keyword).isEmpty then 0 else 1) < 30)) = true := by rfl)
    (hline : (apos.endLine == cpos.line) = true := by rfl) (hplain : (backTo cpos (starEach [] X.env)).any (·.1) = false := by rfl) (hsw : swapsWith (.Call (.Attribute o "pop" apos) [a] [] cpos) none pos.line X.env = pure false := by rfl) :
    Bd X C I0 H0 (.Expr (.Call (.Attribute o "pop" apos) [a] [] cpos) pos :: rest) G (some (p, ds)) D := fun σ H he => by
  obtain ⟨I, xs, h1', h2', h3', h4', h5', h6', h7', kq⟩ := frz_pre hG he
  obtain ⟨v, g1, g2⟩ := h1'.get hG (fun z => by cases z)
  have g2' : v = .ref p := g2
  subst g2'
  obtain ⟨n0, nI, nd, xs', hl, hd⟩ := h4'
  refine of_pss (pss_cons (ps_expr (pe_bm PySem.F.plainAttrs_list PySem.F.slot_list_pop PySem.F.type_list_pop mt_popAt ho (pa_cons pe_wp pa_nil hs0) hbase hfew hline hs0 hplain) hsw) (pss_wp (st := rest))) ⟨_, g1, .inl ⟨rfl, _, .inl (.inl hl)⟩, ?_⟩
  refine h1 C σ _ H _ h5' h6' h7' fun w I1 H1 r er x1 c1 o1 => ?_
  subst er
  cases o1
  obtain ⟨_, xx, cc, n0', nI', nd', xs2, hl2, hd2⟩ := kq I1 H1 x1 c1
  have dl := hd2.len
  have kl : k.toNat < xs2.length := by omega
  obtain ⟨j, rfl⟩ : ∃ j : Nat, k = (j : Int) := ⟨k.toNat, by omega⟩
  rw [Int.toNat_natCast] at kl
  refine ⟨p, xs2, (j : Int), j, xs2[j], rfl, rfl, hl2, by omega, by omega, ?_, List.getElem?_eq_getElem kl, ?_⟩
  · unfold seqIndex?
    have c1 : ¬ ((j : Int) < 0) := by omega
    rw [if_neg c1]
    simp
    omega
  · exact kk σ _ ⟨I, h1', (h2'.trans xx).updNew n0 nI, cc.upd nd, n0, nI, nd, _, upd_same, hd2.eraseIdx _⟩
/-- p[k] = e, e a text -/
theorem bd_store {o : Expr} {k : Int} {n : Nat} {spos : Pos} (ho : PE X o (tVar i)) (hG : G[i]? = some (.v (.ref p))) (h1 : DE X a (G.set i (.d (.list ds))) (.int k)) (h2 : EvP X C e G (SD n)) (hk : 0 ≤ k ∧ k < (ds.length : Int))
    (kk : ∀ y, SD n y → Bd X C I0 H0 rest G (some (p, ds.set k.toNat y)) D)
    (ha : ∀ v, assign (.Subscript o a spos) X.env v = (do
      let ov ← holding [v] (eval o X.env)
      let iv ← holding [v, ov] (eval a X.env)
      standAt spos
      holding [v, ov, iv] (setItem ov iv v)
      release [v, ov, iv] []) := by intro _; rfl)
    (hs : swapsWithSole [.Subscript o a spos] e pos.line X.env = pure false := by rfl) (hw : swappedStores [.Subscript o a spos] e X.env = pure none := by rfl) (h11 : (assignEach [.Subscript o a spos] X.env).map (·.2) = [assign (.Subscript o a spos) X.env] := by rfl) : Bd X C I0 H0 (.Assign [.Subscript o a spos] e pos :: rest) G (some (p, ds)) D := fun σ H he => by
  obtain ⟨I, h1', h2', h3', h4'⟩ := he
  refine of_pss (pss_cons (ps_asg pe_wp (pg_sub ho pe_wp set_list ha) hs hw h11) (pss_wp (st := rest))) ?_
  refine h2 σ I H _ h1' h2'.sub h3' fun w I1 H1 r ⟨d, ⟨y, hy, e1⟩, er⟩ x1 c1 o1 => ?_
  subst er e1
  cases o1
  have he2 : Here C I0 H0 G (some (p, ds)) σ H1 := ⟨I1, h1'.mono x1.im, h2'.trans x1, c1, h4'.ext x1⟩
  obtain ⟨I, xs, h1', h2', h3', h4', h5', h6', h7', kq⟩ := frz_pre hG he2
  obtain ⟨v, g1, g2⟩ := h1'.get hG (fun z => by cases z)
  have g2' : v = .ref p := g2
  subst g2'
  obtain ⟨n0, nI, nd, xs', hl, hd⟩ := h4'
  refine ⟨_, g1, ?_⟩
  refine h1 C σ _ H1 _ h5' h6' h7' fun w I2 H2 r er x2 c2 o2 => ?_
  subst er
  cases o2
  obtain ⟨_, xx, cc, n0', nI', nd', xs2, hl2, hd2⟩ := kq I2 H2 x2 c2
  have dl := hd2.len
  refine ⟨p, xs2, k, k.toNat, rfl, rfl, hl2, ?_, kk (.str y) ⟨y, hy, rfl⟩ σ _ ⟨I, h1', (h2'.trans xx).updNew n0 nI, cc.upd nd, n0, nI, nd, _, upd_same, DqAll.set (.str y) _ hd2⟩⟩
  unfold ixN
  rw [if_pos hk.1, if_pos (by omega)]
end
end QL
namespace QL
open PySem PySem.Spec PyProof.Rows L2
theorem LD.take {n m : Nat} {a : List PyData} (h : LD n m a) (k : Nat) : LD n m (a.take k) := ⟨Nat.le_trans (List.length_take_le' _ _) h.1, fun d hd => h.2 d (List.mem_of_mem_take hd)⟩
theorem LD.drop {n m : Nat} {a : List PyData} (h : LD n m a) (k : Nat) : LD n m (a.drop k) := ⟨by rw [List.length_drop]; have := h.1; omega, fun d hd => h.2 d (List.mem_of_mem_drop hd)⟩
theorem LD.ins {n m : Nat} {a : List PyData} {y : PyData} (h : LD n m a) (hy : SD n y) (k : Nat) : LD n (m + 1) (a.take k ++ [y] ++ a.drop k) := ⟨by
    have := h.1
    simp only [List.length_append, List.length_take, List.length_drop, List.length_singleton]
    omega, fun d hd => by
    rcases List.mem_append.mp hd with z | z
    · rcases List.mem_append.mp z with z | z
      · exact h.2 d (List.mem_of_mem_take z)
      · rw [List.mem_singleton.mp z]; exact hy
    · exact h.2 d (List.mem_of_mem_drop z)⟩
theorem LD.era {n m : Nat} {a : List PyData} (h : LD n m a) (k : Nat) : LD n m (a.eraseIdx k) := ⟨Nat.le_trans (List.length_eraseIdx_le _ _) h.1, fun d hd => h.2 d (List.mem_of_mem_eraseIdx hd)⟩
theorem LD.put {n m : Nat} {a : List PyData} {y : PyData} (h : LD n m a) (hy : SD n y) (k : Nat) : LD n m (a.set k y) := ⟨by rw [List.length_set]; exact h.1, fun d hd => by
    rcases List.mem_or_eq_of_mem_set hd with z | z
    · exact h.2 d z
    · rw [z]; exact hy⟩
theorem cutD_ld {n m : Nat} {a : List PyData} (h : LD n m a) (l u : Option Int) : LD n m (cutD a l u) := (h.drop _).take _
section
variable {P : Program} {w : World} {K : PySem.W.Frag} {mg : Str → Option Value} {base : Heap} {f : Addr} {fd : FuncData}
def bnd (n : Nat) : Nat → Nat
  | 0 => n
  | i + 1 => 2 * bnd n i + 1
theorem bnd_ge (n : Nat) : ∀ i, n ≤ bnd n i
  | 0 => Nat.le_refl _
  | i + 1 => by have := bnd_ge n i; show n ≤ 2 * bnd n i + 1; omega
theorem bnd_le (n i : Nat) (h : i ≤ 3) : bnd n i ≤ 8 * n + 7 := by
  have : i = 0 ∨ i = 1 ∨ i = 2 ∨ i = 3 := by omega
  rcases this with rfl | rfl | rfl | rfl
  · show n ≤ _; omega
  · show 2 * n + 1 ≤ _; omega
  · show 2 * (2 * n + 1) + 1 ≤ _; omega
  · show 2 * (2 * (2 * n + 1) + 1) + 1 ≤ _; omega
def F_law_turned : Spc := fun C rs P => ∃ (s c : Addr) (n m : Nat) (ds : List PyData), C = some (s, c) ∧ rs = [.v (.ref s), .d (.list ds)] ∧ LD n m ds ∧ 50 ≤ n ∧ n ≤ 100000 ∧ m ≤ 10000 ∧ ∀ d, ListD (8 * n + 7) (m + 3) d → P (.d d)
theorem ok_law_turned (B : Bt mg) (T : Ct mg) (g : GDraw P w K mg base) (gp : GPick P w K mg base) (D : Df K mg "_law_turned" s_law_turned ["_law_state_here", "_law_lines"] f fd) : Ok P w K mg base 3 "_law_turned" ["_law_state_here", "_law_lines"] F_law_turned := by
  refine D.ok (fok D.1 c_law_turned (fun C rs R h => by obtain ⟨_, _, _, _, _, _, rfl, _⟩ := h; rfl) ?_)
  rintro X ⟨cdv, A, outer, s₀, H₀, E, rfl, hr⟩ C I0 H0 rs R D ⟨s, c, n, m, ds, rfl, rfl, hds, hn50, hn, hm, hP⟩ hq
  have nd := c_law_turned.nd
  refine bd_setN (i := 2) ((dn_list (ds := ds) (de_var (i := 1) rfl (pv 1)) rfl B.list) _) fun p es e => ?_
  have hes0 : LD n m es := by rw [e]; exact hds
  refine bd_for (j := 3) PassesOwn.never rfl (evi_rngZ (n := 3) (Pz := DrawR 4) (evp_draw (i := 0) g (hr.mono (by decide)) rfl (pv 0) (de_int (i := 4))) (fun k hk => by have h1 := hk.1; have h2 := hk.2; omega) (by decide) B.range) (pg_name (i := 3) nd rfl (Or.inl rfl))
    (fun _ i G' L' => ∃ (p : Addr) (es : List PyData) (r3 r4 r5 r6 r7 r8 : Sl), G' = [.v (.ref s), .d (.list ds), .v (.ref p), r3, r4, r5, r6, r7, r8] ∧ L' = some (p, es) ∧ LD (bnd n i) (m + i) es) ?_ ?_ ?_
  · rintro ds0 _
    exact ⟨p, es, .no, .no, .no, .no, .no, .no, rfl, rfl, hes0⟩
  · rintro I1 bs ds0 i d G' L' ⟨j, hj, rfl⟩ hd ⟨p, es, r3, r4, r5, r6, r7, r8, rfl, rfl, hes⟩ bk
    have hi : i < 3 := by
      have := (List.getElem?_eq_some_iff.mp hd).1
      rw [List.length_map, List.length_range] at this
      omega
    have he1 := hes.1
    have hb0 := bnd_ge n i
    have hb1 := bnd_le n i (by omega)
    have hb2 : bnd n (i + 1) = 2 * bnd n i + 1 := rfl
    refine bd_set (i := 4) (evp_draw (i := 0) g (hr.mono (by decide)) rfl (pv 0) (de_int (i := 7))) (fun r ⟨d1, ⟨k, hk, e1⟩, er⟩ => ?_)
    subst e1 er
    refine bd_setL (i := 5) (j := 2) (P := fun r => ∃ d, ZD (DrawR (es.length : Int)) d ∧ r = .d d) rfl (evp_draw (i := 0) g (hr.mono (by decide)) rfl (pv 0) (de_lenL (de_var (i := 2) rfl (pv 2)) rfl B.len) (by omega)) (fun r ⟨d, ⟨k, hk, e1⟩, er⟩ => ⟨d, .int k, er, by rw [e1]; rfl⟩) (fun r ⟨d1, ⟨at_, hat, e1⟩, er⟩ => ?_)
    subst e1 er
    have hat1 := hat.1
    have hat2 := hat.2
    refine bd_ifL (i := 2) (Pt := fun b => b = (decide (es.length = 0) || decide (k = 0))) rfl ((DW.t (dw_or (DT.is (b' := decide (es.length = 0)) (dt_eqI (de_lenL (ds := es) (de_var (i := 2) rfl (pv 2)) rfl B.len) de_int) (decide_eq_decide.mpr (by omega))) fun _ => (dw_one (dt_eqI (de_var (i := 4) rfl (pv 4)) de_int)))) _) (fun hb => ?_) (fun hb => ?_)
    · have hat3 : at_ < 1000000 := by omega
      have k0 : SD 30 (.str ("end" : Str)) := sd_lit (by decide +kernel)
      have k1 : SD 30 (.str ("note " : Str)) := sd_lit (by decide +kernel)
      have k2 : SD 30 (.str ("patch 0.a.1" : Str)) := sd_lit (by decide +kernel)
      have k3 : SD 30 (.str ("add a" : Str)) := sd_lit (by decide +kernel)
      have k4 : SD 30 (.str ("|" : Str)) := sd_lit (by decide +kernel)
      have k5 : SD 30 (.str ("" : Str)) := sd_lit (by decide +kernel)
      have k6 : SD 30 (.str ("lines 0.a.1.0.0 - - 2" : Str)) := sd_lit (by decide +kernel)
      have k7 : SD 30 (.str ("cut 0.a.1.0.0 -" : Str)) := sd_lit (by decide +kernel)
      refine bd_set (i := 6) (evp_pickR (i := 0) (Pe := SD 30) gp (hr.mono (by decide)) rfl (pv 0) 8 ⟨evp_of de_str k0, rfl, evp_of de_str k1, rfl, evp_of de_str k2, rfl, evp_of de_str k3, rfl, evp_of de_str k4, rfl, evp_of de_str k5, rfl, evp_of de_str k6, rfl, evp_of de_str k7, rfl, True.intro⟩) (fun r ⟨d1, ⟨x, hx, e1⟩, er⟩ => ?_)
      subst e1 er
      refine bd_insert (i := 2) (n := 30) (pv 2) rfl (de_var (i := 5) rfl (pv 5)) (evp_of (de_var (i := 6) rfl (pv 6)) ⟨x, hx, rfl⟩) ⟨hat1, hat3⟩ (Nat.lt_of_le_of_lt (by omega : es.length ≤ 20000) (by decide)) (fun y hy => ?_)
      refine bd_end (bd_nil fun _ _ h' => ⟨_, _, ?_, h'⟩)
      exact ⟨p, _, _, _, _, _, _, _, rfl, rfl, (hes.ins (hy.mono (by omega)) _).mono (by omega) (by omega)⟩
    have hb := hb.symm
    rw [Bool.or_eq_false_iff] at hb
    have hne := of_decide_eq_false hb.1
    have hlt : at_ < (es.length : Int) := by omega
    have hix : atI es at_ = some (es.getD at_.toNat .none) := by
      have : at_.toNat < es.length := by omega
      rw [show at_ = ((at_.toNat : Nat) : Int) from by omega]
      exact atD this rfl
    have hsd : SD (bnd n i) (es.getD at_.toNat .none) := hes.2 _ (getD_mem (by omega))
    refine bd_ifD (dt_eqI (de_var (i := 4) rfl (pv 4)) de_int) (fun hb2 => ?_) (fun hb2 => ?_)
    · -- _law_found.pop(_law_at)
      refine bd_popAt (i := 2) (pv 2) rfl (de_var (i := 5) rfl (pv 5)) ⟨hat1, hlt⟩ (by omega) ?_
      refine bd_end (bd_end (bd_nil fun _ _ h' => ⟨_, _, ?_, h'⟩))
      exact ⟨p, _, _, _, _, _, _, _, rfl, rfl, (hes.era _).mono (by omega) (by omega)⟩
    refine bd_ifD (dt_eqI (de_var (i := 4) rfl (pv 4)) de_int) (fun hb3 => ?_) (fun hb3 => ?_)
    · -- _law_found.insert(_law_at, _law_found[_law_at])
      refine bd_insert (i := 2) (n := bnd n i) (pv 2) rfl (de_var (i := 5) rfl (pv 5)) (evp_of (de_ixL (ds := es) (de_var (i := 2) rfl (pv 2)) (de_var (i := 5) rfl (pv 5)) hix) hsd) ⟨hat1, by omega⟩ (Nat.lt_of_le_of_lt (by omega : es.length ≤ 20000) (by decide)) (fun y hy => ?_)
      refine bd_end (bd_end (bd_end (bd_nil fun _ _ h' => ⟨_, _, ?_, h'⟩)))
      exact ⟨p, _, _, _, _, _, _, _, rfl, rfl, (hes.ins hy _).mono (by omega) (by omega)⟩
    refine bd_if (Pt := fun _ => True) (EvW.t (evw_and (P := fun _ => True) (Pa := fun _ => True) (Pb := fun _ => True) (EvT.imp ((dt_eqI (de_var (i := 4) rfl (pv 4)) de_int) _) fun _ _ => True.intro) (fun _ => evw_one (EvT.imp (evt_eqI (evp_draw (i := 0) g (hr.mono (by decide)) rfl (pv 0) (de_int (i := 3))) (de_int (i := 0))) fun _ _ => True.intro)) (fun _ => True.intro) (fun _ _ _ => True.intro))) (fun _ => ?_) (fun _ => ?_)
    · -- _law_found = _law_found[:_law_at]
      refine bd_frz (i := 2) rfl ?_
      refine bd_setN (i := 2) ((dn_slL (ds := es) (l := none) (u := some at_) (de_var (i := 2) rfl (pv 2)) do_none (do_some (de_var (i := 5) rfl (pv 5)))) _) fun p' es' e' => ?_
      refine bd_end (bd_end (bd_end (bd_end (bd_nil fun _ _ h' => ⟨_, _, ?_, h'⟩))))
      exact ⟨p', es', _, _, _, _, _, _, rfl, rfl, by rw [e']; exact (cutD_ld hes _ _).mono (by omega) (by omega)⟩
    have j0 : SD 1 (.str (" " : Str)) := sd_lit (by decide +kernel)
    have j1 : SD 1 (.str ("0" : Str)) := sd_lit (by decide +kernel)
    have j2 : SD 1 (.str ("1" : Str)) := sd_lit (by decide +kernel)
    have j3 : SD 1 (.str ("a" : Str)) := sd_lit (by decide +kernel)
    have j4 : SD 1 (.str ("." : Str)) := sd_lit (by decide +kernel)
    have j5 : SD 1 (.str ("," : Str)) := sd_lit (by decide +kernel)
    have j6 : SD 1 (.str (":" : Str)) := sd_lit (by decide +kernel)
    have j7 : SD 1 (.str ("|" : Str)) := sd_lit (by decide +kernel)
    have j8 : SD 1 (.str ("-" : Str)) := sd_lit (by decide +kernel)
    have j9 : SD 1 (.str ("~" : Str)) := sd_lit (by decide +kernel)
    have j10 : SD 1 (.str ("B" : Str)) := sd_lit (by decide +kernel)
    have j11 : SD 1 (.str ("" : Str)) := sd_lit (by decide +kernel)
    obtain ⟨x, hx, ex⟩ := hsd
    rw [ex] at hix
    have hx1 := hx.1
    refine bd_setL (i := 6) (j := 2) (P := fun r => r = .d (.str x)) rfl ((de_ixL (ds := es) (d := .str x) (de_var (i := 2) rfl (pv 2)) (de_var (i := 5) rfl (pv 5)) hix) _) (fun r er => ⟨_, .str x, er, rfl⟩) (fun r er => ?_)
    subst er
    refine bd_set (i := 7) (evp_draw (i := 0) g (hr.mono (by decide)) rfl (pv 0) (de_addI (de_lenS (x' := "") (de_var (i := 6) rfl (pv 6)) (sz (by omega)) B.len) de_int) (by omega)) (fun r ⟨d1, ⟨pl, hpl, e1⟩, er⟩ => ?_)
    subst e1 er
    refine bd_set (i := 8) (evp_pickR (i := 0) (Pe := SD 1) gp (hr.mono (by decide)) rfl (pv 0) 11 ⟨evp_of de_str j0, rfl, evp_of de_str j1, rfl, evp_of de_str j2, rfl, evp_of de_str j3, rfl, evp_of de_str j4, rfl, evp_of de_str j5, rfl, evp_of de_str j6, rfl, evp_of de_str j7, rfl, evp_of de_str j8, rfl, evp_of de_str j9, rfl, evp_of de_str j10, rfl, True.intro⟩) (fun r ⟨d1, ⟨sn, hsn, e1⟩, er⟩ => ?_)
    subst e1 er
    refine bd_store (i := 2) (n := 2 * bnd n i + 1) (pv 2) rfl (de_var (i := 5) rfl (pv 5)) (EvP.sd (evp_addS (evp_addS (evp_sl (n := bnd n i) (evp_of (de_var (i := 6) rfl (pv 6)) ⟨x, hx, rfl⟩) evo_none (evo_z (Pz := fun _ => True) (evp_of (de_var (i := 7) rfl (pv 7)) ⟨pl, True.intro, rfl⟩)) (by omega)) (evp_pickR (i := 0) (Pe := SD 1) gp (hr.mono (by decide)) rfl (pv 0) 2 ⟨evp_of (de_var (i := 8) rfl (pv 8)) ⟨sn, hsn, rfl⟩, rfl, evp_of de_str j11, rfl, True.intro⟩) (by omega))
      (evp_sl (n := bnd n i) (evp_of (de_var (i := 6) rfl (pv 6)) ⟨x, hx, rfl⟩) (evo_z (Pz := fun _ => True) (evp_addI (Pa := fun _ => True) (Pb := DrawR 2) (evp_of (de_var (i := 7) rfl (pv 7)) ⟨pl, True.intro, rfl⟩) (evp_draw (i := 0) g (hr.mono (by decide)) rfl (pv 0) (de_int (i := 2))) fun _ _ _ _ => True.intro)) evo_none (by omega)) (by omega)) (by omega)) ⟨hat1, hlt⟩ (fun y hy => ?_)
    refine bd_end (bd_end (bd_end (bd_end (bd_nil fun _ _ h' => ⟨_, _, ?_, h'⟩))))
    exact ⟨p, _, _, _, _, _, _, _, rfl, rfl, ((hes.mono (by omega) (Nat.le_refl _)).put hy _).mono (by omega) (by omega)⟩
  · rintro I1 bs ds0 G' L' ⟨j, hj, rfl⟩ ⟨p, es, r3, r4, r5, r6, r7, r8, rfl, rfl, hes⟩
    rw [List.length_map, List.length_range] at hes
    refine bd_frz (i := 2) rfl ?_
    refine bd_retD (P := R) (de_var (i := 2) rfl (pv 2)) (hP _ ⟨es, hes.mono (bnd_le n j hj) (by omega), rfl⟩) (hq.bs bs)
end
end QL
namespace QL
open PySem PySem.Spec PyProof.Rows L2
/-! ### _law_state -/
/-- a row of whole numbers, wherever it stands -/
theorem walks_sql {K : PySem.W.Frag} {I : Hp} {a : Addr} {ns : List Int} (h : SqL K I a (ns.map V.int)) : WalksD I (Itl K a) (ns.map PyData.int) where
  go := fun i H s hi => by
    have hi' : i < (ns.map V.int).length := by simpa using hi
    exact ⟨ns.map V.int, (ns.map V.int)[i], s.seq h, List.getElem?_eq_getElem hi'⟩
  yld := fun i H x H' s y => ⟨y.1, fun d g => by
    obtain ⟨n, hn, rfl⟩ := getq_map g
    have e := y.2 _ (s.seq h)
    rw [List.getElem?_map, hn] at e
    cases e
    exact .int n⟩
  stop := fun i H s hi => ⟨ns.map V.int, s.seq h, by simpa using hi⟩
theorem evi_q {X : Cx} {C : Cs} {G : List Sl} {tg : Expr} {x : Str} {p : Pos} {i : Nat} {a : Addr} {ns : List Int} (hG : G[i]? = some (.q X.K a (ns.map V.int))) (hp : PE X (.Name x p) (tVar i)) : EvI X C tg (.Name x p) G (· = ns.map PyData.int) :=
  ⟨_, pi_list pe_wp, fun σ I H R hE hS hC q => ev_var hG (fun z => by cases z) hp σ I H _ hE hS hC fun v I1 H1 r pr x1 c o => by
    subst pr
    obtain ⟨rfl, hs⟩ := o
    exact ⟨_, rfl, ⟨_, x1.sub.seq hs⟩, q _ I1 H1 _ rfl x1 c (walks_sql hs)⟩⟩
theorem di_q {X : Cx} {G : List Sl} {tg : Expr} {x : Str} {p : Pos} {i : Nat} {a : Addr} {ns : List Int} (hG : G[i]? = some (.q X.K a (ns.map V.int))) (hp : PE X (.Name x p) (tVar i)) : DI X tg (.Name x p) G (ns.map PyData.int) := fun _ => evi_q hG hp
def spState (K : PySem.W.Frag) : Sp := fun vs H Q _ => ∃ (a : Addr) (ns : List Int), vs = [.ref a] ∧ SqL K H a (ns.map V.int) ∧ ns.length ≤ 1000 ∧ ∀ s c I' H', Ext none H H I' H' → StOk (some (s, c)) I' H' → Q (.ref s) H'
def absI (n : Int) : Int := if n < 0 then -n else n
section
variable {P : Program} {w : World} {K : PySem.W.Frag} {mg : Str → Option Value} {base : Heap} {f : Addr} {fd : FuncData}
theorem ok_law_state (B : Bt mg) (D : Df K mg "_law_state" s_law_state ["_law_script"] f fd) : FnOk P w K mg base CX0 1 f fd ["_law_script"] (spState K) := by
  refine D.1.ok c_law_state (fun vs H Q E h => ?_) (fun cdv A outer s₀ H vs Q E hr h => ?_)
  · obtain ⟨a, ns, rfl, _⟩ := h; rfl
  obtain ⟨a, ns, rfl, hS, hn, hQ⟩ := h
  have nd := c_law_state.nd
  refine ⟨wpS _ _, pss_wp, ?_⟩
  have key : ∀ (D : Ends), D.rt = Q → Bd (cxOf CX0 P w K mg base n_law_state "_law_state" (defScope s_law_state) f cdv A outer s₀ H E).nox none H H (defBody s_law_state) [.q K a (ns.map V.int), .no, .no] none D := fun D eD => by
    refine bd_setD (i := 1) (de_int (i := 7)) ?_
    refine bd_for (j := 2) PassesOwn.never rfl (evi_q (i := 0) rfl (pv 0)) (pg_name (i := 2) nd rfl (Or.inl rfl))
      (fun _ i G' L' => ∃ (z : Int) (r2 : Sl), G' = [.q K a (ns.map V.int), .d (.int z), r2] ∧ L' = none ∧ 0 ≤ z ∧ z < 1000003) ?_ ?_ ?_
    · rintro ds0 _
      exact ⟨7, .no, rfl, rfl, by decide, by decide⟩
    · rintro I1 bs ds0 i d G' L' rfl hd ⟨z, r2, rfl, rfl, hz0, hz1⟩ bk
      obtain ⟨n, hn', rfl⟩ := getq_map hd
      refine bd_setD (i := 1) (de_modI (de_intI (de_addI (de_mulI (de_var (i := 1) rfl (pv 1)) (de_int (i := 31)) (Or.inr ⟨by decide, by decide⟩)) (de_var (i := 2) rfl (pv 2))) B.int) (de_int (i := 1000003)) (by decide)) ?_
      have hm := fmod_lt (a := z * 31 + n) (m := 1000003) (by decide)
      exact bd_nil fun _ _ h' => ⟨_, _, ⟨_, _, rfl, rfl, hm.1, hm.2⟩, h'⟩
    · rintro I1 bs ds0 G' L' rfl ⟨z, r2, rfl, rfl, hz0, hz1⟩
      rintro σ H1 ⟨I, hE, hx, hc, hl⟩
      refine of_pss (pss_cons (ps_ret (pe_lst (pa_cons pe_wp (pa_cons pe_wp pa_nil)))) (pss_wp (st := []))) ?_
      refine (DLc.n (dlc0 (j := 2) (x := "_law_cell") PyData.int ns (fun n => .int (absI n)) (di_q (i := 0) rfl (pv 0)) (sz (by omega)) (blkOk_by (N := n_law_state) (sc := defScope s_law_state) (by decide +kernel)) (fun _ _ _ _ _ => pg_name (i := 2) nd rfl (Or.inl rfl)) (fun y hy _ _ _ _ _ => de_abs (de_var (i := 2) rfl (pv 2)) B.abs))) none σ I H1 _ hE hx.sub trivial fun c xs I3 H3 ds e x3 c3 n3 n3' l3 d3 => ?_
      refine (de_addI (de_var (i := 1) (d := .int z) rfl (pv 1)) (de_int (i := 1))) none σ I3 H3 _ (hE.mono x3.im) x3.sub trivial fun u I4 H4 r er x4 c4 o4 => ?_
      subst er e
      cases o4
      have h3n : H3 c ≠ none := by rw [l3]; exact fun z => by cases z
      have l4 : H4 c = some (.lst xs) := x4.keep _ _ (fun z => z) l3
      have i4 : I4 c = none := x4.out n3' h3n
      refine ⟨(show 2 ≤ sizeLine by decide), fun p hp => ?_⟩
      rw [eD]
      have xx := ((bs.ext hx).trans x3).trans x4
      have pc : p ≠ c := fun e => by rw [e, l4] at hp; cases hp
      have ex : xs = (ns.map absI).map V.int := by
        have d3' : DqAll I3 xs ((ns.map absI).map PyData.int) := by rw [List.map_map]; exact d3
        exact d3'.ints_inv
      have p4 : I4 p = none := x4.sub.free hp
      exact hQ p c I4 _ (xx.updNew (xx.free hp) p4) ⟨pc, p4, i4, z + 1, ns.map absI, upd_same, by rw [upd_ne (Ne.symm pc), l4, ex], by omega, by omega⟩
  exact key _ rfl _ _ ⟨H, EnvOk.start (rs := [.q K a (ns.map V.int)]) (.cons ⟨rfl, hS⟩ .nil), Ext.refl (Same.refl H), trivial, trivial⟩
end
end QL
namespace QL
open PySem PySem.Spec PyProof.Rows L2
/-! ### what is read may be laid; the end of the law, in plain terms -/
theorem lay_idnW {i : Idn} (h : IdOk i) : i.d.canLay0 = true ∧ i.d.depth ≤ 8 := ⟨(lay_idn h.2.1).1, by rw [(lay_idn h.2.1).2]; decide⟩
theorem lay_str {x : Str} (h : PyData.strOk x = true) : (PyData.str x).canLay0 = true ∧ (PyData.str x).depth ≤ 8 := ⟨h, Nat.zero_le _⟩
theorem lay_lit {x : Str} (h : PyData.strOk x = true := by decide +kernel) : (PyData.str x).canLay0 = true ∧ (PyData.str x).depth ≤ 8 := lay_str h
theorem lay_cg {c : Cg} (h : CgOk c) (ht : ∀ t ∈ c.ts, PyData.strOk t = true) : c.d.canLay0 = true ∧ c.d.depth ≤ 9 := by
  obtain ⟨c0, ts⟩ := c
  obtain ⟨h0, _, _⟩ := h
  have ts' : (PyData.list (ts.map .str)).canLay0 = true ∧ (PyData.list (ts.map .str)).depth ≤ 8 := by
    have := lay_list (ds := ts.map PyData.str) (n := 0) fun d hd => by
      obtain ⟨x, hx, rfl⟩ := List.mem_map.mp hd
      exact ⟨ht x hx, Nat.zero_le _⟩
    exact ⟨this.1, Nat.le_trans this.2 (by decide)⟩
  have two : ∀ {a b : PyData}, (a.canLay0 = true ∧ a.depth ≤ 8) → (b.canLay0 = true ∧ b.depth ≤ 8) → (PyData.tuple [a, b]).canLay0 = true ∧ (PyData.tuple [a, b]).depth ≤ 9 := fun ha hb => lay_tup (n := 8) (by simp only [List.mem_cons, List.not_mem_nil, or_false, forall_eq_or_imp, forall_eq]; exact ⟨ha, hb⟩)
  have three : ∀ {a b c : PyData}, (a.canLay0 = true ∧ a.depth ≤ 8) → (b.canLay0 = true ∧ b.depth ≤ 8) → (c.canLay0 = true ∧ c.depth ≤ 8) → (PyData.tuple [a, b, c]).canLay0 = true ∧ (PyData.tuple [a, b, c]).depth ≤ 9 := fun ha hb hc => lay_tup (n := 8) (by simp only [List.mem_cons, List.not_mem_nil, or_false, forall_eq_or_imp, forall_eq]; exact ⟨ha, hb, hc⟩)
  have four : ∀ {a b c d : PyData}, (a.canLay0 = true ∧ a.depth ≤ 8) → (b.canLay0 = true ∧ b.depth ≤ 8) → (c.canLay0 = true ∧ c.depth ≤ 8) → (d.canLay0 = true ∧ d.depth ≤ 8) → (PyData.tuple [a, b, c, d]).canLay0 = true ∧ (PyData.tuple [a, b, c, d]).depth ≤ 9 := fun ha hb hc hd => lay_tup (n := 8) (by simp only [List.mem_cons, List.not_mem_nil, or_false, forall_eq_or_imp, forall_eq]; exact ⟨ha, hb, hc, hd⟩)
  have five : ∀ {a b c d e : PyData}, (a.canLay0 = true ∧ a.depth ≤ 8) → (b.canLay0 = true ∧ b.depth ≤ 8) → (c.canLay0 = true ∧ c.depth ≤ 8) → (d.canLay0 = true ∧ d.depth ≤ 8) → (e.canLay0 = true ∧ e.depth ≤ 8) → (PyData.tuple [a, b, c, d, e]).canLay0 = true ∧ (PyData.tuple [a, b, c, d, e]).depth ≤ 9 := fun ha hb hc hd he => lay_tup (n := 8) (by simp only [List.mem_cons, List.not_mem_nil, or_false, forall_eq_or_imp, forall_eq]; exact ⟨ha, hb, hc, hd, he⟩)
  cases c0 with
  | add p => exact two (lay_lit (x := "add")) (lay_path h0)
  | back i => exact two (lay_lit (x := "back")) (lay_idnW h0)
  | drop f o => exact three (lay_lit (x := "drop")) (lay_vx' h0.1) (lay_vxs h0.2.2)
  | move f p o => exact four (lay_lit (x := "move")) (lay_vx' h0.1) (lay_path h0.2.1) (lay_vxs h0.2.2.2)
  | cut f o => exact three (lay_lit (x := "cut")) (lay_vx' h0.1) (lay_vxs h0.2.2)
  | order f a b => exact four (lay_lit (x := "order")) (lay_vx' h0.1) (lay_vx' h0.2.1) (lay_vx' h0.2.2)
  | lines f u d n => exact five (lay_lit (x := "lines")) (lay_vx' h0.1) (lay_vxs h0.2.1.2) (lay_vxs h0.2.2.1.2) ts'
theorem ok_tail {n : Nat} {a x : Str} (h : StrW n (a ++ x)) : PyData.strOk x = true := ok_chars fun c hc => h.2 c (by rw [tl_app]; exact List.mem_append_right _ hc)
theorem lay_pt {n : Nat} {p : Pt} (h : PtOk p) (hl : ∀ l ∈ showPt p, StrW n l) : p.d.canLay0 = true ∧ p.d.depth ≤ 11 := by
  obtain ⟨h1, _, h3, _⟩ := h
  have hn : PyData.strOk p.note = true := ok_tail (hl _ (List.mem_cons_of_mem _ List.mem_cons_self))
  have hc : ∀ c ∈ p.cs, c.d.canLay0 = true ∧ c.d.depth ≤ 9 := fun c hc => lay_cg (h3 c hc) fun t ht => by
    have : ("|" ++ t) ∈ showPt p := List.mem_cons_of_mem _ (List.mem_cons_of_mem _ (List.mem_append_left _ (List.mem_flatMap.mpr ⟨c, hc, List.mem_cons_of_mem _ (List.mem_map.mpr ⟨t, ht, rfl⟩)⟩)))
    exact ok_tail (hl _ this)
  have hcs := lay_list (ds := p.cs.map Cg.d) (n := 9) fun d hd => by
    obtain ⟨x, hx, rfl⟩ := List.mem_map.mp hd
    exact hc x hx
  exact lay_tup (ds := [.str "patch", p.id.d, .list (p.cs.map Cg.d), .str p.note]) (n := 10) (by
    simp only [List.mem_cons, List.not_mem_nil, or_false, forall_eq_or_imp, forall_eq]
    exact ⟨⟨by decide +kernel, Nat.zero_le _⟩, ⟨(lay_idnW h1).1, Nat.le_trans (lay_idnW h1).2 (by decide)⟩, hcs, ⟨hn, Nat.zero_le _⟩⟩)
theorem layOk_ls {n : Nat} {ls : List Str} (h : ∀ l ∈ ls, StrW n l) : LayOk (.list (ls.map .str)) := by
  have := lay_list (ds := ls.map PyData.str) (n := 0) fun d hd => by
    obtain ⟨x, hx, rfl⟩ := List.mem_map.mp hd
    exact ⟨ok_chars (h x hx).2, Nat.zero_le _⟩
  exact ⟨this.1, Nat.le_trans this.2 (by decide)⟩
theorem layOk_pts {n : Nat} {ls : List Str} {ps : List Pt} (h : ∀ l ∈ ls, StrW n l) (hp : ∀ p ∈ ps, PtOk p) (e : ps.flatMap showPt = ls) : LayOk (.list (ps.map Pt.d)) := by
  have := lay_list (ds := ps.map Pt.d) (n := 11) fun d hd => by
    obtain ⟨p, hx, rfl⟩ := List.mem_map.mp hd
    exact lay_pt (hp p hx) fun l hl => h l (by rw [← e]; exact List.mem_flatMap.mpr ⟨p, hx, hl⟩)
  exact ⟨this.1, Nat.le_trans this.2 (by decide)⟩
theorem layOk_opt (o : Option Nat) : LayOk (optD inat o) := by cases o <;> exact ⟨rfl, Nat.zero_le _⟩
theorem eqv_same {d : PyData} (h : LayOk d) : PyData.eqv d d = true := PySem.SeqAt.eqv_refl d h.1
/-- THE PLAIN LAW, as the law's own end asks it -/
theorem law_end (ls : List Str) : ∃ (oa o1 : Option Nat) (ps qs : List Pt), allD ls = .tuple [optD inat oa, .list (ps.map Pt.d)] ∧ firstD ls = .tuple [optD inat o1, .list (qs.map Pt.d)] ∧ oa = (fm 0 0 0 0 [] ls).1 ∧
    ((fm 0 0 0 0 [] ls).1 = none → ps.flatMap showPt = ls ∧ ∀ p ∈ ps, PtOk p) ∧
    ((fm 0 0 0 0 [] ls).1 = none → (fm 0 0 0 0 [] ls).2.length = 1 → o1 = none ∧ qs = ps) ∧
    (¬ ((fm 0 0 0 0 [] ls).1 = none ∧ (fm 0 0 0 0 [] ls).2.length = 1) → ∀ e t, (fm 0 0 0 0 [] ls).2 = e :: t → o1 = some e) ∧
    ((fm 0 0 0 0 [] ls).2 = [] → o1 = some ((fm 0 0 0 0 [] ls).1.getD 0)) := by
  obtain ⟨h1, h2, h3, h4⟩ := law_plain ls
  generalize fm 0 0 0 0 [] ls = r at h1 h2 h3 h4 ⊢
  unfold allD firstD
  cases ha : readAll ls ls.length 0 with
  | error j =>
    rw [ha] at h1 h2
    dsimp only at h1 ⊢
    cases hf : readPatch ls with
    | error e =>
      rw [hf] at h2 h3 h4
      refine ⟨some j, some e, [], [], rfl, rfl, h1.symm, fun z => (by rw [h1] at z; cases z), fun z => (by rw [h1] at z; cases z), fun n e' t he => ?_, fun he => ?_⟩
      · have := h3 n e' t he; cases this; rfl
      · have := h4 he; cases this; rfl
    | ok p =>
      rw [hf] at h2 h3 h4
      refine ⟨some j, none, [], [p], rfl, rfl, h1.symm, fun z => (by rw [h1] at z; cases z), fun z => (by rw [h1] at z; cases z), fun n e' t he => ?_, fun he => ?_⟩
      · cases h3 n e' t he
      · cases h4 he
  | ok ps =>
    rw [ha] at h1 h2
    dsimp only at h1 ⊢
    have hsh := readAll_ok (Nat.le_of_eq (Nat.sub_zero _)) ha
    rw [List.drop_zero] at hsh
    cases hf : readPatch ls with
    | error e =>
      rw [hf] at h2 h3 h4
      refine ⟨none, some e, ps, [], rfl, rfl, h1.symm, fun _ => hsh, fun z l => ?_, fun n e' t he => ?_, fun he => ?_⟩
      · obtain ⟨p, _, h⟩ := h2 z l; cases h
      · have := h3 n e' t he; cases this; rfl
      · have := h4 he; cases this; rfl
    | ok p =>
      rw [hf] at h2 h3 h4
      refine ⟨none, none, ps, [p], rfl, rfl, h1.symm, fun _ => hsh, fun z l => ⟨rfl, ?_⟩, fun n e' t he => ?_, fun he => ?_⟩
      · obtain ⟨q, e1, e2⟩ := h2 z l; cases e1; cases e2; rfl
      · cases h3 n e' t he
      · cases h4 he
end QL
namespace QL
open PySem PySem.Spec PyProof.Rows L2
/-! ### the law -/
def OkS (P : Program) (w : World) (K : PySem.W.Frag) (mg : Str → Option Value) (base : Heap) : Prop :=
  ∃ f fd, mg "_law_state" = some (.ref f) ∧ PySem.W.keepIn K (.ref f) = true ∧ Binds K fd ["_law_script"] [] ∧ FnOk P w K mg base CX0 1 f fd ["_law_script"] (spState K)
theorem bd_go {X : Cx} {C : Cs} {I H : Hp} {st : List Stmt} {G : List Sl} {D : Ends} {σ : L2.St} (b : Bd X C I H st G none D) (hE : EnvOk σ G I) (hS : Same I H) (hC : StOk C I H) : wpS X st D σ H := b σ H ⟨I, hE, Ext.refl hS, hC, trivial⟩
def spLaw (K : PySem.W.Frag) : Sp := fun vs H Q _ => ∃ (a : Addr) (ns : List Int), vs = [.ref a] ∧ SqL K H a (ns.map V.int) ∧ ns.length ≤ 63 ∧ ∀ H', Q (.bl true) H'
abbrev lawK : Nat := 20
section
variable {P : Program} {w : World} {K : PySem.W.Frag} {mg : Str → Option Value} {base : Heap} {f : Addr} {fd : FuncData}
theorem ok_law (B : Bt mg) (gs : OkS P w K mg base) (gd : GDraw P w K mg base) (gpa : Ok P w K mg base 8 "_law_patch" ["_law_state_here"] F_law_patch) (gsh : Ok P w K mg base 4 "_law_show_patch" ["_law_patch_here"] F_law_show_patch)
    (gt : Ok P w K mg base 3 "_law_turned" ["_law_state_here", "_law_lines"] F_law_turned) (gf : Ok P w K mg base 6 "_law_fault" ["_law_lines"] F_law_fault) (ga : Ok P w K mg base 11 "_law_all" ["_law_lines"] F_law_all) (g1 : Ok P w K mg base 11 "_law_first" ["_law_lines"] F_law_first)
    (gsp : Ok P w K mg base 7 "show_patches" ["patches"] F_show_patches) (D : Df K mg "law" s_law ["_law_script"] f fd) : FnOk P w K mg base CX0 lawK f fd ["_law_script"] (spLaw K) := by
  refine D.1.ok (k := 19) c_law (fun vs H Q E h => ?_) (fun cdv A outer s₀ H vs Q E hr h => ?_)
  · obtain ⟨a, ns, rfl, _⟩ := h; rfl
  obtain ⟨a, ns, rfl, hS, hn, hQ⟩ := h
  have nd := c_law.nd
  refine ⟨wpS _ _, pss_wp, ?_⟩
  have u65 := room65 hr
  obtain ⟨fs, fds, e1, e2, e3, e4⟩ := gs
  refine of_pss (pss_cons (ps_set (i := 1) nd rfl (Or.inl rfl) (pe_call e4 (hr.mono (by decide)) rfl e1 e2 e3 .nil pass0 (pa_cons (pv 0) pa_nil))) (pss_wp (st := _))) ?_
  refine ⟨.ref a, rfl, ?_⟩
  refine ⟨a, ns, rfl, hS, Nat.le_trans hn (by decide), fun s c I1 H1 x1 st1 => ?_⟩
  refine bd_go (C := some (s, c)) (I := I1) (G := [.no, .v (.ref s), .no, .no, .no, .no, .no, .no, .no, .no, .no]) ?_ (EnvOk.set (G := [.no, .no, .no, .no, .no, .no, .no, .no, .no, .no, .no]) (r := .v (.ref s)) 1 (EnvOk.start (N := n_law) (vs := [.ref a]) (rs := [.no]) (.cons trivial .nil)) rfl) x1.sub st1
  have hq : RtOk (some (s, c)) I1 H1 (fun r => r = .d (.bool true)) Q := fun v I' H' r p x c o => by
    subst p
    cases o
    exact hQ H'
  refine bd_setD (i := 2) (de_frz (dn_lst (ds := []) da_nil)) ?_
  refine bd_for (j := 3) PassesOwn.never rfl (evi_rngZ (n := 2) (Pz := fun k => 0 ≤ k ∧ k ≤ 2) (evp_addI (Pa := (· = 1)) (Pb := DrawR 2) (evp_of de_int ⟨1, rfl, rfl⟩) (evp_draw (i := 1) gd (hr.mono (by decide)) rfl (pv 1) (de_int (i := 2))) fun i j e1 hk => by
      have h1 := hk.1
      have h2 := hk.2
      omega) (fun k hk => hk) (by decide) B.range) (pg_name (i := 3) nd rfl (Or.inl rfl))
    (fun _ i G' L' => ∃ (ds : List PyData) (r3 : Sl), G' = [.no, .v (.ref s), .d (.list ds), r3, .no, .no, .no, .no, .no, .no, .no] ∧ L' = none ∧ LD 2100 (100 * i) ds) ?_ ?_ ?_
  · rintro ds0 _
    exact ⟨[], .no, rfl, rfl, Nat.zero_le _, fun d h => by cases h⟩
  · rintro I2 bs ds0 i d G' L' ⟨j, hj, rfl⟩ hd ⟨ds, r3, rfl, rfl, hds⟩ bk
    have hi : i < 2 := by
      have := (List.getElem?_eq_some_iff.mp hd).1
      rw [List.length_map, List.length_range] at this
      omega
    refine bd_set (i := 2) (Pe := fun r => ∃ d, ListD 2100 (100 * i + 100) d ∧ r = .d d) (evp_ld (evn_cat (n := 2100) (m := 100 * i) (k := 100) (evp_of (de_var (i := 2) rfl (pv 2)) ⟨ds, hds, rfl⟩) (ev_fn (Pa := fun rs => ∃ p : Pt, PtW p ∧ rs = [.d p.d]) gsh (hr.mono (by decide)) (eva_cons (P1 := fun r => ∃ p : Pt, PtW p ∧ r = .d p.d) (ev_fn gpa (hr.mono (by decide)) (eva_st (i := 1) (Ps := (· = [])) rfl (pv 1) (evpa_nil rfl)) (fun rs ⟨es, e1, e2⟩ => ⟨s, c, rfl, by rw [e2, e1]; rfl, fun d ⟨p, h1, h2⟩ => ⟨p, h1, by rw [h2]⟩⟩)) eva_nil (fun x xs ⟨p, h1, h2⟩ e => ⟨p, h1, by rw [h2, e]⟩)) (fun rs ⟨p, h1, h2⟩ => ⟨p, h2, h1, fun d hd => ⟨d, hd, rfl⟩⟩)) (by omega))) (fun r ⟨d, ⟨es, he, e1⟩, er⟩ => ?_)
    subst e1 er
    exact bd_nil fun _ _ h' => ⟨_, _, ⟨es, _, rfl, rfl, he⟩, h'⟩
  · rintro I2 bs ds0 G' L' ⟨j, hj, rfl⟩ ⟨ds, r3, rfl, rfl, hds⟩
    rw [List.length_map, List.length_range] at hds
    have hq := hq.bs bs
    refine bd_set (i := 2) (Pe := fun r => ∃ d, ListD (8 * 2100 + 7) (200 + 3) d ∧ r = .d d) (ev_fn gt (hr.mono (by decide)) (eva_st (i := 1) (Ps := (· = [.list ds])) rfl (pv 1) (evpa_cons (P1 := (· = .list ds)) (Ps := (· = [])) (evp_of (de_var (i := 2) rfl (pv 2)) rfl) (evpa_nil rfl) (fun x xs e1 e2 => by rw [e1, e2])))
      (fun rs ⟨es, e1, e2⟩ => ⟨s, c, 2100, 200, ds, rfl, by rw [e2, e1]; rfl, hds.mono (Nat.le_refl _) (by omega), by decide, by decide, by decide, fun d hd => ⟨d, hd, rfl⟩⟩)) (fun r ⟨d, ⟨es, he, e1⟩, er⟩ => ?_)
    obtain ⟨ls, els, hw⟩ := strs_of he.2
    subst e1 er els
    have hlen : ls.length ≤ 203 := by have := he.1; rwa [List.length_map] at this
    have hls : LinesOk ls := ⟨by omega, fun l hl => by have := (hw l hl).1; omega⟩
    have lay := layOk_ls hw
    obtain ⟨oa, o1, ps, qs, hall, hfirst, hoa, p1, p2, p3, p4⟩ := law_end ls
    refine bd_setD (i := 4) (d := .list (ls.map .str)) (de_frz (dn_list (de_var (i := 2) rfl (pv 2)) rfl B.list)) ?_
    refine bd_un2D (i := 5) (j := 6) (u := optD inat (fm 0 0 0 0 [] ls).1) (w := .list ((fm 0 0 0 0 [] ls).2.map inat)) (de_fn gf (hr.mono (by decide)) (da_cons (de_var (i := 2) rfl (pv 2)) da_nil) (fun C => ⟨ls, rfl, hls, fun r e => e⟩)) ?_ (pg_name (i := 5) nd rfl (Or.inl rfl)) (pg_name (i := 6) nd rfl (Or.inl rfl))
    refine bd_un2D (i := 7) (j := 8) (u := optD inat oa) (w := .list (ps.map Pt.d)) (de_fn ga (hr.mono (by decide)) (da_cons (de_var (i := 2) rfl (pv 2)) da_nil) (fun C => ⟨ls, rfl, hls, fun r e => by rw [e, hall]⟩)) ?_ (pg_name (i := 7) nd rfl (Or.inl rfl)) (pg_name (i := 8) nd rfl (Or.inl rfl))
    refine bd_un2D (i := 9) (j := 10) (u := optD inat o1) (w := .list (qs.map Pt.d)) (de_fn g1 (hr.mono (by decide)) (da_cons (de_var (i := 2) rfl (pv 2)) da_nil) (fun C => ⟨ls, rfl, hls, fun r e => by rw [e, hfirst]⟩)) ?_ (pg_name (i := 9) nd rfl (Or.inl rfl)) (pg_name (i := 10) nd rfl (Or.inl rfl))
    subst hoa
    clear hall hfirst
    generalize fm 0 0 0 0 [] ls = r at p1 p2 p3 p4 ⊢
    obtain ⟨due, ends⟩ := r
    dsimp only at p1 p2 p3 p4 ⊢
    show Bd _ _ I2 H1 _ [.no, .v (.ref s), .d (.list (ls.map .str)), r3, .d (.list (ls.map .str)), .d (optD inat due), .d (.list (ends.map inat)), .d (optD inat due), .d (.list (ps.map Pt.d)), .d (optD inat o1), .d (.list (qs.map Pt.d))] none _
    have isn : ∀ o : Option Nat, isNon (optD inat o) = o.isNone := fun o => by cases o <;> rfl
    refine bd_whenD (k := false) (DT.is (DW.t (dw_or (k := false) (j := false) (DT.is (dt_neDt u65 (de_var (i := 2) rfl (pv 2)) (de_var (i := 4) rfl (pv 4)) lay lay) (by rw [eqv_same lay]; rfl)) fun _ =>
      dw_or (k := false) (j := false) (DT.is (dt_neDt u65 (de_var (i := 7) rfl (pv 7)) (de_var (i := 5) rfl (pv 5)) (layOk_opt due) (layOk_opt due)) (by rw [eqv_same (layOk_opt due)]; rfl)) fun _ =>
      dw_one (DT.is (b' := false) (DW.t (dw_and (j := false) (dt_isN (de_var (i := 5) rfl (pv 5))) fun hn => dw_one (DT.is (dt_neDt u65 (d := .list (ls.map .str)) (de_fn gsp (hr.mono (by decide)) (da_cons (de_var (i := 8) rfl (pv 8)) da_nil) (fun C => by
        rw [isn] at hn
        have hd := Option.isNone_iff_eq_none.mp hn
        obtain ⟨q1, q2⟩ := p1 hd
        exact ⟨ps, rfl, q2, by rw [q1]; omega, fun r e => by rw [e, q1]⟩)) (de_var (i := 2) rfl (pv 2)) lay lay) (by rw [eqv_same lay]; rfl)))) (by rw [Bool.and_false])))) rfl) (fun z => by cases z) fun _ => ?_
    refine bd_whenD (DW.t (dw_and (dt_isN (de_var (i := 5) rfl (pv 5))) fun _ => dw_one (dt_eqI (de_lenL (ds := ends.map inat) (de_var (i := 6) rfl (pv 6)) rfl B.len) (de_int (i := 1))))) (fun hb => ?_) (fun hb => ?_)
    · rw [Bool.and_eq_true, isn] at hb
      have hd := Option.isNone_iff_eq_none.mp hb.1
      have hl := of_decide_eq_true hb.2
      rw [List.length_map] at hl
      obtain ⟨r1, r2⟩ := p2 hd (by omega)
      obtain ⟨q1, q2⟩ := p1 hd
      subst r1 r2
      have lp := layOk_pts hw q2 q1
      refine bd_retD (P := fun r => r = .d (.bool true)) (d := .bool true) (DE.is (de_and (k := true) (j := true) (DE.is (de_isN (d := .none) (de_var (i := 9) rfl (pv 9))) rfl) fun _ => de_one (DE.is (de_eqDt u65 (de_var (i := 10) rfl (pv 10)) (de_var (i := 8) rfl (pv 8)) lp lp) (by rw [eqv_same lp]))) rfl) rfl hq
    have hn1 : ¬ (due = none ∧ ends.length = 1) := fun ⟨h1, h2⟩ => by
      rw [isn, h1, List.length_map, h2] at hb
      cases hb
    refine bd_whenD (dt_gtI (de_lenL (ds := ends.map inat) (de_var (i := 6) rfl (pv 6)) rfl B.len) (de_int (i := 0))) (fun hb2 => ?_) (fun hb2 => ?_)
    · have hl := of_decide_eq_true hb2
      rw [List.length_map] at hl
      match ends, hl, p3 with
      | e :: t, _, p3 =>
        have r1 := p3 hn1 e t rfl
        subst r1
        refine bd_retD (P := fun r => r = .d (.bool true)) (d := .bool true) (DE.is (de_eqI (x := (e : Int)) (y := (e : Int)) (de_var (i := 9) rfl (pv 9)) (de_ixL (ds := inat e :: t.map inat) (de_var (i := 6) rfl (pv 6)) (de_int (i := 0)) (by
          unfold atI ixN
          simp [inat]))) (by rw [decide_eq_true rfl])) rfl hq
    have hl := of_decide_eq_false hb2
    rw [List.length_map] at hl
    have he : ends = [] := List.length_eq_zero_iff.mp (by omega)
    have r1 := p4 he
    subst r1
    refine bd_retD (P := fun r => r = .d (.bool true)) (d := .bool true) (DE.is (de_eqI (x := ((due.getD 0 : Nat) : Int)) (y := ((due.getD 0 : Nat) : Int)) (de_var (i := 9) rfl (pv 9)) (DE.is (de_ife (d1 := .int 0) (d2 := optD inat due) (dt_isN (de_var (i := 5) rfl (pv 5))) (fun _ => de_int) (fun _ => de_var (i := 5) rfl (pv 5))) (by cases due <;> rfl))) (by rw [decide_eq_true rfl])) rfl hq
end
end QL
namespace QL
open PySem PySem.Spec PyProof.Rows L2
theorem all_mk {l : PySem.W.OpenLaw} {w : World} {K : PySem.W.Frag} {h : Heap} {mg : Str → Option Value} {fa : Addr} (X : K.In h) (G : h.Ns mainGlobals mg) (hfa : mg "law" = some (.ref fa)) (B : Bt mg) (T : Ct mg)
    (D_only_has : ∃ f fd, Df K mg "only_has" s_only_has ["text", "letters"] f fd)
    (D_is_text : ∃ f fd, Df K mg "is_text" s_is_text ["text"] f fd)
    (D_is_path : ∃ f fd, Df K mg "is_path" s_is_path ["path"] f fd)
    (D_is_ascending : ∃ f fd, Df K mg "is_ascending" s_is_ascending ["items"] f fd)
    (D_is_label : ∃ f fd, Df K mg "is_label" s_is_label ["label"] f fd)
    (D_is_id : ∃ f fd, Df K mg "is_id" s_is_id ["name"] f fd)
    (D_read_number : ∃ f fd, Df K mg "read_number" s_read_number ["text", "least", "most"] f fd)
    (D_show_label : ∃ f fd, Df K mg "show_label" s_show_label ["label"] f fd)
    (D_read_label : ∃ f fd, Df K mg "read_label" s_read_label ["text"] f fd)
    (D_show_path : ∃ f fd, Df K mg "show_path" s_show_path ["path"] f fd)
    (D_read_path : ∃ f fd, Df K mg "read_path" s_read_path ["text"] f fd)
    (D_show_id : ∃ f fd, Df K mg "show_id" s_show_id ["name"] f fd)
    (D_read_id : ∃ f fd, Df K mg "read_id" s_read_id ["text"] f fd)
    (D_show_vertex : ∃ f fd, Df K mg "show_vertex" s_show_vertex ["vertex"] f fd)
    (D_read_vertex : ∃ f fd, Df K mg "read_vertex" s_read_vertex ["text"] f fd)
    (D_show_vertices : ∃ f fd, Df K mg "show_vertices" s_show_vertices ["vertices"] f fd)
    (D_read_vertices : ∃ f fd, Df K mg "read_vertices" s_read_vertices ["text", "most"] f fd)
    (D_show_change : ∃ f fd, Df K mg "show_change" s_show_change ["change"] f fd)
    (D_show_patch : ∃ f fd, Df K mg "show_patch" s_show_patch ["patch"] f fd)
    (D_read_parts : ∃ f fd, Df K mg "read_parts" s_read_parts ["words"] f fd)
    (D_read_texts : ∃ f fd, Df K mg "read_texts" s_read_texts ["lines", "at", "count"] f fd)
    (D_read_change : ∃ f fd, Df K mg "read_change" s_read_change ["lines", "at"] f fd)
    (D_read_head : ∃ f fd, Df K mg "read_head" s_read_head ["lines", "at"] f fd)
    (D_read_from : ∃ f fd, Df K mg "read_from" s_read_from ["lines", "at"] f fd)
    (D_read_patch : ∃ f fd, Df K mg "read_patch" s_read_patch ["lines"] f fd)
    (D_show_patches : ∃ f fd, Df K mg "show_patches" s_show_patches ["patches"] f fd)
    (D_read_patches : ∃ f fd, Df K mg "read_patches" s_read_patches ["lines"] f fd)
    (D_law_state : ∃ f fd, Df K mg "_law_state" s_law_state ["_law_script"] f fd)
    (D_law_draw : ∃ f fd, Df K mg "_law_draw" s_law_draw ["_law_state_here", "_law_many"] f fd)
    (D_law_pick : ∃ f fd, Df K mg "_law_pick" s_law_pick ["_law_state_here", "_law_row"] f fd)
    (D_law_label : ∃ f fd, Df K mg "_law_label" s_law_label ["_law_state_here"] f fd)
    (D_law_word : ∃ f fd, Df K mg "_law_word" s_law_word ["_law_state_here", "_law_letters", "_law_most"] f fd)
    (D_law_name : ∃ f fd, Df K mg "_law_name" s_law_name ["_law_state_here", "_law_label_here"] f fd)
    (D_law_vertex : ∃ f fd, Df K mg "_law_vertex" s_law_vertex ["_law_state_here", "_law_label_here"] f fd)
    (D_law_path : ∃ f fd, Df K mg "_law_path" s_law_path ["_law_state_here"] f fd)
    (D_law_vertices : ∃ f fd, Df K mg "_law_vertices" s_law_vertices ["_law_state_here", "_law_label_here", "_law_least", "_law_most"] f fd)
    (D_law_line : ∃ f fd, Df K mg "_law_line" s_law_line ["_law_state_here"] f fd)
    (D_law_change : ∃ f fd, Df K mg "_law_change" s_law_change ["_law_state_here", "_law_label_here"] f fd)
    (D_law_patch : ∃ f fd, Df K mg "_law_patch" s_law_patch ["_law_state_here"] f fd)
    (D_law_show_id : ∃ f fd, Df K mg "_law_show_id" s_law_show_id ["_law_name_here"] f fd)
    (D_law_show_vertex : ∃ f fd, Df K mg "_law_show_vertex" s_law_show_vertex ["_law_vertex_here"] f fd)
    (D_law_show_vertices : ∃ f fd, Df K mg "_law_show_vertices" s_law_show_vertices ["_law_vertices_here"] f fd)
    (D_law_show_patch : ∃ f fd, Df K mg "_law_show_patch" s_law_show_patch ["_law_patch_here"] f fd)
    (D_law_is_number : ∃ f fd, Df K mg "_law_is_number" s_law_is_number ["_law_text", "_law_least", "_law_most"] f fd)
    (D_law_is_label : ∃ f fd, Df K mg "_law_is_label" s_law_is_label ["_law_text"] f fd)
    (D_law_is_path : ∃ f fd, Df K mg "_law_is_path" s_law_is_path ["_law_text"] f fd)
    (D_law_is_id : ∃ f fd, Df K mg "_law_is_id" s_law_is_id ["_law_parts"] f fd)
    (D_law_is_vertex : ∃ f fd, Df K mg "_law_is_vertex" s_law_is_vertex ["_law_parts"] f fd)
    (D_law_key : ∃ f fd, Df K mg "_law_key" s_law_key ["_law_text"] f fd)
    (D_law_are_vertices : ∃ f fd, Df K mg "_law_are_vertices" s_law_are_vertices ["_law_text", "_law_least", "_law_most"] f fd)
    (D_law_change_fits : ∃ f fd, Df K mg "_law_change_fits" s_law_change_fits ["_law_words"] f fd)
    (D_law_is_text : ∃ f fd, Df K mg "_law_is_text" s_law_is_text ["_law_text"] f fd)
    (D_law_fault : ∃ f fd, Df K mg "_law_fault" s_law_fault ["_law_lines"] f fd)
    (D_law_turned : ∃ f fd, Df K mg "_law_turned" s_law_turned ["_law_state_here", "_law_lines"] f fd)
    (D_law_all : ∃ f fd, Df K mg "_law_all" s_law_all ["_law_lines"] f fd)
    (D_law_first : ∃ f fd, Df K mg "_law_first" s_law_first ["_law_lines"] f fd)
    {CW CA fI fL : Addr} {nm q : Str} {N : Addr} {bs : List Value} {sn : List Str} {sub : List Value} {ab : Bool} {col : Option Bool} {dd : Option Addr} {m0 m1 m2 m3 m5 : Option Value}
    {odI anI odL anL : Option Addr} {slI slL : Array (Option Value)} {ocI kVI dcI pmI cdI ctI ocL kVL dcL pmL cdL ctL : Value}
    (gW : PySem.W.nsIn K mainGlobals "WrittenError" = some (some (.ref CW))) (gA : PySem.W.nsIn K mainGlobals "WardError" = some (some (.ref CA)))
    (xL : K.lookup CW = some (excClassObj nm q CW N bs [.ref CA, .type "ValueError", .type "Exception", .type "BaseException", .type "object"] true sn sub ab col dd m0 m1 m2 m3 m5 "ValueError.__new__"))
    (sa : PySem.W.findIn K (.ref CW) "__setattr__" = some (some (.builtin "object.__setattr__"))) (ex : PySem.W.subIn K (.ref CW) (.type "BaseException") = some true) (ty : PySem.W.typeIn K (.ref CW) = some (.type "type")) (kp : PySem.W.keepIn K (.ref CW) = true)
    (no : PySem.W.findIn K (.ref CW) "at" = some none) (rd : PySem.W.readsIn K CA (.type "type") = true) (sp : PySem.W.specialIn K (.ref CA) "__getattribute__" = some (some (.builtin "type.__getattribute__")))
    (ini : PySem.W.findCls K (.ref CA) (.type "type") "__init__" = some (.val (.builtin "ValueError.__init__"))) (iC : PySem.W.findIn K (.ref CW) "__init__" = some (some (.ref fI))) (iT : PySem.W.typeIn K (.ref fI) = some (.type "function"))
    (iL : K.lookup fI = some ⟨ocI, odI, .func (PySem.W.fnOf "__init__" "WrittenError.__init__" (defArgs s_init) (defBody s_init) (defScope s_init) .none kVI dcI pmI anI cdI ctI), slI⟩) (iK : PySem.W.codeIn K cdI "WrittenError.__init__" = true) (iG : PySem.W.keepIn K (.ref fI) = true)
    (hga : PySem.W.findIn K (.ref CW) "__getattribute__" = some (some (.builtin "BaseException.__getattribute__"))) (hgt : PySem.W.findIn K (.ref CW) "__getattr__" = some none) (hdC : PySem.W.hasDictIn K CW = true) (iW : PySem.W.isClsIn K CW = true) (sW : PySem.W.subIn K (.ref CW) (.ref CW) = some true) (sA : PySem.W.subIn K (.ref CW) (.ref CA) = some true)
    (aC : PySem.W.findIn K (.ref CW) "__class__" = some (some (.builtin "object.__class__"))) (aN : PySem.W.specialIn K (.builtin "object.__class__") "__get__" = some (some (.builtin "getset_descriptor.__get__"))) (aT : PySem.W.takesIn K (.builtin "object.__class__") = some true) (aM : PySem.W.mroIn K CW (.type "object") = some true)
    (aR : PySem.W.kitOne K (.ref CW) (.ref CA) = some true) (aO : PySem.W.exmOne K (.ref CW) (.ref CW) = some true)
    (la : PySem.W.nsIn K mainGlobals "law" = some (some (.ref fL))) (ll : K.lookup fL = some ⟨ocL, odL, .func (PySem.W.fnOf "law" "law" (defArgs s_law) (defBody s_law) (defScope s_law) .none kVL dcL pmL anL cdL ctL), slL⟩) (lc : PySem.W.codeIn K cdL "law" = true) (lk : PySem.W.keepIn K (.ref fL) = true) (nb : PySem.W.kitOne K (.type "int") (.type "bool") = some false) :
    ∃ fd : FuncData, (∀ (s : Shared) (v : Value), BindsTo s fd ⟨[v], []⟩ [("_law_script", v)]) ∧ ∀ base : Heap, K.In base → base.Ns mainGlobals mg → FnOk l.prog w K mg base CX0 lawK fa fd ["_law_script"] (spLaw K) := by
  have e := hfa.symm.trans (PySem.W.mg_of X G la)
  cases e
  have F := fun_mk (st := s_law) ll lc lk
  have FI := fun_mk (st := s_init) iL iK iG
  have mgW := PySem.W.mg_of X G gW
  have mgA := PySem.W.mg_of X G gA
  have OX : OexC K CW := ⟨⟨_, _, _, _, _, _, _, _, _, _, _, _, _, _, _, xL, by rfl⟩, sa, ex, ty, kp⟩
  have XF : XfC K CW := ⟨hga, hgt, ex, hdC⟩
  have ER : Er K mg CW CA := ⟨mgW, mgA, OX, no, rd, sp, ini⟩
  have CI : (PySem.W.clsIn K CW).isSome = true := by
    unfold PySem.W.clsIn
    rw [xL]
    rfl
  have EC : Ec K mg CW CA := ⟨mgW, mgA, aO, XF, no, CI, aC, aN, aT, aM, aR, nb⟩
  obtain ⟨f_only_has, d_only_has, D_only_has⟩ := D_only_has
  obtain ⟨f_is_text, d_is_text, D_is_text⟩ := D_is_text
  obtain ⟨f_is_path, d_is_path, D_is_path⟩ := D_is_path
  obtain ⟨f_is_ascending, d_is_ascending, D_is_ascending⟩ := D_is_ascending
  obtain ⟨f_is_label, d_is_label, D_is_label⟩ := D_is_label
  obtain ⟨f_is_id, d_is_id, D_is_id⟩ := D_is_id
  obtain ⟨f_read_number, d_read_number, D_read_number⟩ := D_read_number
  obtain ⟨f_show_label, d_show_label, D_show_label⟩ := D_show_label
  obtain ⟨f_read_label, d_read_label, D_read_label⟩ := D_read_label
  obtain ⟨f_show_path, d_show_path, D_show_path⟩ := D_show_path
  obtain ⟨f_read_path, d_read_path, D_read_path⟩ := D_read_path
  obtain ⟨f_show_id, d_show_id, D_show_id⟩ := D_show_id
  obtain ⟨f_read_id, d_read_id, D_read_id⟩ := D_read_id
  obtain ⟨f_show_vertex, d_show_vertex, D_show_vertex⟩ := D_show_vertex
  obtain ⟨f_read_vertex, d_read_vertex, D_read_vertex⟩ := D_read_vertex
  obtain ⟨f_show_vertices, d_show_vertices, D_show_vertices⟩ := D_show_vertices
  obtain ⟨f_read_vertices, d_read_vertices, D_read_vertices⟩ := D_read_vertices
  obtain ⟨f_read_parts, d_read_parts, D_read_parts⟩ := D_read_parts
  obtain ⟨f_show_change, d_show_change, D_show_change⟩ := D_show_change
  obtain ⟨f_show_patch, d_show_patch, D_show_patch⟩ := D_show_patch
  obtain ⟨f_show_patches, d_show_patches, D_show_patches⟩ := D_show_patches
  obtain ⟨f_read_texts, d_read_texts, D_read_texts⟩ := D_read_texts
  obtain ⟨f_read_change, d_read_change, D_read_change⟩ := D_read_change
  obtain ⟨f_read_head, d_read_head, D_read_head⟩ := D_read_head
  obtain ⟨f_read_from, d_read_from, D_read_from⟩ := D_read_from
  obtain ⟨f_read_patch, d_read_patch, D_read_patch⟩ := D_read_patch
  obtain ⟨f_read_patches, d_read_patches, D_read_patches⟩ := D_read_patches
  obtain ⟨f_law_is_text, d_law_is_text, D_law_is_text⟩ := D_law_is_text
  obtain ⟨f_law_is_number, d_law_is_number, D_law_is_number⟩ := D_law_is_number
  obtain ⟨f_law_is_label, d_law_is_label, D_law_is_label⟩ := D_law_is_label
  obtain ⟨f_law_is_path, d_law_is_path, D_law_is_path⟩ := D_law_is_path
  obtain ⟨f_law_is_id, d_law_is_id, D_law_is_id⟩ := D_law_is_id
  obtain ⟨f_law_is_vertex, d_law_is_vertex, D_law_is_vertex⟩ := D_law_is_vertex
  obtain ⟨f_law_key, d_law_key, D_law_key⟩ := D_law_key
  obtain ⟨f_law_are_vertices, d_law_are_vertices, D_law_are_vertices⟩ := D_law_are_vertices
  obtain ⟨f_law_change_fits, d_law_change_fits, D_law_change_fits⟩ := D_law_change_fits
  obtain ⟨f_law_draw, d_law_draw, D_law_draw⟩ := D_law_draw
  obtain ⟨f_law_pick, d_law_pick, D_law_pick⟩ := D_law_pick
  obtain ⟨f_law_label, d_law_label, D_law_label⟩ := D_law_label
  obtain ⟨f_law_word, d_law_word, D_law_word⟩ := D_law_word
  obtain ⟨f_law_name, d_law_name, D_law_name⟩ := D_law_name
  obtain ⟨f_law_vertex, d_law_vertex, D_law_vertex⟩ := D_law_vertex
  obtain ⟨f_law_path, d_law_path, D_law_path⟩ := D_law_path
  obtain ⟨f_law_vertices, d_law_vertices, D_law_vertices⟩ := D_law_vertices
  obtain ⟨f_law_line, d_law_line, D_law_line⟩ := D_law_line
  obtain ⟨f_law_change, d_law_change, D_law_change⟩ := D_law_change
  obtain ⟨f_law_patch, d_law_patch, D_law_patch⟩ := D_law_patch
  obtain ⟨f_law_show_id, d_law_show_id, D_law_show_id⟩ := D_law_show_id
  obtain ⟨f_law_show_vertex, d_law_show_vertex, D_law_show_vertex⟩ := D_law_show_vertex
  obtain ⟨f_law_show_vertices, d_law_show_vertices, D_law_show_vertices⟩ := D_law_show_vertices
  obtain ⟨f_law_show_patch, d_law_show_patch, D_law_show_patch⟩ := D_law_show_patch
  obtain ⟨f_law_fault, d_law_fault, D_law_fault⟩ := D_law_fault
  obtain ⟨f_law_first, d_law_first, D_law_first⟩ := D_law_first
  obtain ⟨f_law_all, d_law_all, D_law_all⟩ := D_law_all
  obtain ⟨f_law_turned, d_law_turned, D_law_turned⟩ := D_law_turned
  obtain ⟨f_law_state, d_law_state, D_law_state⟩ := D_law_state
  refine ⟨PySem.W.fnOf "law" "law" (defArgs s_law) (defBody s_law) (defScope s_law) .none kVL dcL pmL anL cdL ctL, fun s v => .of_eq rfl, fun base _ _ => ?_⟩
  have WE : We l.prog w K mg base CW := ⟨CA, fI, _, ER, iC, iT, ok_init ER FI, FI.binds (fun _ _ _ _ _ _ us hl => match us, hl with | [_, _], _ => rfl)⟩
  have g_only_has := ok_only_has (P := l.prog) (w := w) (base := base) B D_only_has
  have g_is_text := ok_is_text (P := l.prog) (w := w) (base := base) B T D_is_text
  have g_is_path := ok_is_path (P := l.prog) (w := w) (base := base) B T g_only_has D_is_path
  have g_is_ascending := ok_is_ascending (P := l.prog) (w := w) (base := base) B T D_is_ascending
  have g_is_label := ok_is_label (P := l.prog) (w := w) (base := base) B T g_is_ascending D_is_label
  have g_is_id := ok_is_id (P := l.prog) (w := w) (base := base) B T g_is_label g_only_has D_is_id
  have g_read_number := ok_read_number (P := l.prog) (w := w) (base := base) B T D_read_number
  have g_show_label := ok_show_label (P := l.prog) (w := w) (base := base) B T D_show_label
  have g_read_label := ok_read_label (P := l.prog) (w := w) (base := base) B T g_is_label D_read_label
  have g_show_path := ok_show_path (P := l.prog) (w := w) (base := base) B T D_show_path
  have g_read_path := ok_read_path (P := l.prog) (w := w) (base := base) B T g_is_path D_read_path
  have g_show_id := ok_show_id (P := l.prog) (w := w) (base := base) B T g_show_label D_show_id
  have g_read_id := ok_read_id (P := l.prog) (w := w) (base := base) B T g_is_id g_read_label g_read_number D_read_id
  have g_show_vertex := ok_show_vertex (P := l.prog) (w := w) (base := base) B T g_show_id D_show_vertex
  have g_read_vertex := ok_read_vertex (P := l.prog) (w := w) (base := base) B T g_read_id g_read_number D_read_vertex
  have g_show_vertices := ok_show_vertices (P := l.prog) (w := w) (base := base) B T g_show_vertex D_show_vertices
  have g_read_vertices := ok_read_vertices (P := l.prog) (w := w) (base := base) B T g_is_ascending g_read_vertex D_read_vertices
  have g_read_parts := ok_read_parts (P := l.prog) (w := w) (base := base) B T g_read_id g_read_number g_read_path g_read_vertex g_read_vertices D_read_parts
  have g_show_change := ok_show_change (P := l.prog) (w := w) (base := base) B T g_show_id g_show_path g_show_vertex g_show_vertices D_show_change
  have g_show_patch := ok_show_patch (P := l.prog) (w := w) (base := base) B T g_show_id g_show_change D_show_patch
  have g_show_patches := ok_show_patches (P := l.prog) (w := w) (base := base) B T g_show_patch D_show_patches
  have g_read_texts := ok_read_texts (P := l.prog) (w := w) (base := base) B T WE g_is_text D_read_texts
  have g_read_change := ok_read_change (P := l.prog) (w := w) (base := base) B T WE g_read_parts g_read_texts D_read_change
  have g_read_head := ok_read_head (P := l.prog) (w := w) (base := base) B T WE g_is_text g_read_id D_read_head
  have g_read_from := ok_read_from (P := l.prog) (w := w) (base := base) B T WE g_read_head g_read_change D_read_from
  have g_read_patch := ok_read_patch (P := l.prog) (w := w) (base := base) B T WE g_read_from D_read_patch
  have g_read_patches := ok_read_patches (P := l.prog) (w := w) (base := base) B T WE g_read_from D_read_patches
  have g_law_is_text := ok_law_is_text (P := l.prog) (w := w) (base := base) B T D_law_is_text
  have g_law_is_number := ok_law_is_number (P := l.prog) (w := w) (base := base) B T D_law_is_number
  have g_law_is_label := ok_law_is_label (P := l.prog) (w := w) (base := base) B T D_law_is_label
  have g_law_is_path := ok_law_is_path (P := l.prog) (w := w) (base := base) B T D_law_is_path
  have g_law_is_id := ok_law_is_id (P := l.prog) (w := w) (base := base) B T g_law_is_label g_law_is_number D_law_is_id
  have g_law_is_vertex := ok_law_is_vertex (P := l.prog) (w := w) (base := base) B T g_law_is_id g_law_is_number D_law_is_vertex
  have g_law_key := ok_law_key (P := l.prog) (w := w) (base := base) B T D_law_key
  have g_law_are_vertices := ok_law_are_vertices (P := l.prog) (w := w) (base := base) B T g_law_is_vertex g_law_key D_law_are_vertices
  have g_law_change_fits := ok_law_change_fits (P := l.prog) (w := w) (base := base) B T g_law_are_vertices g_law_is_id g_law_is_number g_law_is_path g_law_is_vertex D_law_change_fits
  have g_law_draw := ok_law_draw (P := l.prog) (w := w) (base := base) B T D_law_draw
  have g_law_pick := ok_law_pick (P := l.prog) (w := w) (base := base) B T g_law_draw D_law_pick
  have g_law_label := ok_law_label (P := l.prog) (w := w) (base := base) B T g_law_draw D_law_label
  have g_law_word := ok_law_word (P := l.prog) (w := w) (base := base) B T g_law_draw g_law_pick D_law_word
  have g_law_name := ok_law_name (P := l.prog) (w := w) (base := base) B T g_law_draw g_law_pick g_law_word D_law_name
  have g_law_vertex := ok_law_vertex (P := l.prog) (w := w) (base := base) B T g_law_draw g_law_pick g_law_name D_law_vertex
  have g_law_path := ok_law_path (P := l.prog) (w := w) (base := base) B T g_law_draw g_law_word D_law_path
  have g_law_vertices := ok_law_vertices (P := l.prog) (w := w) (base := base) B T g_law_draw g_law_vertex D_law_vertices
  have g_law_line := ok_law_line (P := l.prog) (w := w) (base := base) B T g_law_pick D_law_line
  have g_law_change := ok_law_change (P := l.prog) (w := w) (base := base) B T g_law_draw g_law_name g_law_vertex g_law_path g_law_vertices g_law_line D_law_change
  have g_law_patch := ok_law_patch (P := l.prog) (w := w) (base := base) B T g_law_draw g_law_label g_law_name g_law_line g_law_change D_law_patch
  have g_law_show_id := ok_law_show_id (P := l.prog) (w := w) (base := base) B T D_law_show_id
  have g_law_show_vertex := ok_law_show_vertex (P := l.prog) (w := w) (base := base) B T g_law_show_id D_law_show_vertex
  have g_law_show_vertices := ok_law_show_vertices (P := l.prog) (w := w) (base := base) B T g_law_show_vertex D_law_show_vertices
  have g_law_show_patch := ok_law_show_patch (P := l.prog) (w := w) (base := base) B T g_law_show_id g_law_show_vertex g_law_show_vertices D_law_show_patch
  have g_law_fault := ok_law_fault (P := l.prog) (w := w) (base := base) B T g_law_is_id g_law_is_text g_law_change_fits D_law_fault
  have g_law_first := ok_law_first (P := l.prog) (w := w) (base := base) B EC g_read_patch D_law_first
  have g_law_all := ok_law_all (P := l.prog) (w := w) (base := base) B EC g_read_patches D_law_all
  have g_law_turned := ok_law_turned (P := l.prog) (w := w) (base := base) B T g_law_draw g_law_pick D_law_turned
  have g_law_state : OkS l.prog w K mg base := ⟨f_law_state, d_law_state, D_law_state.2.1, D_law_state.1.kp, D_law_state.2.2, ok_law_state B D_law_state⟩
  exact ok_law B g_law_state g_law_draw g_law_patch g_law_show_patch g_law_turned g_law_fault g_law_all g_law_first g_show_patches ⟨F, PySem.W.mg_of X G la, F.binds (fun _ _ _ _ _ _ us hl => match us, hl with | [_], _ => rfl)⟩
end QL
namespace QL
open PySem PySem.Spec PyProof.Rows L2
theorem df_mk {K : PySem.W.Frag} {h : Heap} {mg : Str → Option Value} {x : Str} {st : Stmt} {ps : List Str} {f : Addr} {oc : Value} {od an : Option Addr} {osl : Array (Option Value)} {kV doc pm cdv ct : Value} (X : K.In h) (G : h.Ns mainGlobals mg)
    (b : ∀ (kV doc pm : Value) (an : Option Addr) (cdv ct : Value) (us : List Value), us.length = ps.length → bindArgs (PySem.W.fnOf x x (defArgs st) (defBody st) (defScope st) .none kV doc pm an cdv ct) ⟨us, []⟩ = pure (ps.zip us))
    (a : PySem.W.nsIn K mainGlobals x = some (some (.ref f))) (l : K.lookup f = some ⟨oc, od, .func (PySem.W.fnOf x x (defArgs st) (defBody st) (defScope st) .none kV doc pm an cdv ct), osl⟩) (c : PySem.W.codeIn K cdv x = true) (k : PySem.W.keepIn K (.ref f) = true) : ∃ f fd, Df K mg x st ps f fd :=
  ⟨f, _, fun_mk l c k, PySem.W.mg_of X G a, (fun_mk (st := st) l c k).binds b⟩
theorem ct_mk {K : PySem.W.Frag} {h : Heap} {mg : Str → Option Value} (X : K.In h) (G : h.Ns mainGlobals mg) {t1 t2 t3 t4 t5 t6 t7 : Tok}
    (LOWER : PySem.W.nsIn K mainGlobals "LOWER" = some (some (.str "abcdefghijklmnopqrstuvwxyz" t1))) (DIGITS : PySem.W.nsIn K mainGlobals "DIGITS" = some (some (.str "0123456789" t2)))
    (CHANGES : PySem.W.nsIn K mainGlobals "MOST_CHANGES" = some (some (.int 12 t3))) (NUMBER : PySem.W.nsIn K mainGlobals "MOST_NUMBER" = some (some (.int 99999 t4))) (LINES : PySem.W.nsIn K mainGlobals "MOST_LINES" = some (some (.int 200 t5)))
    (BOUNDS : PySem.W.nsIn K mainGlobals "MOST_BOUNDS" = some (some (.int 12 t6))) (TEXT : PySem.W.nsIn K mainGlobals "MOST_TEXT" = some (some (.int 40 t7))) : Ct mg :=
  ⟨⟨_, PySem.W.mg_of X G LOWER⟩, ⟨_, PySem.W.mg_of X G DIGITS⟩, ⟨_, PySem.W.mg_of X G CHANGES⟩, ⟨_, PySem.W.mg_of X G NUMBER⟩, ⟨_, PySem.W.mg_of X G LINES⟩, ⟨_, PySem.W.mg_of X G BOUNDS⟩, ⟨_, PySem.W.mg_of X G TEXT⟩⟩
end QL

open PySem PySem.W PyProof.Rows
set_option maxRecDepth 100000 in
set_option maxHeartbeats 0 in
theorem PySem.Challenge.cw_quiltward_k22_whole_any_lines_are_read_o_holds : PySem.Challenge.rw_quiltward_k22_whole_any_lines_are_read_o.Holds := by
  w_on; o_law; k_head; (case hw => w_witness2)
  k_fill
  refine L2.walk_of (l := PySem.Challenge.rw_quiltward_k22_whole_any_lines_are_read_o) (n := 63) (k := QL.lawK) (x := "_law_script") (CX := fun _ => L2.CX0) (sp := fun w => QL.spLaw _) rfl (by decide) rfl ⟨rfl, by decide, by decide⟩ (fun w h Y => PySem.W.kIn_of Y) ?F (fun _ _ a ns hl _ hS => ⟨a, ns, rfl, hS, hl, fun _ => rfl⟩) (fun _ _ _ _ _ h => h)
  case F =>
    intro w mg fa h KX G hmg
    refine' QL.all_mk KX G hmg ?B ?T ?D_only_has ?D_is_text ?D_is_path ?D_is_ascending ?D_is_label ?D_is_id ?D_read_number ?D_show_label ?D_read_label ?D_show_path ?D_read_path ?D_show_id ?D_read_id ?D_show_vertex ?D_read_vertex ?D_show_vertices ?D_read_vertices ?D_show_change ?D_show_patch ?D_read_parts ?D_read_texts ?D_read_change ?D_read_head ?D_read_from ?D_read_patch ?D_show_patches ?D_read_patches ?D_law_state ?D_law_draw ?D_law_pick ?D_law_label ?D_law_word ?D_law_name ?D_law_vertex ?D_law_path ?D_law_vertices ?D_law_line ?D_law_change ?D_law_patch ?D_law_show_id ?D_law_show_vertex ?D_law_show_vertices ?D_law_show_patch ?D_law_is_number ?D_law_is_label ?D_law_is_path ?D_law_is_id ?D_law_is_vertex ?D_law_key ?D_law_are_vertices ?D_law_change_fits ?D_law_is_text ?D_law_fault ?D_law_turned ?D_law_all ?D_law_first ?gW ?gA ?xL ?sa ?ex ?ty ?kp ?no ?rd ?sp ?ini ?iC ?iT ?iL ?iK ?iG ?hga ?hgt ?hdC ?iW ?sW ?sA ?aC ?aN ?aT ?aM ?aR ?aO ?la ?ll ?lc ?lk ?nb
    case D_only_has =>
      refine' QL.df_mk KX G (fun _ _ _ _ _ _ us hl => match us, hl with | [_, _], _ => rfl) ?a ?l ?c ?k
      (case a => k_is); (case l => k_is); (case c => k_is); (case k => k_is)
    case D_is_text =>
      refine' QL.df_mk KX G (fun _ _ _ _ _ _ us hl => match us, hl with | [_], _ => rfl) ?a ?l ?c ?k
      (case a => k_is); (case l => k_is); (case c => k_is); (case k => k_is)
    case D_is_path =>
      refine' QL.df_mk KX G (fun _ _ _ _ _ _ us hl => match us, hl with | [_], _ => rfl) ?a ?l ?c ?k
      (case a => k_is); (case l => k_is); (case c => k_is); (case k => k_is)
    case D_is_ascending =>
      refine' QL.df_mk KX G (fun _ _ _ _ _ _ us hl => match us, hl with | [_], _ => rfl) ?a ?l ?c ?k
      (case a => k_is); (case l => k_is); (case c => k_is); (case k => k_is)
    case D_is_label =>
      refine' QL.df_mk KX G (fun _ _ _ _ _ _ us hl => match us, hl with | [_], _ => rfl) ?a ?l ?c ?k
      (case a => k_is); (case l => k_is); (case c => k_is); (case k => k_is)
    case D_is_id =>
      refine' QL.df_mk KX G (fun _ _ _ _ _ _ us hl => match us, hl with | [_], _ => rfl) ?a ?l ?c ?k
      (case a => k_is); (case l => k_is); (case c => k_is); (case k => k_is)
    case D_read_number =>
      refine' QL.df_mk KX G (fun _ _ _ _ _ _ us hl => match us, hl with | [_, _, _], _ => rfl) ?a ?l ?c ?k
      (case a => k_is); (case l => k_is); (case c => k_is); (case k => k_is)
    case D_show_label =>
      refine' QL.df_mk KX G (fun _ _ _ _ _ _ us hl => match us, hl with | [_], _ => rfl) ?a ?l ?c ?k
      (case a => k_is); (case l => k_is); (case c => k_is); (case k => k_is)
    case D_read_label =>
      refine' QL.df_mk KX G (fun _ _ _ _ _ _ us hl => match us, hl with | [_], _ => rfl) ?a ?l ?c ?k
      (case a => k_is); (case l => k_is); (case c => k_is); (case k => k_is)
    case D_show_path =>
      refine' QL.df_mk KX G (fun _ _ _ _ _ _ us hl => match us, hl with | [_], _ => rfl) ?a ?l ?c ?k
      (case a => k_is); (case l => k_is); (case c => k_is); (case k => k_is)
    case D_read_path =>
      refine' QL.df_mk KX G (fun _ _ _ _ _ _ us hl => match us, hl with | [_], _ => rfl) ?a ?l ?c ?k
      (case a => k_is); (case l => k_is); (case c => k_is); (case k => k_is)
    case D_show_id =>
      refine' QL.df_mk KX G (fun _ _ _ _ _ _ us hl => match us, hl with | [_], _ => rfl) ?a ?l ?c ?k
      (case a => k_is); (case l => k_is); (case c => k_is); (case k => k_is)
    case D_read_id =>
      refine' QL.df_mk KX G (fun _ _ _ _ _ _ us hl => match us, hl with | [_], _ => rfl) ?a ?l ?c ?k
      (case a => k_is); (case l => k_is); (case c => k_is); (case k => k_is)
    case D_show_vertex =>
      refine' QL.df_mk KX G (fun _ _ _ _ _ _ us hl => match us, hl with | [_], _ => rfl) ?a ?l ?c ?k
      (case a => k_is); (case l => k_is); (case c => k_is); (case k => k_is)
    case D_read_vertex =>
      refine' QL.df_mk KX G (fun _ _ _ _ _ _ us hl => match us, hl with | [_], _ => rfl) ?a ?l ?c ?k
      (case a => k_is); (case l => k_is); (case c => k_is); (case k => k_is)
    case D_show_vertices =>
      refine' QL.df_mk KX G (fun _ _ _ _ _ _ us hl => match us, hl with | [_], _ => rfl) ?a ?l ?c ?k
      (case a => k_is); (case l => k_is); (case c => k_is); (case k => k_is)
    case D_read_vertices =>
      refine' QL.df_mk KX G (fun _ _ _ _ _ _ us hl => match us, hl with | [_, _], _ => rfl) ?a ?l ?c ?k
      (case a => k_is); (case l => k_is); (case c => k_is); (case k => k_is)
    case D_show_change =>
      refine' QL.df_mk KX G (fun _ _ _ _ _ _ us hl => match us, hl with | [_], _ => rfl) ?a ?l ?c ?k
      (case a => k_is); (case l => k_is); (case c => k_is); (case k => k_is)
    case D_show_patch =>
      refine' QL.df_mk KX G (fun _ _ _ _ _ _ us hl => match us, hl with | [_], _ => rfl) ?a ?l ?c ?k
      (case a => k_is); (case l => k_is); (case c => k_is); (case k => k_is)
    case D_read_parts =>
      refine' QL.df_mk KX G (fun _ _ _ _ _ _ us hl => match us, hl with | [_], _ => rfl) ?a ?l ?c ?k
      (case a => k_is); (case l => k_is); (case c => k_is); (case k => k_is)
    case D_read_texts =>
      refine' QL.df_mk KX G (fun _ _ _ _ _ _ us hl => match us, hl with | [_, _, _], _ => rfl) ?a ?l ?c ?k
      (case a => k_is); (case l => k_is); (case c => k_is); (case k => k_is)
    case D_read_change =>
      refine' QL.df_mk KX G (fun _ _ _ _ _ _ us hl => match us, hl with | [_, _], _ => rfl) ?a ?l ?c ?k
      (case a => k_is); (case l => k_is); (case c => k_is); (case k => k_is)
    case D_read_head =>
      refine' QL.df_mk KX G (fun _ _ _ _ _ _ us hl => match us, hl with | [_, _], _ => rfl) ?a ?l ?c ?k
      (case a => k_is); (case l => k_is); (case c => k_is); (case k => k_is)
    case D_read_from =>
      refine' QL.df_mk KX G (fun _ _ _ _ _ _ us hl => match us, hl with | [_, _], _ => rfl) ?a ?l ?c ?k
      (case a => k_is); (case l => k_is); (case c => k_is); (case k => k_is)
    case D_read_patch =>
      refine' QL.df_mk KX G (fun _ _ _ _ _ _ us hl => match us, hl with | [_], _ => rfl) ?a ?l ?c ?k
      (case a => k_is); (case l => k_is); (case c => k_is); (case k => k_is)
    case D_show_patches =>
      refine' QL.df_mk KX G (fun _ _ _ _ _ _ us hl => match us, hl with | [_], _ => rfl) ?a ?l ?c ?k
      (case a => k_is); (case l => k_is); (case c => k_is); (case k => k_is)
    case D_read_patches =>
      refine' QL.df_mk KX G (fun _ _ _ _ _ _ us hl => match us, hl with | [_], _ => rfl) ?a ?l ?c ?k
      (case a => k_is); (case l => k_is); (case c => k_is); (case k => k_is)
    case D_law_state =>
      refine' QL.df_mk KX G (fun _ _ _ _ _ _ us hl => match us, hl with | [_], _ => rfl) ?a ?l ?c ?k
      (case a => k_is); (case l => k_is); (case c => k_is); (case k => k_is)
    case D_law_draw =>
      refine' QL.df_mk KX G (fun _ _ _ _ _ _ us hl => match us, hl with | [_, _], _ => rfl) ?a ?l ?c ?k
      (case a => k_is); (case l => k_is); (case c => k_is); (case k => k_is)
    case D_law_pick =>
      refine' QL.df_mk KX G (fun _ _ _ _ _ _ us hl => match us, hl with | [_, _], _ => rfl) ?a ?l ?c ?k
      (case a => k_is); (case l => k_is); (case c => k_is); (case k => k_is)
    case D_law_label =>
      refine' QL.df_mk KX G (fun _ _ _ _ _ _ us hl => match us, hl with | [_], _ => rfl) ?a ?l ?c ?k
      (case a => k_is); (case l => k_is); (case c => k_is); (case k => k_is)
    case D_law_word =>
      refine' QL.df_mk KX G (fun _ _ _ _ _ _ us hl => match us, hl with | [_, _, _], _ => rfl) ?a ?l ?c ?k
      (case a => k_is); (case l => k_is); (case c => k_is); (case k => k_is)
    case D_law_name =>
      refine' QL.df_mk KX G (fun _ _ _ _ _ _ us hl => match us, hl with | [_, _], _ => rfl) ?a ?l ?c ?k
      (case a => k_is); (case l => k_is); (case c => k_is); (case k => k_is)
    case D_law_vertex =>
      refine' QL.df_mk KX G (fun _ _ _ _ _ _ us hl => match us, hl with | [_, _], _ => rfl) ?a ?l ?c ?k
      (case a => k_is); (case l => k_is); (case c => k_is); (case k => k_is)
    case D_law_path =>
      refine' QL.df_mk KX G (fun _ _ _ _ _ _ us hl => match us, hl with | [_], _ => rfl) ?a ?l ?c ?k
      (case a => k_is); (case l => k_is); (case c => k_is); (case k => k_is)
    case D_law_vertices =>
      refine' QL.df_mk KX G (fun _ _ _ _ _ _ us hl => match us, hl with | [_, _, _, _], _ => rfl) ?a ?l ?c ?k
      (case a => k_is); (case l => k_is); (case c => k_is); (case k => k_is)
    case D_law_line =>
      refine' QL.df_mk KX G (fun _ _ _ _ _ _ us hl => match us, hl with | [_], _ => rfl) ?a ?l ?c ?k
      (case a => k_is); (case l => k_is); (case c => k_is); (case k => k_is)
    case D_law_change =>
      refine' QL.df_mk KX G (fun _ _ _ _ _ _ us hl => match us, hl with | [_, _], _ => rfl) ?a ?l ?c ?k
      (case a => k_is); (case l => k_is); (case c => k_is); (case k => k_is)
    case D_law_patch =>
      refine' QL.df_mk KX G (fun _ _ _ _ _ _ us hl => match us, hl with | [_], _ => rfl) ?a ?l ?c ?k
      (case a => k_is); (case l => k_is); (case c => k_is); (case k => k_is)
    case D_law_show_id =>
      refine' QL.df_mk KX G (fun _ _ _ _ _ _ us hl => match us, hl with | [_], _ => rfl) ?a ?l ?c ?k
      (case a => k_is); (case l => k_is); (case c => k_is); (case k => k_is)
    case D_law_show_vertex =>
      refine' QL.df_mk KX G (fun _ _ _ _ _ _ us hl => match us, hl with | [_], _ => rfl) ?a ?l ?c ?k
      (case a => k_is); (case l => k_is); (case c => k_is); (case k => k_is)
    case D_law_show_vertices =>
      refine' QL.df_mk KX G (fun _ _ _ _ _ _ us hl => match us, hl with | [_], _ => rfl) ?a ?l ?c ?k
      (case a => k_is); (case l => k_is); (case c => k_is); (case k => k_is)
    case D_law_show_patch =>
      refine' QL.df_mk KX G (fun _ _ _ _ _ _ us hl => match us, hl with | [_], _ => rfl) ?a ?l ?c ?k
      (case a => k_is); (case l => k_is); (case c => k_is); (case k => k_is)
    case D_law_is_number =>
      refine' QL.df_mk KX G (fun _ _ _ _ _ _ us hl => match us, hl with | [_, _, _], _ => rfl) ?a ?l ?c ?k
      (case a => k_is); (case l => k_is); (case c => k_is); (case k => k_is)
    case D_law_is_label =>
      refine' QL.df_mk KX G (fun _ _ _ _ _ _ us hl => match us, hl with | [_], _ => rfl) ?a ?l ?c ?k
      (case a => k_is); (case l => k_is); (case c => k_is); (case k => k_is)
    case D_law_is_path =>
      refine' QL.df_mk KX G (fun _ _ _ _ _ _ us hl => match us, hl with | [_], _ => rfl) ?a ?l ?c ?k
      (case a => k_is); (case l => k_is); (case c => k_is); (case k => k_is)
    case D_law_is_id =>
      refine' QL.df_mk KX G (fun _ _ _ _ _ _ us hl => match us, hl with | [_], _ => rfl) ?a ?l ?c ?k
      (case a => k_is); (case l => k_is); (case c => k_is); (case k => k_is)
    case D_law_is_vertex =>
      refine' QL.df_mk KX G (fun _ _ _ _ _ _ us hl => match us, hl with | [_], _ => rfl) ?a ?l ?c ?k
      (case a => k_is); (case l => k_is); (case c => k_is); (case k => k_is)
    case D_law_key =>
      refine' QL.df_mk KX G (fun _ _ _ _ _ _ us hl => match us, hl with | [_], _ => rfl) ?a ?l ?c ?k
      (case a => k_is); (case l => k_is); (case c => k_is); (case k => k_is)
    case D_law_are_vertices =>
      refine' QL.df_mk KX G (fun _ _ _ _ _ _ us hl => match us, hl with | [_, _, _], _ => rfl) ?a ?l ?c ?k
      (case a => k_is); (case l => k_is); (case c => k_is); (case k => k_is)
    case D_law_change_fits =>
      refine' QL.df_mk KX G (fun _ _ _ _ _ _ us hl => match us, hl with | [_], _ => rfl) ?a ?l ?c ?k
      (case a => k_is); (case l => k_is); (case c => k_is); (case k => k_is)
    case D_law_is_text =>
      refine' QL.df_mk KX G (fun _ _ _ _ _ _ us hl => match us, hl with | [_], _ => rfl) ?a ?l ?c ?k
      (case a => k_is); (case l => k_is); (case c => k_is); (case k => k_is)
    case D_law_fault =>
      refine' QL.df_mk KX G (fun _ _ _ _ _ _ us hl => match us, hl with | [_], _ => rfl) ?a ?l ?c ?k
      (case a => k_is); (case l => k_is); (case c => k_is); (case k => k_is)
    case D_law_turned =>
      refine' QL.df_mk KX G (fun _ _ _ _ _ _ us hl => match us, hl with | [_, _], _ => rfl) ?a ?l ?c ?k
      (case a => k_is); (case l => k_is); (case c => k_is); (case k => k_is)
    case D_law_all =>
      refine' QL.df_mk KX G (fun _ _ _ _ _ _ us hl => match us, hl with | [_], _ => rfl) ?a ?l ?c ?k
      (case a => k_is); (case l => k_is); (case c => k_is); (case k => k_is)
    case D_law_first =>
      refine' QL.df_mk KX G (fun _ _ _ _ _ _ us hl => match us, hl with | [_], _ => rfl) ?a ?l ?c ?k
      (case a => k_is); (case l => k_is); (case c => k_is); (case k => k_is)
    case B =>
      refine' ⟨PySem.W.mg_none_of KX G ?len, PySem.W.mg_none_of KX G ?int, PySem.W.mg_none_of KX G ?str, PySem.W.mg_none_of KX G ?tuple, PySem.W.mg_none_of KX G ?list, PySem.W.mg_none_of KX G ?range, PySem.W.mg_none_of KX G ?abs, PySem.W.mg_none_of KX G ?sorted, PySem.W.mg_none_of KX G ?isin, PySem.W.mg_none_of KX G ?bool⟩
      (case len => k_is); (case int => k_is); (case str => k_is); (case tuple => k_is); (case list => k_is); (case range => k_is); (case abs => k_is); (case sorted => k_is); (case isin => k_is); (case bool => k_is)
    case T =>
      refine' QL.ct_mk KX G ?LOWER ?DIGITS ?CHANGES ?NUMBER ?LINES ?BOUNDS ?TEXT
      (case LOWER => k_is); (case DIGITS => k_is); (case CHANGES => k_is); (case NUMBER => k_is); (case LINES => k_is); (case BOUNDS => k_is); (case TEXT => k_is)
    (case gW => first | k_is | rfl)
    (case gA => first | k_is | rfl)
    (case xL => first | k_is | rfl)
    (case sa => first | k_is | rfl)
    (case ex => first | k_is | rfl)
    (case ty => first | k_is | rfl)
    (case kp => first | k_is | rfl)
    (case no => first | k_is | rfl)
    (case rd => first | k_is | rfl)
    (case sp => first | k_is | rfl)
    (case ini => first | k_is | rfl)
    (case iC => first | k_is | rfl)
    (case iT => first | k_is | rfl)
    (case iL => first | k_is | rfl)
    (case iK => first | k_is | rfl)
    (case iG => first | k_is | rfl)
    (case hga => first | k_is | rfl)
    (case hgt => first | k_is | rfl)
    (case hdC => first | k_is | rfl)
    (case iW => first | k_is | rfl)
    (case sW => first | k_is | rfl)
    (case sA => first | k_is | rfl)
    (case aC => first | k_is | rfl)
    (case aN => first | k_is | rfl)
    (case aT => first | k_is | rfl)
    (case aM => first | k_is | rfl)
    (case aR => first | k_is | rfl)
    (case aO => first | k_is | rfl)
    (case la => first | k_is | rfl)
    (case ll => first | k_is | rfl)
    (case lc => first | k_is | rfl)
    (case lk => first | k_is | rfl)
    (case nb => first | k_is | rfl)
