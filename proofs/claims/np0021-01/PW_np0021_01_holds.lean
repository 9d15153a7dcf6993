import PyProof.Rows.All
import Wide.All
import Open.Line
import Wide.FinOn
import Lean
import PySem.Challenge.RW_np0021_01
open PySem PySem.W PyProof.Rows
set_option Elab.async false

namespace Mine

abbrev Fz := Addr → Option Obj
abbrev lst (vs : Array Value) (n : Nat) : Obj := { cls := .type "list", data := .seq vs n }
abbrev tpl (vs : Array Value) (n : Nat) : Obj := { cls := .type "tuple", data := .seq vs n }

abbrev Kp := Addr → Option (Obj × Bool)
noncomputable def Fz.add (Z : Fz) (a : Addr) (o : Obj) : Fz := fun b => if b = a then some o else Z b
noncomputable def Ext (Z Z' : Fz) : Prop := ∀ a o, Z a = some o → Z' a = some o
theorem Ext.refl (Z : Fz) : Ext Z Z := fun _ _ h => h
theorem Ext.trans {Z Z' Z'' : Fz} (h : Ext Z Z') (k : Ext Z' Z'') : Ext Z Z'' := fun a o e => k a o (h a o e)
theorem Ext.add {Z : Fz} {a : Addr} {o : Obj} (h : Z a = none) : Ext Z (Z.add a o) := fun b o' e => by
  unfold Fz.add
  by_cases hb : b = a
  · subst hb; rw [h] at e; cases e
  · rw [if_neg hb]; exact e
theorem Fz.add_same (Z : Fz) (a : Addr) (o : Obj) : (Z.add a o) a = some o := by unfold Fz.add; rw [if_pos rfl]
theorem Fz.add_ne {Z : Fz} {a b : Addr} {o : Obj} (h : b ≠ a) : (Z.add a o) b = Z b := by unfold Fz.add; rw [if_neg h]

mutual
inductive Den (Z : Fz) : Value → PyData → Prop
  | bool (b : Bool) : Den Z (.bool b) (.bool b)
  | int (i : Int) (t : Tok) : Den Z (.int i t) (.int i)
  | str (x : Str) (t : Tok) : Den Z (.str x t) (.str x)
  | list {a : Addr} {vs : Array Value} {n : Nat} {ds : List PyData} : Z a = some (lst vs n) → DenAll Z vs.toList ds → Den Z (.ref a) (.list ds)
  | tuple {a : Addr} {o : Obj} {vs : Array Value} {n : Nat} {ds : List PyData} : Z a = some o → o.cls = .type "tuple" → o.data = .seq vs n → DenAll Z vs.toList ds → Den Z (.ref a) (.tuple ds)
inductive DenAll (Z : Fz) : List Value → List PyData → Prop
  | nil : DenAll Z [] []
  | cons {v : Value} {d : PyData} {vs : List Value} {ds : List PyData} : Den Z v d → DenAll Z vs ds → DenAll Z (v :: vs) (d :: ds)
end

mutual
theorem Den.mono {Z Z' : Fz} (h : Ext Z Z') : ∀ {v : Value} {d : PyData}, Den Z v d → Den Z' v d
  | _, _, .bool b => .bool b
  | _, _, .int i t => .int i t
  | _, _, .str x t => .str x t
  | _, _, .list e r => .list (h _ _ e) (DenAll.mono h r)
  | _, _, .tuple e e1 e2 r => .tuple (h _ _ e) e1 e2 (DenAll.mono h r)
theorem DenAll.mono {Z Z' : Fz} (h : Ext Z Z') : ∀ {vs : List Value} {ds : List PyData}, DenAll Z vs ds → DenAll Z' vs ds
  | _, _, .nil => .nil
  | _, _, .cons d r => .cons (Den.mono h d) (DenAll.mono h r)
end

mutual
theorem Den.reads {Z : Fz} {h : Heap} (hz : ∀ a o, Z a = some o → h.get? a = some o) : ∀ {v : Value} {d : PyData}, Den Z v d → ∃ as, Reads h v d as
  | _, _, .bool b => ⟨_, .bool b⟩
  | _, _, .int i t => ⟨_, .int i t⟩
  | _, _, .str x t => ⟨_, .str x t⟩
  | _, _, .list e r => let ⟨_, ra⟩ := DenAll.reads hz r; ⟨_, .list (hz _ _ e) rfl rfl ra⟩
  | _, _, .tuple e e1 e2 r => let ⟨_, ra⟩ := DenAll.reads hz r; ⟨_, .tuple (hz _ _ e) e1 e2 ra⟩
theorem DenAll.reads {Z : Fz} {h : Heap} (hz : ∀ a o, Z a = some o → h.get? a = some o) : ∀ {vs : List Value} {ds : List PyData}, DenAll Z vs ds → ∃ as, ReadsAll h vs ds as
  | _, _, .nil => ⟨_, .nil⟩
  | _, _, .cons d r => let ⟨_, ra⟩ := Den.reads hz d; let ⟨_, rb⟩ := DenAll.reads hz r; ⟨_, .cons ra rb⟩
end

section
variable {Z : Fz}
theorem DenAll.length : ∀ {vs : List Value} {ds : List PyData}, DenAll Z vs ds → vs.length = ds.length
  | _, _, .nil => rfl
  | _, _, .cons _ r => by rw [List.length_cons, List.length_cons, r.length]
theorem DenAll.append : ∀ {vs ws : List Value} {ds es : List PyData}, DenAll Z vs ds → DenAll Z ws es → DenAll Z (vs ++ ws) (ds ++ es)
  | _, _, _, _, .nil, h => h
  | _, _, _, _, .cons d r, h => .cons d (r.append h)
theorem DenAll.get : ∀ {vs : List Value} {ds : List PyData} {i : Nat} {d : PyData}, DenAll Z vs ds → ds[i]? = some d → ∃ v, vs[i]? = some v ∧ Den Z v d
  | _, _, 0, d, .cons (v := v) h _, e => ⟨v, rfl, by rw [List.getElem?_cons_zero] at e; cases e; exact h⟩
  | _, _, i + 1, d, .cons _ r, e => by
    rw [List.getElem?_cons_succ] at e
    obtain ⟨v, h1, h2⟩ := r.get e
    exact ⟨v, by rw [List.getElem?_cons_succ]; exact h1, h2⟩
theorem DenAll.get' : ∀ {vs : List Value} {ds : List PyData} {i : Nat} {v : Value}, DenAll Z vs ds → vs[i]? = some v → ∃ d, ds[i]? = some d ∧ Den Z v d
  | _, _, 0, v, .cons (d := d) h _, e => ⟨d, rfl, by rw [List.getElem?_cons_zero] at e; cases e; exact h⟩
  | _, _, i + 1, v, .cons _ r, e => by
    rw [List.getElem?_cons_succ] at e
    obtain ⟨d, h1, h2⟩ := r.get' e
    exact ⟨d, by rw [List.getElem?_cons_succ]; exact h1, h2⟩
theorem DenAll.drop : ∀ {vs : List Value} {ds : List PyData} (k : Nat), DenAll Z vs ds → DenAll Z (vs.drop k) (ds.drop k)
  | _, _, 0, h => by simpa using h
  | _, _, k + 1, .nil => by simpa using DenAll.nil
  | _, _, k + 1, .cons _ r => by simpa using r.drop k
theorem DenAll.take : ∀ {vs : List Value} {ds : List PyData} (k : Nat), DenAll Z vs ds → DenAll Z (vs.take k) (ds.take k)
  | _, _, 0, _ => by simpa using DenAll.nil
  | _, _, k + 1, .nil => by simpa using DenAll.nil
  | _, _, k + 1, .cons h r => by simpa using DenAll.cons h (r.take k)
theorem DenAll.snoc {vs : List Value} {ds : List PyData} {v : Value} {d : PyData} (h : DenAll Z vs ds) (k : Den Z v d) : DenAll Z (vs ++ [v]) (ds ++ [d]) := h.append (.cons k .nil)
end

inductive Slot where
  | no
  | val (d : PyData)
  | own (b : Bool) (a : Addr) (ds : List PyData)
  | cel (w : Bool) (a : Addr) (d : Option PyData)
noncomputable def Slot.addr : Slot → Option Addr
  | .own _ a _ => some a
  | .cel true a _ => some a
  | _ => none
noncomputable def Slot.kind : Slot → NameKind
  | .cel _ _ _ => .cell
  | _ => .local
noncomputable def CelDen (Z : Fz) : Option Value → Option PyData → Prop
  | some v, some d => Den Z v d
  | none, none => True
  | _, _ => False
theorem CelDen.mono {Z Z' : Fz} (h : Ext Z Z') : ∀ {v : Option Value} {d : Option PyData}, CelDen Z v d → CelDen Z' v d
  | some _, some _, e => Den.mono h e
  | none, none, _ => trivial
abbrev Sto := List (Str × Slot)

structure Cx where
  prog : Program
  w : World
  A : Around
  env : Env
  Z0 : Fz
  s0 : Shared
  N : Nat
  mg : Str → Option Value
  mb : Str → Option Value
  B : Heap

structure Base (B : Heap) (mg mb : Str → Option Value) : Prop where
  g : B.Ns mainGlobals mg
  b : B.Ns builtinsNs mb
  nolimit : B.NoLimit

structure Lv (k : Nat) (A : Around) : Prop where
  hh : A.handled = none
  depth : A.depth + 5 * k + 200 < recursionLimit
  units : A.units + 50 * k + 1000 < cLine

structure Ok (c : Cx) (k : Nat) : Prop where
  kind : c.env.scope.kind = .function
  glob : c.env.globals = mainGlobals
  bi : c.env.builtins = builtinsNs
  lv : Lv k c.A
  base : Base c.B c.mg c.mb
  old : ∀ a o, c.B.get? a = some o → c.Z0 a = some o
  low : c.N ≤ c.env.locals

noncomputable def Var (c : Cx) (K : Kp) (Z : Fz) (s : Shared) (m : Str → Option Value) (p : Str × Slot) : Prop :=
  match p.2 with
  | .no => True
  | .val d => ∃ v, m p.1 = some v ∧ Den Z v d
  | .own b a ds => m p.1 = some (.ref a) ∧ Z a = none ∧ K a = none ∧ a ≠ c.env.locals ∧ (b = true → c.N ≤ a) ∧
      ∃ vs n, s.heap.get? a = some (lst vs n) ∧ DenAll Z vs.toList ds
  | .cel w a d => c.env.cells.lookup p.1 = some a ∧ (w = true → Z a = none ∧ K a = none ∧ a ≠ c.env.locals) ∧ (w = false → ∃ r, K a = some r) ∧ ∃ v, s.heap.IsCell a v ∧ CelDen Z v d

structure Inv (c : Cx) (K : Kp) (Z : Fz) (σ : Sto) (s : Shared) : Prop where
  kept : ∀ a o b, K a = some (o, b) → s.heap.get? a = some o
  wall : ∀ a o, K a = some (o, true) → Z a = none
  data : ∀ a o, Z a = some o → s.heap.get? a = some o
  born : ∀ a o, Z a = some o → c.Z0 a = some o ∨ c.N ≤ a
  old : ∀ a o, c.Z0 a = some o → Z a = some o
  noL : Z c.env.locals = none
  noLK : K c.env.locals = none
  rest : ∃ h tk, s = { c.s0 with heap := h, toks := tk }
  names : (σ.map (·.1)).Nodup
  locs : ∀ p ∈ σ, c.env.kindOf p.1 = some p.2.kind
  vars : ∃ m, s.heap.Ns c.env.locals m ∧ ∀ p ∈ σ, Var c K Z s m p
  apart : ∀ p ∈ σ, ∀ q ∈ σ, p.1 ≠ q.1 → ∀ a, p.2.addr = some a → q.2.addr ≠ some a

section
variable {c : Cx} {K : Kp} {Z Z' : Fz} {σ : Sto} {s : Shared} {h' : Heap} {tk : Nat} {m : Str → Option Value} {p : Str × Slot}

theorem Var.keeps (V : Var c K Z s m p) (hk : ∀ b o, s.heap.get? b = some o → h'.get? b = some o) : Var c K Z { s with heap := h', toks := tk } m p := by
  obtain ⟨x, sl⟩ := p
  cases sl with
  | no => exact V
  | val d => exact V
  | own b a ds =>
    obtain ⟨h1, h2, h3, h4, h5, vs, n, h6, h7⟩ := V
    exact ⟨h1, h2, h3, h4, h5, vs, n, hk _ _ h6, h7⟩
  | cel w a d =>
    obtain ⟨h1, h2, h3, v, h4, h5⟩ := V
    exact ⟨h1, h2, h3, v, h4.keeps hk, h5⟩

theorem Inv.keeps (I : Inv c K Z σ s) (hk : ∀ b o, s.heap.get? b = some o → h'.get? b = some o) : Inv c K Z σ { s with heap := h', toks := tk } := by
  obtain ⟨m, hn, hv⟩ := I.vars
  refine ⟨fun a o b e => hk _ _ (I.kept a o b e), I.wall, fun a o e => hk _ _ (I.data a o e), I.born, I.old, I.noL, I.noLK, ?_, I.names, I.locs, ⟨m, hn.keeps hk, fun p hp => (hv p hp).keeps hk⟩, I.apart⟩
  obtain ⟨h, t, rfl⟩ := I.rest
  exact ⟨_, _, rfl⟩

theorem Inv.tok (I : Inv c K Z σ s) : Inv c K Z σ { s with toks := tk } := I.keeps (h' := s.heap) fun _ _ e => e

theorem Inv.lt (I : Inv c K Z σ s) {a : Addr} {o : Obj} (h : Z a = some o) : a < s.heap.objs.size := Heap.lt_size (I.data _ _ h)
theorem Inv.fresh (I : Inv c K Z σ s) {a : Addr} (h : s.heap.objs.size ≤ a) : Z a = none := by
  cases e : Z a with
  | none => rfl
  | some o => exact absurd (I.lt e) (Nat.not_lt.mpr h)
theorem Inv.freshK (I : Inv c K Z σ s) {a : Addr} (h : s.heap.objs.size ≤ a) : K a = none := by
  cases e : K a with
  | none => rfl
  | some o => exact absurd (Heap.lt_size (I.kept _ _ _ e)) (Nat.not_lt.mpr h)
theorem Inv.ltL (I : Inv c K Z σ s) : c.env.locals < s.heap.objs.size := let ⟨_, hn, _⟩ := I.vars; hn.lt

theorem Var.ext (V : Var c K Z s m p) {a' : Addr} {o : Obj} (ha : Z a' = none) (hc : p.2.addr ≠ some a') : Var c K (Z.add a' o) s m p := by
  obtain ⟨x, sl⟩ := p
  cases sl with
  | no => exact V
  | val d => obtain ⟨v, h1, h2⟩ := V; exact ⟨v, h1, h2.mono (Ext.add ha)⟩
  | own b a ds =>
    obtain ⟨h1, h2, h3, h4, h5, vs, n, h6, h7⟩ := V
    exact ⟨h1, (Fz.add_ne (fun e => hc (by rw [← e]; rfl))).trans h2, h3, h4, h5, vs, n, h6, h7.mono (Ext.add ha)⟩
  | cel w a d =>
    obtain ⟨h1, h2, h3, v, h4, h5⟩ := V
    exact ⟨h1, fun hw => ⟨(Fz.add_ne (fun e => hc (by rw [← e, hw]; rfl))).trans (h2 hw).1, (h2 hw).2⟩, h3, v, h4, h5.mono (Ext.add ha)⟩
theorem Var.ltAddr (V : Var c K Z s m p) {a : Addr} (ha : p.2.addr = some a) : a < s.heap.objs.size := by
  obtain ⟨x, sl⟩ := p
  cases sl with
  | no => cases ha
  | val d => cases ha
  | own b a ds =>
    cases ha
    obtain ⟨_, _, _, _, _, vs, n, h6, _⟩ := V
    exact Heap.lt_size h6
  | cel w a d =>
    obtain ⟨_, _, _, v, h4, _⟩ := V
    cases w with
    | false => cases ha
    | true => cases ha; exact h4.lt
theorem Var.noZ (V : Var c K Z s m p) {a : Addr} (ha : p.2.addr = some a) : Z a = none ∧ K a = none ∧ a ≠ c.env.locals := by
  obtain ⟨x, sl⟩ := p
  cases sl with
  | no => cases ha
  | val d => cases ha
  | own b a ds =>
    cases ha
    obtain ⟨_, h2, h3, h4, _⟩ := V
    exact ⟨h2, h3, h4⟩
  | cel w a d =>
    obtain ⟨_, h2, _⟩ := V
    cases w with
    | false => cases ha
    | true => cases ha; exact h2 rfl

theorem Var.ltOwn {x : Str} {b : Bool} {a : Addr} {ds : List PyData} (V : Var c K Z s m (x, .own b a ds)) : a < s.heap.objs.size := by
  obtain ⟨_, _, _, _, _, vs, n, h6, _⟩ := V
  exact Heap.lt_size h6

theorem Inv.alloc (I : Inv c K Z σ s) (hk : ∀ b o, s.heap.get? b = some o → h'.get? b = some o) {a : Addr} {o : Obj} (ha : h'.get? a = some o) (hN : s.heap.objs.size ≤ a)
    (hlow : c.N ≤ c.env.locals) :
    Inv c K (Z.add a o) σ { s with heap := h', toks := tk } ∧ Ext Z (Z.add a o) := by
  have hZ := I.fresh hN
  refine ⟨?_, Ext.add hZ⟩
  have J := I.keeps (h' := h') (tk := tk) hk
  obtain ⟨m0, hn0, hv0⟩ := I.vars
  refine ⟨J.kept, fun b o' e => ?_, fun b o' e => ?_, fun b o' e => ?_, fun b o' e => Ext.add hZ _ _ (I.old b o' e), ?_, J.noLK, J.rest, J.names, J.locs, ⟨m0, hn0.keeps hk, fun p hp => ?_⟩, I.apart⟩
  · rw [Fz.add_ne (fun hb => by subst hb; exact absurd (Heap.lt_size (I.kept _ _ _ e)) (Nat.not_lt.mpr hN))]
    exact I.wall _ _ e
  · by_cases hb : b = a
    · subst hb; rw [Fz.add_same] at e; cases e; exact ha
    · rw [Fz.add_ne hb] at e; exact J.data b o' e
  · by_cases hb : b = a
    · subst hb; exact .inr (Nat.le_trans hlow (Nat.le_trans (Nat.le_of_lt I.ltL) hN))
    · rw [Fz.add_ne hb] at e; exact J.born b o' e
  · rw [Fz.add_ne (Nat.ne_of_lt (Nat.lt_of_lt_of_le I.ltL hN))]; exact I.noL
  · exact ((hv0 p hp).keeps hk).ext hZ fun e => absurd ((hv0 p hp).ltAddr e) (Nat.not_lt.mpr hN)

theorem pushKeeps (h : Heap) (o : Obj) : ∀ b o', h.get? b = some o' → (h.push o).get? b = some o' := fun _ _ e => Heap.get?_push_of_some _ e

theorem Inv.push (I : Inv c K Z σ s) (hlow : c.N ≤ c.env.locals) {o : Obj} (hf : o.isFreed = false := by with_unfolding_all rfl) :
    Inv c K (Z.add s.heap.objs.size o) σ { s with heap := s.heap.push o } ∧ Ext Z (Z.add s.heap.objs.size o) :=
  I.alloc (tk := s.toks) (pushKeeps _ _) (Heap.get?_push_size _ hf) (Nat.le_refl _) hlow
end

inductive Fl where
  | next | brk | cont
  | ret (d : PyData)
noncomputable def FlDen (Z : Fz) : Flow → Fl → Prop
  | .next, .next => True
  | .brk, .brk => True
  | .cont, .cont => True
  | .ret v, .ret d => Den Z v d
  | _, _ => False

abbrev noE : Value → Shared → Prop := fun _ _ => False

noncomputable def VPost (c : Cx) (K : Kp) (Z : Fz) (Q : PyData → Sto → Prop) (v : Value) (s' : Shared) : Prop :=
  ∃ d σ' Z', Ext Z Z' ∧ Inv c K Z' σ' s' ∧ Den Z' v d ∧ Q d σ'
noncomputable def VsPost (c : Cx) (K : Kp) (Z : Fz) (Q : List PyData → Sto → Prop) (vs : List Value) (s' : Shared) : Prop :=
  ∃ ds σ' Z', Ext Z Z' ∧ Inv c K Z' σ' s' ∧ DenAll Z' vs ds ∧ Q ds σ'
noncomputable def TPost (c : Cx) (K : Kp) (Z : Fz) (Q : Bool → Sto → Prop) (b : Bool) (s' : Shared) : Prop :=
  ∃ σ' Z', Ext Z Z' ∧ Inv c K Z' σ' s' ∧ Q b σ'
noncomputable def XPost (c : Cx) (K : Kp) (Z : Fz) (Q : Fl → Sto → Prop) (f : Flow) (s' : Shared) : Prop :=
  ∃ r σ' Z', Ext Z Z' ∧ Inv c K Z' σ' s' ∧ FlDen Z' f r ∧ Q r σ'

noncomputable def EV (c : Cx) (e : Expr) (σ : Sto) (Q : PyData → Sto → Prop) : Prop :=
  ∀ K Z s, Inv c K Z σ s → wpAny (model c.prog c.w) c.A (eval e c.env) (VPost c K Z Q) noE s
noncomputable def EVs (c : Cx) (es : List Expr) (σ : Sto) (Q : List PyData → Sto → Prop) : Prop :=
  ∀ K Z s pos, Inv c K Z σ s → wpAny (model c.prog c.w) c.A (spliced (backTo pos (starEach es c.env))) (VsPost c K Z Q) noE s
noncomputable def ET (c : Cx) (e : Expr) (σ : Sto) (Q : Bool → Sto → Prop) : Prop :=
  ∀ K Z s, Inv c K Z σ s → wpAny (model c.prog c.w) c.A (isTrue e c.env (eval e c.env)) (TPost c K Z Q) noE s
noncomputable def EX (c : Cx) (st : Stmt) (σ : Sto) (Q : Fl → Sto → Prop) : Prop :=
  ∀ K Z s, Inv c K Z σ s → wpAny (model c.prog c.w) c.A (exec st c.env) (XPost c K Z Q) noE s
noncomputable def EXs (c : Cx) (sts : List Stmt) (σ : Sto) (Q : Fl → Sto → Prop) : Prop :=
  ∀ K Z s, Inv c K Z σ s → wpAny (model c.prog c.w) c.A (execs sts c.env) (XPost c K Z Q) noE s
/-- an operation upon values -/
noncomputable def OP (c : Cx) (t : Value → Value → Sem Value) (a b : PyData) (Q : PyData → Prop) : Prop :=
  ∀ K Z σ s va vb, Inv c K Z σ s → Den Z va a → Den Z vb b → wpAny (model c.prog c.w) c.A (t va vb) (VPost c K Z fun d σ' => σ' = σ ∧ Q d) noE s

section
variable {c : Cx} {k : Nat} {σ : Sto}

theorem VPost.mono {K : Kp} {Z Z1 : Fz} {Q : PyData → Sto → Prop} {v : Value} {s : Shared} (h : VPost c K Z1 Q v s) (e : Ext Z Z1) : VPost c K Z Q v s :=
  let ⟨d, σ', Z', a, b, cc, dd⟩ := h; ⟨d, σ', Z', e.trans a, b, cc, dd⟩
theorem VsPost.mono {K : Kp} {Z Z1 : Fz} {Q : List PyData → Sto → Prop} {v : List Value} {s : Shared} (h : VsPost c K Z1 Q v s) (e : Ext Z Z1) : VsPost c K Z Q v s :=
  let ⟨d, σ', Z', a, b, cc, dd⟩ := h; ⟨d, σ', Z', e.trans a, b, cc, dd⟩
theorem TPost.mono {K : Kp} {Z Z1 : Fz} {Q : Bool → Sto → Prop} {v : Bool} {s : Shared} (h : TPost c K Z1 Q v s) (e : Ext Z Z1) : TPost c K Z Q v s :=
  let ⟨σ', Z', a, b, cc⟩ := h; ⟨σ', Z', e.trans a, b, cc⟩
theorem XPost.mono {K : Kp} {Z Z1 : Fz} {Q : Fl → Sto → Prop} {v : Flow} {s : Shared} (h : XPost c K Z1 Q v s) (e : Ext Z Z1) : XPost c K Z Q v s :=
  let ⟨d, σ', Z', a, b, cc, dd⟩ := h; ⟨d, σ', Z', e.trans a, b, cc, dd⟩

theorem noE_mono {α : Type} {M : Model} {A : Around} {t : Sem α} {Q Q' : α → Shared → Prop} {s : Shared} (h : wpAny M A t Q noE s) (hQ : ∀ a s, Q a s → Q' a s) : wpAny M A t Q' noE s :=
  wpAny_mono h hQ fun _ _ x => x

/-! constants -/
theorem r_int {i : Int} {q : Nat} {pos : Pos} {Q : PyData → Sto → Prop} (h : Q (.int i) σ) : EV c (.Constant (.int i) q pos) σ Q :=
  fun _ _ _ I => wpAny_Constant_int ⟨_, _, _, Ext.refl _, I.tok, .int _ _, h⟩
theorem r_str {x : Str} {q : Nat} {pos : Pos} {Q : PyData → Sto → Prop} (h : Q (.str x) σ) : EV c (.Constant (.str x) q pos) σ Q :=
  fun _ _ _ I => Calls.Constant_str ⟨_, _, _, Ext.refl _, I.tok, .str _ _, h⟩
theorem r_bool {b : Bool} {q : Nat} {pos : Pos} {Q : PyData → Sto → Prop} (h : Q (.bool b) σ) : EV c (.Constant (.bool b) q pos) σ Q :=
  fun K Z s I => fun _ _ _ => (⟨_, _, _, Ext.refl _, I, .bool _, h⟩ : VPost c K Z Q (.bool b) s)

/-! names -/
theorem r_loc (O : Ok c k) (i : Nat) {x : Str} {pos : Pos} {d : PyData} {Q : PyData → Sto → Prop} (hi : σ[i]? = some (x, .val d)) (h : Q d σ)
    (hd : (x == ("__debug__" : Str)) = false := by decide +kernel) : EV c (.Name x pos) σ Q := fun K Z s I => by
  obtain ⟨m, hn, hv⟩ := I.vars
  have hm := List.mem_of_getElem? hi
  obtain ⟨v, h1, h2⟩ := hv _ hm
  exact wpAny_Name (wpAny_loadName_local O.kind (I.locs _ hm) hn h1 ⟨d, σ, Z, Ext.refl _, I, h2, h⟩) hd

theorem r_glob (O : Ok c k) {x : Str} {pos : Pos} {v : Value} {d : PyData} {Q : PyData → Sto → Prop} (hx : c.env.kindOf x = some .globalImplicit) (hv : c.mg x = some v) (hden : Den c.Z0 v d) (h : Q d σ)
    (hd : (x == ("__debug__" : Str)) = false := by decide +kernel) : EV c (.Name x pos) σ Q := fun K Z s I => by
  refine Calls.Name_function_global O.kind hx (Calls.loadGlobal_global (env := c.env) (mg := c.mg) ?_ hv ⟨d, σ, Z, Ext.refl _, I, hden.mono I.old, h⟩) hd
  rw [O.glob]
  exact O.base.g.keeps fun b o e => I.data _ _ (I.old _ _ (O.old _ _ e))
end

section
variable {c : Cx} {K : Kp} {Z Z' : Fz} {σ : Sto} {s : Shared} {h' : Heap} {tk : Nat} {k : Nat}

theorem Var.exts {m : Str → Option Value} {p : Str × Slot} (V : Var c K Z s m p) (e : Ext Z Z') (hc : ∀ a, p.2.addr = some a → Z' a = none) : Var c K Z' s m p := by
  obtain ⟨x, sl⟩ := p
  cases sl with
  | no => exact V
  | val d => obtain ⟨v, h1, h2⟩ := V; exact ⟨v, h1, h2.mono e⟩
  | own b a ds =>
    obtain ⟨h1, h2, h3, h4, h5, vs, n, h6, h7⟩ := V
    exact ⟨h1, hc _ rfl, h3, h4, h5, vs, n, h6, h7.mono e⟩
  | cel w a d =>
    obtain ⟨h1, h2, h3, v, h4, h5⟩ := V
    exact ⟨h1, fun hw => ⟨hc _ (by rw [hw]; rfl), (h2 hw).2⟩, h3, v, h4, h5.mono e⟩

theorem Inv.grow (I : Inv c K Z σ s) (hlow : c.N ≤ c.env.locals) (hk : ∀ b o, s.heap.get? b = some o → h'.get? b = some o) (e : Ext Z Z')
    (hd : ∀ a o, Z' a = some o → h'.get? a = some o) (hb : ∀ a o, Z' a = some o → Z a = some o ∨ s.heap.objs.size ≤ a) : Inv c K Z' σ { s with heap := h', toks := tk } := by
  have J := I.keeps (h' := h') (tk := tk) hk
  obtain ⟨m0, hn0, hv0⟩ := I.vars
  have no : ∀ a, a < s.heap.objs.size → Z a = none → Z' a = none := fun a ha hz => by
    cases q : Z' a with
    | none => rfl
    | some o =>
      rcases hb a o q with h | h
      · rw [hz] at h; cases h
      · exact absurd ha (Nat.not_lt.mpr h)
  refine ⟨J.kept, fun b o' q => ?_, hd, fun b o' q => ?_, fun b o' q => e _ _ (I.old b o' q), no _ I.ltL I.noL, J.noLK, J.rest, J.names, J.locs, ⟨m0, hn0.keeps hk, fun p hp => ?_⟩, I.apart⟩
  · cases q2 : Z' b with
    | none => rfl
    | some o2 =>
      rcases hb b o2 q2 with h | h
      · rw [I.wall _ _ q] at h; cases h
      · exact absurd (Heap.lt_size (I.kept _ _ _ q)) (Nat.not_lt.mpr h)
  · rcases hb b o' q with h | h
    · exact I.born _ _ h
    · exact .inr (Nat.le_trans hlow (Nat.le_trans (Nat.le_of_lt I.ltL) h))
  · exact ((hv0 p hp).keeps hk).exts e fun a q => no _ ((hv0 p hp).ltAddr q) ((hv0 p hp).noZ q).1
end

noncomputable def OPB (c : Cx) (op : CmpOp) (a b : PyData) (Q : Bool → Prop) : Prop := OP c (compareOp op) a b fun d => ∃ t, d = .bool t ∧ Q t
noncomputable def EAll (c : Cx) (op : BoolOp) (es : List Expr) (σ : Sto) (Q : Bool → Sto → Prop) : Prop :=
  ∀ K Z s, Inv c K Z σ s → wpAny (model c.prog c.w) c.A (allTrue op es c.env) (TPost c K Z Q) noE s
noncomputable def EBool (c : Cx) (pos : Pos) (op : BoolOp) (es : List Expr) (σ : Sto) (Q : PyData → Sto → Prop) : Prop :=
  ∀ K Z s, Inv c K Z σ s → wpAny (model c.prog c.w) c.A (boolOp pos op (evalEach es c.env)) (VPost c K Z Q) noE s
noncomputable def EVo (c : Cx) (e : Option Expr) (σ : Sto) (Q : Option Int → Sto → Prop) : Prop :=
  ∀ K Z s, Inv c K Z σ s → wpAny (model c.prog c.w) c.A (evalPart e c.env) (fun v s' => ∃ lo σ' Z', Ext Z Z' ∧ Inv c K Z' σ' s' ∧ IsPart v lo ∧ Q lo σ') noE s

section
variable {c : Cx} {k : Nat} {σ : Sto}

theorem r_binop {l r : Expr} {op : Operator} {pos : Pos} {Q : PyData → Sto → Prop} (h : EV c l σ fun a σ1 => EV c r σ1 fun b σ2 => OP c (binaryOp op) a b fun d => Q d σ2) :
    EV c (.BinOp l op r pos) σ Q := fun K Z s I => by
  refine wpAny_BinOp (noE_mono (h K Z s I) fun a s1 P1 => ?_)
  obtain ⟨da, σ1, Z1, e1, I1, D1, h1⟩ := P1
  refine noE_mono (h1 K Z1 s1 I1) fun b s2 P2 => ?_
  obtain ⟨db, σ2, Z2, e2, I2, D2, h2⟩ := P2
  refine noE_mono (h2 K Z2 σ2 s2 a b I2 (D1.mono e2) D2) fun v s3 P3 => ?_
  obtain ⟨d, σ3, Z3, e3, I3, D3, rfl, h3⟩ := P3
  exact ⟨d, _, Z3, (e1.trans e2).trans e3, I3, D3, h3⟩

theorem r_cmp {l r : Expr} {op : CmpOp} {pos : Pos} {Q : PyData → Sto → Prop} (h : EV c l σ fun a σ1 => EV c r σ1 fun b σ2 => OPB c op a b fun t => Q (.bool t) σ2)
    (hm : behindInMarks op r = false := by with_unfolding_all rfl) :
    EV c (.Compare l [op] [r] pos) σ Q := fun K Z s I => by
  refine wpAny_Compare1 (noE_mono (h K Z s I) fun a s1 P1 => ?_) hm
  obtain ⟨da, σ1, Z1, e1, I1, D1, h1⟩ := P1
  refine noE_mono (h1 K Z1 s1 I1) fun b s2 P2 => ?_
  obtain ⟨db, σ2, Z2, e2, I2, D2, h2⟩ := P2
  refine noE_mono (h2 K Z2 σ2 s2 a b I2 (D1.mono e2) D2) fun v s3 P3 => ?_
  obtain ⟨d, σ3, Z3, e3, I3, D3, rfl, t, rfl, h3⟩ := P3
  exact ⟨_, _, Z3, (e1.trans e2).trans e3, I3, D3, h3⟩

theorem rt_cmp {l r : Expr} {op : CmpOp} {pos : Pos} {Q : Bool → Sto → Prop} (h : EV c l σ fun a σ1 => EV c r σ1 fun b σ2 => OPB c op a b fun t => Q t σ2)
    (hm : behindInMarks op r = false := by with_unfolding_all rfl) :
    ET c (.Compare l [op] [r] pos) σ Q := fun K Z s I => by
  refine wpAny_isTrue_Compare1 (noE_mono (h K Z s I) fun a s1 P1 => ?_) hm
  obtain ⟨da, σ1, Z1, e1, I1, D1, h1⟩ := P1
  refine noE_mono (h1 K Z1 s1 I1) fun b s2 P2 => ?_
  obtain ⟨db, σ2, Z2, e2, I2, D2, h2⟩ := P2
  refine noE_mono (h2 K Z2 σ2 s2 a b I2 (D1.mono e2) D2) fun v s3 P3 => ?_
  obtain ⟨d, σ3, Z3, e3, I3, D3, rfl, t, rfl, h3⟩ := P3
  cases D3
  exact wpAny_truthy_bool ⟨_, Z3, (e1.trans e2).trans e3, I3, h3⟩

theorem rt_not {x : Expr} {pos : Pos} {Q : Bool → Sto → Prop} (h : ET c x σ fun b σ' => Q (!b) σ') : ET c (.UnaryOp .Not x pos) σ Q := fun K Z s I => by
  show wpAny _ _ (do return !(← isTrue x c.env (eval x c.env))) _ _ _
  exact wpAny_bind (noE_mono (h K Z s I) fun b s' P => wpAny_pure P)

theorem rt_bool {op : BoolOp} {es : List Expr} {pos : Pos} {Q : Bool → Sto → Prop} (h : EAll c op es σ Q) : ET c (.BoolOp op es pos) σ Q := fun K Z s I => h K Z s I
theorem all_nil {op : BoolOp} {Q : Bool → Sto → Prop} (h : Q (op == .And) σ) : EAll c op [] σ Q := fun K Z s I => wpAny_pure ⟨σ, Z, Ext.refl _, I, h⟩
theorem all_and {x : Expr} {es : List Expr} {Q : Bool → Sto → Prop} (h : ET c x σ fun b σ' => if b = true then EAll c .And es σ' Q else Q false σ') : EAll c .And (x :: es) σ Q := fun K Z s I => by
  show wpAny _ _ (do match BoolOp.And, ← isTrue x c.env (eval x c.env) with | .And, false => pure false | .Or, true => pure true | _, _ => allTrue .And es c.env) _ _ _
  refine wpAny_bind (noE_mono (h K Z s I) fun b s' P => ?_)
  obtain ⟨σ1, Z1, e1, I1, h1⟩ := P
  cases b with
  | false => exact wpAny_pure ⟨σ1, Z1, e1, I1, by simpa using h1⟩
  | true => exact noE_mono ((by simpa using h1 : EAll c .And es σ1 Q) K Z1 s' I1) fun b s2 P2 => P2.mono e1
theorem all_or {x : Expr} {es : List Expr} {Q : Bool → Sto → Prop} (h : ET c x σ fun b σ' => if b = true then Q true σ' else EAll c .Or es σ' Q) : EAll c .Or (x :: es) σ Q := fun K Z s I => by
  show wpAny _ _ (do match BoolOp.Or, ← isTrue x c.env (eval x c.env) with | .And, false => pure false | .Or, true => pure true | _, _ => allTrue .Or es c.env) _ _ _
  refine wpAny_bind (noE_mono (h K Z s I) fun b s' P => ?_)
  obtain ⟨σ1, Z1, e1, I1, h1⟩ := P
  cases b with
  | true => exact wpAny_pure ⟨σ1, Z1, e1, I1, by simpa using h1⟩
  | false => exact noE_mono ((by simpa using h1 : EAll c .Or es σ1 Q) K Z1 s' I1) fun b s2 P2 => P2.mono e1

theorem rt_val_aux {e : Expr} {Q : Bool → Sto → Prop} (h : EV c e σ fun d σ' => ∃ b, d = .bool b ∧ Q b σ')
    (he : isTrue e c.env (eval e c.env) = (do let v ← eval e c.env; standAt e.pos; holding [v] (truthy v))) : ET c e σ Q := fun K Z s I => by
  rw [he]
  refine wpAny_bind (noE_mono (h K Z s I) fun v s' P => ?_)
  obtain ⟨d, σ1, Z1, e1, I1, D1, b, rfl, h1⟩ := P
  cases D1
  exact wpAny_bind (wpAny_standAt (wpAny_holding (wpAny_truthy_bool ⟨σ1, Z1, e1, I1, h1⟩)))
theorem rt_name {x : Str} {p : Pos} {Q : Bool → Sto → Prop} (h : EV c (.Name x p) σ fun d σ' => ∃ b, d = .bool b ∧ Q b σ') : ET c (.Name x p) σ Q := rt_val_aux h rfl
theorem rt_call {f : Str} {p pos : Pos} {as : List Expr} {ks : List Keyword} {Q : Bool → Sto → Prop} (h : EV c (.Call (.Name f p) as ks pos) σ fun d σ' => ∃ b, d = .bool b ∧ Q b σ') : ET c (.Call (.Name f p) as ks pos) σ Q := rt_val_aux h rfl

theorem r_boolop {op : BoolOp} {es : List Expr} {pos : Pos} {Q : PyData → Sto → Prop} (h : EBool c pos op es σ Q) : EV c (.BoolOp op es pos) σ Q := fun K Z s I => h K Z s I
theorem bool_one {pos : Pos} {op : BoolOp} {x : Expr} {Q : PyData → Sto → Prop} (h : EV c x σ Q) : EBool c pos op [x] σ Q := fun K Z s I => h K Z s I
theorem bool_and {pos : Pos} {x y : Expr} {es : List Expr} {Q : PyData → Sto → Prop} (h : EV c x σ fun d σ' => ∃ b, d = .bool b ∧ (if b = true then EBool c pos .And (y :: es) σ' Q else Q (.bool false) σ')) :
    EBool c pos .And (x :: y :: es) σ Q := fun K Z s I => by
  show wpAny _ _ (do let v ← eval x c.env; standAt pos; let t ← holding [v] (truthy v); match BoolOp.And, t with | .And, false | .Or, true => pure v | _, _ => boolOp pos .And (evalEach (y :: es) c.env)) _ _ _
  refine wpAny_bind (noE_mono (h K Z s I) fun v s' P => ?_)
  obtain ⟨d, σ1, Z1, e1, I1, D1, b, rfl, h1⟩ := P
  cases D1
  refine wpAny_bind (wpAny_standAt (wpAny_bind (wpAny_holding (wpAny_truthy_bool ?_))))
  cases b with
  | false => exact wpAny_pure ⟨_, σ1, Z1, e1, I1, .bool _, by simpa using h1⟩
  | true => exact noE_mono ((by simpa using h1 : EBool c pos .And (y :: es) σ1 Q) K Z1 s' I1) fun b s2 P2 => P2.mono e1
theorem bool_or {pos : Pos} {x y : Expr} {es : List Expr} {Q : PyData → Sto → Prop} (h : EV c x σ fun d σ' => ∃ b, d = .bool b ∧ (if b = true then Q (.bool true) σ' else EBool c pos .Or (y :: es) σ' Q)) :
    EBool c pos .Or (x :: y :: es) σ Q := fun K Z s I => by
  show wpAny _ _ (do let v ← eval x c.env; standAt pos; let t ← holding [v] (truthy v); match BoolOp.Or, t with | .And, false | .Or, true => pure v | _, _ => boolOp pos .Or (evalEach (y :: es) c.env)) _ _ _
  refine wpAny_bind (noE_mono (h K Z s I) fun v s' P => ?_)
  obtain ⟨d, σ1, Z1, e1, I1, D1, b, rfl, h1⟩ := P
  cases D1
  refine wpAny_bind (wpAny_standAt (wpAny_bind (wpAny_holding (wpAny_truthy_bool ?_))))
  cases b with
  | true => exact wpAny_pure ⟨_, σ1, Z1, e1, I1, .bool _, by simpa using h1⟩
  | false => exact noE_mono ((by simpa using h1 : EBool c pos .Or (y :: es) σ1 Q) K Z1 s' I1) fun b s2 P2 => P2.mono e1

theorem r_ifexp {t a b : Expr} {pos : Pos} {Q : PyData → Sto → Prop} (h : ET c t σ fun v σ' => if v = true then EV c a σ' Q else EV c b σ' Q) : EV c (.IfExp t a b pos) σ Q := fun K Z s I => by
  show wpAny _ _ (do if ← isTrue t c.env (eval t c.env) then eval a c.env else eval b c.env) _ _ _
  refine wpAny_bind (noE_mono (h K Z s I) fun v s' P => ?_)
  obtain ⟨σ1, Z1, e1, I1, h1⟩ := P
  cases v with
  | true => exact noE_mono ((by simpa using h1 : EV c a σ1 Q) K Z1 s' I1) fun b s2 P2 => P2.mono e1
  | false => exact noE_mono ((by simpa using h1 : EV c b σ1 Q) K Z1 s' I1) fun b s2 P2 => P2.mono e1

/-! several -/
theorem es_nil {Q : List PyData → Sto → Prop} (h : Q [] σ) : EVs c [] σ Q := fun K Z s pos I => by
  show wpAny _ _ (spliced []) _ _ _
  exact Calls.spliced_nil ⟨[], σ, Z, Ext.refl _, I, .nil, h⟩
theorem es_cons {e : Expr} {es : List Expr} {Q : List PyData → Sto → Prop} (h : EV c e σ fun d σ1 => EVs c es σ1 fun ds σ2 => Q (d :: ds) σ2)
    (he : starEach (e :: es) c.env = (false, eval e c.env) :: starEach es c.env := by with_unfolding_all rfl) : EVs c (e :: es) σ Q := fun K Z s pos I => by
  rw [he]
  show wpAny _ _ (spliced ((false, eval e c.env) :: backTo pos (starEach es c.env))) _ _ _
  refine Calls.spliced_cons (noE_mono (h K Z s I) fun v s1 P => ?_)
  obtain ⟨d, σ1, Z1, e1, I1, D1, h1⟩ := P
  refine noE_mono (h1 K Z1 s1 pos I1) fun vs s2 P2 => ?_
  obtain ⟨ds, σ2, Z2, e2, I2, D2, h2⟩ := P2
  exact ⟨d :: ds, σ2, Z2, e1.trans e2, I2, .cons (D1.mono e2) D2, h2⟩

theorem r_list (O : Ok c k) {es : List Expr} {pos : Pos} {Q : PyData → Sto → Prop} (h : EVs c es σ fun ds σ' => ds.length ≤ sizeLine ∧ Q (.list ds) σ') : EV c (.List es pos) σ Q := fun K Z s I => by
  refine List_ (noE_mono (h K Z s pos I) fun vs s' P => ?_)
  obtain ⟨ds, σ1, Z1, e1, I1, D1, hl, h1⟩ := P
  obtain ⟨J, eJ⟩ := I1.push O.low (o := { cls := .type "list", data := .seq vs.toArray })
  refine PySem.wpAny_newList ⟨.list ds, σ1, _, e1.trans eJ, J, .list (Fz.add_same _ _ _) (by simpa using D1.mono eJ), h1⟩ (by rw [D1.length]; exact hl)
theorem r_tuple (O : Ok c k) {es : List Expr} {q : Nat} {pos : Pos} {Q : PyData → Sto → Prop} (h : EVs c es σ fun ds σ' => ds.length ≤ sizeLine ∧ Q (.tuple ds) σ') : EV c (.Tuple es q pos) σ Q := fun K Z s I => by
  refine Tuple_ (noE_mono (h K Z s pos I) fun vs s' P => ?_)
  obtain ⟨ds, σ1, Z1, e1, I1, D1, hl, h1⟩ := P
  obtain ⟨J, eJ⟩ := I1.push O.low (o := { cls := .type "tuple", data := .seq vs.toArray })
  refine PySem.wpAny_newTuple ⟨.tuple ds, σ1, _, e1.trans eJ, J, .tuple (Fz.add_same _ _ _) rfl rfl (by simpa using D1.mono eJ), h1⟩ (by rw [D1.length]; exact hl)

/-! items -/
noncomputable def IT (c : Cx) (a b : PyData) (Q : PyData → Prop) : Prop :=
  ∀ K Z σ s va vb, Inv c K Z σ s → Den Z va a → Den Z vb b → ∀ value slice, (∀ o i, subscripted slice false o i = operate [o, i] (getItem o i)) →
    wpAny (model c.prog c.w) c.A (subscriptTail value slice va vb) (VPost c K Z fun d σ' => σ' = σ ∧ Q d) noE s
theorem r_item {value slice : Expr} {pos : Pos} {Q : PyData → Sto → Prop} (h : EV c value σ fun a σ1 => EV c slice σ1 fun b σ2 => IT c a b fun d => Q d σ2)
    (hs : ∀ o i, subscripted slice false o i = operate [o, i] (getItem o i) := by intro _ _; with_unfolding_all rfl) : EV c (.Subscript value slice pos) σ Q := fun K Z s I => by
  refine Subscript_ (noE_mono (h K Z s I) fun a s1 P1 => ?_)
  obtain ⟨da, σ1, Z1, e1, I1, D1, h1⟩ := P1
  refine noE_mono (h1 K Z1 s1 I1) fun b s2 P2 => ?_
  obtain ⟨db, σ2, Z2, e2, I2, D2, h2⟩ := P2
  refine noE_mono (h2 K Z2 σ2 s2 a b I2 (D1.mono e2) D2 value slice hs) fun v s3 P3 => ?_
  obtain ⟨d, σ3, Z3, e3, I3, D3, rfl, h3⟩ := P3
  exact ⟨d, _, Z3, (e1.trans e2).trans e3, I3, D3, h3⟩
theorem it_list {ds : List PyData} {i : Int} {d : PyData} {Q : PyData → Prop} (h0 : 0 ≤ i) (hd : ds[i.toNat]? = some d) (hf : i < 2 ^ 63) (h : Q d) : IT c (.list ds) (.int i) Q := fun K Z σ s va vb I Da Db value slice hs => by
  cases Da with | list hz D => ?_
  cases Db
  obtain ⟨v, hv, Dv⟩ := D.get hd
  have hl : s.heap.IsList _ _ := IsL.isList (I.data _ _ hz)
  exact tail_any hl.typeIs slot_list_getitem.lookup (wpAny_getItem_list hl h0 hf (by simpa using hv) ⟨d, σ, Z, Ext.refl _, I, Dv, rfl, h⟩) (hs _ _)
theorem it_neg {ds : List PyData} {i : Int} {d : PyData} {Q : PyData → Prop} (h0 : i < 0) (h1 : -(ds.length : Int) ≤ i) (hf : -(2 ^ 63) ≤ i) (hd : ds[(i + ds.length).toNat]? = some d) (h : Q d) : IT c (.list ds) (.int i) Q := fun K Z σ s va vb I Da Db value slice hs => by
  cases Da with | list hz D => ?_
  cases Db
  obtain ⟨v, hv, Dv⟩ := D.get hd
  have hl : s.heap.IsList _ _ := IsL.isList (I.data _ _ hz)
  have hsz := D.length
  rw [Array.length_toList] at hsz
  exact tail_any hl.typeIs slot_list_getitem.lookup (wpAny_getItem_list_neg hl h0 (by rw [hsz]; exact h1) hf (by rw [hsz]; simpa using hv) ⟨d, σ, Z, Ext.refl _, I, Dv, rfl, h⟩) (hs _ _)
theorem it_tup {ds : List PyData} {i : Int} {d : PyData} {Q : PyData → Prop} (h0 : 0 ≤ i) (hd : ds[i.toNat]? = some d) (hf : i < 2 ^ 63) (h : Q d) : IT c (.tuple ds) (.int i) Q := fun K Z σ s va vb I Da Db value slice hs => by
  cases Da with | tuple hz hc hd2 D => ?_
  cases Db
  obtain ⟨v, hv, Dv⟩ := D.get hd
  have hl : IsTup s.heap _ _ := ⟨_, I.data _ _ hz, hc, _, hd2⟩
  have hsz := D.length
  rw [Array.length_toList] at hsz
  have hlt : i.toNat < ds.length := (List.getElem?_eq_some_iff.mp hd).1
  exact tail_any hl.typeIs slot_tuple_getitem.lookup (PyProof.Rows.getItem_tuple hl (by omega) hf (j := i.toNat) (by unfold seqIndex?; rw [hsz]; simp; omega) (by simpa using hv) ⟨d, σ, Z, Ext.refl _, I, Dv, rfl, h⟩) (hs _ _)

/-! slices -/
theorem o_none {Q : Option Int → Sto → Prop} (h : Q none σ) : EVo c none σ Q := fun K Z s I => wpAny_pure ⟨none, σ, Z, Ext.refl _, I, .none, h⟩
theorem o_some {e : Expr} {Q : Option Int → Sto → Prop} (h : EV c e σ fun d σ' => ∃ i, d = .int i ∧ Q (some i) σ') : EVo c (some e) σ Q := fun K Z s I => by
  show wpAny _ _ (eval e c.env) _ _ _
  refine noE_mono (h K Z s I) fun v s' P => ?_
  obtain ⟨d, σ1, Z1, e1, I1, D1, i, rfl, h1⟩ := P
  cases D1
  exact ⟨some i, σ1, Z1, e1, I1, .int _ _, h1⟩
noncomputable def cutAt {α : Type} (l : List α) : Option Int → Option Int → List α
  | none, none => l
  | some a, none => l.drop a.toNat
  | none, some b => l.take b.toNat
  | some a, some b => (l.drop a.toNat).take (b.toNat - a.toNat)
noncomputable def nonneg : Option Int → Prop
  | none => True
  | some i => 0 ≤ i
theorem take_min {α : Type} (l : List α) (b : Nat) : l.take (min b l.length) = l.take b := by
  rcases Nat.le_total b l.length with h | h
  · rw [Nat.min_eq_left h]
  · rw [Nat.min_eq_right h, List.take_length, List.take_of_length_le h]
theorem drop_min {α : Type} (l : List α) (a : Nat) : l.drop (min a l.length) = l.drop a := by
  rcases Nat.le_total a l.length with h | h
  · rw [Nat.min_eq_left h]
  · rw [Nat.min_eq_right h, List.drop_length, List.drop_of_length_le h]
theorem pick_nat (its : Array Value) {lo hi : Option Int} {a b : Nat} (e : sliceBounds lo hi none its.size = ((a : Int), (b : Int), 1)) : slicePick its lo hi none = ((its.toList.drop a).take (b - a)).toArray := by
  simp only [slicePick, e, sliceRange_one, pick_run]
noncomputable def loAt (n : Nat) : Option Int → Nat
  | none => 0
  | some a => min a.toNat n
noncomputable def hiAt (n : Nat) : Option Int → Nat
  | none => n
  | some b => min b.toNat n
theorem min_nonneg {a : Int} {n : Nat} (h : 0 ≤ a) : min a n = ((min a.toNat n : Nat) : Int) := by omega
theorem bounds_nat {lo hi : Option Int} {n : Nat} (h1 : nonneg lo) (h2 : nonneg hi) : sliceBounds lo hi none n = (((loAt n lo : Nat) : Int), ((hiAt n hi : Nat) : Int), 1) := by
  cases lo with
  | none =>
    cases hi with
    | none => rfl
    | some b => simp [sliceBounds, loAt, hiAt, Int.not_lt.mpr h2, min_nonneg h2]
  | some a =>
    cases hi with
    | none => simp [sliceBounds, loAt, hiAt, Int.not_lt.mpr h1, min_nonneg h1]
    | some b => simp [sliceBounds, loAt, hiAt, Int.not_lt.mpr h1, Int.not_lt.mpr h2, min_nonneg h1, min_nonneg h2]
theorem pick_cut {its : Array Value} {lo hi : Option Int} (h1 : nonneg lo) (h2 : nonneg hi) : (slicePick its lo hi none).toList = cutAt its.toList lo hi := by
  rw [pick_nat _ (bounds_nat h1 h2), List.toList_toArray, ← Array.length_toList]
  generalize its.toList = l
  cases lo with
  | none =>
    cases hi with
    | none => exact List.take_length
    | some b => exact take_min l _
  | some a =>
    simp only [loAt, drop_min]
    cases hi with
    | none => exact List.take_of_length_le (by rw [List.length_drop, hiAt]; omega)
    | some b =>
      simp only [hiAt, cutAt]
      rcases Nat.le_total a.toNat l.length with h | h
      · rw [← take_min _ (b.toNat - a.toNat), List.length_drop, Nat.min_eq_left h, Nat.sub_min_sub_right]
      · rw [List.drop_of_length_le h, List.take_nil, List.take_nil]
theorem DenAll.cut {Z : Fz} {vs : List Value} {ds : List PyData} (h : DenAll Z vs ds) (lo hi : Option Int) : DenAll Z (cutAt vs lo hi) (cutAt ds lo hi) := by
  cases lo <;> cases hi <;> simp only [cutAt]
  · exact h
  · exact h.take _
  · exact h.drop _
  · exact (h.drop _).take _
theorem cut_map {α β : Type} (f : α → β) (l : List α) (lo hi : Option Int) : cutAt (l.map f) lo hi = (cutAt l lo hi).map f := by
  cases lo <;> cases hi <;> simp only [cutAt, List.map_drop, List.map_take]
noncomputable def SL (a : PyData) (lo hi : Option Int) (Q : PyData → Prop) : Prop := ∃ ds, a = .list ds ∧ ds.length ≤ sizeLine ∧ nonneg lo ∧ nonneg hi ∧ Q (.list (cutAt ds lo hi))
theorem sl_map {α : Type} {f : α → PyData} {l : List α} {lo hi : Option Int} {Q : PyData → Prop} (hl : l.length ≤ sizeLine) (h1 : nonneg lo) (h2 : nonneg hi) (h : Q (.list ((cutAt l lo hi).map f))) : SL (.list (l.map f)) lo hi Q :=
  ⟨_, rfl, by rw [List.length_map]; exact hl, h1, h2, by rw [cut_map]; exact h⟩
theorem r_slice (O : Ok c k) {value : Expr} {lower upper : Option Expr} {p pos : Pos} {Q : PyData → Sto → Prop}
    (h : EV c value σ fun a σ1 => EVo c lower σ1 fun lo σ2 => EVo c upper σ2 fun hi σ3 => SL a lo hi fun d => Q d σ3) :
    EV c (.Subscript value (.Slice lower upper none p) pos) σ Q := fun K Z s I => by
  refine Subscript_ (noE_mono (h K Z s I) fun a s1 P1 => ?_)
  obtain ⟨da, σ1, Z1, e1, I1, D1, h1⟩ := P1
  refine wpAny_Slice (noE_mono (h1 K Z1 s1 I1) fun vl s2 P2 => ?_)
  obtain ⟨lo, σ2, Z2, e2, I2, p1, h2⟩ := P2
  refine noE_mono (h2 K Z2 s2 I2) fun vu s3 P3 => ?_
  obtain ⟨hi, σ3, Z3, e3, I3, p2, ds, rfl, hl, n1, n2, h3⟩ := P3
  have D3 := (D1.mono e2).mono e3
  cases D3 with | list hz D => ?_
  rename_i a vs n
  refine wpAny_pure ?_
  have hL : s3.heap.IsList a vs := IsL.isList (I3.data _ _ hz)
  obtain ⟨J, eJ⟩ := I3.push O.low (o := { cls := .type "slice", data := .fields #[vl, vu, .none] })
  obtain ⟨J2, eJ2⟩ := (I3.keeps (h' := s3.heap.push { cls := .type "slice", data := .fields #[vl, vu, .none] }) (tk := s3.toks) (pushKeeps _ _)).push O.low (o := { cls := .type "list", data := .seq (slicePick vs lo hi none) })
  refine tail_any (Heap.IsList.typeIs (s := { s3 with heap := s3.heap.push { cls := .type "slice", data := .fields #[vl, vu, .none] } }) (hL.push _)) list_getitem_lookup
    (wpAny_getItem_list_slice (hL.push _) (Heap.IsSliceOf.new ..) p1 p2 .none (by simp) ⟨_, σ3, _, ((e1.trans e2).trans e3).trans eJ2, J2, .list (Fz.add_same _ _ _) (by rw [pick_cut n1 n2]; exact (D.cut lo hi).mono eJ2), h3⟩ ?_) (by rfl)
  rw [← Array.length_toList, D.length]; exact hl
end

inductive GetAt : Sto → Str → Slot → Prop
  | zero {x : Str} {sl : Slot} {l : Sto} : GetAt ((x, sl) :: l) x sl
  | succ {p : Str × Slot} {l : Sto} {x : Str} {sl : Slot} : GetAt l x sl → GetAt (p :: l) x sl
inductive SetAt : Sto → Str → Slot → Sto → Prop
  | zero {x : Str} {old v : Slot} {l : Sto} (h : old.kind = v.kind) : SetAt ((x, old) :: l) x v ((x, v) :: l)
  | succ {p : Str × Slot} {l l' : Sto} {x : Str} {v : Slot} : SetAt l x v l' → SetAt (p :: l) x v (p :: l')
inductive SetAll : Sto → List Str → List PyData → Sto → Prop
  | nil {σ : Sto} : SetAll σ [] [] σ
  | cons {σ σ1 σ' : Sto} {x : Str} {d : PyData} {xs : List Str} {ds : List PyData} : SetAt σ x (.val d) σ1 → SetAll σ1 xs ds σ' → SetAll σ (x :: xs) (d :: ds) σ'

theorem GetAt.mem : ∀ {σ : Sto} {x : Str} {sl : Slot}, GetAt σ x sl → (x, sl) ∈ σ
  | _, _, _, .zero => List.mem_cons_self
  | _, _, _, .succ h => List.mem_cons_of_mem _ h.mem
theorem SetAt.names : ∀ {σ σ' : Sto} {x : Str} {v : Slot}, SetAt σ x v σ' → σ'.map (·.1) = σ.map (·.1)
  | _, _, _, _, .zero _ => rfl
  | _, _, _, _, .succ h => by simp only [List.map_cons, h.names]
theorem SetAt.memx : ∀ {σ σ' : Sto} {x : Str} {v : Slot}, SetAt σ x v σ' → ∃ old, (x, old) ∈ σ ∧ old.kind = v.kind
  | _, _, _, _, .zero h => ⟨_, List.mem_cons_self, h⟩
  | _, _, _, _, .succ h => let ⟨o, ho, hk⟩ := h.memx; ⟨o, List.mem_cons_of_mem _ ho, hk⟩
theorem SetAt.mem : ∀ {σ σ' : Sto} {x : Str} {v : Slot} {p : Str × Slot}, SetAt σ x v σ' → (σ.map (·.1)).Nodup → p ∈ σ' → p = (x, v) ∨ (p ∈ σ ∧ p.1 ≠ x)
  | _, _, x, v, p, .zero _, hn, hp => by
    rw [List.map_cons, List.nodup_cons] at hn
    rcases List.mem_cons.mp hp with h | h
    · exact .inl h
    · exact .inr ⟨List.mem_cons_of_mem _ h, fun e => hn.1 (e ▸ List.mem_map_of_mem (f := (·.1)) h)⟩
  | _, _, x, v, p, .succ (p := q) h, hn, hp => by
    rw [List.map_cons, List.nodup_cons] at hn
    rcases List.mem_cons.mp hp with e | e
    · subst e
      obtain ⟨old, ho, _⟩ := h.memx
      exact .inr ⟨List.mem_cons_self, fun e => hn.1 (e ▸ List.mem_map_of_mem (f := (·.1)) ho)⟩
    · rcases h.mem hn.2 e with h | ⟨h1, h2⟩
      · exact .inl h
      · exact .inr ⟨List.mem_cons_of_mem _ h1, h2⟩

theorem GetAt.at {σ : Sto} {x : Str} {sl : Slot} : ∀ (i : Nat), σ[i]? = some (x, sl) → GetAt σ x sl := by
  intro i h
  induction σ generalizing i with
  | nil => cases h
  | cons p l ih =>
    cases i with
    | zero => cases h; exact .zero
    | succ i => exact .succ (ih i (by rw [List.getElem?_cons_succ] at h; exact h))
noncomputable def AS (c : Cx) (t : Expr) (d : PyData) (σ : Sto) (Q : Sto → Prop) : Prop :=
  ∀ K Z s v, Inv c K Z σ s → Den Z v d → wpAny (model c.prog c.w) c.A (assign t c.env v) (fun _ s' => ∃ σ' Z', Ext Z Z' ∧ Inv c K Z' σ' s' ∧ Q σ') noE s
noncomputable def ASs (c : Cx) (ts : List Expr) (ds : List PyData) (σ : Sto) (Q : Sto → Prop) : Prop :=
  ∀ K Z s vs, Inv c K Z σ s → DenAll Z vs ds → wpAny (model c.prog c.w) c.A (assignInOrder ((assignEach ts c.env).map (·.2)) vs) (fun _ s' => ∃ σ' Z', Ext Z Z' ∧ Inv c K Z' σ' s' ∧ Q σ') noE s

section
variable {c : Cx} {K : Kp} {Z Z' : Fz} {σ σ' : Sto} {s : Shared} {h' : Heap} {tk k : Nat}

theorem Var.same (hL : K c.env.locals = none) {m m' : Str → Option Value} {p : Str × Slot} (V : Var c K Z s m p) (hm : m' p.1 = m p.1)
    (hs : Heap.SameBut c.env.locals s.heap h') : Var c K Z { s with heap := h', toks := tk } m' p := by
  obtain ⟨x, sl⟩ := p
  cases sl with
  | no => trivial
  | val d => obtain ⟨v, h1, h2⟩ := V; exact ⟨v, hm.trans h1, h2⟩
  | own b a ds =>
    obtain ⟨h1, h2, h3, h4, h5, vs, n, h6, h7⟩ := V
    exact ⟨hm.trans h1, h2, h3, h4, h5, vs, n, (hs.2 _ h4).trans h6, h7⟩
  | cel w a d =>
    obtain ⟨h1, h2, h3, v, h4, h5⟩ := V
    refine ⟨h1, h2, h3, v, h4.sameBut hs ?_, h5⟩
    cases w with
    | true => exact (h2 rfl).2.2
    | false => obtain ⟨r, hr⟩ := h3 rfl; exact fun q => by rw [q, hL] at hr; cases hr

theorem Inv.store (I : Inv c K Z σ s) {x : Str} {slot : Slot} (S : SetAt σ x slot σ') {m : Str → Option Value} {v : Value}
    (hv : ∀ p ∈ σ, Var c K Z s m p)
    (hn' : h'.Ns c.env.locals (fun y => if y = x then some v else m y)) (hs : Heap.SameBut c.env.locals s.heap h')
    (V : Var c K Z { s with heap := h', toks := tk } (fun y => if y = x then some v else m y) (x, slot))
    (hx : ∀ a, slot.addr = some a → ∀ q ∈ σ, q.1 ≠ x → q.2.addr ≠ some a) : Inv c K Z σ' { s with heap := h', toks := tk } := by
  refine ⟨fun a o b e => (hs.2 a (fun q => by rw [q, I.noLK] at e; cases e)).trans (I.kept a o b e), I.wall, fun a o e => (hs.2 a (fun q => by rw [q, I.noL] at e; cases e)).trans (I.data a o e), I.born, I.old, I.noL, I.noLK, ?_,
    by rw [S.names]; exact I.names, fun p hp => ?_, ⟨_, hn', fun p hp => ?_⟩, fun p hp q hq hne a ha => ?_⟩
  · obtain ⟨h, t, rfl⟩ := I.rest
    exact ⟨_, _, rfl⟩
  · rcases S.mem I.names hp with rfl | ⟨h, _⟩
    · obtain ⟨old, ho, hk⟩ := S.memx
      have q := I.locs (x, old) ho
      simp only [hk] at q
      exact q
    · exact I.locs _ h
  · rcases S.mem I.names hp with rfl | ⟨h, hne⟩
    · exact V
    · exact (hv p h).same I.noLK (if_neg hne) hs
  · rcases S.mem I.names hp with rfl | ⟨hp', hpx⟩
    · rcases S.mem I.names hq with rfl | ⟨hq', hqx⟩
      · exact absurd rfl hne
      · exact hx a ha q hq' hqx
    · rcases S.mem I.names hq with rfl | ⟨hq', hqx⟩
      · exact fun e => hx a e p hp' hpx ha
      · exact I.apart p hp' q hq' hne a ha

theorem notClass (O : Ok c k) : (c.env.scope.kind == .class || (c.env.scope.kind == .module && c.env.locals != c.env.globals)) = false := by rw [O.kind]; rfl

theorem store_val (O : Ok c k) (I : Inv c K Z σ s) {x : Str} {v : Value} {d : PyData} (S : SetAt σ x (.val d) σ') (D : Den Z v d) {Q : Unit → Shared → Prop} (h : ∀ s', Inv c K Z σ' s' → Q () s') :
    wpAny (model c.prog c.w) c.A (storeName c.env x v) Q noE s := by
  obtain ⟨m, hn, hv⟩ := I.vars
  obtain ⟨old, ho, hk⟩ := S.memx
  have hloc := I.locs (x, old) ho
  simp only [hk] at hloc
  refine wpAny_storeName_local hloc hn (fun h1 hn1 hs1 => h _ ?_) (notClass O)
  exact I.store S hv hn1 hs1 ⟨v, if_pos rfl, D⟩ (fun _ e => by cases e)

/-! names: local ones -/
theorem r_loc' (O : Ok c k) {x : Str} {pos : Pos} {d : PyData} {Q : PyData → Sto → Prop} (hg : GetAt σ x (.val d)) (h : Q d σ)
    (hd : (x == ("__debug__" : Str)) = false := by decide +kernel) : EV c (.Name x pos) σ Q := fun K Z s I => by
  obtain ⟨m, hn, hv⟩ := I.vars
  obtain ⟨v, h1, h2⟩ := hv _ hg.mem
  exact wpAny_Name (wpAny_loadName_local O.kind (I.locs _ hg.mem) hn h1 ⟨d, σ, Z, Ext.refl _, I, h2, h⟩) hd

theorem Inv.freeze (I : Inv c K Z σ s) {x : Str} {a : Addr} {ds : List PyData} (hg : GetAt σ x (.own true a ds)) (S : SetAt σ x (.val (.list ds)) σ') :
    ∃ m Z', s.heap.Ns c.env.locals m ∧ m x = some (.ref a) ∧ Ext Z Z' ∧ Inv c K Z' σ' s ∧ Den Z' (.ref a) (.list ds) := by
  obtain ⟨m, hn, hv⟩ := I.vars
  obtain ⟨h1, h2, h3, h4, h5, vs, n, h6, h7⟩ := hv _ hg.mem
  simp only at h1 h2 h3 h4 h5 h6
  have e : Ext Z (Z.add a (lst vs n)) := Ext.add h2
  refine ⟨m, Z.add a (lst vs n), hn, h1, e, ?_, .list (Fz.add_same _ _ _) (h7.mono e)⟩
  refine ⟨I.kept, fun b o q => ?_, fun b o q => ?_, fun b o q => ?_, fun b o q => e _ _ (I.old b o q), (Fz.add_ne (Ne.symm h4)).trans I.noL, I.noLK, I.rest, by rw [S.names]; exact I.names, fun p hp => ?_, ⟨m, hn, fun p hp => ?_⟩,
    fun p hp q hq hne a' p1 => ?_⟩
  · rw [Fz.add_ne (fun q2 => by subst q2; rw [h3] at q; cases q)]; exact I.wall b o q
  · by_cases hb : b = a
    · subst hb; rw [Fz.add_same] at q; cases q; exact h6
    · rw [Fz.add_ne hb] at q; exact I.data b o q
  · by_cases hb : b = a
    · subst hb; exact .inr (h5 trivial)
    · rw [Fz.add_ne hb] at q; exact I.born b o q
  · rcases S.mem I.names hp with rfl | ⟨h, _⟩
    · have q := I.locs (x, .own true a ds) hg.mem
      exact q
    · exact I.locs _ h
  · rcases S.mem I.names hp with rfl | ⟨h, hpx⟩
    · exact ⟨_, h1, .list (Fz.add_same _ _ _) (h7.mono e)⟩
    · exact (hv p h).ext h2 (I.apart _ hg.mem p h (Ne.symm hpx) a rfl)
  · rcases S.mem I.names hp with rfl | ⟨hp', hpx⟩
    · cases p1
    · rcases S.mem I.names hq with rfl | ⟨hq', hqx⟩
      · intro p2; cases p2
      · exact I.apart p hp' q hq' hne a' p1

theorem r_own (O : Ok c k) {x : Str} {pos : Pos} {a : Addr} {ds : List PyData} {Q : PyData → Sto → Prop} (hg : GetAt σ x (.own true a ds)) (S : SetAt σ x (.val (.list ds)) σ') (h : Q (.list ds) σ')
    (hd : (x == ("__debug__" : Str)) = false := by decide +kernel) : EV c (.Name x pos) σ Q := fun K Z s I => by
  obtain ⟨m, Z', hn, hm, e, J, D⟩ := I.freeze hg S
  exact wpAny_Name (wpAny_loadName_local O.kind (I.locs _ hg.mem) hn hm ⟨_, σ', Z', e, J, D, h⟩) hd

/-! cells -/
theorem r_cel (O : Ok c k) {x : Str} {pos : Pos} {w : Bool} {a : Addr} {d : PyData} {Q : PyData → Sto → Prop} (hg : GetAt σ x (.cel w a (some d))) (h : Q d σ)
    (hd : (x == ("__debug__" : Str)) = false := by decide +kernel) : EV c (.Name x pos) σ Q := fun K Z s I => by
  obtain ⟨m, hn, hv⟩ := I.vars
  obtain ⟨h1, h2, h3, v, h4, h5⟩ := hv _ hg.mem
  cases v with
  | none => exact h5.elim
  | some v => exact wpAny_Name (wpAny_loadName_cell O.kind (I.locs _ hg.mem) h1 h4 ⟨d, σ, Z, Ext.refl _, I, h5, h⟩) hd

theorem store_cel (O : Ok c k) (I : Inv c K Z σ s) {x : Str} {v : Value} {a : Addr} {od : Option PyData} {d : PyData} (hg : GetAt σ x (.cel true a od)) (S : SetAt σ x (.cel true a (some d)) σ') (D : Den Z v d) {Q : Unit → Shared → Prop} (h : ∀ s', Inv c K Z σ' s' → Q () s') :
    wpAny (model c.prog c.w) c.A (storeName c.env x v) Q noE s := by
  obtain ⟨m, hn, hv⟩ := I.vars
  obtain ⟨h1, h2, h3, v0, h4, h5⟩ := hv _ hg.mem
  obtain ⟨hZ, hK, hL⟩ := h2 rfl
  refine wpAny_storeName_cell O.kind (I.locs _ hg.mem) h1 h4 fun h' hc hs => h _ ?_
  have ne : ∀ {y : Addr} {o : Obj}, Z y = some o → y ≠ a := fun {y o} e q => by rw [q, hZ] at e; cases e
  refine ⟨fun y o w e => (hs.2 y (fun q => by rw [q, hK] at e; cases e)).trans (I.kept y o w e), I.wall, fun y o e => (hs.2 y (ne e)).trans (I.data y o e), I.born, I.old, I.noL, I.noLK, ?_,
    by rw [S.names]; exact I.names, fun p hp => ?_, ⟨m, hn.sameBut hs (Ne.symm hL), fun p hp => ?_⟩, fun p hp q hq hne a' ha => ?_⟩
  · obtain ⟨h, t, rfl⟩ := I.rest
    exact ⟨_, _, rfl⟩
  · rcases S.mem I.names hp with rfl | ⟨h, _⟩
    · have q := I.locs _ hg.mem
      exact q
    · exact I.locs _ h
  · rcases S.mem I.names hp with rfl | ⟨h, hpx⟩
    · exact ⟨h1, h2, h3, _, hc, D⟩
    · have V := hv _ h
      have hna : ∀ a2, p.2.addr = some a2 → a2 ≠ a := fun a2 e q => I.apart _ hg.mem _ h (Ne.symm hpx) a rfl (by rw [e, q])
      obtain ⟨y, sl⟩ := p
      cases sl with
      | no => trivial
      | val d => exact V
      | own b2 a2 ds2 =>
        obtain ⟨g1, g2, g3, g4, g5, ws, l, g6, g7⟩ := V
        exact ⟨g1, g2, g3, g4, g5, ws, l, (hs.2 _ (hna _ rfl)).trans g6, g7⟩
      | cel w2 a2 d2 =>
        obtain ⟨g1, g2, g3, v2, g4, g5⟩ := V
        refine ⟨g1, g2, g3, v2, g4.sameBut hs ?_, g5⟩
        cases w2 with
        | true => exact hna _ rfl
        | false => obtain ⟨r, hr⟩ := g3 rfl; exact fun q => by rw [q, hK] at hr; cases hr
  · have mem : ∀ r ∈ σ', ∃ r' ∈ σ, r'.1 = r.1 ∧ r'.2.addr = r.2.addr := fun r hr => by
      rcases S.mem I.names hr with rfl | ⟨h, _⟩
      · exact ⟨_, hg.mem, rfl, rfl⟩
      · exact ⟨r, h, rfl, rfl⟩
    obtain ⟨p', hp', e1, e2⟩ := mem p hp
    obtain ⟨q', hq', e3, e4⟩ := mem q hq
    rw [← e4]
    exact I.apart p' hp' q' hq' (by rw [e1, e3]; exact hne) a' (e2.trans ha)

/-! targets -/
theorem as_name (O : Ok c k) {x : Str} {p : Pos} {d : PyData} {Q : Sto → Prop} (S : SetAt σ x (.val d) σ') (h : Q σ') : AS c (.Name x p) d σ Q := fun K Z s v I D =>
  PySem.wpAny_assign_Name (store_val O I S D fun s' J => ⟨σ', Z, Ext.refl _, J, h⟩)
theorem ass_nil {Q : Sto → Prop} (h : Q σ) : ASs c [] [] σ Q := fun K Z s vs I D => by
  cases D
  exact wpAny_pure ⟨σ, Z, Ext.refl _, I, h⟩
theorem ass_cons {t : Expr} {ts : List Expr} {d : PyData} {ds : List PyData} {Q : Sto → Prop} (h : AS c t d σ fun σ1 => ASs c ts ds σ1 Q)
    (he : assignEach (t :: ts) c.env = (false, assign t c.env) :: assignEach ts c.env := by with_unfolding_all rfl) : ASs c (t :: ts) (d :: ds) σ Q := fun K Z s vs I D => by
  cases D with | cons D1 D2 => ?_
  rw [he]
  show wpAny _ _ (do holding _ (assign t c.env _); assignInOrder ((assignEach ts c.env).map (·.2)) _) _ _ _
  refine wpAny_bind (wpAny_holding (noE_mono (h K Z s _ I D1) fun _ s1 P => ?_))
  obtain ⟨σ1, Z1, e1, I1, h1⟩ := P
  refine noE_mono (h1 K Z1 s1 _ I1 (D2.mono e1)) fun _ s2 P2 => ?_
  obtain ⟨σ2, Z2, e2, I2, h2⟩ := P2
  exact ⟨σ2, Z2, e1.trans e2, I2, h2⟩

theorem unpack_core (O : Ok c k) (I : Inv c K Z σ s) {v : Value} {ds : List PyData} {n : Nat} (D : Den Z v (.tuple ds)) (hn : n = ds.length) {Q : List Value → Shared → Prop}
    (h : ∀ vs s', Inv c K Z σ s' → DenAll Z vs ds → Q vs s') : wpAny (model c.prog c.w) c.A (unpackItems v n none) Q noE s := by
  cases D with | tuple hz hc hd D => ?_
  rename_i a o vs m
  have hsz := D.length
  rw [Array.length_toList] at hsz
  subst hn
  rw [← hsz]
  exact PyProof.Rows.unpackItems_tuple O.lv.hh ⟨_, I.data _ _ hz, hc, _, hd⟩ fun h' he => h _ _ (I.keeps (tk := s.toks) fun b o e => he b o (Nat.ne_of_lt (Heap.lt_size e)) e) D

theorem as_tuple (O : Ok c k) {ts : List Expr} {q : Nat} {p : Pos} {ds : List PyData} {Q : Sto → Prop} (h : ASs c ts ds σ Q) (hl : ts.length = ds.length := by with_unfolding_all rfl)
    (hx : (assignEach ts c.env).findIdx? (·.1) = none := by with_unfolding_all rfl) (hx2 : (assignEach ts c.env).length = ts.length := by with_unfolding_all rfl) : AS c (.Tuple ts q p) (.tuple ds) σ Q := fun K Z s v I D => by
  show wpAny _ _ (do standAt p; unpack v (assignEach ts c.env)) _ _ _
  refine wpAny_bind (wpAny_standAt ?_)
  unfold unpack
  rw [hx, hx2]
  exact wpAny_bind (wpAny_holding (unpack_core O I D hl fun vs s' J D' => h K Z s' vs J D'))
end

/-! statements -/
section
variable {c : Cx} {σ σ' : Sto} {k : Nat}

theorem xs_nil {Q : Fl → Sto → Prop} (h : Q .next σ) : EXs c [] σ Q := fun K Z s I => wpAny_execs_nil ⟨.next, σ, Z, Ext.refl _, I, trivial, h⟩
noncomputable def thenXs (c : Cx) (rest : List Stmt) (Q : Fl → Sto → Prop) (f : Fl) (σ : Sto) : Prop := match f with
  | .next => EXs c rest σ Q
  | f => Q f σ
theorem xs_cons {st : Stmt} {rest : List Stmt} {Q : Fl → Sto → Prop} (h : EX c st σ (thenXs c rest Q)) : EXs c (st :: rest) σ Q := fun K Z s I => by
  refine wpAny_execs_cons (noE_mono (h K Z s I) fun f s1 P => ?_)
  obtain ⟨r, σ1, Z1, e1, I1, D, h1⟩ := P
  cases f <;> cases r <;> first | exact D.elim | skip
  · exact noE_mono (h1 K Z1 s1 I1) fun _ _ P2 => P2.mono e1
  · exact ⟨_, σ1, Z1, e1, I1, D, h1⟩
  · exact ⟨_, σ1, Z1, e1, I1, D, h1⟩
  · exact ⟨_, σ1, Z1, e1, I1, D, h1⟩

theorem x_assign (O : Ok c k) {x : Str} {pp : Pos} {value : Expr} {pos : Pos} {Q : Fl → Sto → Prop} (h : EV c value σ fun d σ1 => ∃ σ2, SetAt σ1 x (.val d) σ2 ∧ Q .next σ2)
    (hs : swapsWith value (some (.Name x pp)) pos.line c.env = pure false := by with_unfolding_all rfl) : EX c (.Assign [.Name x pp] value pos) σ Q := fun K Z s I => by
  refine wpAny_Assign_Name (noE_mono (h K Z s I) fun v s1 P => ?_) hs
  obtain ⟨d, σ1, Z1, e1, I1, D1, σ2, S, h1⟩ := P
  exact store_val O I1 S D1 fun s2 J => ⟨.next, σ2, Z1, e1, J, trivial, h1⟩

theorem x_ret {e : Expr} {pos : Pos} {Q : Fl → Sto → Prop} (h : EV c e σ fun d σ1 => Q (.ret d) σ1) : EX c (.Return (some e) pos) σ Q := fun K Z s I =>
  wpAny_Return_some (noE_mono (h K Z s I) fun v s1 P => by
    obtain ⟨d, σ1, Z1, e1, I1, D1, h1⟩ := P
    exact ⟨.ret d, σ1, Z1, e1, I1, D1, h1⟩)
theorem x_break {pos : Pos} {Q : Fl → Sto → Prop} (h : Q .brk σ) : EX c (.Break pos) σ Q := fun K Z s I => by
  show wpAny _ _ (do standAt pos; pure Flow.brk) _ _ _
  exact wpAny_bind (wpAny_standAt (wpAny_pure ⟨.brk, σ, Z, Ext.refl _, I, trivial, h⟩))
theorem x_if {test : Expr} {body orelse : List Stmt} {pos : Pos} {Q : Fl → Sto → Prop} (h : ET c test σ fun b σ1 => if b = true then EXs c body σ1 Q else EXs c orelse σ1 Q) :
    EX c (.If test body orelse pos) σ Q := fun K Z s I => by
  refine wpAny_If (noE_mono (h K Z s I) fun b s1 P => ?_)
  obtain ⟨σ1, Z1, e1, I1, h1⟩ := P
  cases b with
  | true => exact noE_mono ((by simpa using h1 : EXs c body σ1 Q) K Z1 s1 I1) fun _ _ P2 => P2.mono e1
  | false => exact noE_mono ((by simpa using h1 : EXs c orelse σ1 Q) K Z1 s1 I1) fun _ _ P2 => P2.mono e1

/-- the end of a loop's turn -/
noncomputable def turnEnd (next : Sto → Prop) (Q : Fl → Sto → Prop) (f : Fl) (σ : Sto) : Prop := match f with
  | .next | .cont => next σ
  | .brk => Q .next σ
  | .ret d => Q (.ret d) σ

theorem mark_none {A : Around} : A.mark none = A := by
  obtain ⟨hd, d, fr, gs, u⟩ := A
  simp [Around.mark]

theorem x_while {test : Expr} {body : List Stmt} {pos : Pos} {Q : Fl → Sto → Prop} (J : Nat → Sto → Prop) (n : Nat) (h0 : J n σ)
    (turn : ∀ n σ1, J n σ1 → ET c test σ1 fun b σ2 => if b = true then EXs c body σ2 (turnEnd (fun σ3 => ∃ m, m < n ∧ J m σ3) Q) else Q .next σ2) :
    EX c (.While test body [] pos) σ Q := fun K Z s I => by
  refine wpAny_While (codeAny_whileLoop (fun n s' => ∃ σ1 Z1, Ext Z Z1 ∧ Inv c K Z1 σ1 s' ∧ J n σ1) ?_ n ⟨σ, Z, Ext.refl _, I, h0⟩)
  rintro n s' ⟨σ1, Z1, e1, I1, j1⟩
  refine wpAny_mono (turn n σ1 j1 K Z1 s' I1) (fun b s2 P => ?_) fun _ _ x => x.elim
  obtain ⟨σ2, Z2, e2, I2, h2⟩ := P
  cases b with
  | false =>
    simp only [Bool.false_eq_true, if_false] at h2 ⊢
    exact wpAny_execs_nil ⟨.next, σ2, Z2, e1.trans e2, I2, trivial, h2⟩
  | true =>
    simp only [if_true] at h2 ⊢
    refine wpAny_mono (h2 K Z2 s2 I2) (fun f s3 P3 => ?_) fun _ _ x => x.elim
    obtain ⟨r, σ3, Z3, e3, I3, D, h3⟩ := P3
    cases f <;> cases r <;> first | exact D.elim | skip
    · obtain ⟨m, hm, jm⟩ := h3
      exact ⟨m, hm, σ3, Z3, (e1.trans e2).trans e3, I3, jm⟩
    · exact ⟨.next, σ3, Z3, (e1.trans e2).trans e3, I3, trivial, h3⟩
    · obtain ⟨m, hm, jm⟩ := h3
      exact ⟨m, hm, σ3, Z3, (e1.trans e2).trans e3, I3, jm⟩
    · exact ⟨.ret _, σ3, Z3, (e1.trans e2).trans e3, I3, D, h3⟩

/-! tuple targets of an assignment -/
theorem x_assign_tup {ts : List Expr} {q : Nat} {tp : Pos} {value : Expr} {pos : Pos} {Q : Fl → Sto → Prop} (h : EV c value σ fun d σ1 => AS c (.Tuple ts q tp) d σ1 fun σ2 => Q .next σ2)
    (hs : swapsWithSole [.Tuple ts q tp] value pos.line c.env = pure false := by with_unfolding_all rfl) (hw : swappedStores [.Tuple ts q tp] value c.env = pure none := by with_unfolding_all rfl) :
    EX c (.Assign [.Tuple ts q tp] value pos) σ Q := fun K Z s I => by
  refine Assign_Tuple (noE_mono (h K Z s I) fun v s1 P => ?_) hs hw
  obtain ⟨d, σ1, Z1, e1, I1, D1, h1⟩ := P
  refine noE_mono (h1 K Z1 s1 v I1 D1) fun _ s2 P2 => ?_
  obtain ⟨σ2, Z2, e2, I2, h2⟩ := P2
  exact ⟨.next, σ2, Z2, e1.trans e2, I2, trivial, h2⟩

theorem binds_core (O : Ok c k) {K : Kp} : ∀ {xs : List Str} {ds : List PyData} {vs : List Value} {σ σ' : Sto} {Z : Fz} {s : Shared} {Q : Unit → Shared → Prop}, SetAll σ xs ds σ' → Inv c K Z σ s → DenAll Z vs ds →
    (∀ s', Inv c K Z σ' s' → Q () s') → wpAny (model c.prog c.w) c.A (assignInOrder (xs.map fun n => bindName c.env n) vs) Q noE s
  | _, _, _, _, _, _, _, _, .nil, I, .nil, h => wpAny_pure (h _ I)
  | _, _, _, _, _, _, _, _, .cons S r, I, .cons D E, h => by
    show wpAny _ _ (do holding _ (bindName c.env _ _); assignInOrder _ _) _ _ _
    exact wpAny_bind (wpAny_holding (wpAny_bindName (store_val O I S D fun s1 J => binds_core O r J E h)))
theorem DenAll.reverse {Z : Fz} : ∀ {vs : List Value} {ds : List PyData}, DenAll Z vs ds → DenAll Z vs.reverse ds.reverse
  | _, _, .nil => .nil
  | _, _, .cons d r => by rw [List.reverse_cons, List.reverse_cons]; exact r.reverse.snoc d
theorem x_assign_swap (O : Ok c k) {ts : List Expr} {q : Nat} {tp : Pos} {value : Expr} {pos : Pos} {names : List Str} {Q : Fl → Sto → Prop}
    (h : EV c value σ fun d σ1 => ∃ ds σ2, d = .tuple ds ∧ names.length = ds.length ∧ SetAll σ1 names.reverse ds.reverse σ2 ∧ Q .next σ2)
    (hs : swapsWithSole [.Tuple ts q tp] value pos.line c.env = pure false := by with_unfolding_all rfl) (hw : swappedStores [.Tuple ts q tp] value c.env = pure (some names) := by with_unfolding_all rfl) :
    EX c (.Assign [.Tuple ts q tp] value pos) σ Q := fun K Z s I => by
  refine Assign_Tuple_swapped (names := names) (noE_mono (h K Z s I) fun v s1 P => ?_) hs hw
  obtain ⟨d, σ1, Z1, e1, I1, D1, ds, σ2, rfl, hl, S, h1⟩ := P
  refine unpack_core O I1 D1 hl fun vs s2 I2 D2 => ?_
  exact binds_core O S I2 D2.reverse fun s3 I3 => ⟨.next, σ2, Z1, e1, I3, trivial, h1⟩
end

/-! operations -/
section
variable {c : Cx} {k : Nat} {Q : PyData → Prop} {P : Bool → Prop} {x y : Int}

theorem op_add (h : Q (.int (x + y))) : OP c (binaryOp .Add) (.int x) (.int y) Q := fun K Z σ s va vb I Da Db => by
  cases Da; cases Db
  exact PyProof.Rows.add_int ⟨_, σ, Z, Ext.refl _, I.tok, .int _ _, rfl, h⟩
theorem op_sub (h : Q (.int (x - y))) : OP c (binaryOp .Sub) (.int x) (.int y) Q := fun K Z σ s va vb I Da Db => by
  cases Da; cases Db
  exact PyProof.Rows.sub_int ⟨_, σ, Z, Ext.refl _, I.tok, .int _ _, rfl, h⟩
theorem op_mul (hb : -(2 ^ 60) ≤ y ∧ y ≤ 2 ^ 60) (h : Q (.int (x * y))) : OP c (binaryOp .Mult) (.int x) (.int y) Q := fun K Z σ s va vb I Da Db => by
  cases Da; cases Db
  exact PyProof.Rows.mul_int ⟨_, σ, Z, Ext.refl _, I.tok, .int _ _, rfl, h⟩ (IntMulOk.of_right (by
    unfold Builtin.Int.intBits
    split
    · omega
    · rename_i h0
      have h1 : y ≠ 0 := by simpa using h0
      have : y.natAbs.log2 < 63 := (Nat.log2_lt (by omega)).mpr (by omega)
      omega))
theorem op_mod (hb : y ≠ 0) (h : Q (.int (x.fmod y))) : OP c (binaryOp .Mod) (.int x) (.int y) Q := fun K Z σ s va vb I Da Db => by
  cases Da; cases Db
  exact PyProof.Rows.mod_int' hb ⟨_, σ, Z, Ext.refl _, I.tok, .int _ _, rfl, h⟩
theorem op_fdiv (hb : y ≠ 0) (hs : y.natAbs < 1073741824) (h : Q (.int (x.fdiv y))) : OP c (binaryOp .FloorDiv) (.int x) (.int y) Q := fun K Z σ s va vb I Da Db => by
  cases Da; cases Db
  exact PyProof.Rows.floordiv_int hb ⟨_, σ, Z, Ext.refl _, I.tok, .int _ _, rfl, h⟩ (.inl (PyProof.noPylong_small hs))

theorem cmp_lt (h : P (decide (x < y))) : OPB c .Lt (.int x) (.int y) P := fun K Z σ s va vb I Da Db => by
  cases Da; cases Db
  exact PyProof.Rows.lt_int ⟨_, σ, Z, Ext.refl _, I, .bool _, rfl, _, rfl, h⟩
theorem cmp_le (h : P (decide (x ≤ y))) : OPB c .LtE (.int x) (.int y) P := fun K Z σ s va vb I Da Db => by
  cases Da; cases Db
  exact PyProof.Rows.le_int ⟨_, σ, Z, Ext.refl _, I, .bool _, rfl, _, rfl, h⟩
theorem cmp_gt (h : P (decide (y < x))) : OPB c .Gt (.int x) (.int y) P := fun K Z σ s va vb I Da Db => by
  cases Da; cases Db
  exact PyProof.Rows.gt_int ⟨_, σ, Z, Ext.refl _, I, .bool _, rfl, _, rfl, h⟩
theorem cmp_ge (h : P (decide (y ≤ x))) : OPB c .GtE (.int x) (.int y) P := fun K Z σ s va vb I Da Db => by
  cases Da; cases Db
  exact PyProof.Rows.ge_int ⟨_, σ, Z, Ext.refl _, I, .bool _, rfl, _, rfl, h⟩
theorem beq_dec (a b : Int) : (a == b) = decide (a = b) := by by_cases h : a = b <;> simp [h]
theorem cmp_eq (h : P (decide (x = y))) : OPB c .Eq (.int x) (.int y) P := fun K Z σ s va vb I Da Db => by
  cases Da; cases Db
  exact PyProof.Rows.eq_int ⟨_, σ, Z, Ext.refl _, I, .bool _, rfl, _, rfl, by rw [beq_dec]; exact h⟩
theorem cmp_ne (h : P (!decide (x = y))) : OPB c .NotEq (.int x) (.int y) P := fun K Z σ s va vb I Da Db => by
  cases Da; cases Db
  exact PyProof.Rows.ne_int ⟨_, σ, Z, Ext.refl _, I, .bool _, rfl, _, rfl, by rw [bne, beq_dec]; exact h⟩
theorem cmp_eqs {a b : Str} (h : P (a == b)) : OPB c .Eq (.str a) (.str b) P := fun K Z σ s va vb I Da Db => by
  cases Da; cases Db
  exact PyProof.Rows.eq_str ⟨_, σ, Z, Ext.refl _, I, .bool _, rfl, _, rfl, h⟩

/-! lists: equality -/
theorem ints_lay (l : List Int) : PyData.canLayAll0 (l.map .int) = true := by
  induction l with
  | nil => rfl
  | cons x r ih => simp [PyData.canLayAll0, PyData.canLay0, ih]
theorem ints_depth (l : List Int) : PyData.depthAll (l.map .int) = 0 := by
  induction l with
  | nil => rfl
  | cons x r ih => simp [PyData.depthAll, PyData.depth, ih]
theorem ints_shaped (l : List Int) : SeqAt.shaped (.list (l.map .int)) = true := by
  simp [SeqAt.shaped, PyData.canLay0, PyData.depth, ints_lay, ints_depth]
theorem ints_eqv (l m : List Int) : PyData.eqvAll (l.map .int) (m.map .int) = decide (l = m) := by
  induction l generalizing m with
  | nil => cases m <;> simp [PyData.eqvAll]
  | cons x r ih =>
    cases m with
    | nil => simp [PyData.eqvAll]
    | cons y t =>
      simp only [List.map_cons, PyData.eqvAll, PyData.eqv, ih, List.cons.injEq, Bool.decide_and]
      rfl

theorem shaped_LL (l : List (List Int)) : SeqAt.shaped (.list (l.map fun r => .list (r.map PyData.int))) = true := by
  have h1 : ∀ l : List (List Int), PyData.canLayAll0 (l.map fun r => PyData.list (r.map PyData.int)) = true := by
    intro l
    induction l with
    | nil => rfl
    | cons a r ih => simp [PyData.canLayAll0, PyData.canLay0, ints_lay, ih]
  have h2 : ∀ l : List (List Int), PyData.depthAll (l.map fun r => PyData.list (r.map PyData.int)) ≤ 1 := by
    intro l
    induction l with
    | nil => simp [PyData.depthAll]
    | cons a r ih => simp only [List.map_cons, PyData.depthAll, PyData.depth, ints_depth]; omega
  have := h2 l
  simp only [SeqAt.shaped, PyData.canLay0, PyData.depth, h1 l, Bool.true_and]
  exact decide_eq_true (by omega)
theorem eqv_LL : ∀ l m : List (List Int), PyData.eqvAll (l.map fun r => PyData.list (r.map PyData.int)) (m.map fun r => PyData.list (r.map PyData.int)) = decide (l = m)
  | [], [] => by simp [PyData.eqvAll]
  | [], _ :: _ => by simp [PyData.eqvAll]
  | _ :: _, [] => by simp [PyData.eqvAll]
  | a :: r, b :: t => by
    simp only [List.map_cons, PyData.eqvAll, PyData.eqv, ints_eqv, eqv_LL r t]
    by_cases h : a = b <;> by_cases h' : r = t <;> simp [h, h']

theorem cmp_eq_data (O : Ok c k) {a b : PyData} (ha : SeqAt.shaped a = true) (hb : SeqAt.shaped b = true) (h : P (PyData.eqv a b)) : OPB c .Eq a b P := fun K Z σ s va vb I Da Db => by
  obtain ⟨as, ra⟩ := Da.reads I.data
  obtain ⟨bs, rb⟩ := Db.reads I.data
  exact eq_dataH ra rb ha hb (by have := O.lv.units; omega) ⟨_, σ, Z, Ext.refl _, I, .bool _, rfl, _, rfl, h⟩
theorem cmp_ne_data (O : Ok c k) {a b : PyData} (ha : SeqAt.shaped a = true) (hb : SeqAt.shaped b = true) (h : P (!PyData.eqv a b)) : OPB c .NotEq a b P := fun K Z σ s va vb I Da Db => by
  obtain ⟨as, ra⟩ := Da.reads I.data
  obtain ⟨bs, rb⟩ := Db.reads I.data
  exact ne_dataH ra rb ha hb (by have := O.lv.units; omega) ⟨_, σ, Z, Ext.refl _, I, .bool _, rfl, _, rfl, h⟩
theorem cmp_eqL (O : Ok c k) {a b : List Int} (h : P (decide (a = b))) : OPB c .Eq (.list (a.map .int)) (.list (b.map .int)) P :=
  cmp_eq_data O (ints_shaped _) (ints_shaped _) (by rw [PyData.eqv, ints_eqv]; exact h)
theorem cmp_neL (O : Ok c k) {a b : List Int} (h : P (!decide (a = b))) : OPB c .NotEq (.list (a.map .int)) (.list (b.map .int)) P :=
  cmp_ne_data O (ints_shaped _) (ints_shaped _) (by rw [PyData.eqv, ints_eqv]; exact h)
theorem cmp_eqLL (O : Ok c k) {a b : List (List Int)} (h : P (decide (a = b))) : OPB c .Eq (.list (a.map fun r => .list (r.map .int))) (.list (b.map fun r => .list (r.map .int))) P :=
  cmp_eq_data O (shaped_LL _) (shaped_LL _) (by rw [PyData.eqv, eqv_LL]; exact h)

theorem any_in (x : Int) : ∀ l : List Int, ((l.map PyData.int).any fun y => PyData.eqv y (.int x)) = decide (x ∈ l)
  | [] => by simp
  | a :: r => by
    simp only [List.map_cons, List.any_cons, any_in x r, PyData.eqv, List.mem_cons]
    by_cases h : a = x
    · subst h; simp
    · have h' : ¬ x = a := fun e => h e.symm
      simp [h, h']
theorem cmp_in_list (O : Ok c k) {l : List Int} (h : P (decide (x ∈ l))) : OPB c .In (.int x) (.list (l.map .int)) P := fun K Z σ s va vb I Da Db => by
  obtain ⟨as, ra⟩ := Da.reads I.data
  obtain ⟨bs, rb⟩ := Db.reads I.data
  refine SeqAt.in_list_reads rb ra (ints_lay _) rfl ?_ ⟨_, σ, Z, Ext.refl _, I, .bool _, rfl, _, rfl, by rw [any_in]; exact h⟩
  have := O.lv.units
  rw [ints_depth]
  omega
theorem cmp_in_tup (O : Ok c k) {l : List Int} (h : P (decide (x ∈ l))) : OPB c .In (.int x) (.tuple (l.map .int)) P := fun K Z σ s va vb I Da Db => by
  obtain ⟨as, ra⟩ := Da.reads I.data
  obtain ⟨bs, rb⟩ := Db.reads I.data
  refine SeqAt.in_tuple_reads rb ra (ints_lay _) rfl ?_ ⟨_, σ, Z, Ext.refl _, I, .bool _, rfl, _, rfl, by rw [any_in]; exact h⟩
  have := O.lv.units
  rw [ints_depth]
  omega

/-! lists: + and * -/
theorem op_cat (O : Ok c k) {ds es : List PyData} (hl : ds.length + es.length ≤ sizeLine) (h : Q (.list (ds ++ es))) : OP c (binaryOp .Add) (.list ds) (.list es) Q := fun K Z σ s va vb I Da Db => by
  cases Da with | list h1 D1 => ?_
  cases Db with | list h2 D2 => ?_
  rename_i a vs n b ws m
  obtain ⟨J, eJ⟩ := I.push O.low (o := { cls := .type "list", data := .seq (vs ++ ws) })
  have l1 := D1.length
  have l2 := D2.length
  rw [Array.length_toList] at l1 l2
  exact PySem.P.add_list (I.data _ _ h1) (I.data _ _ h2) ⟨_, σ, _, eJ, J, .list (Fz.add_same _ _ _) (by rw [Array.toList_append]; exact (D1.append D2).mono eJ), rfl, h⟩ (by rw [l1, l2]; exact hl)
theorem op_catL (O : Ok c k) {α : Type} {f : α → PyData} {a b : List α} (hl : a.length + b.length ≤ sizeLine) (h : Q (.list ((a ++ b).map f))) : OP c (binaryOp .Add) (.list (a.map f)) (.list (b.map f)) Q :=
  op_cat O (by rw [List.length_map, List.length_map]; exact hl) (by rw [← List.map_append]; exact h)

theorem foldl_rep (v : Value) : ∀ (n : Nat) (acc : Array Value), List.foldl (fun (x1 x2 : Array Value) => x1 ++ x2) acc (List.replicate n #[v]) = acc ++ (List.replicate n v).toArray
  | 0, acc => by simp
  | n + 1, acc => by
    rw [List.replicate_succ, List.foldl_cons, foldl_rep v n]
    apply Array.toList_inj.mp
    simp [List.replicate_succ]
theorem op_rep (O : Ok c k) {d : PyData} (hlo : -(2 ^ 62) ≤ y) (hhi : y ≤ 16777216) (h : Q (.list (List.replicate y.toNat d))) : OP c (binaryOp .Mult) (.list [d]) (.int y) Q := fun K Z σ s va vb I Da Db => by
  cases Da with | list h1 D1 => ?_
  cases Db
  rename_i a vs n u
  have l1 := D1.length
  rw [Array.length_toList] at l1
  obtain ⟨v, rfl, Dv⟩ : ∃ v, vs = #[v] ∧ Den Z v d := by
    rcases vs with ⟨_ | ⟨v, _ | ⟨w, r⟩⟩⟩
    · cases D1
    · cases D1 with | cons p q => exact ⟨v, rfl, p⟩
    · simp at l1
  have hl := I.data _ _ h1
  obtain ⟨J, eJ⟩ := I.push O.low (o := { cls := .type "list", data := .seq (List.foldl (fun x1 x2 => x1 ++ x2) #[] (List.replicate (if (#[v] : Array Value).isEmpty = true then 0 else y.toNat) #[v])) })
  refine wpAny_binaryOp_repeat_ref (T := "list") (U := "int") (by decide) ⟨_, hl, rfl⟩ (fun s' => typeIs_int s' y u) noFill_list_mul PySem.F.fills_int_mul PySem.F.slot_int_rmul repeat_list PySem.F.slot_int_index.lookup
    (call_meets PySem.F.slot_int_rmul (typeIs_int s y u) PySem.F.entry_int_rmul (PySem.F.args_int_rmul_2 _ _) (int___rmul___int_list y u a #[v] n)
      ⟨hl, rfl, ⟨_, hl, rfl⟩, call_meets PySem.F.slot_list_mul ⟨_, hl, rfl⟩ PySem.F.entry_list_mul (PySem.F.args_list_mul_2 _ _)
        (AutoListH.list___mul___list_int_3 a #[v] n y u (by simp [Builtin.List.listFitsIndex]; omega) (by simp; omega) (by simp [Builtin.List.listTooLong, sizeLine]; omega))
        ⟨hl, ⟨_, σ, _, eJ, J, .list (Fz.add_same _ _ _) ?_, rfl, h⟩⟩⟩)
  have e : (if (#[v] : Array Value).isEmpty = true then 0 else y.toNat) = y.toNat := by simp
  have rep : ∀ (Z' : Fz) (m : Nat), Den Z' v d → DenAll Z' (List.replicate m v) (List.replicate m d) := by
    intro Z' m hv
    induction m with
    | zero => exact .nil
    | succ m ih => exact .cons hv ih
  have e2 : (List.foldl (fun (x1 x2 : Array Value) => x1 ++ x2) #[] (List.replicate (if (#[v] : Array Value).isEmpty = true then 0 else y.toNat) #[v])).toList = List.replicate y.toNat v := by
    rw [e, foldl_rep]; simp
  rw [e2]
  exact rep _ _ (Dv.mono eJ)
theorem op_repI (O : Ok c k) {z : Int} (hlo : -(2 ^ 62) ≤ y) (hhi : y ≤ 16777216) (h : Q (.list ((List.replicate y.toNat z).map .int))) : OP c (binaryOp .Mult) (.list [.int z]) (.int y) Q :=
  op_rep O hlo hhi (by rw [List.map_replicate] at h; exact h)
end

section
variable {c : Cx} {K : Kp} {Z : Fz} {σ σ' : Sto} {s : Shared} {k : Nat}

/-- an own list is changed -/
theorem Inv.mutate (I : Inv c K Z σ s) {x : Str} {b : Bool} {a : Addr} {ds ds' : List PyData} (hg : GetAt σ x (.own b a ds)) (S : SetAt σ x (.own b a ds') σ') :
    ∃ m vs n, s.heap.Ns c.env.locals m ∧ m x = some (.ref a) ∧ s.heap.get? a = some (lst vs n) ∧ DenAll Z vs.toList ds ∧
      ∀ h' tk vs' n', Heap.SameBut a s.heap h' → h'.get? a = some (lst vs' n') → DenAll Z vs'.toList ds' → Inv c K Z σ' { s with heap := h', toks := tk } := by
  obtain ⟨m, hn, hv⟩ := I.vars
  obtain ⟨h1, h2, h3, h4, h5, vs, n, h6, h7⟩ := hv _ hg.mem
  refine ⟨m, vs, n, hn, h1, h6, h7, fun h' tk vs' n' hs hg' hD => ?_⟩
  have ne : ∀ {y : Addr} {o : Obj}, Z y = some o → y ≠ a := fun {y o} e q => by rw [q, h2] at e; cases e
  refine ⟨fun y o w e => (hs.2 y (fun q => by rw [q, h3] at e; cases e)).trans (I.kept y o w e), I.wall, fun y o e => (hs.2 y (ne e)).trans (I.data y o e), I.born, I.old, I.noL, I.noLK, ?_,
    by rw [S.names]; exact I.names, fun p hp => ?_, ⟨m, hn.sameBut hs (Ne.symm h4), fun p hp => ?_⟩, fun p hp q hq hne a' ha => ?_⟩
  · obtain ⟨h, t, rfl⟩ := I.rest
    exact ⟨_, _, rfl⟩
  · rcases S.mem I.names hp with rfl | ⟨h, _⟩
    · have q := I.locs (x, .own b a ds) hg.mem
      exact q
    · exact I.locs _ h
  · rcases S.mem I.names hp with rfl | ⟨h, hpx⟩
    · exact ⟨h1, h2, h3, h4, h5, vs', n', hg', hD⟩
    · obtain ⟨y, sl⟩ := p
      cases sl with
      | no => trivial
      | val d => exact hv _ h
      | own b2 a2 ds2 =>
        obtain ⟨g1, g2, g3, g4, g5, ws, l, g6, g7⟩ := hv _ h
        have hne : a2 ≠ a := fun q => I.apart _ hg.mem _ h (Ne.symm hpx) a rfl (by rw [q]; rfl)
        exact ⟨g1, g2, g3, g4, g5, ws, l, (hs.2 _ hne).trans g6, g7⟩
      | cel w2 a2 d2 =>
        obtain ⟨g1, g2, g3, v2, g4, g5⟩ := hv _ h
        refine ⟨g1, g2, g3, v2, g4.sameBut hs ?_, g5⟩
        cases w2 with
        | true => exact fun q => I.apart _ hg.mem _ h (Ne.symm hpx) a rfl (by rw [q]; rfl)
        | false => obtain ⟨r, hr⟩ := g3 rfl; exact fun q => by rw [q, h3] at hr; cases hr
  · have mem : ∀ r ∈ σ', ∃ r' ∈ σ, r'.1 = r.1 ∧ r'.2.addr = r.2.addr := fun r hr => by
      rcases S.mem I.names hr with rfl | ⟨h, _⟩
      · exact ⟨_, hg.mem, rfl, rfl⟩
      · exact ⟨r, h, rfl, rfl⟩
    obtain ⟨p', hp', e1, e2⟩ := mem p hp
    obtain ⟨q', hq', e3, e4⟩ := mem q hq
    rw [← e4]
    exact I.apart p' hp' q' hq' (by rw [e1, e3]; exact hne) a' (e2.trans ha)

theorem load_own (O : Ok c k) (I : Inv c K Z σ s) {x : Str} {pos : Pos} {b : Bool} {a : Addr} {ds : List PyData} (hg : GetAt σ x (.own b a ds)) {Q : Value → Shared → Prop}
    (h : ∀ vs n, s.heap.get? a = some (lst vs n) → DenAll Z vs.toList ds → Q (.ref a) s) (hd : (x == ("__debug__" : Str)) = false := by decide +kernel) :
    wpAny (model c.prog c.w) c.A (eval (.Name x pos) c.env) Q noE s := by
  obtain ⟨m, hn, hv⟩ := I.vars
  obtain ⟨h1, h2, h3, h4, h5, vs, n, h6, h7⟩ := hv _ hg.mem
  exact wpAny_Name (wpAny_loadName_local O.kind (I.locs _ hg.mem) hn h1 (h vs n h6 h7)) hd

theorem noInter (O : Ok c k) : interactive c.env = false := by unfold interactive; rw [O.kind]; rfl

/-- x = [] -/
theorem x_new (O : Ok c k) {x : Str} {pp lp pos : Pos} {Q : Fl → Sto → Prop} (h : ∀ a, ∃ σ2, SetAt σ x (.own true a []) σ2 ∧ Q .next σ2) :
    EX c (.Assign [.Name x pp] (.List [] lp) pos) σ Q := fun K Z s I => by
  refine wpAny_Assign_Name (List_ (Calls.spliced_nil (PySem.wpAny_newList ?_ (Nat.zero_le _)))) rfl
  obtain ⟨σ2, S, h1⟩ := h s.heap.objs.size
  have J := I.keeps (h' := s.heap.push (lst #[] 0)) (tk := s.toks) (pushKeeps _ _)
  obtain ⟨m, hn, hv⟩ := J.vars
  obtain ⟨old, ho, hk⟩ := S.memx
  have hloc := I.locs (x, old) ho
  simp only [hk] at hloc
  have hne : s.heap.objs.size ≠ c.env.locals := Ne.symm (Nat.ne_of_lt I.ltL)
  refine wpAny_storeName_local hloc hn (fun h1' hn1 hs1 => ⟨.next, σ2, Z, Ext.refl _, ?_, trivial, h1⟩) (notClass O)
  refine J.store S hv hn1 hs1 ⟨if_pos rfl, I.fresh (Nat.le_refl _), I.freshK (Nat.le_refl _), hne, fun _ => Nat.le_trans O.low (Nat.le_of_lt I.ltL), #[], 0,
    (hs1.2 _ hne).trans (Heap.get?_push_size _ rfl), .nil⟩ fun a' ha q hq hqx e => ?_
  cases ha
  obtain ⟨m0, hn0, hv0⟩ := I.vars
  exact absurd ((hv0 _ hq).ltAddr e) (Nat.lt_irrefl _)

/-- x = [] where nothing is stored into it -/
theorem upd_lst {a : Addr} {vs : Array Value} {n : Nat} {h : Heap} (f : Array Value → Array Value) (e : h.get? a = some (lst vs n)) : ∃ n', (h.update a (Obj.mapSeq f)).get? a = some (lst (f vs) n') := ⟨_, IsL.update e f⟩

theorem x_append (O : Ok c k) {x : Str} {p ap pos sp : Pos} {e : Expr} {b : Bool} {a : Addr} {ds : List PyData} {Q : Fl → Sto → Prop} (hg : GetAt σ x (.own b a ds))
    (h : EV c e σ fun d σ1 => ∃ σ2, GetAt σ1 x (.own b a ds) ∧ ds.length ≤ 1000000 ∧ SetAt σ1 x (.own b a (ds ++ [d])) σ2 ∧ Q .next σ2)
    (he : starEach [e] c.env = [(false, eval e c.env)] := by with_unfolding_all rfl) (hline : (ap.endLine == pos.line) = true := by with_unfolding_all rfl) (hd : (x == ("__debug__" : Str)) = false := by decide +kernel) :
    EX c (.Expr (.Call (.Attribute (.Name x p) "append" ap) [e] [] pos) sp) σ Q := fun K Z s I => by
  refine wpAny_Expr ?_ (noInter O) rfl
  refine wpAny_Call_method rfl (by rw [he]; rfl) hline PySem.F.plainAttrs_list PySem.F.slot_list_append PySem.F.type_list_append (load_own O I hg (fun vs n hl _ => ⟨⟨_, hl, rfl⟩, fun a' q => by cases q; exact ⟨_, hl, rfl⟩, ?_⟩) hd)
  rw [he]
  refine PySem.P.append_list (noE_mono (h K Z s I) fun v s1 P => ?_)
  obtain ⟨d, σ1, Z1, e1, I1, D1, σ2, hg1, hl1, S, h1⟩ := P
  obtain ⟨m, ws, l, _, _, h6, h7, hm⟩ := I1.mutate hg1 S
  have hsz := h7.length
  rw [Array.length_toList] at hsz
  refine ⟨ws, l, by rw [hsz, sizeLine_eq]; omega, h6, ?_⟩
  obtain ⟨n', hn'⟩ := upd_lst (fun xs => xs.push v) h6
  exact ⟨.next, σ2, Z1, e1, hm _ s1.toks _ _ (Heap.SameBut.update ..) hn' (by rw [Array.toList_push]; exact h7.snoc D1), trivial, h1⟩

theorem x_extend (O : Ok c k) {x : Str} {p ap pos sp : Pos} {e : Expr} {b : Bool} {a : Addr} {ds : List PyData} {Q : Fl → Sto → Prop} (hg : GetAt σ x (.own b a ds))
    (h : EV c e σ fun d σ1 => ∃ es σ2, d = .list es ∧ GetAt σ1 x (.own b a ds) ∧ ds.length + es.length ≤ 1000000 ∧ SetAt σ1 x (.own b a (ds ++ es)) σ2 ∧ Q .next σ2)
    (he : starEach [e] c.env = [(false, eval e c.env)] := by with_unfolding_all rfl) (hline : (ap.endLine == pos.line) = true := by with_unfolding_all rfl) (hd : (x == ("__debug__" : Str)) = false := by decide +kernel) :
    EX c (.Expr (.Call (.Attribute (.Name x p) "extend" ap) [e] [] pos) sp) σ Q := fun K Z s I => by
  refine wpAny_Expr ?_ (noInter O) rfl
  refine wpAny_Call_method rfl (by rw [he]; rfl) hline PySem.F.plainAttrs_list PySem.F.slot_list_extend PySem.F.type_list_extend (load_own O I hg (fun vs n hl _ => ⟨⟨_, hl, rfl⟩, fun a' q => by cases q; exact ⟨_, hl, rfl⟩, ?_⟩) hd)
  rw [he]
  refine PySem.P.extend_list (noE_mono (h K Z s I) fun v s1 P => ?_)
  obtain ⟨d, σ1, Z1, e1, I1, D1, es, σ2, rfl, hg1, hl1, S, h1⟩ := P
  obtain ⟨m, ws, l, _, _, h6, h7, hm⟩ := I1.mutate hg1 S
  cases D1 with | list hz D1 => ?_
  rename_i b2 us q
  have hsz := h7.length
  rw [Array.length_toList] at hsz
  have hsz2 := D1.length
  rw [Array.length_toList] at hsz2
  refine ⟨b2, ws, us, l, q, by rw [hsz, sizeLine_eq]; omega, by rw [hsz, hsz2, sizeLine_eq]; omega, ?_, rfl, h6, I1.data _ _ hz, ?_⟩
  · rw [hsz, hsz2]
    have : Builtin.List.listTooLong (ds.length + es.length) = false := by unfold Builtin.List.listTooLong; rw [sizeLine_eq]; exact decide_eq_false (by omega)
    rw [this, Bool.and_false]; exact Bool.false_ne_true
  obtain ⟨n', hn'⟩ := upd_lst (fun xs => xs ++ us) h6
  exact ⟨.next, σ2, Z1, e1, hm _ s1.toks _ _ (Heap.SameBut.update ..) hn' (by rw [Array.toList_append]; exact h7.append D1), trivial, h1⟩

/-- x.pop() of ints -/
theorem x_pop (O : Ok c k) {x : Str} {p ap pos sp : Pos} {b : Bool} {a : Addr} {l : List Int} {i : Int} {Q : Fl → Sto → Prop} (hg : GetAt σ x (.own b a ((l ++ [i]).map .int))) (hl : l.length ≤ 1000000)
    (S : SetAt σ x (.own b a (l.map .int)) σ') (h : Q .next σ')
    (hline : (ap.endLine == pos.line) = true := by with_unfolding_all rfl) (hd : (x == ("__debug__" : Str)) = false := by decide +kernel) :
    EX c (.Expr (.Call (.Attribute (.Name x p) "pop" ap) [] [] pos) sp) σ Q := fun K Z s I => by
  refine wpAny_Expr ?_ (noInter O) rfl
  refine wpAny_Call_method rfl rfl hline PySem.F.plainAttrs_list PySem.F.slot_list_pop PySem.F.type_list_pop (load_own O I hg (fun vs n hl _ => ⟨⟨_, hl, rfl⟩, fun a' q => by cases q; exact ⟨_, hl, rfl⟩, ?_⟩) hd)
  obtain ⟨m, ws, q, _, _, h6, h7, hm⟩ := I.mutate hg S
  have hsz := h7.length
  rw [Array.length_toList, List.length_map, List.length_append, List.length_singleton] at hsz
  obtain ⟨y, hy, Dy⟩ := h7.get (i := l.length) (d := .int i) (by simp)
  cases Dy
  refine PySem.P.pop_list h6 (by rw [hsz]; simpa using hy) ?_ (by rw [hsz, sizeLine_eq]; omega)
  obtain ⟨n', hn'⟩ := upd_lst (fun xs => xs.eraseIdxIfInBounds (ws.size - 1)) h6
  refine ⟨.next, σ', Z, Ext.refl _, hm _ s.toks _ _ (Heap.SameBut.update ..) hn' ?_, trivial, h⟩
  have e : (ws.eraseIdxIfInBounds (ws.size - 1)).toList = ws.toList.take l.length := by
    unfold Array.eraseIdxIfInBounds
    rw [dif_pos (by omega), Array.toList_eraseIdx, hsz]
    have hl2 : ws.toList.length = l.length + 1 := by rw [Array.length_toList]; exact hsz
    rw [Nat.add_sub_cancel, List.eraseIdx_eq_take_drop_succ, List.drop_of_length_le (by omega), List.append_nil]
  rw [e]
  have := h7.take l.length
  rw [← List.map_take, List.take_left' rfl] at this
  exact this

/-- x.pop(0) of ints -/
theorem r_pop0 (O : Ok c k) {x : Str} {p ap cp pos : Pos} {q : Nat} {b : Bool} {a : Addr} {l : List Int} {i : Int} {Q : PyData → Sto → Prop} (hg : GetAt σ x (.own b a ((i :: l).map .int))) (hl : l.length ≤ 1000000)
    (S : SetAt σ x (.own b a (l.map .int)) σ') (h : Q (.int i) σ')
    (hline : (ap.endLine == pos.line) = true := by with_unfolding_all rfl) (hd : (x == ("__debug__" : Str)) = false := by decide +kernel) :
    EV c (.Call (.Attribute (.Name x p) "pop" ap) [.Constant (.int 0) q cp] [] pos) σ Q := fun K Z s I => by
  refine wpAny_Call_method rfl rfl hline PySem.F.plainAttrs_list PySem.F.slot_list_pop PySem.F.type_list_pop (load_own O I hg (fun vs n hl _ => ⟨⟨_, hl, rfl⟩, fun a' q => by cases q; exact ⟨_, hl, rfl⟩, ?_⟩) hd)
  show wpAny _ _ (callWith pos (.builtin "list.pop") [.ref a] [(false, eval (.Constant (.int 0) q cp) c.env)] []) _ _ _
  refine PySem.P.pop_at_list (wpAny_Constant_int (k := q) (pos := cp) ?_)
  obtain ⟨m, ws, r, _, _, h6, h7, hm⟩ := (I.tok (tk := s.toks + 1)).mutate hg S
  have hsz := h7.length
  rw [Array.length_toList, List.length_map, List.length_cons] at hsz
  obtain ⟨y, hy, Dy⟩ := h7.get (i := 0) (d := .int i) (by simp)
  cases Dy
  refine ⟨ws, r, 0, _, 0, _, by rw [hsz, sizeLine_eq]; omega, rfl, h6, by decide, ?_, by simpa using hy, ?_⟩
  · unfold seqIndex?
    rw [hsz]
    simp
  obtain ⟨n', hn'⟩ := upd_lst (fun xs => xs.eraseIdxIfInBounds 0) h6
  refine ⟨.int i, σ', Z, Ext.refl _, hm _ _ _ _ (Heap.SameBut.update ..) hn' ?_, .int _ _, h⟩
  have e : (ws.eraseIdxIfInBounds 0).toList = ws.toList.drop 1 := by
    unfold Array.eraseIdxIfInBounds
    rw [dif_pos (by omega), Array.toList_eraseIdx]
    cases ws.toList <;> rfl
  rw [e]
  have := h7.drop 1
  simpa using this

/-- an own list of ints against [] -/
theorem own_reads (I : Inv c K Z σ s) {x : Str} {b : Bool} {a : Addr} {ds : List PyData} (hg : GetAt σ x (.own b a ds)) : ∃ as, Reads s.heap (.ref a) (.list ds) as := by
  obtain ⟨m, hn, hv⟩ := I.vars
  obtain ⟨h1, h2, h3, h4, h5, vs, n, h6, h7⟩ := hv _ hg.mem
  obtain ⟨as, ra⟩ := h7.reads I.data
  exact ⟨_, .list h6 rfl rfl ra⟩
theorem Inv.getOwn (I : Inv c K Z σ s) {x : Str} {b : Bool} {a : Addr} {ds : List PyData} (hg : GetAt σ x (.own b a ds)) : ∃ vs n, s.heap.get? a = some (lst vs n) ∧ DenAll Z vs.toList ds := by
  obtain ⟨m, hn, hv⟩ := I.vars
  obtain ⟨h1, h2, h3, h4, h5, vs, n, h6, h7⟩ := hv _ hg.mem
  exact ⟨vs, n, h6, h7⟩
theorem rt_own_ne (O : Ok c k) {x : Str} {p lp pos : Pos} {b : Bool} {a : Addr} {l : List Int} {Q : Bool → Sto → Prop} (hg : GetAt σ x (.own b a (l.map .int))) (h : Q (!decide (l = [])) σ)
    (hd : (x == ("__debug__" : Str)) = false := by decide +kernel) : ET c (.Compare (.Name x p) [.NotEq] [.List [] lp] pos) σ Q := fun K Z s I => by
  refine wpAny_isTrue_Compare1 (load_own O I hg (fun vs n hl _ => ?_) hd) rfl
  refine List_ (Calls.spliced_nil (PySem.wpAny_newList ?_ (Nat.zero_le _)))
  have J := I.keeps (h' := s.heap.push { cls := .type "list", data := .seq ([] : List Value).toArray }) (tk := s.toks) (pushKeeps _ _)
  obtain ⟨as, ra⟩ := own_reads J hg
  have rb : Reads (s.heap.push { cls := .type "list", data := .seq ([] : List Value).toArray }) (.ref s.heap.objs.size) (.list (([] : List Int).map .int)) [s.heap.objs.size] :=
    .list (Heap.get?_push_size _ rfl) rfl rfl .nil
  refine ne_dataH ra rb (ints_shaped _) (ints_shaped _) (by have := O.lv.units; omega) ?_
  rw [PyData.eqv, ints_eqv]
  exact wpAny_truthy_bool ⟨σ, Z, Ext.refl _, J, h⟩
theorem rt_own_eq (O : Ok c k) {x : Str} {p lp pos : Pos} {b : Bool} {a : Addr} {ds : List PyData} {Q : Bool → Sto → Prop} (hg : GetAt σ x (.own b a ds)) (h : Q ds.isEmpty σ)
    (hd : (x == ("__debug__" : Str)) = false := by decide +kernel) : ET c (.Compare (.Name x p) [.Eq] [.List [] lp] pos) σ Q := fun K Z s I => by
  refine wpAny_isTrue_Compare1 (load_own O I hg (fun vs n hl _ => ?_) hd) rfl
  refine List_ (Calls.spliced_nil (PySem.wpAny_newList ?_ (Nat.zero_le _)))
  have J := I.keeps (h' := s.heap.push { cls := .type "list", data := .seq ([] : List Value).toArray }) (tk := s.toks) (pushKeeps _ _)
  obtain ⟨vs, n, h6, h7⟩ := J.getOwn hg
  have hsz := h7.length
  rw [Array.length_toList] at hsz
  have l1 : Heap.IsList (s.heap.push { cls := .type "list", data := .seq ([] : List Value).toArray }) a vs := IsL.isList h6
  have l2 : Heap.IsList (s.heap.push { cls := .type "list", data := .seq ([] : List Value).toArray }) s.heap.objs.size #[] := IsL.isList (n := 0) (Heap.get?_push_size _ rfl)
  have hu : c.A.units < cLine := by have := O.lv.units; omega
  cases ds with
  | nil =>
    simp only [List.length_nil] at hsz
    refine SeqAt.eq_listAt (e := fun _ => true) l1 l2 (by simpa using hsz) hu (fun j h1 h2 => absurd h2 (by simp)) ?_
    rw [hsz]
    exact wpAny_truthy_bool ⟨σ, Z, Ext.refl _, J, h⟩
  | cons d r =>
    refine SeqAt.eq_list_lengthsAt l1 l2 (by rw [hsz]; rfl) hu ?_
    exact wpAny_truthy_bool ⟨σ, Z, Ext.refl _, J, h⟩
/-- x[-1] of an own list -/
theorem r_own_last (O : Ok c k) {x : Str} {p cp up pos : Pos} {q : Nat} {b : Bool} {a : Addr} {ds : List PyData} {d : PyData} {Q : PyData → Sto → Prop} (hg : GetAt σ x (.own b a (ds ++ [d]))) (h : Q d σ)
    (hd : (x == ("__debug__" : Str)) = false := by decide +kernel) : EV c (.Subscript (.Name x p) (.UnaryOp .USub (.Constant (.int 1) q cp) up) pos) σ Q := fun K Z s I => by
  refine Subscript_ (load_own O I hg (fun vs n hl D => ?_) hd)
  refine wpAny_UnaryOp (wpAny_Constant_int ?_)
  refine PyProof.Rows.neg_int ?_
  obtain ⟨v, hv, Dv⟩ := D.get (i := ds.length) (d := d) (by simp)
  have hsz := D.length
  rw [Array.length_toList, List.length_append, List.length_singleton] at hsz
  have hL : s.heap.IsList a vs := IsL.isList hl
  have J := (I.tok (tk := s.toks + 1)).tok (tk := s.toks + 1 + 1)
  refine tail_any (s := { s with toks := s.toks + 1 + 1 }) hL.typeIs slot_list_getitem.lookup (wpAny_getItem_list_neg (s := { s with toks := s.toks + 1 + 1 }) hL (by decide) (by omega) (by decide) (x := v) ?_ ⟨d, σ, Z, Ext.refl _, J, Dv, h⟩) rfl
  rw [hsz]
  have : (-1 + ((ds.length + 1 : Nat) : Int)).toNat = ds.length := by omega
  rw [this]
  simpa using hv
theorem r_usub {e : Expr} {pos : Pos} {Q : PyData → Sto → Prop} (h : EV c e σ fun d σ1 => ∃ i, d = .int i ∧ Q (.int (-i)) σ1) : EV c (.UnaryOp .USub e pos) σ Q := fun K Z s I => by
  refine wpAny_UnaryOp (noE_mono (h K Z s I) fun v s1 P => ?_)
  obtain ⟨d, σ1, Z1, e1, I1, D1, i, rfl, h1⟩ := P
  cases D1
  exact PyProof.Rows.neg_int ⟨_, σ1, Z1, e1, I1.tok, .int _ _, h1⟩
end

theorem Lv.mono {k k' : Nat} {A : Around} (h : Lv k A) (hk : k' ≤ k) : Lv k' A := ⟨h.hh, by have := h.depth; omega, by have := h.units; omega⟩
theorem Lv.deeper {k : Nat} {A : Around} (h : Lv (k + 1) A) (env : Env) : Lv k (A.deeper env) :=
  ⟨h.hh, by have := h.depth; show A.depth + 1 + _ + _ < _; omega, by have := h.units; show A.units + 3 + _ + _ < _; omega⟩

abbrev Spec := List PyData → (PyData → Prop) → Prop
abbrev SpecD := List PyData → List PyData → (List PyData → PyData → Prop) → Prop

/-- what a call of a value gives -/
noncomputable def Callee (prog : Program) (w : World) (B : Heap) (k : Nat) (fv : Value) (S : Spec) : Prop :=
  ∀ (A : Around) (s : Shared) (Z : Fz) (vs : List Value) (ds : List PyData) (Q : PyData → Prop), Lv k A → (∀ a o, Z a = some o → s.heap.get? a = some o) → (∀ a o, B.get? a = some o → Z a = some o) →
    DenAll Z vs ds → S ds Q → wpAny (model prog w) A (call fv vs) (fun v s' => ∃ d Z', Ext Z Z' ∧ (∀ a o, Z' a = some o → s'.heap.get? a = some o) ∧ (∀ a o, Z' a = some o → Z a = some o ∨ s.heap.objs.size ≤ a) ∧
      (∀ a o, s.heap.get? a = some o → s'.heap.get? a = some o) ∧ (∃ h tk, s' = { s with heap := h, toks := tk }) ∧ Den Z' v d ∧ Q d) noE s
noncomputable def CalleeD (prog : Program) (w : World) (B : Heap) (k : Nat) (fv : Value) (S : SpecD) : Prop :=
  ∀ (A : Around) (s : Shared) (Z : Fz) (p : Addr) (ws : Array Value) (n : Nat) (vs : List Value) (dk ds : List PyData) (Q : List PyData → PyData → Prop), Lv k A → (∀ a o, Z a = some o → s.heap.get? a = some o) → (∀ a o, B.get? a = some o → Z a = some o) →
    Z p = none → s.heap.get? p = some (lst ws n) → DenAll Z ws.toList dk → DenAll Z vs ds → S dk ds Q → wpAny (model prog w) A (call fv (.ref p :: vs)) (fun v s' => ∃ d dk' ws' n' Z', Ext Z Z' ∧ (∀ a o, Z' a = some o → s'.heap.get? a = some o) ∧
      (∀ a o, Z' a = some o → Z a = some o ∨ s.heap.objs.size ≤ a) ∧ (∀ a o, a ≠ p → s.heap.get? a = some o → s'.heap.get? a = some o) ∧ (∃ h tk, s' = { s with heap := h, toks := tk }) ∧
      Z' p = none ∧ s'.heap.get? p = some (lst ws' n') ∧ DenAll Z' ws'.toList dk' ∧ Den Z' v d ∧ Q dk' d) noE s

noncomputable def Known (mg mb : Str → Option Value) (B : Heap) (f : Str) (fv : Value) : Prop :=
  (mg f = some fv ∧ ∃ a o fd, fv = .ref a ∧ B.get? a = some o ∧ o.data = .func fd) ∨ (mg f = none ∧ mb f = some fv ∧ ((∃ id, fv = .builtin id) ∨ ∃ T, fv = .type T))

structure World' where
  prog : Program
  w : World
  B : Heap
  mg : Str → Option Value
  mb : Str → Option Value
noncomputable def Told (W : World') (k : Nat) (f : Str) (S : Spec) : Prop := ∃ fv, Known W.mg W.mb W.B f fv ∧ Callee W.prog W.w W.B k fv S
noncomputable def ToldD (W : World') (k : Nat) (f : Str) (S : SpecD) : Prop := ∃ fv, Known W.mg W.mb W.B f fv ∧ CalleeD W.prog W.w W.B k fv S
noncomputable def Cx.W (c : Cx) : World' := ⟨c.prog, c.w, c.B, c.mg, c.mb⟩

section
variable {c : Cx} {σ σ' : Sto} {k k' : Nat}

theorem load_known (O : Ok c k) {K : Kp} {Z : Fz} {s : Shared} (I : Inv c K Z σ s) {f : Str} {fv : Value} {pos : Pos} (hk : Known c.mg c.mb c.B f fv) (hx : c.env.kindOf f = some .globalImplicit)
    (hd : (f == ("__debug__" : Str)) = false) {Q : Value → Shared → Prop} (h : Q fv s) : wpAny (model c.prog c.w) c.A (eval (.Name f pos) c.env) Q noE s := by
  have keep : ∀ b o, c.B.get? b = some o → s.heap.get? b = some o := fun b o e => I.data _ _ (I.old _ _ (O.old _ _ e))
  refine Calls.Name_function_global O.kind hx ?_ hd
  rcases hk with ⟨h1, _⟩ | ⟨h1, h2, _⟩
  · refine Calls.loadGlobal_global (env := c.env) (mg := c.mg) ?_ h1 h
    rw [O.glob]; exact O.base.g.keeps keep
  · refine Calls.loadGlobal_builtin (env := c.env) (mg := c.mg) (mb := c.mb) ?_ h1 ?_ h2 h
    · rw [O.glob]; exact O.base.g.keeps keep
    · rw [O.bi]; exact O.base.b.keeps keep

theorem with_known (O : Ok c k) {f : Str} {fv : Value} {pos : Pos} {trees : List (Bool × Sem Value)} (hk : Known c.mg c.mb c.B f fv) (hne : trees.any (·.1) = false) {s : Shared} {Q : Value → Shared → Prop}
    (h : wpAny (model c.prog c.w) c.A (evalArgs fv true trees []) (fun a s1 => a.kw = [] ∧ (∀ b o, c.B.get? b = some o → s1.heap.get? b = some o) ∧ wpAny (model c.prog c.w) c.A (call fv a.pos) Q noE s1) noE s) :
    wpAny (model c.prog c.w) c.A (callWith pos fv [] trees []) Q noE s := by
  rcases hk with ⟨h1, a, o, fd, rfl, ho, hd⟩ | ⟨h1, h2, ⟨id, rfl⟩ | ⟨T, rfl⟩⟩
  · exact Calls.callWith_function (o := o) (fd := fd) (noE_mono h fun x s1 P => ⟨⟨P.2.1 _ _ ho, hd⟩, by rw [P.1]; exact P.2.2⟩)
  · exact Calls.callWith_builtin hne (noE_mono h fun x s1 P => by rw [P.1]; exact P.2.2)
  · exact PySem.callWith_type hne (noE_mono h fun x s1 P => by rw [P.1]; exact P.2.2)

theorem plain_trees {pos : Pos} {es : List Expr} {env : Env} (he : (starEach es env).all (fun x => !x.1) = true) : (backTo pos (starEach es env)).any (·.1) = false := by
  unfold backTo
  rw [List.any_map]
  rw [List.any_eq_false]
  intro x hx
  have := List.all_eq_true.mp he x hx
  simpa using this

theorem r_call (O : Ok c k) {f : Str} {S : Spec} (T : Told c.W k' f S) {p pos : Pos} {e : Expr} {es : List Expr} {Q : PyData → Sto → Prop} (h : EVs c (e :: es) σ fun ds σ' => S ds fun d => Q d σ')
    (hx : c.env.kindOf f = some .globalImplicit) (hkk : k' ≤ k := by decide) (he : starEach (e :: es) c.env = (false, eval e c.env) :: starEach es c.env := by with_unfolding_all rfl)
    (he2 : (starEach es c.env).all (fun x => !x.1) = true := by with_unfolding_all rfl) (hd : (f == ("__debug__" : Str)) = false := by decide +kernel) :
    EV c (.Call (.Name f p) (e :: es) [] pos) σ Q := fun K Z s I => by
  obtain ⟨fv, hk, hC⟩ := T
  show wpAny _ _ (do callWith pos (← eval (.Name f p) c.env) [] (backTo pos (starEach (e :: es) c.env)) []) _ _ _
  refine wpAny_bind (load_known O I hk hx hd ?_)
  have htr : backTo pos (starEach (e :: es) c.env) = (false, eval e c.env) :: backTo pos (starEach es c.env) := by rw [he]; rfl
  refine with_known O hk (plain_trees (by rw [he, List.all_cons, he2]; rfl)) ?_
  rw [htr]
  refine Calls.evalArgs_plain ?_
  rw [← htr]
  refine noE_mono (h K Z s pos I) fun vs s1 P => ?_
  obtain ⟨ds, σ1, Z1, e1, I1, D1, h1⟩ := P
  refine ⟨rfl, fun b o q => I1.data _ _ (I1.old _ _ (O.old _ _ q)), ?_⟩
  refine noE_mono (hC c.A s1 Z1 vs ds _ (O.lv.mono hkk) I1.data (fun b o q => I1.old _ _ (O.old _ _ q)) D1 h1) fun v s2 P2 => ?_
  obtain ⟨d, Z2, e2, hd2, hb2, hk2, ⟨h', tk, rfl⟩, D2, h2⟩ := P2
  exact ⟨d, σ1, Z2, e1.trans e2, I1.grow O.low hk2 e2 hd2 hb2, D2, h2⟩

theorem Inv.callD {K : Kp} {Z Z' : Fz} {s : Shared} {h' : Heap} {tk : Nat} (I : Inv c K Z σ s) (hlow : c.N ≤ c.env.locals) {x : Str} {b : Bool} {a : Addr} {ds ds' : List PyData} {ws : Array Value} {n' : Nat}
    (hg : GetAt σ x (.own b a ds)) (S : SetAt σ x (.own b a ds') σ') (hk : ∀ y o, y ≠ a → s.heap.get? y = some o → h'.get? y = some o) (e : Ext Z Z') (hd : ∀ y o, Z' y = some o → h'.get? y = some o)
    (hb : ∀ y o, Z' y = some o → Z y = some o ∨ s.heap.objs.size ≤ y) (ha : h'.get? a = some (lst ws n')) (hZa : Z' a = none) (D : DenAll Z' ws.toList ds') : Inv c K Z' σ' { s with heap := h', toks := tk } := by
  obtain ⟨m, hn, hv⟩ := I.vars
  obtain ⟨h1, h2, h3, h4, h5, vs, n, h6, h7⟩ := hv _ hg.mem
  have no : ∀ y, y < s.heap.objs.size → Z y = none → Z' y = none := fun y hy hz => by
    cases q : Z' y with
    | none => rfl
    | some o =>
      rcases hb y o q with h | h
      · rw [hz] at h; cases h
      · exact absurd hy (Nat.not_lt.mpr h)
  refine ⟨fun y o w e => hk y o (fun q => by rw [q, h3] at e; cases e) (I.kept y o w e), fun y o q => no y (Heap.lt_size (I.kept _ _ _ q)) (I.wall _ _ q), hd, fun y o q => ?_, fun y o q => e _ _ (I.old _ _ q), no _ I.ltL I.noL, I.noLK, ?_,
    by rw [S.names]; exact I.names, fun p hp => ?_, ⟨m, hn.at' fun o q => hk _ _ (Ne.symm h4) q, fun p hp => ?_⟩, fun p hp q hq hne a' ha' => ?_⟩
  · rcases hb y o q with h | h
    · exact I.born _ _ h
    · exact .inr (Nat.le_trans hlow (Nat.le_trans (Nat.le_of_lt I.ltL) h))
  · obtain ⟨h, t, rfl⟩ := I.rest
    exact ⟨_, _, rfl⟩
  · rcases S.mem I.names hp with rfl | ⟨h, _⟩
    · have q := I.locs (x, .own b a ds) hg.mem
      exact q
    · exact I.locs _ h
  · rcases S.mem I.names hp with rfl | ⟨h, hpx⟩
    · exact ⟨h1, hZa, h3, h4, h5, ws, n', ha, D⟩
    · obtain ⟨y, sl⟩ := p
      cases sl with
      | no => trivial
      | val d => obtain ⟨v, g1, g2⟩ := hv _ h; exact ⟨v, g1, g2.mono e⟩
      | own b2 a2 ds2 =>
        obtain ⟨g1, g2, g3, g4, g5, ws2, l, g6, g7⟩ := hv _ h
        have hne : a2 ≠ a := fun q => I.apart _ hg.mem _ h (Ne.symm hpx) a rfl (by rw [q]; rfl)
        exact ⟨g1, no _ (Heap.lt_size g6) g2, g3, g4, g5, ws2, l, hk _ _ hne g6, g7.mono e⟩
      | cel w2 a2 d2 =>
        obtain ⟨g1, g2, g3, v2, g4, g5⟩ := hv _ h
        have hne : a2 ≠ a := by
          cases w2 with
          | true => exact fun q => I.apart _ hg.mem _ h (Ne.symm hpx) a rfl (by rw [q]; rfl)
          | false => obtain ⟨r, hr⟩ := g3 rfl; exact fun q => by rw [q, h3] at hr; cases hr
        obtain ⟨o2, ho2, hd2⟩ := g4
        exact ⟨g1, fun hw => ⟨no _ (Heap.lt_size ho2) (g2 hw).1, (g2 hw).2⟩, g3, v2, ⟨o2, hk _ _ hne ho2, hd2⟩, g5.mono e⟩
  · have mem : ∀ r ∈ σ', ∃ r' ∈ σ, r'.1 = r.1 ∧ r'.2.addr = r.2.addr := fun r hr => by
      rcases S.mem I.names hr with rfl | ⟨h, _⟩
      · exact ⟨_, hg.mem, rfl, rfl⟩
      · exact ⟨r, h, rfl, rfl⟩
    obtain ⟨p', hp', e1, e2⟩ := mem p hp
    obtain ⟨q', hq', e3, e4⟩ := mem q hq
    rw [← e4]
    exact I.apart p' hp' q' hq' (by rw [e1, e3]; exact hne) a' (e2.trans ha')

theorem r_callD (O : Ok c k) {f : Str} {S : SpecD} (T : ToldD c.W k' f S) {x : Str} {p xp pos : Pos} {es : List Expr} {b : Bool} {a : Addr} {dk : List PyData} {Q : PyData → Sto → Prop} (hg : GetAt σ x (.own b a dk))
    (h : EVs c es σ fun ds σ1 => ∃ dk1, GetAt σ1 x (.own b a dk1) ∧ S dk1 ds fun dk' d => ∃ σ2, SetAt σ1 x (.own b a dk') σ2 ∧ Q d σ2)
    (hx : c.env.kindOf f = some .globalImplicit) (hkk : k' ≤ k := by decide)
    (he2 : (starEach es c.env).all (fun x => !x.1) = true := by with_unfolding_all rfl) (hd : (f == ("__debug__" : Str)) = false := by decide +kernel) (hd2 : (x == ("__debug__" : Str)) = false := by decide +kernel) :
    EV c (.Call (.Name f p) (.Name x xp :: es) [] pos) σ Q := fun K Z s I => by
  obtain ⟨fv, hk, hC⟩ := T
  show wpAny _ _ (do callWith pos (← eval (.Name f p) c.env) [] (backTo pos (starEach (.Name x xp :: es) c.env)) []) _ _ _
  refine wpAny_bind (load_known O I hk hx hd ?_)
  refine with_known O hk (plain_trees (by show ((false, eval (.Name x xp) c.env) :: starEach es c.env).all _ = true; rw [List.all_cons, he2]; rfl)) ?_
  show wpAny _ _ (evalArgs fv true ((false, eval (.Name x xp) c.env) :: backTo pos (starEach es c.env)) []) _ _ _
  refine Calls.evalArgs_plain (Calls.spliced_cons (load_own O I hg (fun _ _ _ _ => ?_) hd2))
  refine noE_mono (h K Z s pos I) fun vs s1 P => ?_
  obtain ⟨ds, σ1, Z1, e1, I1, D1, dk1, hg1, h1⟩ := P
  refine ⟨rfl, fun b o q => I1.data _ _ (I1.old _ _ (O.old _ _ q)), ?_⟩
  obtain ⟨m, hn, hv⟩ := I1.vars
  obtain ⟨g1, g2, g3, g4, g5, ws, n, g6, g7⟩ := hv _ hg1.mem
  refine noE_mono (hC c.A s1 Z1 a ws n vs dk1 ds _ (O.lv.mono hkk) I1.data (fun b o q => I1.old _ _ (O.old _ _ q)) g2 g6 g7 D1 h1) fun v s2 P2 => ?_
  obtain ⟨d, dk', ws', n', Z2, e2, hd2, hb2, hk2, ⟨h', tk, rfl⟩, hZa, ha, D3, D2, σ2, S2, h2⟩ := P2
  exact ⟨d, σ2, Z2, e1.trans e2, I1.callD O.low hg1 S2 hk2 e2 hd2 hb2 ha hZa D3, D2, h2⟩
end

/-! a def of the text -/
structure Fd where
  name : Str
  params : Arguments
  body : List Stmt
  scope : Scope
structure FnAt (W : World') (f : Fd) (fa : Addr) : Prop where
  at_ : ∃ o pm c' doc, W.mg f.name = some (.ref fa) ∧ W.B.get? fa = some o ∧ o.data = .func (Calls.docDef f.name f.params f.body f.scope pm (.ref c') doc) ∧ W.B.CodeRec (.ref c') f.name
noncomputable def FnIn (W : World') (f : Fd) : Prop := ∃ fa, FnAt W f fa

noncomputable def init (ps : List Str) (ds : List PyData) (rest : List Str) : Sto := (ps.zip (ds.map Slot.val)) ++ rest.map fun x => (x, Slot.no)

noncomputable def retPost (Q : PyData → Prop) (f : Fl) (_ : Sto) : Prop := match f with
  | .ret d => Q d
  | _ => False

theorem zip_keys : ∀ (ps : List Str) (vs : List Value), ((ps.zip vs).map (·.1)).Sublist ps
  | [], _ => by simp
  | _ :: _, [] => by simp
  | x :: ps, v :: vs => by rw [List.zip_cons_cons, List.map_cons]; exact (zip_keys ps vs).cons_cons x
theorem lookup_mem : ∀ (l : List (Str × Value)) (q : Str × Value), (l.map (·.1)).Nodup → q ∈ l → l.lookup q.1 = some q.2
  | [], _, _, h => by cases h
  | (a, b) :: l, (x, v), hnd, hq => by
    rw [List.map_cons, List.nodup_cons] at hnd
    rcases List.mem_cons.mp hq with h | h
    · cases h; simp
    · have hne : x ≠ a := fun e => hnd.1 (by rw [← e]; exact List.mem_map_of_mem (f := (·.1)) h)
      have hb : (x == a) = false := beq_eq_false_iff_ne.mpr hne
      simp only [List.lookup_cons, hb]
      exact lookup_mem l (x, v) hnd.2 h
theorem lookup_rev (l : List (Str × Value)) (q : Str × Value) (h : (l.map (·.1)).Nodup) (hq : q ∈ l) : l.reverse.lookup q.1 = some q.2 :=
  lookup_mem _ q (by rw [List.map_reverse]; exact List.pairwise_reverse.mpr (h.imp fun h => Ne.symm h)) (List.mem_reverse.mpr hq)
theorem zip_lookup {Z : Fz} : ∀ {ps : List Str} {vs : List Value} {ds : List PyData} {p : Str × Slot}, ps.Nodup → DenAll Z vs ds → p ∈ ps.zip (ds.map Slot.val) → ∃ v d, p.2 = .val d ∧ Den Z v d ∧ (ps.zip vs).reverse.lookup p.1 = some v := by
  intro ps vs ds p hn D hp
  have key : ∀ {ps : List Str} {vs : List Value} {ds : List PyData}, ps.Nodup → DenAll Z vs ds → p ∈ ps.zip (ds.map Slot.val) → ∃ v d, p.2 = .val d ∧ Den Z v d ∧ (p.1, v) ∈ ps.zip vs := by
    intro ps
    induction ps with
    | nil => intro vs ds _ _ h; simp at h
    | cons x ps ih =>
      intro vs ds hn D h
      cases D with
      | nil => simp at h
      | cons D1 D2 =>
        rename_i v d vs ds
        rw [List.map_cons, List.zip_cons_cons, List.mem_cons] at h
        rw [List.nodup_cons] at hn
        rcases h with rfl | h
        · exact ⟨v, d, rfl, D1, by simp⟩
        · obtain ⟨v', d', h1, h2, h3⟩ := ih hn.2 D2 h
          exact ⟨v', d', h1, h2, by rw [List.zip_cons_cons]; exact List.mem_cons_of_mem _ h3⟩
  obtain ⟨v, d, h1, h2, h3⟩ := key hn D hp
  exact ⟨v, d, h1, h2, lookup_rev _ (p.1, v) (hn.sublist (zip_keys _ _)) h3⟩

theorem len_one {vs : List Value} (h : vs.length = 1) : ∃ a, vs = [a] := List.length_eq_one_iff.mp h
theorem len_cons {vs : List Value} {n : Nat} (h : vs.length = n + 1) : ∃ a r, vs = a :: r ∧ r.length = n := by
  cases vs with
  | nil => cases h
  | cons a r => exact ⟨a, r, rfl, Nat.succ.inj h⟩
theorem len_two {vs : List Value} (h : vs.length = 2) : ∃ a b, vs = [a, b] := let ⟨a, _, e, h2⟩ := len_cons h; let ⟨b, e2⟩ := len_one h2; ⟨a, b, by rw [e, e2]⟩
theorem len_three {vs : List Value} (h : vs.length = 3) : ∃ a b c, vs = [a, b, c] := let ⟨a, _, e, h2⟩ := len_cons h; let ⟨b, c, e2⟩ := len_two h2; ⟨a, b, c, by rw [e, e2]⟩
theorem len_four {vs : List Value} (h : vs.length = 4) : ∃ a b c d, vs = [a, b, c, d] := let ⟨a, _, e, h2⟩ := len_cons h; let ⟨b, c, d, e2⟩ := len_three h2; ⟨a, b, c, d, by rw [e, e2]⟩
theorem len_five {vs : List Value} (h : vs.length = 5) : ∃ a b c d f, vs = [a, b, c, d, f] := let ⟨a, _, e, h2⟩ := len_cons h; let ⟨b, c, d, f, e2⟩ := len_four h2; ⟨a, b, c, d, f, by rw [e, e2]⟩
/-- the names that a def binds -/
abbrev Fd.ps (f : Fd) : List Str := f.params.args.map (·.arg)

structure FnOk (f : Fd) (rest : List Str) : Prop where
  nodup : (f.ps ++ rest).Nodup
  loc : ∀ x ∈ f.ps ++ rest, f.scope.names.lookup x = some .local
  hco : f.scope.isCoroutine = false
  hgen : f.scope.isGenerator = false
  hk : f.scope.kind = .function
  bind : ∀ pm cd doc (vs : List Value), vs.length = f.ps.length → bindArgs (Calls.docDef f.name f.params f.body f.scope pm cd doc) ⟨vs, []⟩ = pure (f.ps.zip vs)

theorem zip_none {Z : Fz} : ∀ {ps : List Str} {ds : List PyData} {p : Str × Slot}, p ∈ ps.zip (ds.map Slot.val) → p.1 ∈ ps ∧ p.2.addr = none
  | _, [], p, h => by simp at h
  | [], _ :: _, p, h => by simp at h
  | x :: ps, d :: ds, p, h => by
    rw [List.map_cons, List.zip_cons_cons, List.mem_cons] at h
    rcases h with rfl | h
    · exact ⟨List.mem_cons_self, rfl⟩
    · obtain ⟨h1, h2⟩ := zip_none (Z := Z) h
      exact ⟨List.mem_cons_of_mem _ h1, h2⟩
theorem zip_fst : ∀ {ps : List Str} {ds : List PyData}, ps.length = ds.length → (ps.zip (ds.map Slot.val)).map (·.1) = ps
  | [], [], _ => rfl
  | x :: ps, d :: ds, h => by
    rw [List.map_cons, List.zip_cons_cons, List.map_cons, zip_fst (Nat.succ.inj h)]
  | [], _ :: _, h => by cases h
  | _ :: _, [], h => by cases h
theorem init_names {ps : List Str} {ds : List PyData} {rest : List Str} (h : ps.length = ds.length) : (init ps ds rest).map (·.1) = ps ++ rest := by
  unfold init
  rw [List.map_append, zip_fst h, List.map_map]
  congr 1
  induction rest with
  | nil => rfl
  | cons x r ih => rw [List.map_cons, ih]; rfl

theorem zip_kind : ∀ {ps : List Str} {ds : List PyData} {p : Str × Slot}, p ∈ ps.zip (ds.map Slot.val) → p.2.kind = .local
  | _, [], p, h => by simp at h
  | [], _ :: _, p, h => by simp at h
  | x :: ps, d :: ds, p, h => by
    rw [List.map_cons, List.zip_cons_cons, List.mem_cons] at h
    rcases h with rfl | h
    · rfl
    · exact zip_kind h
theorem init_kind {ps : List Str} {ds : List PyData} {rest : List Str} {p : Str × Slot} (h : p ∈ init ps ds rest) : p.2.kind = .local := by
  rcases List.mem_append.mp h with h | h
  · exact zip_kind h
  · obtain ⟨x, _, rfl⟩ := List.mem_map.mp h
    rfl

theorem callee_of (W : World') (hB : Base W.B W.mg W.mb) {f : Fd} {fa : Addr} (F : FnAt W f fa) {k : Nat} {S : Spec} (rest : List Str) (ok : FnOk f rest) (hcell : ∀ x ∈ f.scope.names, x.2 ≠ .cell)
    (hS : ∀ ds Q, S ds Q → ds.length = f.ps.length)
    (body : ∀ c : Cx, Ok c k → c.W = W → c.env.scope = f.scope → c.env.cells = [] → ∀ ds Q, S ds Q → EXs c f.body (init f.ps ds rest) (retPost Q)) : Callee W.prog W.w W.B (k + 1) (.ref fa) S := by
  intro A s Z vs ds Q hL hZ hBZ D hSd
  obtain ⟨o, pm, c', doc, hmg, ho, hdat, hcr⟩ := F.at_
  have keep : ∀ b o', W.B.get? b = some o' → s.heap.get? b = some o' := fun b o' e => hZ _ _ (hBZ _ _ e)
  have hlen := hS _ _ hSd
  have hvl : vs.length = f.ps.length := by rw [D.length, hlen]
  refine wpAny_call (call_plain_ret (by have := hL.depth; omega) (keep _ _ ho) hdat (hB.nolimit.keeps keep) (hcr.keeps keep) (ok.bind _ _ _ vs hvl) (fun x hx => ok.loc _ (List.mem_append_left _ (List.of_mem_zip hx).1)) (fun h1 F1 => ?_) ok.hco ok.hgen ok.hk hcell)
  let env := envOf f.name f.scope s.heap.objs.size fa (.ref c')
  let c : Cx := ⟨W.prog, W.w, A.deeper env, env, Z, { s with heap := h1, toks := s.toks + (f.ps.zip vs).length }, s.heap.objs.size, W.mg, W.mb, W.B⟩
  let K : Kp := fun a => (s.heap.get? a).map fun o => (o, false)
  have hfresh : ∀ {o : Obj}, s.heap.get? s.heap.objs.size ≠ some o := fun {o} e => absurd (Heap.lt_size e) (Nat.lt_irrefl _)
  have O : Ok c k := ⟨ok.hk, rfl, rfl, hL.deeper env, hB, hBZ, Nat.le_refl _⟩
  have I : Inv c K Z (init f.ps ds rest) c.s0 := by
    refine ⟨fun a o' b e => ?_, fun a o' e => ?_, fun a o' e => F1.keep _ _ (hZ _ _ e), fun a o' e => .inl e, fun a o' e => e, ?_, ?_, ⟨_, _, rfl⟩, by rw [init_names hlen.symm]; exact ok.nodup, fun p hp => ?_, ⟨_, F1.ns, fun p hp => ?_⟩, fun p hp q hq hne a ha => ?_⟩
    · cases q : s.heap.get? a with
      | none => simp only [K, q] at e; cases e
      | some o2 => simp only [K, q, Option.map_some] at e; cases e; exact F1.keep _ _ q
    · cases q : s.heap.get? a with
      | none => simp only [K, q] at e; cases e
      | some o2 => simp only [K, q, Option.map_some] at e; cases e
    · cases q : Z s.heap.objs.size with
      | none => exact q
      | some o2 => exact absurd (hZ _ _ q) hfresh
    · show (s.heap.get? s.heap.objs.size).map _ = none
      cases q : s.heap.get? s.heap.objs.size with
      | none => rfl
      | some o2 => exact absurd q hfresh
    · have : p.1 ∈ f.ps ++ rest := by rw [← init_names hlen.symm]; exact List.mem_map_of_mem (f := (·.1)) hp
      rw [init_kind hp]
      exact ok.loc _ this
    · rcases List.mem_append.mp hp with h | h
      · obtain ⟨v, d, e1, e2, e3⟩ := zip_lookup (List.nodup_append.mp ok.nodup).1 D h
        obtain ⟨x, sl⟩ := p
        simp only at e1
        subst e1
        exact ⟨v, e3, e2⟩
      · obtain ⟨x, _, rfl⟩ := List.mem_map.mp h
        trivial
    · rcases List.mem_append.mp hp with h | h
      · rw [(zip_none (Z := Z) h).2] at ha; cases ha
      · obtain ⟨x, _, rfl⟩ := List.mem_map.mp h
        cases ha
  refine noE_mono (body c O rfl rfl rfl ds Q hSd K Z c.s0 I) fun fl s' P => ?_
  obtain ⟨r, σ', Z', e, J, Df, hr⟩ := P
  cases r with
  | ret d =>
    cases fl with
    | ret v =>
      obtain ⟨h, tk, hs'⟩ := J.rest
      refine ⟨d, Z', e, J.data, J.born, fun a o' q => J.kept a o' false (by show (s.heap.get? a).map _ = _; rw [q]; rfl), ⟨h, tk, by rw [hs']⟩, Df, hr⟩
    | _ => exact Df.elim
  | _ => exact hr.elim

/-! a def whose first argument is a list that it changes -/
noncomputable def initD (x : Str) (p : Addr) (dk : List PyData) (ps : List Str) (ds : List PyData) (rest : List Str) : Sto := (x, Slot.own false p dk) :: init ps ds rest
noncomputable def retPostD (x : Str) (p : Addr) (Q : List PyData → PyData → Prop) (f : Fl) (σ : Sto) : Prop := match f with
  | .ret d => ∃ dk, GetAt σ x (.own false p dk) ∧ Q dk d
  | _ => False

theorem calleeD_of (W : World') (hB : Base W.B W.mg W.mb) {f : Fd} {fa : Addr} (F : FnAt W f fa) {k : Nat} {S : SpecD} (x : Str) (ps : List Str) (hps : f.ps = x :: ps) (rest : List Str) (ok : FnOk f rest) (hcell : ∀ x ∈ f.scope.names, x.2 ≠ .cell)
    (hS : ∀ dk ds Q, S dk ds Q → ds.length = ps.length)
    (body : ∀ c : Cx, Ok c k → c.W = W → c.env.scope = f.scope → c.env.cells = [] → ∀ p dk ds Q, S dk ds Q → EXs c f.body (initD x p dk ps ds rest) (retPostD x p Q)) : CalleeD W.prog W.w W.B (k + 1) (.ref fa) S := by
  intro A s Z p ws n vs dk ds Q hL hZ hBZ hZp hp Dk D hSd
  obtain ⟨o, pm, c', doc, hmg, ho, hdat, hcr⟩ := F.at_
  have keep : ∀ b o', W.B.get? b = some o' → s.heap.get? b = some o' := fun b o' e => hZ _ _ (hBZ _ _ e)
  have hlen := hS _ _ _ hSd
  have hvl : (Value.ref p :: vs).length = f.ps.length := by rw [hps, List.length_cons, List.length_cons, D.length, hlen]
  have nd := ok.nodup
  have lc := ok.loc
  rw [hps] at nd lc
  refine wpAny_call (call_plain_ret (by have := hL.depth; omega) (keep _ _ ho) hdat (hB.nolimit.keeps keep) (hcr.keeps keep) (ok.bind _ _ _ (.ref p :: vs) hvl) (fun x hx => ok.loc _ (List.mem_append_left _ (List.of_mem_zip hx).1)) (fun h1 F1 => ?_) ok.hco ok.hgen ok.hk hcell)
  let env := envOf f.name f.scope s.heap.objs.size fa (.ref c')
  let c : Cx := ⟨W.prog, W.w, A.deeper env, env, Z, { s with heap := h1, toks := s.toks + (f.ps.zip (.ref p :: vs)).length }, s.heap.objs.size, W.mg, W.mb, W.B⟩
  let K : Kp := fun a => if a = p then none else (s.heap.get? a).map fun o => (o, false)
  have hfresh : ∀ {o : Obj}, s.heap.get? s.heap.objs.size ≠ some o := fun {o} e => absurd (Heap.lt_size e) (Nat.lt_irrefl _)
  have hpL : p ≠ s.heap.objs.size := Nat.ne_of_lt (Heap.lt_size hp)
  have O : Ok c k := ⟨ok.hk, rfl, rfl, hL.deeper env, hB, hBZ, Nat.le_refl _⟩
  have hKp : ∀ a r, K a = some r → a ≠ p ∧ s.heap.get? a = some r.1 ∧ r.2 = false := fun a r e => by
    by_cases hap : a = p
    · simp only [K, if_pos hap] at e; cases e
    · cases q : s.heap.get? a with
      | none => simp only [K, if_neg hap, q] at e; cases e
      | some o2 => simp only [K, if_neg hap, q, Option.map_some] at e; cases e; exact ⟨hap, rfl, rfl⟩
  have I : Inv c K Z (initD x p dk ps ds rest) c.s0 := by
    have hnames : (initD x p dk ps ds rest).map (·.1) = x :: (ps ++ rest) := by unfold initD; rw [List.map_cons, init_names hlen.symm]
    refine ⟨fun a o' b e => F1.keep _ _ (hKp _ _ e).2.1, fun a o' e => ?_, fun a o' e => F1.keep _ _ (hZ _ _ e), fun a o' e => .inl e, fun a o' e => e, ?_, ?_, ⟨_, _, rfl⟩, by rw [hnames]; exact nd, fun q hq => ?_, ⟨_, F1.ns, fun q hq => ?_⟩, fun q hq r hr hne a ha => ?_⟩
    · have := (hKp _ _ e).2.2; cases this
    · cases q : Z s.heap.objs.size with
      | none => exact q
      | some o2 => exact absurd (hZ _ _ q) hfresh
    · cases q : K s.heap.objs.size with
      | none => exact q
      | some r => exact absurd (hKp _ _ q).2.1 hfresh
    · have : q.1 ∈ x :: (ps ++ rest) := by rw [← hnames]; exact List.mem_map_of_mem (f := (·.1)) hq
      have hk : q.2.kind = .local := by
        rcases List.mem_cons.mp hq with rfl | hq
        · rfl
        · exact init_kind hq
      rw [hk]
      exact lc _ this
    · have nd1 : (f.ps).Nodup := (List.nodup_append.mp ok.nodup).1
      rcases List.mem_cons.mp hq with rfl | hq
      · refine ⟨?_, hZp, by show K p = none; simp only [K, if_pos], hpL, fun e => (by cases e), ws, n, F1.keep _ _ hp, Dk⟩
        exact lookup_rev _ (x, Value.ref p) (nd1.sublist (zip_keys _ _)) (by rw [hps, List.zip_cons_cons]; exact List.mem_cons_self)
      · rcases List.mem_append.mp hq with h | h
        · have nd2 : ps.Nodup := by rw [hps] at nd1; exact (List.nodup_cons.mp nd1).2
          have hx : q.1 ≠ x := fun e => by
            rw [hps] at nd1
            exact (List.nodup_cons.mp nd1).1 (e ▸ (zip_none (Z := Z) h).1)
          obtain ⟨v, d, e1, e2, e3⟩ := zip_lookup nd2 D h
          obtain ⟨y, sl⟩ := q
          simp only at e1 hx e3
          subst e1
          refine ⟨v, ?_, e2⟩
          show ((f.ps.zip (Value.ref p :: vs)).reverse.lookup y) = some v
          rw [hps, List.zip_cons_cons, List.reverse_cons, List.lookup_append, e3]
          rfl
        · obtain ⟨y, _, rfl⟩ := List.mem_map.mp h
          trivial
    · have none_of : ∀ r ∈ init ps ds rest, r.2.addr = none := fun r hr => by
        rcases List.mem_append.mp hr with h | h
        · exact (zip_none (Z := Z) h).2
        · obtain ⟨y, _, rfl⟩ := List.mem_map.mp h; rfl
      rcases List.mem_cons.mp hq with rfl | hq
      · rcases List.mem_cons.mp hr with rfl | hr
        · exact absurd rfl hne
        · rw [none_of _ hr]; intro e; cases e
      · rw [none_of _ hq] at ha; cases ha
  refine noE_mono (body c O rfl rfl rfl p dk ds Q hSd K Z c.s0 I) fun fl s' P => ?_
  obtain ⟨r, σ', Z', e, J, Df, hr⟩ := P
  cases r with
  | ret d =>
    cases fl with
    | ret v =>
      obtain ⟨h, tk, hs'⟩ := J.rest
      obtain ⟨dk', hg, hQ⟩ := hr
      obtain ⟨m, hn, hv⟩ := J.vars
      obtain ⟨g1, g2, g3, g4, g5, ws', n', g6, g7⟩ := hv _ hg.mem
      refine ⟨d, dk', ws', n', Z', e, J.data, J.born, fun a o' hap q => J.kept a o' false (by show (if a = p then none else (s.heap.get? a).map _) = _; rw [if_neg hap, q]; rfl), ⟨h, tk, by rw [hs']⟩, g2, g6, g7, Df, hQ⟩
    | _ => exact Df.elim
  | _ => exact hr.elim

/-! the stores of a tuple that are exchanged -/
section
variable {c : Cx} {k : Nat}
theorem swap2 (O : Ok c k) {x y : Str} {px py tp vp : Pos} {q r : Nat} {v1 v2 : Expr} (hx : c.env.kindOf x = some .local) (hy : c.env.kindOf y = some .local) (hne : (y == x) = false)
    (hl : (py.line == px.line) = true := by with_unfolding_all rfl) (hs : ([v1, v2].any fun | .Starred .. => true | _ => false) = false := by with_unfolding_all rfl) (hf : ([v1, v2].all (foldedForSure 8)) = false := by with_unfolding_all rfl) (hc : ([v1, v2].all (constantsAlone 8)) = false := by with_unfolding_all rfl) :
    swappedStores [.Tuple [.Name x px, .Name y py] q tp] (.Tuple [v1, v2] r vp) c.env = pure (some [x, y]) := by
  have hb : c.env.blockKind = .function := by unfold Env.blockKind; rw [O.kind]; rfl
  have hne' : (x == y) = false := by
    rw [beq_eq_false_iff_ne] at hne ⊢
    exact fun e => hne e.symm
  unfold swappedStores
  simp only [hb, hs, hf, hc, List.length_cons, List.length_nil, List.head?_cons, Option.map_some, Option.getD_some, Expr.pos, List.filterMap_cons, List.filterMap_nil, hx, hy, beq_self_eq_true, Bool.and_self, hl, if_true, List.eraseDups_cons, List.filter_cons, hne, hne', Bool.not_false, List.filter_nil, List.eraseDups_nil]
  exact (if_neg (by decide)).trans ((if_neg fun e => Bool.false_ne_true (hs.symm.trans e)).trans rfl)
theorem swap3 (O : Ok c k) {x y z : Str} {px py pz tp vp : Pos} {q r : Nat} {v1 v2 v3 : Expr} (hx : c.env.kindOf x = some .local) (hy : c.env.kindOf y = some .local) (hz : c.env.kindOf z = some .local) (hxy : (y == x) = false) (hxz : (z == x) = false) (hyz : (z == y) = false)
    (hl : (py.line == px.line) = true := by with_unfolding_all rfl) (hl2 : (pz.line == px.line) = true := by with_unfolding_all rfl) (hs : ([v1, v2, v3].any fun | .Starred .. => true | _ => false) = false := by with_unfolding_all rfl) (hf : ([v1, v2, v3].all (foldedForSure 8)) = false := by with_unfolding_all rfl) (hc : ([v1, v2, v3].all (constantsAlone 8)) = false := by with_unfolding_all rfl) :
    swappedStores [.Tuple [.Name x px, .Name y py, .Name z pz] q tp] (.Tuple [v1, v2, v3] r vp) c.env = pure (some [x, y, z]) := by
  have hb : c.env.blockKind = .function := by unfold Env.blockKind; rw [O.kind]; rfl
  unfold swappedStores
  simp only [hb, hs, hf, hc, List.length_cons, List.length_nil, List.head?_cons, Option.map_some, Option.getD_some, Expr.pos, List.filterMap_cons, List.filterMap_nil, hx, hy, hz, beq_self_eq_true, Bool.and_self, hl, hl2, if_true, List.eraseDups_cons, List.filter_cons, hxy, hxz, hyz, Bool.not_false, List.filter_nil, List.eraseDups_nil]
  exact (if_neg (by decide)).trans ((if_neg fun e => Bool.false_ne_true (hs.symm.trans e)).trans rfl)
end

noncomputable def addK (K : Kp) (wr fp : List Addr) (h : Heap) : Kp := fun a => if a ∈ wr then (h.get? a).map (fun o => (o, true)) else match K a with
  | some r => some r
  | none => if a ∈ fp then (h.get? a).map (fun o => (o, false)) else none

section
variable {c : Cx} {K : Kp} {Z Z' : Fz} {σ σ' : Sto} {s s' : Shared} {h h' : Heap} {tk k : Nat} {wr fp : List Addr}

theorem addK_wr {a : Addr} (ha : a ∈ wr) : addK K wr fp h a = (h.get? a).map (fun o => (o, true)) := by unfold addK; rw [if_pos ha]
theorem addK_some {a : Addr} {r : Obj × Bool} (ha : a ∉ wr) (hr : K a = some r) : addK K wr fp h a = some r := by unfold addK; rw [if_neg ha, hr]
theorem addK_fp {a : Addr} (ha : a ∉ wr) (hr : K a = none) (hf : a ∈ fp) : addK K wr fp h a = (h.get? a).map (fun o => (o, false)) := by unfold addK; rw [if_neg ha, hr]; exact if_pos hf
theorem addK_out {a : Addr} (hsub : ∀ b ∈ wr, b ∈ fp) (hf : a ∉ fp) : addK K wr fp h a = K a := by
  unfold addK
  rw [if_neg fun q => hf (hsub _ q)]
  cases K a with
  | none => exact if_neg hf
  | some r => rfl

theorem Inv.enter (I : Inv c K Z σ s) (hwr : ∀ b ∈ wr, Z b = none ∧ K b = none) (hsub : ∀ b ∈ wr, b ∈ fp) (hL : c.env.locals ∉ fp) (hown : ∀ p ∈ σ, ∀ a, p.2.addr = some a → a ∉ fp) :
    Inv c (addK K wr fp s.heap) Z σ s := by
  refine ⟨fun a o b e => ?_, fun a o e => ?_, I.data, I.born, I.old, I.noL, (addK_out hsub hL).trans I.noLK, I.rest, I.names, I.locs, ?_, I.apart⟩
  · by_cases ha : a ∈ wr
    · rw [addK_wr ha] at e
      cases q : s.heap.get? a with
      | none => rw [q] at e; cases e
      | some o2 => rw [q] at e; cases e; rfl
    · cases hr : K a with
      | some r => rw [addK_some ha hr] at e; cases e; exact I.kept _ _ _ hr
      | none =>
        by_cases hf : a ∈ fp
        · rw [addK_fp ha hr hf] at e
          cases q : s.heap.get? a with
          | none => rw [q] at e; cases e
          | some o2 => rw [q] at e; cases e; rfl
        · rw [addK_out hsub hf, hr] at e; cases e
  · by_cases ha : a ∈ wr
    · exact (hwr a ha).1
    · cases hr : K a with
      | some r => rw [addK_some ha hr] at e; cases e; exact I.wall _ _ hr
      | none =>
        by_cases hf : a ∈ fp
        · rw [addK_fp ha hr hf] at e
          cases q : s.heap.get? a with
          | none => rw [q] at e; cases e
          | some o2 => rw [q] at e; cases e
        · rw [addK_out hsub hf, hr] at e; cases e
  · obtain ⟨m, hn, hv⟩ := I.vars
    refine ⟨m, hn, fun p hp => ?_⟩
    have V := hv p hp
    have ho := hown p hp
    obtain ⟨x, sl⟩ := p
    cases sl with
    | no => trivial
    | val d => exact V
    | own b a ds =>
      obtain ⟨h1, h2, h3, h4, h5, h6⟩ := V
      exact ⟨h1, h2, (addK_out hsub (ho a rfl)).trans h3, h4, h5, h6⟩
    | cel w a d =>
      obtain ⟨h1, h2, h3, h4⟩ := V
      refine ⟨h1, fun hw => ⟨(h2 hw).1, (addK_out hsub (ho a (by rw [hw]; rfl))).trans (h2 hw).2.1, (h2 hw).2.2⟩, fun hw => ?_, h4⟩
      obtain ⟨r, hr⟩ := h3 hw
      exact ⟨r, addK_some (fun q => by rw [(hwr _ q).2] at hr; cases hr) hr⟩

theorem Inv.leave (J : Inv c (addK K wr fp h) Z' σ' s') (hK : ∀ a o b, K a = some (o, b) → h.get? a = some o) (hwrK : ∀ b ∈ wr, K b = none) (live : ∀ b ∈ fp, ∃ o, h.get? b = some o) (hsub : ∀ b ∈ wr, b ∈ fp)
    (hcel : ∀ x a, c.env.cells.lookup x = some a → a ∉ fp) :
    Inv c K Z' σ' s' ∧ (∀ b ∈ wr, Z' b = none) ∧ (∀ p ∈ σ', ∀ a, p.2.addr = some a → a ∉ fp) ∧ ∀ b ∈ fp, ∀ o, h.get? b = some o → s'.heap.get? b = some o := by
  have up : ∀ a r, K a = some r → addK K wr fp h a = some r := fun a r e => addK_some (fun q => by rw [hwrK _ q] at e; cases e) e
  have notfp : ∀ a, addK K wr fp h a = none → a ∉ fp := fun a e hf => by
    obtain ⟨o, ho⟩ := live a hf
    by_cases ha : a ∈ wr
    · rw [addK_wr ha, ho] at e; cases e
    · cases hr : K a with
      | some r => rw [addK_some ha hr] at e; cases e
      | none => rw [addK_fp ha hr hf, ho] at e; cases e
  refine ⟨?_, fun b hb => ?_, fun p hp a ha => ?_, fun b hb o ho => ?_⟩
  · refine ⟨fun a o b e => J.kept _ _ _ (up _ _ e), fun a o e => J.wall _ _ (up _ _ e), J.data, J.born, J.old, J.noL, ?_, J.rest, J.names, J.locs, ?_, J.apart⟩
    · cases q : K c.env.locals with
      | none => rfl
      | some r => have := up _ _ q; rw [J.noLK] at this; cases this
    · obtain ⟨m, hn, hv⟩ := J.vars
      refine ⟨m, hn, fun p hp => ?_⟩
      have V := hv p hp
      have down : ∀ a, addK K wr fp h a = none → K a = none := fun a e => by
        cases q : K a with
        | none => rfl
        | some r => rw [up _ _ q] at e; cases e
      obtain ⟨x, sl⟩ := p
      cases sl with
      | no => trivial
      | val d => exact V
      | own b a ds =>
        obtain ⟨h1, h2, h3, h4, h5, h6⟩ := V
        exact ⟨h1, h2, down _ h3, h4, h5, h6⟩
      | cel w a d =>
        obtain ⟨h1, h2, h3, h4⟩ := V
        refine ⟨h1, fun hw => ⟨(h2 hw).1, down _ (h2 hw).2.1, (h2 hw).2.2⟩, fun hw => ?_, h4⟩
        obtain ⟨r, hr⟩ := h3 hw
        rw [addK_out hsub (hcel _ _ h1)] at hr
        exact ⟨r, hr⟩
  · obtain ⟨o, ho⟩ := live b (hsub b hb)
    exact J.wall b o (by rw [addK_wr hb, ho]; rfl)
  · obtain ⟨m, hn, hv⟩ := J.vars
    exact notfp _ ((hv p hp).noZ ha).2.1
  · by_cases ha : b ∈ wr
    · exact J.kept b o true (by rw [addK_wr ha, ho]; rfl)
    · cases hr : K b with
      | some r =>
        have q := J.kept b r.1 r.2 (addK_some ha hr)
        have q2 := hK b r.1 r.2 hr
        rw [ho] at q2; cases q2; exact q
      | none => exact J.kept b o false (by rw [addK_fp ha hr hb, ho]; rfl)

theorem Inv.wrote (I : Inv c K Z σ s) (hwr : ∀ b ∈ wr, Z b = none ∧ K b = none) (hL : c.env.locals ∉ wr) (hown : ∀ p ∈ σ, ∀ a, p.2.addr = some a → a ∉ wr)
    (hk : ∀ b o, b ∉ wr → s.heap.get? b = some o → h'.get? b = some o) : Inv c K Z σ { s with heap := h', toks := tk } := by
  have notK : ∀ a r, K a = some r → a ∉ wr := fun a r e q => by rw [(hwr _ q).2] at e; cases e
  refine ⟨fun a o b e => hk _ _ (notK _ _ e) (I.kept _ _ _ e), I.wall, fun a o e => hk _ _ (fun q => by rw [(hwr _ q).1] at e; cases e) (I.data _ _ e), I.born, I.old, I.noL, I.noLK, ?_, I.names, I.locs, ?_, I.apart⟩
  · obtain ⟨h, t, rfl⟩ := I.rest
    exact ⟨_, _, rfl⟩
  · obtain ⟨m, hn, hv⟩ := I.vars
    refine ⟨m, hn.at' fun o e => hk _ _ hL e, fun p hp => ?_⟩
    have V := hv p hp
    have ho := hown p hp
    obtain ⟨x, sl⟩ := p
    cases sl with
    | no => trivial
    | val d => exact V
    | own b a ds =>
      obtain ⟨h1, h2, h3, h4, h5, vs, n, h6, h7⟩ := V
      exact ⟨h1, h2, h3, h4, h5, vs, n, hk _ _ (ho a rfl) h6, h7⟩
    | cel w a d =>
      obtain ⟨h1, h2, h3, v, ⟨o, ho2, hd⟩, h5⟩ := V
      refine ⟨h1, h2, h3, v, ⟨o, hk _ _ ?_ ho2, hd⟩, h5⟩
      cases w with
      | true => exact ho a rfl
      | false => obtain ⟨r, hr⟩ := h3 rfl; exact notK _ _ hr
end

/-! for: what a loop asks of its source, turn by turn -/
structure Trn (prog : Program) (w : World) (A : Around) (target : Expr) (I : Addr) (fp wr : List Addr) (n : Nat) (P : Nat → Value → Heap → Prop) (St : Nat → Heap → Prop) : Prop where
  sub : ∀ b ∈ wr, b ∈ fp
  frame : ∀ i h h', St i h → (∀ b ∈ fp, ∀ o, h.get? b = some o → h'.get? b = some o) → St i h'
  turn : ∀ i (s : Shared) (Q : Value → Shared → Prop) (E : Value → Shared → Prop), i < n → St i s.heap → (∀ v h' tk, P i v h' → St (i + 1) h' → (∀ b o, b ∉ wr → s.heap.get? b = some o → h'.get? b = some o) → Q v { s with heap := h', toks := tk }) →
    wpAny (model prog w) A (pyNext (.ref I)) (fun r s1 => ∃ v, r = some v ∧ wpAny (model prog w) A (letOwnedTupleGo target (.ref I) v) (fun _ s2 => Q v s2) E s1) E s
  last : ∀ (s : Shared) (Q : Shared → Prop) (E : Value → Shared → Prop), St n s.heap → (∀ h' tk, (∀ b o, b ∉ wr → s.heap.get? b = some o → h'.get? b = some o) → Q { s with heap := h', toks := tk }) →
    wpAny (model prog w) A (pyNext (.ref I)) (fun r s1 => r = none ∧ Q s1) E s
theorem trn_one {prog : Program} {w : World} {A : Around} {target : Expr} {I : Addr} {fp wr : List Addr} {n : Nat} {P : Nat → Value → Prop} {St : Nat → Heap → Prop} (V : Walks prog w A I fp wr n P St)
    (hgo : ∀ i v (s : Shared) (Q : Unit → Shared → Prop) (E : Value → Shared → Prop), St i s.heap → Q () s → wpAny (model prog w) A (letOwnedTupleGo target (.ref I) v) Q E s) : Trn prog w A target I fp wr n (fun i v _ => P i v) St :=
  ⟨V.sub, V.frame, fun i s Q E hi st h => V.item i s _ E hi st fun v h' tk p st' k => ⟨v, rfl, hgo (i + 1) v _ _ E st' (h v h' tk p st' k)⟩, fun s Q E st h => V.done s _ E st fun h' tk k => ⟨rfl, h h' tk k⟩⟩
theorem trn_tup {prog : Program} {w : World} {A : Around} {elts : List Expr} {k : Nat} {pos : Pos} {I : Addr} {fp wr : List Addr} {n : Nat} {Pt : Nat → Array Value → Prop} {St : Nat → Heap → Prop} {Mid : Nat → Addr → Heap → Prop} (V : WalksU prog w A I fp wr n Pt St Mid) :
    Trn prog w A (.Tuple elts k pos) I fp wr n (fun i v h => ∃ T vals, v = .ref T ∧ Pt i vals ∧ h.IsTuple T vals) St :=
  ⟨V.sub, V.frame, fun i s Q E hi st h => V.item i s _ E hi st fun T vals h' tk p ht hm kk => ⟨_, rfl, V.go elts k pos i T _ _ E hm fun h'' st' kk' =>
    h _ h'' tk ⟨T, vals, rfl, p, ht.at fun o e => kk' T o (V.apart i T _ hm) e⟩ st' fun b o hb e => kk' b o hb (kk b o hb e)⟩, fun s Q E st h => V.done s _ E st fun h' tk kk => ⟨rfl, h h' tk kk⟩⟩
noncomputable def FOR {δ : Type} (c : Cx) (step : δ → Sto → (Sto → Prop) → Prop) (body : List Stmt) : List δ → Sto → (Fl → Sto → Prop) → Prop
  | [], σ, Q => Q .next σ
  | d :: ds, σ, Q => step d σ fun σ1 => EXs c body σ1 (turnEnd (fun σ2 => FOR c step body ds σ2 Q) Q)

section
variable {c : Cx} {k : Nat}

theorem for_core (O : Ok c k) {δ : Type} {target : Expr} {body : List Stmt} {I : Addr} {fp wr : List Addr} {n : Nat} {P : Nat → Value → Heap → Prop} {St : Nat → Heap → Prop} (W : Trn c.prog c.w c.A target I fp wr n P St)
    (items : List δ) (hn : items.length = n) (live : ∀ i h, St i h → ∀ b ∈ fp, ∃ o, h.get? b = some o) (step : δ → Sto → (Sto → Prop) → Prop) {Z0 : Fz}
    (hstep : ∀ i d v K Z σ s Q', items[i]? = some d → Ext Z0 Z → Inv c K Z σ s → P i v s.heap → step d σ Q' →
      wpAny (model c.prog c.w) c.A (assign target c.env v) (fun _ s' => ∃ σ' Z', Ext Z Z' ∧ Inv c K Z' σ' s' ∧ Q' σ') noE s)
    {K : Kp} {σ : Sto} {s : Shared} {Q : Fl → Sto → Prop} (I0 : Inv c K Z0 σ s) (hst : St 0 s.heap) (hwr : ∀ b ∈ wr, Z0 b = none ∧ K b = none) (hL : c.env.locals ∉ fp) (hown : ∀ p ∈ σ, ∀ a, p.2.addr = some a → a ∉ fp)
    (hcel : ∀ x a, c.env.cells.lookup x = some a → a ∉ fp) (h : FOR c step body items σ Q) :
    codeAny (model c.prog c.w) c.A (.forLoop target (.ref I) body [] c.env) (fun r s' => match r with | .ok f => XPost c K Z0 Q f s' | .error e => cameBackBy (model c.prog c.w) c.A c.env noE e s') s := by
  refine codeAny_forLoop_any (fun m s' => ∃ i σ' Z', i ≤ n ∧ m = n - i ∧ Ext Z0 Z' ∧ Inv c K Z' σ' s' ∧ St i s'.heap ∧ (∀ b ∈ wr, Z' b = none) ∧ (∀ p ∈ σ', ∀ a, p.2.addr = some a → a ∉ fp) ∧ FOR c step body (items.drop i) σ' Q) ?_ n
    ⟨0, σ, Z0, Nat.zero_le _, rfl, Ext.refl _, I0, hst, fun b hb => (hwr b hb).1, hown, h⟩
  rintro m s' ⟨i, σ', Z', hi, rfl, e, I', st, hz, ho, hF⟩
  have hLw : c.env.locals ∉ wr := fun q => hL (W.sub _ q)
  by_cases hlt : i < n
  · have hd : items[i]? = some (items[i]'(by omega)) := List.getElem?_eq_getElem (by omega)
    rw [List.drop_eq_getElem_cons (by omega)] at hF
    refine wpAny_mono (W.turn i _ _ _ hlt st fun v h2 tk1 hP st2 hk2 => ?tn) (fun r s1 hr => by obtain ⟨v, rfl, hv⟩ := hr; exact hv) fun _ _ x => x
    have I2 := I'.wrote (h' := h2) (tk := tk1) (fun b hb => ⟨hz b hb, (hwr b hb).2⟩) hLw (fun p hp a ha q => ho p hp a ha (W.sub _ q)) hk2
    have I3 := I2.enter (fp := fp) (fun b hb => ⟨hz b hb, (hwr b hb).2⟩) W.sub hL ho
    refine wpAny_mono (hstep i _ v _ _ _ _ _ hd e I3 hP hF) (fun _ s3 P3 => ?_) fun _ _ x => x.elim
    obtain ⟨σ3, Z3, e3, I3', h3⟩ := P3
    refine wpAny_mono (h3 _ Z3 s3 I3') (fun f s4 P4 => ?_) fun _ _ x => x.elim
    obtain ⟨r, σ4, Z4, e4, I4, D4, h4⟩ := P4
    obtain ⟨J, jz, jo, jf⟩ := I4.leave I2.kept (fun b hb => (hwr b hb).2) (live _ _ st2) W.sub hcel
    have next : ∀ (hF : FOR c step body (items.drop (i + 1)) σ4 Q), ∃ m, m < n - i ∧ ∃ i σ' Z', i ≤ n ∧ m = n - i ∧ Ext Z0 Z' ∧ Inv c K Z' σ' s4 ∧ St i s4.heap ∧ (∀ b ∈ wr, Z' b = none) ∧ (∀ p ∈ σ', ∀ a, p.2.addr = some a → a ∉ fp) ∧ FOR c step body (items.drop i) σ' Q :=
      fun hF => ⟨n - (i + 1), by omega, i + 1, σ4, Z4, hlt, rfl, (e.trans e3).trans e4, J, W.frame _ _ _ st2 jf, jz, jo, hF⟩
    cases f <;> cases r <;> first | exact D4.elim | skip
    · exact next h4
    · exact ⟨.next, σ4, Z4, (e.trans e3).trans e4, J, trivial, h4⟩
    · exact next h4
    · exact ⟨.ret _, σ4, Z4, (e.trans e3).trans e4, J, D4, h4⟩
  · have hin : i = n := by omega
    subst hin
    refine wpAny_mono (W.last _ _ _ st fun h1 tk1 hk1 => ?tl) (fun r s1 hr => by obtain ⟨rfl, hv⟩ := hr; exact hv) fun _ _ x => x
    refine wpAny_execs_nil ?_
    rw [List.drop_of_length_le (by omega)] at hF
    exact ⟨.next, σ', Z', e, I'.wrote (fun b hb => ⟨hz b hb, (hwr b hb).2⟩) hLw (fun p hp a ha q => ho p hp a ha (W.sub _ q)) hk1, trivial, hF⟩

/-! the frame's own places are apart from what is new, and from data -/
theorem Inv.apartFp {K : Kp} {Z : Fz} {σ : Sto} {s : Shared} (I : Inv c K Z σ s) {fp : List Addr} (hfp : ∀ b ∈ fp, (∃ o, Z b = some o) ∨ s.heap.objs.size ≤ b) :
    c.env.locals ∉ fp ∧ ∀ p ∈ σ, ∀ a, p.2.addr = some a → a ∉ fp := by
  refine ⟨fun q => ?_, fun p hp a ha q => ?_⟩
  · rcases hfp _ q with ⟨o, ho⟩ | h
    · rw [I.noL] at ho; cases ho
    · exact absurd I.ltL (Nat.not_lt.mpr h)
  · obtain ⟨m, hn, hv⟩ := I.vars
    rcases hfp _ q with ⟨o, ho⟩ | h
    · rw [((hv p hp).noZ ha).1] at ho; cases ho
    · exact absurd ((hv p hp).ltAddr ha) (Nat.not_lt.mpr h)

theorem go_name {x : Str} {p : Pos} {I ax : Addr} : ∀ (i : Nat) (v : Value) (s : Shared) (Q : Unit → Shared → Prop) (E : Value → Shared → Prop), s.heap.IsListIter I ax i ∧ True → Q () s → wpAny (model c.prog c.w) c.A (letOwnedTupleGo (.Name x p) (.ref I) v) Q E s :=
  fun _ _ _ _ _ _ h => wpAny_pure h
/-- the targets of a loop over a list -/
noncomputable def GoOk (c : Cx) (target : Expr) : Prop := ∀ (I ax : Addr) (i : Nat) (v : Value) (s : Shared) (Q : Unit → Shared → Prop) (E : Value → Shared → Prop), s.heap.IsListIter I ax i → Q () s → wpAny (model c.prog c.w) c.A (letOwnedTupleGo target (.ref I) v) Q E s
theorem goOk_name {x : Str} {p : Pos} : GoOk c (.Name x p) := fun _ _ _ _ _ _ _ _ h => wpAny_pure h
theorem goOk_tuple {es : List Expr} {q : Nat} {p : Pos} : GoOk c (.Tuple es q p) := fun I ax i v s Q E hit h => by
  cases v with
  | ref T => exact wpAny_letOwnedTupleGo_listiter hit h
  | _ => exact wpAny_pure h

theorem x_for (O : Ok c k) (hcells : c.env.cells = []) {target iter : Expr} {body : List Stmt} {pos : Pos} {σ : Sto} {Q : Fl → Sto → Prop} (hgo : GoOk c target) (h : EV c iter σ fun d σ1 => ∃ ds, d = .list ds ∧ FOR c (AS c target) body ds σ1 Q)
    (hs : ∀ x, foldedSetIterable iter c.env x = pure x := by intro _; with_unfolding_all rfl) : EX c (.For target iter body [] pos) σ Q := fun K Z s I => by
  refine wpAny_For (noE_mono (h K Z s I) fun v s1 P => ?_) hs
  obtain ⟨d, σ1, Z1, e1, I1, D1, ds, rfl, h1⟩ := P
  cases D1 with | list hz D => ?_
  rename_i ax vs n
  have hl : s1.heap.IsList ax vs := IsL.isList (I1.data _ _ hz)
  have hne : ax ≠ s1.heap.objs.size := Nat.ne_of_lt (I1.lt hz)
  refine wpAny_pyIter_list hl ?_
  have J := I1.keeps (h' := s1.heap.push { cls := .type "list_iterator", data := .fields #[.ref ax, .int 0 0] }) (tk := s1.toks) (pushKeeps _ _)
  obtain ⟨hL, ho⟩ := I1.apartFp (fp := [s1.heap.objs.size, ax]) (fun b hb => by
    rcases List.mem_cons.mp hb with rfl | hb
    · exact .inr (Nat.le_refl _)
    · rcases List.mem_cons.mp hb with rfl | hb
      · exact .inl ⟨_, hz⟩
      · cases hb)
  have hsz := D.length
  rw [Array.length_toList] at hsz
  refine codeAny_mono (for_core O (trn_one (target := target) (Walks.list O.lv.hh s1.heap.objs.size ax hne vs) (fun i v s Q E st hq => hgo _ _ _ v s Q E st.1 hq)) ds hsz.symm (fun i h st b hb => ?_) (AS c target) (fun i d v K Z σ s Q' hd e I hP hstep => ?_) J
    ⟨⟨_, Heap.get?_push_size _ rfl, rfl, rfl⟩, hl.push _⟩ (fun b hb => ?_) hL ho (fun x a q => by rw [hcells] at q; cases q) h1) (fun r s' hr => ?_)
  · rcases List.mem_cons.mp hb with rfl | hb
    · obtain ⟨o, ho, _⟩ := st.1; exact ⟨o, ho⟩
    · rcases List.mem_cons.mp hb with rfl | hb
      · obtain ⟨o, ho, _⟩ := st.2; exact ⟨o, ho⟩
      · cases hb
  · obtain ⟨v', hv', Dv⟩ := D.get hd
    have hP' : vs[i]? = some v := hP
    rw [← Array.getElem?_toList] at hP'
    rw [hv'] at hP'
    cases hP'
    exact hstep K Z s v I (Dv.mono e)
  · rcases List.mem_cons.mp hb with rfl | hb
    · exact ⟨I1.fresh (Nat.le_refl _), I1.freshK (Nat.le_refl _)⟩
    · cases hb
  · cases r with
    | ok f => exact hr.mono e1
    | error e => exact hr

/-- for .. in range(n) -/
theorem x_for_range (O : Ok c k) (hcells : c.env.cells = []) {x : Str} {xp rp cp pos : Pos} {e : Expr} {body : List Stmt} {σ : Sto} {Q : Fl → Sto → Prop} (hr : c.mg "range" = none ∧ c.mb "range" = some (.type "range")) (hx : c.env.kindOf "range" = some .globalImplicit)
    (h : EV c e σ fun d σ1 => ∃ n : Nat, d = .int n ∧ n ≤ 1000000 ∧ FOR c (fun i : Nat => AS c (.Name x xp) (.int i)) body (List.range n) σ1 Q)
    (he : starEach [e] c.env = [(false, eval e c.env)] := by with_unfolding_all rfl) : EX c (.For (.Name x xp) (.Call (.Name "range" rp) [e] [] cp) body [] pos) σ Q := fun K Z s I => by
  refine wpAny_For ?_ (fun _ => rfl)
  show wpAny _ _ (do callWith cp (← eval (.Name "range" rp) c.env) [] (backTo cp (starEach [e] c.env)) []) _ _ _
  refine wpAny_bind (load_known O I (fv := .type "range") (.inr ⟨hr.1, hr.2, .inr ⟨_, rfl⟩⟩) hx (by decide +kernel) ?_)
  rw [he]
  refine PySem.callWith_type rfl ?_
  refine Calls.evalArgs_plain (Calls.spliced_cons (noE_mono (h K Z s I) fun v s1 P => Calls.spliced_nil ?_))
  obtain ⟨d, σ1, Z1, e1, I1, D1, n, rfl, hn, h1⟩ := P
  cases D1
  refine call_range_1 ?_
  refine wpAny_pyIter_range (a := 0) (b := n) (c := 1) (Heap.get?_push_size _ rfl) (small_one (by decide) (by decide) (by omega) (by omega)) ?_
  rw [rangeSize_one]
  have hk : ∀ o1 o2 : Obj, ∀ b o, s1.heap.get? b = some o → ((s1.heap.push o1).push o2).get? b = some o := fun _ _ b o q => Heap.get?_push_of_some _ (Heap.get?_push_of_some _ q)
  have J := I1.keeps (tk := s1.toks + 1 + 1) (hk { cls := .type "range", data := .fields #[.int 0 s1.toks, .int n ‹Tok›, .int 1 (s1.toks + 1)] } { cls := .type "range_iterator", data := .fields #[rawInt 0, rawInt (if (0 : Int) < n then (n : Int) - 0 else 0), rawInt 1] })
  have hsz : s1.heap.objs.size ≤ (s1.heap.push { cls := .type "range", data := .fields #[.int 0 s1.toks, .int n ‹Tok›, .int 1 (s1.toks + 1)] }).objs.size := by rw [Heap.size_push]; exact Nat.le_succ _
  obtain ⟨hL, ho⟩ := I1.apartFp (fp := [(s1.heap.push { cls := .type "range", data := .fields #[.int 0 s1.toks, .int n ‹Tok›, .int 1 (s1.toks + 1)] }).objs.size]) (fun b hb => by
    rcases List.mem_cons.mp hb with rfl | hb
    · exact .inr hsz
    · cases hb)
  refine codeAny_mono (for_core O (trn_one (target := .Name x xp) (Walks.range O.lv.hh (s1.heap.push { cls := .type "range", data := .fields #[.int 0 s1.toks, .int n ‹Tok›, .int 1 (s1.toks + 1)] }).objs.size 0 1 n) (fun i v s Q E st hq => wpAny_pure hq)) (List.range n) (List.length_range) (fun i h st b hb => ?_)
    (fun i : Nat => AS c (.Name x xp) (.int i)) (fun i d v K Z σ s Q' hd e I hP hstep => ?_) J ?_ (fun b hb => ?_) hL ho (fun x a q => by rw [hcells] at q; cases q) h1) (fun r s' hr => ?_)
  · rcases List.mem_cons.mp hb with rfl | hb
    · exact ⟨_, st⟩
    · cases hb
  · obtain ⟨t, rfl⟩ := hP
    obtain ⟨hlt, hd'⟩ := List.getElem?_eq_some_iff.mp hd
    rw [List.getElem_range] at hd'
    subst hd'
    have e2 : (0 : Int) + (i : Int) * 1 = i := by omega
    rw [e2]
    exact hstep K Z s _ I (.int _ _)
  · have e2 : (0 : Int) + ((0 : Nat) : Int) * 1 = 0 := by omega
    have e3 : (n : Int) - ((0 : Nat) : Int) = if (0 : Int) < n then (n : Int) - 0 else 0 := by split <;> omega
    rw [e2, e3]
    exact Heap.get?_push_size _ rfl
  · rcases List.mem_cons.mp hb with rfl | hb
    · exact ⟨I1.fresh hsz, I1.freshK hsz⟩
    · cases hb
  · cases r with
    | ok f => exact hr.mono e1
    | error e => exact hr

/-- for .. in enumerate(xs) -/
theorem x_for_enum (O : Ok c k) (hcells : c.env.cells = []) {ts : List Expr} {q : Nat} {tp ep cp pos : Pos} {e : Expr} {body : List Stmt} {σ : Sto} {Q : Fl → Sto → Prop} (hr : c.mg "enumerate" = none ∧ c.mb "enumerate" = some (.type "enumerate")) (hx : c.env.kindOf "enumerate" = some .globalImplicit)
    (h : EV c e σ fun d σ1 => ∃ ds, d = .list ds ∧ FOR c (fun p : PyData × Nat => ASs c ts [.int p.2, p.1]) body ds.zipIdx σ1 Q)
    (he : starEach [e] c.env = [(false, eval e c.env)] := by with_unfolding_all rfl) (hx2 : (assignEach ts c.env).findIdx? (·.1) = none := by with_unfolding_all rfl) (hx3 : (assignEach ts c.env).length = 2 := by with_unfolding_all rfl) : EX c (.For (.Tuple ts q tp) (.Call (.Name "enumerate" ep) [e] [] cp) body [] pos) σ Q := fun K Z s I => by
  refine wpAny_For ?_ (fun _ => rfl)
  show wpAny _ _ (do callWith cp (← eval (.Name "enumerate" ep) c.env) [] (backTo cp (starEach [e] c.env)) []) _ _ _
  refine wpAny_bind (load_known O I (fv := .type "enumerate") (.inr ⟨hr.1, hr.2, .inr ⟨_, rfl⟩⟩) hx (by decide +kernel) ?_)
  rw [he]
  refine PySem.callWith_type rfl ?_
  refine Calls.evalArgs_plain (Calls.spliced_cons (noE_mono (h K Z s I) fun v s1 P => Calls.spliced_nil ?_))
  obtain ⟨d, σ1, Z1, e1, I1, D1, ds, rfl, h1⟩ := P
  cases D1 with | list hz D => ?_
  rename_i ax vs n
  have hl : s1.heap.IsList ax vs := IsL.isList (I1.data _ _ hz)
  have hlt : ax < s1.heap.objs.size := I1.lt hz
  refine call_enumerate_list hl fun h1' hE hI hsz1 hk1 => ?_
  refine wpAny_pyIter_enum hE ?_
  have J := I1.keeps (h' := h1') (tk := s1.toks) hk1
  obtain ⟨hL, ho⟩ := I1.apartFp (fp := [s1.heap.objs.size + 1, s1.heap.objs.size, ax]) (fun b hb => by
    rcases List.mem_cons.mp hb with rfl | hb
    · exact .inr (Nat.le_succ _)
    · rcases List.mem_cons.mp hb with rfl | hb
      · exact .inr (Nat.le_refl _)
      · rcases List.mem_cons.mp hb with rfl | hb
        · exact .inl ⟨_, hz⟩
        · cases hb)
  have hsz := D.length
  rw [Array.length_toList] at hsz
  refine codeAny_mono (for_core O (trn_tup (elts := ts) (k := q) (pos := tp) (WalksT.enumerate O.lv.hh (s1.heap.objs.size + 1) s1.heap.objs.size ax (Nat.succ_ne_self _) (Nat.ne_of_lt (Nat.lt_succ_of_lt hlt)) (Nat.ne_of_lt hlt) vs).toU) ds.zipIdx (by rw [List.length_zipIdx, hsz]) (fun i h st b hb => ?_)
    (fun p : PyData × Nat => ASs c ts [.int p.2, p.1]) (fun i d v K Z σ s Q' hd e I hP hstep => ?_) J ⟨⟨_, hE⟩, hI, ⟨_, hk1 _ _ (I1.data _ _ hz), rfl, _, rfl⟩⟩ (fun b hb => ?_) hL ho (fun x a q => by rw [hcells] at q; cases q) h1) (fun r s' hr => ?_)
  · obtain ⟨⟨old, st1⟩, ⟨o2, st2, _⟩, ⟨o3, st3, _⟩⟩ := st
    rcases List.mem_cons.mp hb with rfl | hb
    · exact ⟨_, st1⟩
    · rcases List.mem_cons.mp hb with rfl | hb
      · exact ⟨o2, st2⟩
      · rcases List.mem_cons.mp hb with rfl | hb
        · exact ⟨o3, st3⟩
        · cases hb
  · obtain ⟨T, vals, rfl, ⟨t, x, hx1, rfl⟩, hT⟩ := hP
    have hlen : i < ds.length := by
      have := (List.getElem?_eq_some_iff.mp hd).1
      rwa [List.length_zipIdx] at this
    have hdi : d = (ds[i], i) := by
      have := (List.getElem?_eq_some_iff.mp hd).2
      rw [List.getElem_zipIdx] at this
      simpa using this.symm
    subst hdi
    obtain ⟨v', hv', Dv⟩ := D.get (List.getElem?_eq_getElem hlen)
    rw [← Array.getElem?_toList, hv'] at hx1
    cases hx1
    show wpAny _ _ (do standAt tp; unpack (.ref T) (assignEach ts c.env)) _ _ _
    refine wpAny_bind (wpAny_standAt ?_)
    unfold unpack
    rw [hx2, hx3]
    refine wpAny_bind (wpAny_holding (PyProof.Rows.unpackItems_tuple (items := #[.int i t, x]) O.lv.hh hT fun h' he' => ?_))
    exact hstep K Z { s with heap := h' } _ (I.keeps (tk := s.toks) fun b o e => he' b o (Nat.ne_of_lt (Heap.lt_size e)) e) (.cons (.int _ _) (.cons (Dv.mono e) .nil))
  · rcases List.mem_cons.mp hb with rfl | hb
    · exact ⟨I1.fresh (Nat.le_succ _), I1.freshK (Nat.le_succ _)⟩
    · rcases List.mem_cons.mp hb with rfl | hb
      · exact ⟨I1.fresh (Nat.le_refl _), I1.freshK (Nat.le_refl _)⟩
      · cases hb
  · cases r with
    | ok f => exact hr.mono e1
    | error e => exact hr
end

section
variable {prog : Program} {w : World} {A : Around} {R : Result → Shared → Prop} {s : Shared}
theorem comp_loop {elt target iter : Expr} {scope : Scope} {pos : Pos} {it acc : Value} {env : Env} (I : Nat → Shared → Prop)
    (turn : ∀ n s, I n s → wpAny (model prog w) A (pyNext it) (fun r s₁ => match r with
      | none => R (.ok .next) s₁
      | some v => wpAny (model prog w) A (letOwnedTupleGo target it v) (fun _ s₂ => wpAny (model prog w) A (assign target env v) (fun _ s₃ => wpAny (model prog w) A (eval elt env) (fun x s₄ =>
          wpAny (model prog w) A (call (.builtin "list.append") [acc, x]) (fun _ s₅ => ∃ m, m < n ∧ I m s₅) noE s₄) noE s₃) noE s₂) noE s₁) noE s)
    (n : Nat) (h : I n s) : codeAny (model prog w) A (.compLoop (.ListComp elt [⟨target, iter, [], 0⟩] scope pos) 0 it acc env) R s := by
  refine codeAny_loop rfl I (fun n s hI => ?_) n h
  show wpAny _ _ ((compTurn (.ListComp elt [⟨target, iter, [], 0⟩] scope pos) 0 it acc env).onRaise (fun x => do noteFrame x env; theTreesLotGoes x)) _ _ s
  refine wpAny_noted ?_
  refine wpAny_noRaise ?_
  show wpAny _ _ _ _ noE s
  rw [compTurn_list1]
  refine wpAny_bind (wpAny_standAt (wpAny_bind (noE_mono (turn n s hI) fun r s₁ h₁ => ?_)))
  cases r with
  | none => exact wpAny_pure h₁
  | some v =>
    refine wpAny_bind (noE_mono h₁ fun _ s₂ h₂ => wpAny_bind (noE_mono h₂ fun _ s₃ h₃ => wpAny_bind (wpAny_bind (noE_mono h₃ fun x s₄ h₄ => wpAny_bind (noE_mono h₄ fun _ s₅ h₅ => wpAny_pure (wpAny_pure ⟨rfl, h₅⟩))))))
end

/-- what a comprehension's turns give -/
noncomputable def COMP {δ : Type} (c : Cx) (elt : Expr) (step : δ → Sto → (Sto → Prop) → Prop) : List δ → Sto → List PyData → (List PyData → Prop) → Prop
  | [], _, acc, R => R acc
  | d :: ds, σ, acc, R => step d σ fun σ1 => EV c elt σ1 fun r σ2 => acc.length ≤ 1000000 ∧ COMP c elt step ds σ2 (acc ++ [r]) R

structure CompEnd (Z : Fz) (s2 : Shared) (wr : List Addr) (R : List PyData → Prop) (D C : Addr) (h' : Heap) : Prop where
  out : ∃ Z' m' ys n rs, D = s2.heap.objs.size ∧ C = s2.heap.objs.size + 1 ∧ h'.Ns C m' ∧ h'.get? D = some (lst ys n) ∧ DenAll Z' ys.toList rs ∧ R rs ∧ Ext Z Z' ∧ (∀ a o, Z' a = some o → h'.get? a = some o) ∧
    (∀ a o, Z' a = some o → Z a = some o ∨ s2.heap.objs.size ≤ a) ∧ Z' D = none ∧ Z' C = none ∧ ∀ b o, b ∉ wr → s2.heap.get? b = some o → h'.get? b = some o

theorem comp_core {c : Cx} {k : Nat} (O : Ok c k) {K : Kp} {Z : Fz} {σ : Sto} {s2 : Shared} (I2 : Inv c K Z σ s2) {scope : Scope} {elt target iter : Expr} {pos : Pos} {cl : List (Str × Addr)} (hkind : scope.kind = .function) (hcell : ∀ y ∈ scope.names, y.2 ≠ .cell)
    {δ : Type} {I : Addr} {fp wr : List Addr} {n : Nat} {P : Nat → Value → Heap → Prop} {St : Nat → Heap → Prop} (W : Trn c.prog c.w c.A target I fp wr n P St)
    (self : ∀ s Q, St 0 s.heap → Q (.ref I) s → wpAny (model c.prog c.w) c.A (pyIter (.ref I)) Q noE s)
    (items : List δ) (hn : items.length = n) (live : ∀ i h, St i h → ∀ b ∈ fp, ∃ o, h.get? b = some o) (step : Cx → δ → Sto → (Sto → Prop) → Prop)
    (hstep : ∀ c' : Cx, c'.prog = c.prog → c'.w = c.w → c'.A = c.A → ∀ i d v K' Z' σ' s' Q', items[i]? = some d → Ext Z Z' → Inv c' K' Z' σ' s' → P i v s'.heap → step c' d σ' Q' →
      wpAny (model c.prog c.w) c.A (assign target c'.env v) (fun _ s'' => ∃ σ'' Z'', Ext Z' Z'' ∧ Inv c' K' Z'' σ'' s'' ∧ Q' σ'') noE s')
    (hst : St 0 s2.heap) (hwr : ∀ b ∈ wr, Z b = none) (hfp : ∀ b ∈ fp, b < s2.heap.objs.size) (hcel : ∀ x a, cl.lookup x = some a → a ∉ fp ∧ a < s2.heap.objs.size)
    (σ0 : Sto) (hnames : (σ0.map (·.1)).Nodup) (hlocs : ∀ p ∈ σ0, (relabel scope c.env).names.lookup p.1 = some p.2.kind)
    (hvars : ∀ p ∈ σ0, p.2 = .no ∨ ∃ a d, p.2 = .cel false a d ∧ cl.lookup p.1 = some a ∧ ∃ v, s2.heap.IsCell a v ∧ CelDen Z v d)
    {R : List PyData → Prop} (h : ∀ c' : Cx, Ok c' k → c'.W = c.W → c'.env.scope = relabel scope c.env → c'.env.cells = cl → COMP c' elt (step c') items σ0 [] R)
    {RR : Value → Addr → Result → Shared → Prop} (hRR : ∀ D C h' tk, CompEnd Z s2 wr R D C h' → RR (.ref D) C (.ok .next) { s2 with heap := h', toks := tk }) :
    wpAny (model c.prog c.w) c.A (newList []) (fun acc s₃ => wpAny (model c.prog c.w) c.A (newFunctionEnv scope c.env.globals cl [] c.env.qual none .none (some c.env)) (fun cenv s₄ =>
      codeAny (model c.prog c.w) c.A (.compStart (.ListComp elt [⟨target, iter, [], 0⟩] scope pos) 0 (.ref I) acc { cenv with scope := relabel scope c.env }) (RR acc cenv.locals) s₄) noE s₃) noE s2 := by
  refine wpAny_newObj_type (wpAny_newFunctionEnv hcell (by intro y hy; simp at hy) (fun h₁ hns₁ hsb₁ => ?_) hkind)
  dsimp only at hns₁ hsb₁ ⊢
  generalize hH2 : s2.heap.push { cls := .type "list", dict := none, data := .seq ([] : List Value).toArray } = H2 at hns₁ hsb₁ ⊢
  have hC : H2.objs.size = s2.heap.objs.size + 1 := by rw [← hH2, Heap.size_push]
  have hCne : ∀ b, b < s2.heap.objs.size → b ≠ H2.objs.size := fun b hb => by rw [hC]; exact Nat.ne_of_lt (Nat.lt_succ_of_lt hb)
  have hDC : s2.heap.objs.size ≠ H2.objs.size := by rw [hC]; exact Nat.ne_of_lt (Nat.lt_succ_self _)
  have old : ∀ b o, s2.heap.get? b = some o → h₁.get? b = some o := fun b o e => hsb₁.extBut b o (hCne _ (Heap.lt_size e)) (Heap.get?_push_of_some _ (hH2 ▸ Heap.get?_push_of_some _ e))
  have hD0 : h₁.get? s2.heap.objs.size = some (lst #[] 0) := hsb₁.extBut _ _ hDC (Heap.get?_push_of_some _ (hH2 ▸ Heap.get?_push_size _ rfl))
  have fresh : ∀ a, s2.heap.objs.size ≤ a → s2.heap.get? a = none := fun a ha => by
    cases e : s2.heap.get? a with
    | none => rfl
    | some o' => exact absurd (Heap.lt_size e) (Nat.not_lt.mpr ha)
  have hDlt : s2.heap.objs.size ≤ H2.objs.size := by rw [hC]; exact Nat.le_succ _
  let env' : Env := compEnvC scope cl H2.objs.size c.env
  let c' : Cx := ⟨c.prog, c.w, c.A, env', Z, { s2 with heap := h₁, toks := s2.toks + ([] : List (Str × Value)).length }, s2.heap.objs.size, c.mg, c.mb, c.B⟩
  let K1 : Kp := fun a => if a ∈ wr then none else (s2.heap.get? a).map fun o => (o, (Z a).isNone)
  have hK1 : ∀ a r, K1 a = some r → a ∉ wr ∧ s2.heap.get? a = some r.1 ∧ r.2 = (Z a).isNone := fun a r e => by
    by_cases ha : a ∈ wr
    · simp only [K1, if_pos ha] at e; cases e
    · cases q : s2.heap.get? a with
      | none => simp only [K1, if_neg ha, q] at e; cases e
      | some o => simp only [K1, if_neg ha, q, Option.map_some] at e; cases e; exact ⟨ha, rfl, rfl⟩
  have hK1n : ∀ a, s2.heap.get? a = none → K1 a = none := fun a e => by
    cases q : K1 a with
    | none => rfl
    | some r => rw [(hK1 _ _ q).2.1] at e; cases e
  have O' : Ok c' k := ⟨hkind, O.glob, O.bi, O.lv, O.base, fun a o e => I2.old _ _ (O.old _ _ e), hDlt⟩
  have hCn : s2.heap.get? H2.objs.size = none := fresh _ hDlt
  have I' : Inv c' K1 Z σ0 c'.s0 := by
    refine ⟨fun a o b e => old _ _ (hK1 _ _ e).2.1, fun a o e => ?_, fun a o e => old _ _ (I2.data _ _ e), fun a o e => .inl e, fun a o e => e, I2.fresh hDlt, hK1n _ hCn, ⟨_, _, rfl⟩, hnames, hlocs, ⟨_, hns₁, fun p hp => ?_⟩, fun p hp q hq hne a ha => ?_⟩
    · have q := (hK1 _ _ e).2.2
      cases q2 : Z a with
      | none => rfl
      | some o2 => simp only [q2] at q; cases q
    · rcases hvars p hp with e | ⟨a, d, e, e2, v, e3, e4⟩
      · obtain ⟨x, sl⟩ := p
        simp only at e
        subst e
        trivial
      · obtain ⟨x, sl⟩ := p
        simp only at e e2
        subst e
        refine ⟨e2, fun q => (by cases q), fun _ => ?_, v, e3.keeps old, e4⟩
        obtain ⟨o, ho, hd⟩ := e3
        refine ⟨(o, (Z a).isNone), ?_⟩
        have hw : a ∉ wr := fun q => (hcel _ _ e2).1 (W.sub _ q)
        simp only [K1, if_neg hw, ho, Option.map_some]
    · rcases hvars p hp with e | ⟨a, d, e, _⟩
      · rw [e] at ha; cases ha
      · rw [e] at ha; cases ha
  have hCOMP := h c' O' rfl rfl rfl
  have hwr1 : ∀ b ∈ wr, K1 b = none := fun b hb => by simp only [K1, if_pos hb]
  have hDK : K1 s2.heap.objs.size = none := hK1n _ (fresh _ (Nat.le_refl _))
  have hfpC : H2.objs.size ∉ s2.heap.objs.size :: fp := fun q => by
    rcases List.mem_cons.mp q with q | q
    · exact hDC q.symm
    · exact hCne _ (hfp _ q) rfl
  have sub' : ∀ b ∈ s2.heap.objs.size :: wr, b ∈ s2.heap.objs.size :: fp := fun b hb => by
    rcases List.mem_cons.mp hb with rfl | hb
    · exact List.mem_cons_self
    · exact List.mem_cons_of_mem _ (W.sub _ hb)
  have wrK' : ∀ b ∈ s2.heap.objs.size :: wr, K1 b = none := fun b hb => by
    rcases List.mem_cons.mp hb with rfl | hb
    · exact hDK
    · exact hwr1 b hb
  have hcel' : ∀ x a, c'.env.cells.lookup x = some a → a ∉ s2.heap.objs.size :: fp := fun x a e q => by
    rcases List.mem_cons.mp q with q | q
    · exact absurd (hcel _ _ e).2 (by rw [q]; exact Nat.lt_irrefl _)
    · exact (hcel _ _ e).1 q
  have loop : codeAny (model c.prog c.w) c.A (.compLoop (.ListComp elt [⟨target, iter, [], 0⟩] scope pos) 0 (.ref I) (.ref s2.heap.objs.size) env') (RR (.ref s2.heap.objs.size) H2.objs.size) c'.s0 := by
    refine comp_loop (fun m s' => ∃ i σ' Z' ys nD rs, i ≤ n ∧ m = n - i ∧ Ext Z Z' ∧ Inv c' K1 Z' σ' s' ∧ St i s'.heap ∧ (∀ b ∈ s2.heap.objs.size :: wr, Z' b = none) ∧ (∀ p ∈ σ', ∀ a, p.2.addr = some a → a ∉ s2.heap.objs.size :: fp) ∧
      s'.heap.get? s2.heap.objs.size = some (lst ys nD) ∧ DenAll Z' ys.toList rs ∧ COMP c' elt (step c') (items.drop i) σ' rs R) ?_ n
      ⟨0, σ0, Z, #[], 0, [], Nat.zero_le _, rfl, Ext.refl _, I', W.frame _ _ _ hst fun b _ o e => old _ _ e, fun b hb => ?_, fun p hp a ha => ?_, hD0, .nil, hCOMP⟩
    · rintro m s' ⟨i, σ', Z', ys, nD, rs, hi, rfl, e, J, st, hz, ho, hD, DD, hF⟩
      have hLw : c'.env.locals ∉ wr := fun q => hfpC (List.mem_cons_of_mem _ (W.sub _ q))
      have hz' : ∀ b ∈ wr, Z' b = none ∧ K1 b = none := fun b hb => ⟨hz b (List.mem_cons_of_mem _ hb), hwr1 b hb⟩
      have ho' : ∀ p ∈ σ', ∀ a, p.2.addr = some a → a ∉ wr := fun p hp a ha q => ho p hp a ha (List.mem_cons_of_mem _ (W.sub _ q))
      have hDw : s2.heap.objs.size ∉ wr := fun q => Nat.lt_irrefl _ (hfp _ (W.sub _ q))
      by_cases hlt : i < n
      · have hd : items[i]? = some (items[i]'(by omega)) := List.getElem?_eq_getElem (by omega)
        rw [List.drop_eq_getElem_cons (by omega)] at hF
        refine wpAny_mono (W.turn i _ _ _ hlt st fun v h2 tk1 hP st2 hk2 => ?tn) (fun r s1 hr => by obtain ⟨v, rfl, hv⟩ := hr; exact hv) fun _ _ x => x
        have J2 := J.wrote (h' := h2) (tk := tk1) hz' hLw ho' hk2
        have hD2 : h2.get? s2.heap.objs.size = some (lst ys nD) := hk2 _ _ hDw hD
        have J3 := J2.enter (wr := s2.heap.objs.size :: wr) (fp := s2.heap.objs.size :: fp) (fun b hb => ⟨hz b hb, wrK' b hb⟩) sub' hfpC ho
        refine noE_mono (hstep c' rfl rfl rfl i _ v _ _ _ _ _ hd e J3 hP hF) fun _ s3 P3 => ?_
        obtain ⟨σ3, Z3, e3, J3', h3⟩ := P3
        refine noE_mono (h3 _ Z3 s3 J3') fun x s4 P4 => ?_
        obtain ⟨d, σ4, Z4, e4, J4, D4, hlen, h4⟩ := P4
        obtain ⟨J5, jz, jo, jf⟩ := J4.leave J2.kept wrK' (fun b hb => by
          rcases List.mem_cons.mp hb with rfl | hb
          · exact ⟨_, hD2⟩
          · exact live _ _ st2 b hb) sub' hcel'
        have hD4 := jf _ List.mem_cons_self _ hD2
        have hsz := DD.length
        rw [Array.length_toList] at hsz
        refine call_meets PySem.F.slot_list_append ⟨_, hD4, rfl⟩ PySem.F.entry_list_append (PySem.F.args_list_append_2 _ _) (PySem.list_append s2.heap.objs.size ys nD x (by rw [hsz, sizeLine_eq]; omega)) ⟨hD4, ?_⟩
        obtain ⟨n', hn'⟩ := upd_lst (fun xs => xs.push x) hD4
        have sb : Heap.SameBut s2.heap.objs.size s4.heap (s4.heap.update s2.heap.objs.size (Obj.mapSeq fun xs => xs.push x)) := Heap.SameBut.update ..
        refine ⟨n - (i + 1), by omega, i + 1, σ4, Z4, ys.push x, n', rs ++ [d], hlt, rfl, (e.trans e3).trans e4, ?_, ?_, jz, jo, hn', ?_, h4⟩
        · refine J5.wrote (wr := [s2.heap.objs.size]) (fun b hb => ?_) (fun q => ?_) (fun p hp a ha q => ?_) fun b o hb e => (sb.2 b fun q => hb (by rw [q]; exact List.mem_cons_self)).trans e
          · rcases List.mem_cons.mp hb with rfl | hb
            · exact ⟨jz _ List.mem_cons_self, hDK⟩
            · cases hb
          · rcases List.mem_cons.mp q with q | q
            · exact hDC q.symm
            · cases q
          · rcases List.mem_cons.mp q with q | q
            · exact jo p hp a ha (by rw [q]; exact List.mem_cons_self)
            · cases q
        · exact W.frame _ _ _ st2 fun b hb o e => (sb.2 b fun q => Nat.lt_irrefl _ (q ▸ hfp b hb)).trans (jf b (List.mem_cons_of_mem _ hb) o e)
        · rw [Array.toList_push]
          exact ((DD.mono e3).mono e4).snoc D4
      · have hin : i = n := by omega
        subst hin
        refine wpAny_mono (W.last _ _ _ st fun h1 tk1 hk1 => ?tl) (fun r s1 hr => by obtain ⟨rfl, hv⟩ := hr; exact hv) fun _ _ x => x
        rw [List.drop_of_length_le (by omega)] at hF
        have J1 := J.wrote (h' := h1) (tk := tk1) hz' hLw ho' hk1
        obtain ⟨m', hm', _⟩ := J1.vars
        obtain ⟨hh, tt, hr⟩ := J1.rest
        have hs' : ({ s' with heap := h1, toks := tk1 } : Shared) = { s2 with heap := h1, toks := tk1 } := by
          obtain ⟨h0, t0, hr0⟩ := J.rest
          rw [hr0]
        rw [hs']
        refine hRR _ _ h1 tk1 ⟨Z', m', ys, nD, rs, rfl, hC, hm', hk1 _ _ hDw hD, DD, hF, e, J1.data, J1.born, hz _ List.mem_cons_self, J1.noL, fun b o hb e => ?_⟩
        exact J1.kept b o (Z b).isNone (by simp only [K1, if_neg hb, e, Option.map_some])
    · rcases List.mem_cons.mp hb with rfl | hb
      · exact I2.fresh (Nat.le_refl _)
      · exact hwr b hb
    · rcases hvars p hp with e | ⟨a, d, e, _⟩
      · rw [e] at ha; cases ha
      · rw [e] at ha; cases ha
  refine codeAny_compStart_list loop ?_
  exact wpAny_mono (self c'.s0 (fun it' s' => codeAny (model c.prog c.w) c.A (.compLoop (.ListComp elt [⟨target, iter, [], 0⟩] scope pos) 0 it' (.ref s2.heap.objs.size) env') (RR (.ref s2.heap.objs.size) H2.objs.size) s') (W.frame _ _ _ hst fun b _ o e => old _ _ e) loop) (fun _ _ x => x) fun _ _ x => x.elim

theorem relabel_none {scope : Scope} {env : Env} (hfree : ∀ x ∈ scope.names, x.2 ≠ .free) : relabel scope env = scope := by
  unfold relabel
  rw [map_eq_self (l := scope.names) (fun x hx => by
    obtain ⟨n, k⟩ := x
    have : (k == NameKind.free) = false := by simpa using hfree _ hx
    simp [this])]

section
variable {c : Cx} {k : Nat}

/-- from the end of a comprehension's loop to the frame around it -/
theorem CompEnd.grow {K : Kp} {Z1 : Fz} {σ1 : Sto} {s1 s2 : Shared} (O : Ok c k) (I1 : Inv c K Z1 σ1 s1) {wr : List Addr} {R : List PyData → Prop} {D C : Addr} {h' : Heap} {tk : Nat} (X : CompEnd Z1 s2 wr R D C h')
    (hs2 : ∃ h t, s2 = { s1 with heap := h, toks := t }) (hk : ∀ b o, s1.heap.get? b = some o → b ∉ wr ∧ s2.heap.get? b = some o) (hsz : s1.heap.objs.size ≤ s2.heap.objs.size) :
    ∃ Z' m' ys n rs, h'.Ns C m' ∧ h'.get? D = some (lst ys n) ∧ DenAll Z' ys.toList rs ∧ R rs ∧ Ext Z1 Z' ∧ Inv c K Z' σ1 { s2 with heap := h', toks := tk } ∧ Z' D = none ∧ Z' C = none ∧ K D = none ∧ K C = none ∧ s1.heap.objs.size ≤ D ∧ s1.heap.objs.size ≤ C ∧ D ≠ C := by
  obtain ⟨Z', m', ys, n, rs, rfl, rfl, hn, hD, DD, hR, e, hd, hb, zD, zC, hk2⟩ := X.out
  obtain ⟨h2, t2, rfl⟩ := hs2
  have J := I1.grow (h' := h') (tk := tk) O.low (fun b o q => hk2 b o (hk b o q).1 (hk b o q).2) e hd (fun a o q => (hb a o q).imp id fun q => Nat.le_trans hsz q)
  exact ⟨Z', m', ys, n, rs, hn, hD, DD, hR, e, J, zD, zC, I1.freshK hsz, I1.freshK (Nat.le_succ_of_le hsz), hsz, Nat.le_succ_of_le hsz, Nat.ne_of_lt (Nat.lt_succ_self _)⟩

theorem Inv.letC {K : Kp} {Z : Fz} {σ : Sto} {s : Shared} (I : Inv c K Z σ s) {C : Addr} (zC : Z C = none) (kC : K C = none) (hL : c.env.locals ≠ C) (ho : ∀ p ∈ σ, ∀ a, p.2.addr = some a → a ≠ C) {h' : Heap} {tk : Nat} (hs : Heap.SameBut C s.heap h') :
    Inv c K Z σ { s with heap := h', toks := tk } :=
  I.wrote (wr := [C]) (fun b hb => by rcases List.mem_cons.mp hb with rfl | hb; exact ⟨zC, kC⟩; cases hb) (fun q => by rcases List.mem_cons.mp q with q | q; exact hL q; cases q)
    (fun p hp a ha q => by rcases List.mem_cons.mp q with q | q; exact ho p hp a ha q; cases q) fun b o hb e => (hs.2 b fun q => hb (by rw [q]; exact List.mem_cons_self)).trans e

theorem Inv.addZ {K : Kp} {Z : Fz} {σ : Sto} {s : Shared} (I : Inv c K Z σ s) {D : Addr} {o : Obj} (hD : s.heap.get? D = some o) (zD : Z D = none) (kD : K D = none) (hL : c.env.locals ≠ D) (ho : ∀ p ∈ σ, ∀ a, p.2.addr = some a → a ≠ D) (hN : c.N ≤ D) :
    Inv c K (Z.add D o) σ s := by
  have e : Ext Z (Z.add D o) := Ext.add zD
  refine ⟨I.kept, fun a o' q => ?_, fun a o' q => ?_, fun a o' q => ?_, fun a o' q => e _ _ (I.old a o' q), (Fz.add_ne hL).trans I.noL, I.noLK, I.rest, I.names, I.locs, ?_, I.apart⟩
  · rw [Fz.add_ne (fun q2 => by subst q2; rw [kD] at q; cases q)]; exact I.wall a o' q
  · by_cases ha : a = D
    · subst ha; rw [Fz.add_same] at q; cases q; exact hD
    · rw [Fz.add_ne ha] at q; exact I.data a o' q
  · by_cases ha : a = D
    · subst ha; exact .inr hN
    · rw [Fz.add_ne ha] at q; exact I.born a o' q
  · obtain ⟨m, hn, hv⟩ := I.vars
    exact ⟨m, hn, fun p hp => (hv p hp).ext zD fun q => ho p hp D q rfl⟩

theorem r_comp (O : Ok c k) (hcells : c.env.cells = []) {elt target iter : Expr} {scope : Scope} {pos : Pos} {σ : Sto} {Q : PyData → Sto → Prop} (hgo : GoOk c target)
    (hfree : ∀ x ∈ scope.names, x.2 ≠ .free) (hcell : ∀ y ∈ scope.names, y.2 ≠ .cell) (hkind : scope.kind = .function) (hnames : ∀ x ∈ scope.names, x.2 = .local → scope.names.lookup x.1 = some .local)
    (ns : List Str) (hnd : ns.Nodup) (hloc : ∀ x ∈ ns, scope.names.lookup x = some .local)
    (h : EV c iter σ fun d σ1 => ∃ ds, d = .list ds ∧ ∀ c' : Cx, Ok c' k → c'.W = c.W → c'.env.scope = scope → c'.env.cells = [] → COMP c' elt (AS c' target) ds (ns.map fun x => (x, .no)) [] fun rs => Q (.list rs) σ1)
    (hs : ∀ x, foldedSetIterable iter c.env x = pure x := by intro _; with_unfolding_all rfl) : EV c (.ListComp elt [⟨target, iter, [], 0⟩] scope pos) σ Q := fun K Z s I => by
  rw [eval_ListComp]
  refine wpAny_comprehension_free (use := none) rfl hs (closureFor_none hfree) hkind hnames (noE_mono (h K Z s I) fun v s1 P => ?_)
  obtain ⟨d, σ1, Z1, e1, I1, D1, ds, rfl, h1⟩ := P
  cases D1 with | list hz D => ?_
  rename_i ax vs n
  have hl : s1.heap.IsList ax vs := IsL.isList (I1.data _ _ hz)
  have hne : ax ≠ s1.heap.objs.size := Nat.ne_of_lt (I1.lt hz)
  refine wpAny_pyIter_list hl ?_
  have J := I1.keeps (h' := s1.heap.push { cls := .type "list_iterator", data := .fields #[.ref ax, .int 0 0] }) (tk := s1.toks) (pushKeeps _ _)
  have hsz := D.length
  rw [Array.length_toList] at hsz
  have hsize : (s1.heap.push { cls := .type "list_iterator", data := .fields #[.ref ax, .int 0 0] }).objs.size = s1.heap.objs.size + 1 := Heap.size_push ..
  refine comp_core O J hkind hcell (trn_one (target := target) (Walks.list O.lv.hh s1.heap.objs.size ax hne vs) (fun i v s Q E st hq => hgo _ _ _ v s Q E st.1 hq)) (fun s Q st hq => wpAny_pyIter_listiter st.1 hq) ds hsz.symm (fun i h st b hb => ?_)
    (fun c' => AS c' target) (fun c' e2 e3 e4 i d v K' Z' σ' s' Q' hd e I' hP hstep => ?_) ⟨⟨_, Heap.get?_push_size _ rfl, rfl, rfl⟩, hl.push _⟩ (fun b hb => ?_) (fun b hb => ?_) (fun x a q => by cases q) (ns.map fun x => (x, .no)) ?_ ?_ ?_
    (R := fun rs => Q (.list rs) σ1) (fun c' O' w' s' l' => h1 c' O' w' (s'.trans (relabel_none hfree)) l') (fun D C h' tk X => ?_)
  · rcases List.mem_cons.mp hb with rfl | hb
    · obtain ⟨o, ho, _⟩ := st.1; exact ⟨o, ho⟩
    · rcases List.mem_cons.mp hb with rfl | hb
      · obtain ⟨o, ho, _⟩ := st.2; exact ⟨o, ho⟩
      · cases hb
  · obtain ⟨v', hv', Dv⟩ := D.get hd
    have hP' : vs[i]? = some v := hP
    rw [← Array.getElem?_toList, hv'] at hP'
    cases hP'
    have := hstep K' Z' s' v I' (Dv.mono e)
    rw [e2, e3, e4] at this
    exact this
  · rcases List.mem_cons.mp hb with rfl | hb
    · exact I1.fresh (Nat.le_refl _)
    · cases hb
  · rw [hsize]
    rcases List.mem_cons.mp hb with rfl | hb
    · exact Nat.lt_succ_self _
    · rcases List.mem_cons.mp hb with rfl | hb
      · exact Nat.lt_succ_of_lt (I1.lt hz)
      · cases hb
  · rw [List.map_map]; exact (by rw [show ((fun x : Str × Slot => x.1) ∘ fun x : Str => (x, Slot.no)) = id from rfl, List.map_id]; exact hnd)
  · intro p hp
    obtain ⟨x, hx, rfl⟩ := List.mem_map.mp hp
    rw [relabel_none hfree]
    exact hloc x hx
  · intro p hp
    obtain ⟨x, hx, rfl⟩ := List.mem_map.mp hp
    exact .inl rfl
  · obtain ⟨Z', m', ys, n', rs, hn, hD, DD, hR, e, J', zD, zC, kD, kC, lD, lC, hDC⟩ := X.grow (tk := tk) O I1 ⟨_, s1.toks, rfl⟩ (fun b o q => ⟨fun hb => (by
      rcases List.mem_cons.mp hb with rfl | hb
      · exact absurd (Heap.lt_size q) (Nat.lt_irrefl _)
      · cases hb), Heap.get?_push_of_some _ q⟩) (by rw [hsize]; exact Nat.le_succ _)
    refine ⟨m', hn, fun h'' hs'' => ?_⟩
    obtain ⟨m1, hn1, hv1⟩ := I1.vars
    have J2 := J'.letC (h' := h'') (tk := tk) zC kC (Nat.ne_of_lt (Nat.lt_of_lt_of_le I1.ltL lC)) (fun p hp a ha => Nat.ne_of_lt (Nat.lt_of_lt_of_le ((hv1 p hp).ltAddr ha) lC)) hs''
    have hD2 : h''.get? D = some (lst ys n') := (hs''.2 D hDC).trans hD
    exact ⟨.list rs, σ1, Z'.add D (lst ys n'), (e1.trans e).trans (Ext.add zD), J2.addZ hD2 zD kD (Nat.ne_of_lt (Nat.lt_of_lt_of_le I1.ltL lD)) (fun p hp a ha => Nat.ne_of_lt (Nat.lt_of_lt_of_le ((hv1 p hp).ltAddr ha) lD)) (Nat.le_trans O.low (Nat.le_trans (Nat.le_of_lt I1.ltL) lD)),
      .list (Fz.add_same _ _ _) (DD.mono (Ext.add zD)), hR⟩

/-- x = [.. for ..] on one row -/
theorem x_assign_comp (O : Ok c k) (hcells : c.env.cells = []) {x : Str} {xp ap : Pos} {elt target iter : Expr} {scope : Scope} {pos : Pos} {σ : Sto} {Q : Fl → Sto → Prop} (hgo : GoOk c target)
    (hfree : ∀ x ∈ scope.names, x.2 ≠ .free) (hcell : ∀ y ∈ scope.names, y.2 ≠ .cell) (hkind : scope.kind = .function) (hnames : ∀ x ∈ scope.names, x.2 = .local → scope.names.lookup x.1 = some .local)
    (ns : List Str) (hnd : ns.Nodup) (hloc : ∀ x ∈ ns, scope.names.lookup x = some .local) (hx : c.env.kindOf x = some .local) (hnin : (scope.names.any fun y => y.1 == x && (y.2 == .local || y.2 == .cell)) = false)
    (h : EV c iter σ fun d σ1 => ∃ ds, d = .list ds ∧ ∀ c' : Cx, Ok c' k → c'.W = c.W → c'.env.scope = scope → c'.env.cells = [] → COMP c' elt (AS c' target) ds (ns.map fun x => (x, .no)) [] fun rs => ∀ a, ∃ σ2, SetAt σ1 x (.own true a rs) σ2 ∧ Q .next σ2)
    (hs : ∀ x, foldedSetIterable iter c.env x = pure x := by intro _; with_unfolding_all rfl) (hline : (xp.line == pos.line) = true := by with_unfolding_all rfl) : EX c (.Assign [.Name x xp] (.ListComp elt [⟨target, iter, [], 0⟩] scope pos) ap) σ Q := fun K Z s I => by
  have hb : c.env.blockKind = .function := by unfold Env.blockKind; rw [O.kind]; rfl
  have hsw : swapsWith (.ListComp elt [⟨target, iter, [], 0⟩] scope pos) (some (.Name x xp)) ap.line c.env = pure true := by
    simp only [swapsWith, Expr.pos, hb, hx, hline, hnin, beq_self_eq_true, Bool.and_self]
    rfl
  rw [exec_Assign_Name_used _ _ _ _ hsw]
  refine wpAny_bind (wpAny_standAt (wpAny_bind ?_))
  show wpAny _ _ (do let _ ← comprehension (.ListComp elt [⟨target, iter, [], 0⟩] scope pos) scope c.env _ (newList []) false (eval iter c.env) (some (assign (.Name x xp) c.env))) _ _ s
  refine wpAny_bind (noE_mono (Q := fun _ s' => XPost c K Z Q .next s') ?_ fun _ s' hq => wpAny_pure (wpAny_pure hq))
  refine wpAny_comprehension_free (use := some (assign (.Name x xp) c.env)) rfl hs (closureFor_none hfree) hkind hnames (noE_mono (h K Z s I) fun v s1 P => ?_)
  obtain ⟨d, σ1, Z1, e1, I1, D1, ds, rfl, h1⟩ := P
  cases D1 with | list hz D => ?_
  rename_i ax vs n
  have hl : s1.heap.IsList ax vs := IsL.isList (I1.data _ _ hz)
  have hne : ax ≠ s1.heap.objs.size := Nat.ne_of_lt (I1.lt hz)
  refine wpAny_pyIter_list hl ?_
  have J := I1.keeps (h' := s1.heap.push { cls := .type "list_iterator", data := .fields #[.ref ax, .int 0 0] }) (tk := s1.toks) (pushKeeps _ _)
  have hsz := D.length
  rw [Array.length_toList] at hsz
  have hsize : (s1.heap.push { cls := .type "list_iterator", data := .fields #[.ref ax, .int 0 0] }).objs.size = s1.heap.objs.size + 1 := Heap.size_push ..
  refine comp_core O J hkind hcell (trn_one (target := target) (Walks.list O.lv.hh s1.heap.objs.size ax hne vs) (fun i v s Q E st hq => hgo _ _ _ v s Q E st.1 hq)) (fun s Q st hq => wpAny_pyIter_listiter st.1 hq) ds hsz.symm (fun i h st b hb => ?_)
    (fun c' => AS c' target) (fun c' e2 e3 e4 i d v K' Z' σ' s' Q' hd e I' hP hstep => ?_) ⟨⟨_, Heap.get?_push_size _ rfl, rfl, rfl⟩, hl.push _⟩ (fun b hb => ?_) (fun b hb => ?_) (fun x a q => by cases q) (ns.map fun x => (x, .no)) ?_ ?_ ?_
    (R := fun rs => ∀ a, ∃ σ2, SetAt σ1 x (.own true a rs) σ2 ∧ Q .next σ2) (fun c' O' w' s' l' => h1 c' O' w' (s'.trans (relabel_none hfree)) l') (fun D C h' tk X => ?_)
  · rcases List.mem_cons.mp hb with rfl | hb
    · obtain ⟨o, ho, _⟩ := st.1; exact ⟨o, ho⟩
    · rcases List.mem_cons.mp hb with rfl | hb
      · obtain ⟨o, ho, _⟩ := st.2; exact ⟨o, ho⟩
      · cases hb
  · obtain ⟨v', hv', Dv⟩ := D.get hd
    have hP' : vs[i]? = some v := hP
    rw [← Array.getElem?_toList, hv'] at hP'
    cases hP'
    have := hstep K' Z' s' v I' (Dv.mono e)
    rw [e2, e3, e4] at this
    exact this
  · rcases List.mem_cons.mp hb with rfl | hb
    · exact I1.fresh (Nat.le_refl _)
    · cases hb
  · rw [hsize]
    rcases List.mem_cons.mp hb with rfl | hb
    · exact Nat.lt_succ_self _
    · rcases List.mem_cons.mp hb with rfl | hb
      · exact Nat.lt_succ_of_lt (I1.lt hz)
      · cases hb
  · rw [List.map_map]; exact (by rw [show ((fun x : Str × Slot => x.1) ∘ fun x : Str => (x, Slot.no)) = id from rfl, List.map_id]; exact hnd)
  · intro p hp
    obtain ⟨x, hx, rfl⟩ := List.mem_map.mp hp
    rw [relabel_none hfree]
    exact hloc x hx
  · intro p hp
    obtain ⟨x, hx, rfl⟩ := List.mem_map.mp hp
    exact .inl rfl
  · obtain ⟨Z', m', ys, n', rs, hn, hD, DD, hR, e, J', zD, zC, kD, kC, lD, lC, hDC⟩ := X.grow (tk := tk) O I1 ⟨_, s1.toks, rfl⟩ (fun b o q => ⟨fun hb => (by
      rcases List.mem_cons.mp hb with rfl | hb
      · exact absurd (Heap.lt_size q) (Nat.lt_irrefl _)
      · cases hb), Heap.get?_push_of_some _ q⟩) (by rw [hsize]; exact Nat.le_succ _)
    obtain ⟨σ2, S, hQ⟩ := hR D
    obtain ⟨m2, hn2, hv2⟩ := J'.vars
    obtain ⟨m1, hn1, hv1⟩ := I1.vars
    have hLD : D ≠ c.env.locals := Nat.ne_of_gt (Nat.lt_of_lt_of_le I1.ltL lD)
    have hLC : c.env.locals ≠ C := Nat.ne_of_lt (Nat.lt_of_lt_of_le I1.ltL lC)
    refine PySem.wpAny_assign_Name (wpAny_storeName_local hx hn2 (fun h2 hn3 hs3 => ?_) (notClass O))
    have J2 := J'.store (tk := tk + 1) S hv2 hn3 hs3 ⟨if_pos rfl, zD, kD, hLD, fun _ => Nat.le_trans O.low (Nat.le_trans (Nat.le_of_lt I1.ltL) lD), ys, n', (hs3.2 D hLD).trans hD, DD⟩ fun a' ha q hq hqx e2 => by
      cases ha
      exact absurd ((hv1 q hq).ltAddr e2) (Nat.not_lt.mpr lD)
    refine ⟨m', hn.sameBut hs3 (Ne.symm hLC), fun h3 hs4 => ?_⟩
    refine ⟨.next, σ2, Z', e1.trans e, J2.letC (h' := h3) (tk := tk + 1) zC kC hLC (fun p hp a ha => ?_) hs4, trivial, hQ⟩
    rcases S.mem I1.names hp with rfl | ⟨hp', _⟩
    · cases ha; exact hDC
    · exact Nat.ne_of_lt (Nat.lt_of_lt_of_le ((hv1 p hp').ltAddr ha) lC)
end

theorem ints_of_den {Z : Fz} : ∀ {vs : List Value} {ns : List Int}, DenAll Z vs (ns.map .int) → IntsAre vs ns
  | _, [], .nil => .nil
  | _, n :: ns, h => by
    rw [List.map_cons] at h
    cases h with | cons h1 h2 => ?_
    cases h1
    exact .cons _ _ (ints_of_den h2)
theorem den_of_ints {Z : Fz} : ∀ {vs : List Value} {ns : List Int}, IntsAre vs ns → DenAll Z vs (ns.map .int)
  | _, _, .nil => .nil
  | _, _, .cons n t r => .cons (.int n t) (den_of_ints r)

section
variable {prog : Program} {w : World} {B : Heap}

theorem post_keeps {s : Shared} {Z : Fz} {h' : Heap} {tk : Nat} {v : Value} {d : PyData} {Q : PyData → Prop} (hZ : ∀ a o, Z a = some o → s.heap.get? a = some o) (hk : ∀ b o, s.heap.get? b = some o → h'.get? b = some o) (D : Den Z v d) (h : Q d) :
    ∃ d Z', Ext Z Z' ∧ (∀ a o, Z' a = some o → ({ s with heap := h', toks := tk } : Shared).heap.get? a = some o) ∧ (∀ a o, Z' a = some o → Z a = some o ∨ s.heap.objs.size ≤ a) ∧
      (∀ a o, s.heap.get? a = some o → ({ s with heap := h', toks := tk } : Shared).heap.get? a = some o) ∧ (∃ h tk', ({ s with heap := h', toks := tk } : Shared) = { s with heap := h, toks := tk' }) ∧ Den Z' v d ∧ Q d :=
  ⟨d, Z, Ext.refl _, fun a o e => hk _ _ (hZ _ _ e), fun a o e => .inl e, hk, ⟨_, _, rfl⟩, D, h⟩
theorem post_new {s : Shared} {Z : Fz} {h' : Heap} {tk : Nat} {a : Addr} {vs : Array Value} {n : Nat} {ds : List PyData} {Q : PyData → Prop} (hZ : ∀ a o, Z a = some o → s.heap.get? a = some o) (hk : ∀ b o, s.heap.get? b = some o → h'.get? b = some o)
    (ha : h'.get? a = some (lst vs n)) (hN : s.heap.objs.size ≤ a) (D : DenAll Z vs.toList ds) (h : Q (.list ds)) :
    ∃ d Z', Ext Z Z' ∧ (∀ a o, Z' a = some o → ({ s with heap := h', toks := tk } : Shared).heap.get? a = some o) ∧ (∀ a o, Z' a = some o → Z a = some o ∨ s.heap.objs.size ≤ a) ∧
      (∀ a o, s.heap.get? a = some o → ({ s with heap := h', toks := tk } : Shared).heap.get? a = some o) ∧ (∃ h tk', ({ s with heap := h', toks := tk } : Shared) = { s with heap := h, toks := tk' }) ∧ Den Z' (.ref a) d ∧ Q d := by
  have zN : Z a = none := by
    cases e : Z a with
    | none => rfl
    | some o => exact absurd (Heap.lt_size (hZ _ _ e)) (Nat.not_lt.mpr hN)
  refine ⟨.list ds, Z.add a (lst vs n), Ext.add zN, fun b o e => ?_, fun b o e => ?_, hk, ⟨_, _, rfl⟩, .list (Fz.add_same _ _ _) (D.mono (Ext.add zN)), h⟩
  · by_cases hb : b = a
    · subst hb; rw [Fz.add_same] at e; cases e; exact ha
    · rw [Fz.add_ne hb] at e; exact hk _ _ (hZ _ _ e)
  · by_cases hb : b = a
    · subst hb; exact .inr hN
    · rw [Fz.add_ne hb] at e; exact .inl e

noncomputable def S_len : Spec := fun ds Q => ∃ l, ds = [.list l] ∧ l.length ≤ 16777216 ∧ Q (.int l.length)
theorem len_callee : Callee prog w B 0 (.builtin "len") S_len := by
  rintro A s Z vs ds Q hL hZ hB D ⟨l, rfl, hl, hQ⟩
  cases D with | cons D1 D2 => ?_
  cases D2
  cases D1 with | list hz D => ?_
  rename_i a us n
  have hsz := D.length
  rw [Array.length_toList] at hsz
  refine Calls.call_len_list (IsL.isList (hZ _ _ hz)) (by rw [hsz]; omega) ?_
  rw [hsz]
  exact post_keeps hZ (fun _ _ e => e) (.int _ _) hQ
noncomputable def S_abs : Spec := fun ds Q => ∃ x : Int, ds = [.int x] ∧ Q (.int (if x < 0 then -x else x))
theorem abs_callee : Callee prog w B 0 (.builtin "abs") S_abs := by
  rintro A s Z vs ds Q hL hZ hB D ⟨x, rfl, hQ⟩
  cases D with | cons D1 D2 => ?_
  cases D2
  cases D1
  exact call_abs_int fun u tk => post_keeps (h' := s.heap) hZ (fun _ _ e => e) (.int _ _) hQ
noncomputable def S_sum : Spec := fun ds Q => ∃ l : List Int, ds = [.list (l.map .int)] ∧ Q (.int l.sum)
theorem sum_callee : Callee prog w B 0 (.builtin "sum") S_sum := by
  rintro A s Z vs ds Q hL hZ hB D ⟨l, rfl, hQ⟩
  cases D with | cons D1 D2 => ?_
  cases D2
  cases D1 with | list hz D => ?_
  rename_i a us n
  have hi := ints_of_den D
  obtain ⟨xs, hx⟩ := hi.allInts.items
  rw [Array.toArray_toList] at hx
  have hl' : s.heap.IsList a (intItems xs) := hx ▸ IsL.isList (hZ _ _ hz)
  refine sum_intListG hL.hh hl' fun h' tk t' hk => ?_
  have e1 : l = xs.toList.map (·.1) := by
    rw [← nums_intItems, ← hx]
    exact (show numsOf us.toList = l from hi.numsOf).symm
  have e2 : preSum (numAt xs) xs.size = l.sum := by
    rw [preSum_eq, List.take_of_length_le (by simp), e1]
  rw [e2]
  exact post_keeps hZ hk (.int _ _) hQ
noncomputable def S_min : Spec := fun ds Q => ∃ x y : Int, ds = [.int x, .int y] ∧ Q (.int (if y < x then y else x))
theorem min_callee : Callee prog w B 0 (.builtin "min") S_min := by
  rintro A s Z vs ds Q hL hZ hB D ⟨x, y, rfl, hQ⟩
  cases D with | cons D1 D2 => ?_
  cases D2 with | cons D2 D3 => ?_
  cases D3; cases D1; cases D2
  refine min_two_ints hL.hh fun h' tk hk => ?_
  by_cases h : y < x
  · rw [if_pos h] at hQ ⊢; exact post_keeps hZ hk (.int _ _) hQ
  · rw [if_neg h] at hQ ⊢; exact post_keeps hZ hk (.int _ _) hQ
noncomputable def S_max : Spec := fun ds Q => ∃ x y : Int, ds = [.int x, .int y] ∧ Q (.int (if x < y then y else x))
theorem max_callee : Callee prog w B 0 (.builtin "max") S_max := by
  rintro A s Z vs ds Q hL hZ hB D ⟨x, y, rfl, hQ⟩
  cases D with | cons D1 D2 => ?_
  cases D2 with | cons D2 D3 => ?_
  cases D3; cases D1; cases D2
  refine max_two_ints hL.hh fun h' tk hk => ?_
  by_cases h : x < y
  · rw [if_pos h] at hQ; rw [if_pos (show y > x from h)]; exact post_keeps hZ hk (.int _ _) hQ
  · rw [if_neg h] at hQ; rw [if_neg (show ¬ y > x from h)]; exact post_keeps hZ hk (.int _ _) hQ
noncomputable def S_list : Spec := fun ds Q => ∃ l, ds = [.list l] ∧ l.length ≤ 16777216 ∧ Q (.list l)
theorem list_callee : Callee prog w B 0 (.type "list") S_list := by
  rintro A s Z vs ds Q hL hZ hB D ⟨l, rfl, hl, hQ⟩
  cases D with | cons D1 D2 => ?_
  cases D2
  cases D1 with | list hz D => ?_
  rename_i a us n
  have hsz := D.length
  rw [Array.length_toList] at hsz
  exact call_list_seq a (.inl rfl) (hZ _ _ hz) rfl rfl (fun h' c' hk hn => post_new (tk := s.toks) hZ hk hn (Nat.le_refl _) D hQ) (by rw [hsz, sizeLine_eq]; exact hl)
noncomputable def S_sorted : Spec := fun ds Q => ∃ l : List Int, ds = [.list (l.map .int)] ∧ l.length < 64 ∧ ∀ l' : List Int, l'.Perm l → l'.Pairwise (· ≤ ·) → Q (.list (l'.map .int))
theorem sorted_callee : Callee prog w B 0 (.builtin "sorted") S_sorted := by
  rintro A s Z vs ds Q hL hZ hB D ⟨l, rfl, hl, hQ⟩
  cases D with | cons D1 D2 => ?_
  cases D2
  cases D1 with | list hz D => ?_
  rename_i a us n
  have hsz := D.length
  rw [List.length_map] at hsz
  refine sorted_ints (vs := us.toList) (by rw [Array.toArray_toList]; exact IsL.isList (hZ _ _ hz)) (ints_of_den D) (by rw [hsz]; exact hl) fun out ns' a1 a2 a3 => ?_
  obtain ⟨e, he⟩ := sortedAll_at s.heap us.toList out
  exact post_new (tk := s.toks) (vs := out) (n := e) hZ (fun _ _ => sortedAll_old) he (Nat.le_succ _) (den_of_ints a1) (hQ ns' a2 a3)
end

noncomputable def GlobD (W : World') (x : Str) (d : PyData) : Prop := ∃ v, W.mg x = some v ∧ Den W.B.get? v d

theorem kind_of {c : Cx} {sc : Scope} {x : Str} {kd : NameKind} (hsc : c.env.scope = sc) (h : sc.names.lookup x = some kd) : c.env.kindOf x = some kd := by
  unfold Env.kindOf; rw [hsc]; exact h

theorem r_gl {c : Cx} {k : Nat} {σ : Sto} (O : Ok c k) {x : Str} {pos : Pos} {d : PyData} {Q : PyData → Sto → Prop} (g : GlobD c.W x d) (hx : c.env.kindOf x = some .globalImplicit) (h : Q d σ)
    (hd : (x == ("__debug__" : Str)) = false := by decide +kernel) : EV c (.Name x pos) σ Q := by
  obtain ⟨v, h1, h2⟩ := g
  exact r_glob O hx h1 (h2.mono O.old) h hd

noncomputable def builtinsUsed : List (Str × Value) := [("len", .builtin "len"), ("abs", .builtin "abs"), ("sum", .builtin "sum"), ("min", .builtin "min"), ("max", .builtin "max"), ("sorted", .builtin "sorted"), ("list", .type "list"), ("range", .type "range"), ("enumerate", .type "enumerate")]

structure Std (W : World') : Prop where
  base : Base W.B W.mg W.mb
  blank : GlobD W "BLANK" (.int 32)
  tab : GlobD W "TAB" (.int 9)
  rowend : GlobD W "ROW_END" (.int 10)
  period : GlobD W "PERIOD" (.int 46)
  ends : GlobD W "ENDS" (.tuple ([33, 46, 63].map .int))
  closers : GlobD W "CLOSERS" (.tuple ([34, 39, 41, 93, 125].map .int))
  bi : ∀ p ∈ builtinsUsed, W.mg p.1 = none ∧ W.mb p.1 = some p.2

section
variable {W : World'} (H : Std W)
include H
theorem t_len : Told W 0 "len" S_len := ⟨_, .inr ⟨(H.bi ("len", .builtin "len") (by simp [builtinsUsed])).1, (H.bi ("len", .builtin "len") (by simp [builtinsUsed])).2, .inl ⟨_, rfl⟩⟩, len_callee⟩
theorem t_abs : Told W 0 "abs" S_abs := ⟨_, .inr ⟨(H.bi ("abs", .builtin "abs") (by simp [builtinsUsed])).1, (H.bi ("abs", .builtin "abs") (by simp [builtinsUsed])).2, .inl ⟨_, rfl⟩⟩, abs_callee⟩
theorem t_sum : Told W 0 "sum" S_sum := ⟨_, .inr ⟨(H.bi ("sum", .builtin "sum") (by simp [builtinsUsed])).1, (H.bi ("sum", .builtin "sum") (by simp [builtinsUsed])).2, .inl ⟨_, rfl⟩⟩, sum_callee⟩
theorem t_min : Told W 0 "min" S_min := ⟨_, .inr ⟨(H.bi ("min", .builtin "min") (by simp [builtinsUsed])).1, (H.bi ("min", .builtin "min") (by simp [builtinsUsed])).2, .inl ⟨_, rfl⟩⟩, min_callee⟩
theorem t_max : Told W 0 "max" S_max := ⟨_, .inr ⟨(H.bi ("max", .builtin "max") (by simp [builtinsUsed])).1, (H.bi ("max", .builtin "max") (by simp [builtinsUsed])).2, .inl ⟨_, rfl⟩⟩, max_callee⟩
theorem t_sorted : Told W 0 "sorted" S_sorted := ⟨_, .inr ⟨(H.bi ("sorted", .builtin "sorted") (by simp [builtinsUsed])).1, (H.bi ("sorted", .builtin "sorted") (by simp [builtinsUsed])).2, .inl ⟨_, rfl⟩⟩, sorted_callee⟩
theorem t_list : Told W 0 "list" S_list := ⟨_, .inr ⟨(H.bi ("list", .type "list") (by simp [builtinsUsed])).1, (H.bi ("list", .type "list") (by simp [builtinsUsed])).2, .inr ⟨_, rfl⟩⟩, list_callee⟩
theorem t_range : W.mg "range" = none ∧ W.mb "range" = some (.type "range") := H.bi ("range", .type "range") (by simp [builtinsUsed])
theorem t_enum : W.mg "enumerate" = none ∧ W.mb "enumerate" = some (.type "enumerate") := H.bi ("enumerate", .type "enumerate") (by simp [builtinsUsed])
end

noncomputable def fdAt (p : Program) (i : Nat) : Fd := match p.main.body[i]? with
  | some (.FunctionDef name args body _ _ _ scope _ _ _) => ⟨name, args, body, scope⟩
  | _ => ⟨"", ⟨[], [], none, [], [], none, []⟩, [], ⟨.function, [], false, false, []⟩⟩
noncomputable abbrev fd (i : Nat) : Fd := fdAt PySem.Challenge.pw_np0021_01 i

/-! one step of a walk -/
theorem ite_both {b : Prop} [Decidable b] {P Q : Prop} (h1 : b → P) (h2 : ¬ b → Q) : if decide b = true then P else Q := by
  by_cases h : b
  · rw [if_pos (decide_eq_true h)]; exact h1 h
  · rw [if_neg (by simpa using h)]; exact h2 h
theorem ite_bothN {b : Prop} [Decidable b] {P Q : Prop} (h1 : ¬ b → P) (h2 : b → Q) : if (!decide b) = true then P else Q := by
  by_cases h : b
  · rw [if_neg (by simpa using h)]; exact h2 h
  · rw [if_pos (by simpa using h)]; exact h1 h
theorem ite_bothB {b : Bool} {P Q : Prop} (h1 : b = true → P) (h2 : b = false → Q) : if b = true then P else Q := by
  cases b
  · exact h2 rfl
  · exact h1 rfl
theorem then_next {c : Cx} {rest : List Stmt} {Q : Fl → Sto → Prop} {σ : Sto} (h : EXs c rest σ Q) : thenXs c rest Q .next σ := h
theorem then_ret {c : Cx} {rest : List Stmt} {Q : Fl → Sto → Prop} {σ : Sto} {d : PyData} (h : Q (.ret d) σ) : thenXs c rest Q (.ret d) σ := h
theorem then_brk {c : Cx} {rest : List Stmt} {Q : Fl → Sto → Prop} {σ : Sto} (h : Q .brk σ) : thenXs c rest Q .brk σ := h
theorem end_next {next : Sto → Prop} {Q : Fl → Sto → Prop} {σ : Sto} (h : next σ) : turnEnd next Q .next σ := h
theorem end_brk {next : Sto → Prop} {Q : Fl → Sto → Prop} {σ : Sto} (h : Q .next σ) : turnEnd next Q .brk σ := h
theorem end_ret {next : Sto → Prop} {Q : Fl → Sto → Prop} {σ : Sto} {d : PyData} (h : Q (.ret d) σ) : turnEnd next Q (.ret d) σ := h
theorem ret_ret {Q : PyData → Prop} {σ : Sto} {d : PyData} (h : Q d) : retPost Q (.ret d) σ := h

/-! loops with a place behind them -/
noncomputable def exitP (P : Sto → Prop) (Q : Fl → Sto → Prop) (f : Fl) (σ : Sto) : Prop := match f with
  | .next => P σ
  | f => Q f σ
theorem exit_ret {P : Sto → Prop} {Q : Fl → Sto → Prop} {σ : Sto} {d : PyData} (h : Q (.ret d) σ) : exitP P Q (.ret d) σ := h
theorem exit_next {P : Sto → Prop} {Q : Fl → Sto → Prop} {σ : Sto} (h : P σ) : exitP P Q .next σ := h
theorem EX_mono {c : Cx} {st : Stmt} {σ : Sto} {Q Q' : Fl → Sto → Prop} (h : EX c st σ Q) (hQ : ∀ f σ, Q f σ → Q' f σ) : EX c st σ Q' := fun K Z s I =>
  noE_mono (h K Z s I) fun _ _ P => let ⟨r, σ', Z', a, b, cc, dd⟩ := P; ⟨r, σ', Z', a, b, cc, hQ _ _ dd⟩
theorem x_whileP {c : Cx} {σ : Sto} {test : Expr} {body : List Stmt} {pos : Pos} {Q : Fl → Sto → Prop} (J : Nat → Sto → Prop) (n : Nat) (P : Sto → Prop) (h0 : J n σ)
    (turn : ∀ n σ1, J n σ1 → ET c test σ1 fun b σ2 => if b = true then EXs c body σ2 (turnEnd (fun σ3 => ∃ m, m < n ∧ J m σ3) (exitP P Q)) else P σ2)
    (cont : ∀ σ', P σ' → Q .next σ') : EX c (.While test body [] pos) σ Q :=
  EX_mono (Q := exitP P Q) (x_while J n h0 turn) fun f σ' h => by
    cases f with
    | next => exact cont _ h
    | _ => exact h
theorem for_inv {c : Cx} {δ : Type} {step : δ → Sto → (Sto → Prop) → Prop} {body : List Stmt} {items : List δ} {σ : Sto} {Q : Fl → Sto → Prop} (J : Nat → Sto → Prop) (h0 : J 0 σ)
    (turn : ∀ i d σ1 (R : Sto → Prop), items[i]? = some d → J i σ1 → (∀ σ3, J (i + 1) σ3 → R σ3) → step d σ1 fun σ2 => EXs c body σ2 (turnEnd R Q))
    (cont : ∀ σ', J items.length σ' → Q .next σ') : FOR c step body items σ Q := by
  have key : ∀ (rest : List δ) (i : Nat) (σ : Sto), items.drop i = rest → i ≤ items.length → J i σ → FOR c step body rest σ Q := by
    intro rest
    induction rest with
    | nil =>
      intro i σ hd hi hJ
      have : i = items.length := by
        have := congrArg List.length hd
        rw [List.length_drop, List.length_nil] at this
        omega
      subst this
      exact cont _ hJ
    | cons d ds ih =>
      intro i σ hd hi hJ
      have hlt : i < items.length := by
        have := congrArg List.length hd
        rw [List.length_drop, List.length_cons] at this
        omega
      rw [List.drop_eq_getElem_cons hlt] at hd
      injection hd with h1 h2
      exact turn i d σ _ (by rw [List.getElem?_eq_getElem hlt, h1]) hJ fun σ3 h3 => ih (i + 1) σ3 h2 hlt h3
  exact key items 0 σ rfl (Nat.zero_le _) h0
theorem comp_inv {c : Cx} {δ : Type} {elt : Expr} {step : δ → Sto → (Sto → Prop) → Prop} {items : List δ} {σ : Sto} {R : List PyData → Prop} (g : δ → PyData) (J : Sto → Prop) (h0 : J σ) (hl : items.length ≤ 1000000)
    (turn : ∀ d σ1 (R' : PyData → Sto → Prop), d ∈ items → J σ1 → (∀ σ2, J σ2 → R' (g d) σ2) → step d σ1 fun σ2 => EV c elt σ2 R')
    (cont : R (items.map g)) : COMP c elt step items σ [] R := by
  have key : ∀ (rest done : List δ) (σ : Sto), items = done ++ rest → J σ → COMP c elt step rest σ (done.map g) R := by
    intro rest
    induction rest with
    | nil =>
      intro done σ e hJ
      rw [List.append_nil] at e
      subst e
      exact cont
    | cons d ds ih =>
      intro done σ e hJ
      refine turn d σ _ (by rw [e]; simp) hJ fun σ2 h2 => ⟨?_, ?_⟩
      · have := congrArg List.length e
        rw [List.length_append] at this
        rw [List.length_map]; omega
      · have := ih (done ++ [d]) σ2 (by rw [e, List.append_assoc]; rfl) h2
        rw [List.map_append] at this
        exact this
  exact key items [] σ rfl h0

theorem x_assignL {c : Cx} {k : Nat} {σ : Sto} (O : Ok c k) {x : Str} {pp : Pos} {value : Expr} {pos : Pos} {Q : Fl → Sto → Prop} (hx : c.env.kindOf x = some .local) (h : EV c value σ fun d σ1 => ∃ σ2, SetAt σ1 x (.val d) σ2 ∧ Q .next σ2)
    (hs : swapsWith value (some (.Name x pp)) pos.line c.env = pure false := by with_unfolding_all rfl) : EX c (.Assign [.Name x pp] value pos) σ Q := x_assign O h hs
/-! places where ways meet -/
inductive StopIf : Prop
  | mk : StopIf
theorem x_join {c : Cx} {st : Stmt} {σ : Sto} {Q : Fl → Sto → Prop} (P : Sto → Prop) (h : EX c st σ (exitP P Q)) (k : ∀ σ', P σ' → Q .next σ') : EX c st σ Q := EX_mono h fun f σ' h => by
  cases f with
  | next => exact k _ h
  | _ => exact h
theorem ev_join {c : Cx} {e : Expr} {σ : Sto} {Q : PyData → Sto → Prop} (d : PyData) (h : EV c e σ fun d' σ' => d' = d ∧ σ' = σ) (k : Q d σ) : EV c e σ Q := fun K Z s I =>
  noE_mono (h K Z s I) fun _ _ P => let ⟨d', σ', Z', a, b, cc, e1, e2⟩ := P; ⟨d', σ', Z', a, b, cc, by rw [e1, e2]; exact k⟩
theorem et_join {c : Cx} {e : Expr} {σ : Sto} {Q : Bool → Sto → Prop} (v : Bool) (h : ET c e σ fun b σ' => b = v ∧ σ' = σ) (k : Q v σ) : ET c e σ Q := fun K Z s I =>
  noE_mono (h K Z s I) fun _ _ P => let ⟨σ', Z', a, b, e1, e2⟩ := P; ⟨σ', Z', a, b, by rw [e1, e2]; exact k⟩
/-! slices by natural bounds -/
section
variable {α : Type} {f : α → PyData} {l : List α} {a b : Nat} {Q : PyData → Prop}
theorem sl_nn (hl : l.length ≤ 16777216) (h : Q (.list (((l.drop a).take (b - a)).map f))) : SL (.list (l.map f)) (some (a : Int)) (some (b : Int)) Q :=
  sl_map (by rw [sizeLine_eq]; omega) (Int.natCast_nonneg _) (Int.natCast_nonneg _) h
theorem sl_n (hl : l.length ≤ 16777216) (h : Q (.list ((l.drop a).map f))) : SL (.list (l.map f)) (some (a : Int)) none Q :=
  sl_map (by rw [sizeLine_eq]; omega) (Int.natCast_nonneg _) trivial h
theorem sl__n (hl : l.length ≤ 16777216) (h : Q (.list ((l.take b).map f))) : SL (.list (l.map f)) none (some (b : Int)) Q :=
  sl_map (by rw [sizeLine_eq]; omega) trivial (Int.natCast_nonneg _) h
end
theorem and_le {n : Nat} {P : Prop} (h1 : n ≤ 1000000) (h : P) : n ≤ 1000000 ∧ P := ⟨h1, h⟩
theorem and_len {ds : List PyData} {P : Prop} (hl : ds.length ≤ 16) (h : P) : ds.length ≤ sizeLine ∧ P := ⟨by rw [sizeLine_eq]; omega, h⟩

/-- x, y = ([], i): x is an own list -/
theorem x_assign_own0 {c : Cx} {σ σ1 : Sto} {k : Nat} (O : Ok c k) {x y : Str} {px py lp cp tp vp pos : Pos} {q r qq : Nat} {i : Int} {Q : Fl → Sto → Prop}
    (hsw : swapsWithSole [.Tuple [.Name x px, .Name y py] q tp] (.Tuple [.List [] lp, .Constant (.int i) qq cp] r vp) pos.line c.env = pure false)
    (hst : swappedStores [.Tuple [.Name x px, .Name y py] q tp] (.Tuple [.List [] lp, .Constant (.int i) qq cp] r vp) c.env = pure (some [x, y]))
    (S1 : SetAt σ y (.val (.int i)) σ1) (h : ∀ a, ∃ σ2, SetAt σ1 x (.own true a []) σ2 ∧ Q .next σ2) :
    EX c (.Assign [.Tuple [.Name x px, .Name y py] q tp] (.Tuple [.List [] lp, .Constant (.int i) qq cp] r vp) pos) σ Q := fun K Z s I => by
  refine Assign_Tuple_swapped (names := [x, y]) (Tuple_ ?_) hsw hst
  show wpAny _ _ (spliced ((false, eval (.List [] lp) c.env) :: (false, eval (.Constant (.int i) qq cp) c.env) :: [])) _ _ _
  refine Calls.spliced_cons (List_ (Calls.spliced_nil (PySem.wpAny_newList ?_ (Nat.zero_le _))))
  refine Calls.spliced_cons (wpAny_Constant_int (Calls.spliced_nil ?_))
  refine PySem.wpAny_newTuple ?_ (by rw [sizeLine_eq]; simp)
  obtain ⟨σ2, S, hQ⟩ := h s.heap.objs.size
  refine PyProof.Rows.unpackItems_tuple (items := #[.ref s.heap.objs.size, .int i s.toks]) O.lv.hh ⟨_, Heap.get?_push_size _ rfl, rfl, _, rfl⟩ fun h' he => ?_
  have hex : ∀ b o, ((s.heap.push (lst #[] 0)).push (tpl #[.ref s.heap.objs.size, .int i s.toks] 0)).get? b = some o → h'.get? b = some o := fun b o e => he b o (Nat.ne_of_lt (Heap.lt_size e)) e
  have hl : h'.get? s.heap.objs.size = some (lst #[] 0) := hex _ _ (Heap.get?_push_of_some _ (Heap.get?_push_size _ rfl))
  have hk : ∀ b o, s.heap.get? b = some o → h'.get? b = some o := fun b o e => hex _ _ (Heap.get?_push_of_some _ (Heap.get?_push_of_some _ e))
  have J0 := I.keeps (h' := h') (tk := s.toks + 1) hk
  have hne : s.heap.objs.size ≠ c.env.locals := Ne.symm (Nat.ne_of_lt I.ltL)
  obtain ⟨m, hn, hv⟩ := J0.vars
  obtain ⟨old, ho, hkk⟩ := S1.memx
  have hlocy := J0.locs (y, old) ho
  simp only [hkk] at hlocy
  show wpAny _ _ (do holding _ (bindName c.env y (.int i s.toks)); assignInOrder [fun v => bindName c.env x v] [.ref s.heap.objs.size]) _ _ _
  refine wpAny_bind (wpAny_holding (wpAny_bindName ?_))
  refine wpAny_storeName_local hlocy hn (fun h1 hn1 hs1 => ?_) (notClass O)
  have J1 := J0.store (tk := s.toks + 1 + 1) S1 hv hn1 hs1 ⟨_, if_pos rfl, .int _ _⟩ (fun _ e => by cases e)
  have hl1 : h1.get? s.heap.objs.size = some (lst #[] 0) := (hs1.2 _ hne).trans hl
  obtain ⟨m1, hn2, hv1⟩ := J1.vars
  obtain ⟨old2, ho2, hkk2⟩ := S.memx
  have hlocx := J1.locs (x, old2) ho2
  simp only [hkk2] at hlocx
  show wpAny _ _ (do holding _ (bindName c.env x (.ref s.heap.objs.size)); assignInOrder [] []) _ _ _
  refine wpAny_bind (wpAny_holding (wpAny_bindName ?_))
  refine wpAny_storeName_local hlocx hn2 (fun h2 hn3 hs2 => ?_) (notClass O)
  have fr : ∀ p ∈ σ1, p.2.addr ≠ some s.heap.objs.size := fun p hp e => by
    rcases S1.mem I.names hp with rfl | ⟨hp', _⟩
    · cases e
    · obtain ⟨m0, hn0, hv0⟩ := I.vars
      exact absurd ((hv0 _ hp').ltAddr e) (Nat.lt_irrefl _)
  refine wpAny_pure ⟨.next, σ2, Z, Ext.refl _, J1.store (tk := _) S hv1 hn3 hs2 ⟨if_pos rfl, I.fresh (Nat.le_refl _), I.freshK (Nat.le_refl _), hne, fun _ => Nat.le_trans O.low (Nat.le_of_lt I.ltL), #[], 0, (hs2.2 _ hne).trans hl1, .nil⟩
    (fun a' ha q hq hqx e => ?_), trivial, hQ⟩
  cases ha
  exact fr q hq e

/-! a def with names that a comprehension of its body reads -/
theorem bindL_of {kindOf : Str → Option NameKind} : ∀ {binds : List (Str × Value)} {m : Str → Option Value} {x : Str}, (∀ p ∈ binds, kindOf p.1 = some .local) → ∀ v, binds.reverse.lookup x = some v → bindL kindOf binds m x = some v := by
  have key : ∀ (binds : List (Str × Value)) (m : Str → Option Value) (x : Str), (∀ p ∈ binds, kindOf p.1 = some .local) → bindL kindOf binds m x = (binds.reverse.lookup x).or (m x) := by
    intro binds
    induction binds with
    | nil => intro m x _; rfl
    | cons p r ih =>
      intro m x h
      obtain ⟨n, v⟩ := p
      rw [bindL, if_pos (h (n, v) List.mem_cons_self), ih _ _ fun q hq => h q (List.mem_cons_of_mem _ hq), List.reverse_cons, List.lookup_append]
      by_cases hx : x = n
      · subst hx
        cases r.reverse.lookup x <;> simp
      · have hb : (x == n) = false := beq_eq_false_iff_ne.mpr hx
        cases r.reverse.lookup x <;> simp [hx, List.lookup_cons, hb]
  intro binds m x h v hv
  rw [key _ _ _ h, hv]
  rfl
theorem bindC_of {kindOf : Str → Option NameKind} : ∀ {binds : List (Str × Value)} {m : Str → Option Value}, (∀ p ∈ binds, kindOf p.1 = some .local) → bindC kindOf binds m = m
  | [], _, _ => rfl
  | (n, v) :: r, m, h => by
    rw [bindC, if_pos (h (n, v) List.mem_cons_self)]
    exact bindC_of fun q hq => h q (List.mem_cons_of_mem _ hq)

structure FnOkC (f : Fd) (rest cells : List Str) : Prop where
  nodup : (f.ps ++ rest ++ cells).Nodup
  loc : ∀ x ∈ f.ps ++ rest, f.scope.names.lookup x = some .local
  cel : ∀ x ∈ cells, f.scope.names.lookup x = some .cell
  hco : f.scope.isCoroutine = false
  hgen : f.scope.isGenerator = false
  hk : f.scope.kind = .function
  bind : ∀ pm cd doc (vs : List Value), vs.length = f.ps.length → bindArgs (Calls.docDef f.name f.params f.body f.scope pm cd doc) ⟨vs, []⟩ = pure (f.ps.zip vs)
  look : ∀ L : Nat, ∀ x ∈ cells, ((cellsFrom (L + 1) f.scope.names []).lookup x).isSome = true

noncomputable def initC (ps : List Str) (ds : List PyData) (rest cells : List Str) (adr : Str → Addr) : Sto := init ps ds rest ++ cells.map fun x => (x, Slot.cel true (adr x) none)

theorem calleeC_of (W : World') (hB : Base W.B W.mg W.mb) {f : Fd} {fa : Addr} (F : FnAt W f fa) {k : Nat} {S : Spec} (rest cells : List Str) (ok : FnOkC f rest cells)
    (hS : ∀ ds Q, S ds Q → ds.length = f.ps.length)
    (body : ∀ c : Cx, Ok c k → c.W = W → c.env.scope = f.scope → ∀ adr : Str → Addr, (∀ x ∈ cells, c.env.cells.lookup x = some (adr x)) → ∀ ds Q, S ds Q → EXs c f.body (initC f.ps ds rest cells adr) (retPost Q)) : Callee W.prog W.w W.B (k + 1) (.ref fa) S := by
  intro A s Z vs ds Q hL hZ hBZ D hSd
  obtain ⟨o, pm, c', doc, hmg, ho, hdat, hcr⟩ := F.at_
  have keep : ∀ b o', W.B.get? b = some o' → s.heap.get? b = some o' := fun b o' e => hZ _ _ (hBZ _ _ e)
  have hlen := hS _ _ hSd
  have hvl : vs.length = f.ps.length := by rw [D.length, hlen]
  have hbl : ∀ x ∈ f.ps.zip vs, f.scope.names.lookup x.1 = some .local := fun x hx => ok.loc _ (List.mem_append_left _ (List.of_mem_zip hx).1)
  refine wpAny_call (call_cells_ret (by have := hL.depth; omega) (keep _ _ ho) hdat (hB.nolimit.keeps keep) (hcr.keeps keep) (ok.bind _ _ _ vs hvl) (fun x hx => .inl (hbl x hx)) (fun h1 tk1 F1 X => ?_) ok.hco ok.hgen ok.hk)
  let env := envOfC f.name f.scope s.heap.objs.size fa (.ref c')
  let c : Cx := ⟨W.prog, W.w, A.deeper env, env, Z, { s with heap := h1, toks := tk1 }, s.heap.objs.size, W.mg, W.mb, W.B⟩
  let K : Kp := fun a => (s.heap.get? a).map fun o => (o, false)
  let adr : Str → Addr := fun x => (env.cells.lookup x).getD 0
  have hadr : ∀ x ∈ cells, env.cells.lookup x = some (adr x) := fun x hx => by
    have := ok.look s.heap.objs.size x hx
    obtain ⟨a, ha⟩ := Option.isSome_iff_exists.mp this
    show env.cells.lookup x = some ((env.cells.lookup x).getD 0)
    rw [show env.cells.lookup x = some a from ha]
    rfl
  have hfresh : ∀ {o : Obj}, s.heap.get? s.heap.objs.size ≠ some o := fun {o} e => absurd (Heap.lt_size e) (Nat.lt_irrefl _)
  have hnone : ∀ a, s.heap.objs.size ≤ a → s.heap.get? a = none := fun a ha => by
    cases e : s.heap.get? a with
    | none => rfl
    | some o' => exact absurd (Heap.lt_size e) (Nat.not_lt.mpr ha)
  have O : Ok c k := ⟨ok.hk, rfl, rfl, hL.deeper env, hB, hBZ, Nat.le_refl _⟩
  have nd1 := (List.nodup_append.mp ok.nodup).1
  have hnames : (initC f.ps ds rest cells adr).map (·.1) = f.ps ++ rest ++ cells := by
    unfold initC
    rw [List.map_append, init_names hlen.symm, List.map_map]
    congr 1
    exact (by rw [show ((fun x : Str × Slot => x.1) ∘ fun x : Str => (x, Slot.cel true (adr x) none)) = id from rfl, List.map_id])
  have I : Inv c K Z (initC f.ps ds rest cells adr) c.s0 := by
    refine ⟨fun a o' b e => ?_, fun a o' e => ?_, fun a o' e => F1.keep _ _ (hZ _ _ e), fun a o' e => .inl e, fun a o' e => e, ?_, ?_, ⟨_, _, rfl⟩, by rw [hnames]; exact ok.nodup, fun p hp => ?_, ⟨_, F1.ns, fun p hp => ?_⟩, fun p hp q hq hne a ha => ?_⟩
    · cases q : s.heap.get? a with
      | none => simp only [K, q] at e; cases e
      | some o2 => simp only [K, q, Option.map_some] at e; cases e; exact F1.keep _ _ q
    · cases q : s.heap.get? a with
      | none => simp only [K, q] at e; cases e
      | some o2 => simp only [K, q, Option.map_some] at e; cases e
    · cases q : Z s.heap.objs.size with
      | none => exact q
      | some o2 => exact absurd (hZ _ _ q) hfresh
    · show (s.heap.get? s.heap.objs.size).map _ = none
      cases q : s.heap.get? s.heap.objs.size with
      | none => rfl
      | some o2 => exact absurd q hfresh
    · rcases List.mem_append.mp hp with h | h
      · have : p.1 ∈ f.ps ++ rest := by rw [← init_names hlen.symm]; exact List.mem_map_of_mem (f := (·.1)) h
        rw [init_kind h]
        exact ok.loc _ this
      · obtain ⟨x, hx, rfl⟩ := List.mem_map.mp h
        exact ok.cel _ hx
    · rcases List.mem_append.mp hp with h | h
      · rcases List.mem_append.mp h with h | h
        · obtain ⟨v, d, e1, e2, e3⟩ := zip_lookup (List.nodup_append.mp nd1).1 D h
          obtain ⟨x, sl⟩ := p
          simp only at e1
          subst e1
          exact ⟨v, bindL_of (fun q hq => hbl q hq) _ e3, e2⟩
        · obtain ⟨x, _, rfl⟩ := List.mem_map.mp h
          trivial
      · obtain ⟨x, hx, rfl⟩ := List.mem_map.mp h
        have hlt : s.heap.objs.size < adr x := X.above _ _ (mem_of_lookup (hadr x hx))
        refine ⟨hadr x hx, fun _ => ⟨?_, ?_, Nat.ne_of_gt hlt⟩, fun e => (by cases e), none, ?_, trivial⟩
        · cases q : Z (adr x) with
          | none => rfl
          | some o2 => exact absurd (Heap.lt_size (hZ _ _ q)) (Nat.not_lt.mpr (Nat.le_of_lt hlt))
        · show (s.heap.get? (adr x)).map _ = none
          rw [hnone _ (Nat.le_of_lt hlt)]
          rfl
        · have := X.cell _ _ (hadr x hx)
          rw [bindC_of (fun q hq => hbl q hq)] at this
          exact this
    · have none_of : ∀ r ∈ init f.ps ds rest, r.2.addr = none := fun r hr => by
        rcases List.mem_append.mp hr with h | h
        · exact (zip_none (Z := Z) h).2
        · obtain ⟨y, _, rfl⟩ := List.mem_map.mp h; rfl
      rcases List.mem_append.mp hp with h | h
      · rw [none_of _ h] at ha; cases ha
      · obtain ⟨x, hx, rfl⟩ := List.mem_map.mp h
        cases ha
        rcases List.mem_append.mp hq with h2 | h2
        · rw [none_of _ h2]; intro e; cases e
        · obtain ⟨y, hy, rfl⟩ := List.mem_map.mp h2
          intro e
          have e' : adr y = adr x := by injection e
          have h1 := mem_of_lookup (hadr x hx)
          have h2 := mem_of_lookup (hadr y hy)
          rw [e'] at h2
          exact hne (name_of_addr X.apart h1 h2)
  refine noE_mono (body c O rfl rfl adr hadr ds Q hSd K Z c.s0 I) fun fl s' P => ?_
  obtain ⟨r, σ', Z', e, J, Df, hr⟩ := P
  cases r with
  | ret d =>
    cases fl with
    | ret v =>
      obtain ⟨h, tk, hs'⟩ := J.rest
      refine ⟨d, Z', e, J.data, J.born, fun a o' q => J.kept a o' false (by show (s.heap.get? a).map _ = _; rw [q]; rfl), ⟨h, tk, by rw [hs']⟩, Df, hr⟩
    | _ => exact Df.elim
  | _ => exact hr.elim

section
variable {c : Cx} {k : Nat}
/-- [.. for x in range(e)], with names of the def around it -/
theorem r_comp_rangeC (O : Ok c k) {elt e : Expr} {x : Str} {xp rp cp : Pos} {scope scope' : Scope} {pos : Pos} {cl : List (Str × Addr)} {σ : Sto} {Q : PyData → Sto → Prop} (hclos : closureFor scope c.env = pure cl)
    (hr : c.mg "range" = none ∧ c.mb "range" = some (.type "range")) (hx : c.env.kindOf "range" = some .globalImplicit)
    (hcell : ∀ y ∈ scope.names, y.2 ≠ .cell) (hkind : scope.kind = .function) (hnames : ∀ x ∈ scope.names, x.2 = .local → scope.names.lookup x.1 = some .local) (hrel : relabel scope c.env = scope')
    (caps : List (Str × Addr × PyData)) (hnd : (x :: caps.map (·.1)).Nodup) (hloc : scope'.names.lookup x = some .local) (hcap : ∀ p ∈ caps, scope'.names.lookup p.1 = some .cell)
    (hcl : ∀ p ∈ caps, cl.lookup p.1 = some p.2.1) (hcl2 : ∀ x a, cl.lookup x = some a → ∃ p ∈ caps, p.2.1 = a)
    (h : EV c e σ fun d σ1 => ∃ n : Nat, d = .int n ∧ n ≤ 1000000 ∧ (∀ p ∈ caps, GetAt σ1 p.1 (.cel true p.2.1 (some p.2.2))) ∧
      ∀ c' : Cx, Ok c' k → c'.W = c.W → c'.env.scope = scope' → c'.env.cells = cl →
        COMP c' elt (fun i : Nat => AS c' (.Name x xp) (.int i)) (List.range n) ((x, .no) :: caps.map fun p => (p.1, .cel false p.2.1 (some p.2.2))) [] fun rs => Q (.list rs) σ1)
    (he : starEach [e] c.env = [(false, eval e c.env)] := by with_unfolding_all rfl) : EV c (.ListComp elt [⟨.Name x xp, .Call (.Name "range" rp) [e] [] cp, [], 0⟩] scope pos) σ Q := fun K Z s I => by
  rw [eval_ListComp]
  refine wpAny_comprehension_free (use := none) rfl (fun _ => rfl) hclos hkind hnames ?_
  show wpAny _ _ (do callWith cp (← eval (.Name "range" rp) c.env) [] (backTo cp (starEach [e] c.env)) []) _ _ _
  refine wpAny_bind (load_known O I (fv := .type "range") (.inr ⟨hr.1, hr.2, .inr ⟨_, rfl⟩⟩) hx (by decide +kernel) ?_)
  rw [he]
  refine PySem.callWith_type rfl ?_
  refine Calls.evalArgs_plain (Calls.spliced_cons (noE_mono (h K Z s I) fun v s1 P => Calls.spliced_nil ?_))
  obtain ⟨d, σ1, Z1, e1, I1, D1, n, rfl, hn, hcaps, h1⟩ := P
  cases D1
  rename_i tq
  refine call_range_1 ?_
  refine wpAny_pyIter_range (a := 0) (b := n) (c := 1) (Heap.get?_push_size _ rfl) (small_one (by decide) (by decide) (by omega) (by omega)) ?_
  rw [rangeSize_one]
  have hk : ∀ o1 o2 : Obj, ∀ b o, s1.heap.get? b = some o → ((s1.heap.push o1).push o2).get? b = some o := fun _ _ b o q => Heap.get?_push_of_some _ (Heap.get?_push_of_some _ q)
  have J := I1.keeps (tk := s1.toks + 1 + 1) (hk { cls := .type "range", data := .fields #[.int 0 s1.toks, .int n tq, .int 1 (s1.toks + 1)] } { cls := .type "range_iterator", data := .fields #[rawInt 0, rawInt (if (0 : Int) < n then (n : Int) - 0 else 0), rawInt 1] })
  have hsz : s1.heap.objs.size ≤ (s1.heap.push { cls := .type "range", data := .fields #[.int 0 s1.toks, .int n tq, .int 1 (s1.toks + 1)] }).objs.size := by rw [Heap.size_push]; exact Nat.le_succ _
  obtain ⟨m1, hn1, hv1⟩ := I1.vars
  have capsAt : ∀ p ∈ caps, p.2.1 < s1.heap.objs.size ∧ ∃ v, s1.heap.IsCell p.2.1 v ∧ CelDen Z1 v (some p.2.2) := fun p hp => by
    obtain ⟨g1, g2, g3, v, g4, g5⟩ := hv1 _ (hcaps p hp).mem
    exact ⟨g4.lt, v, g4, g5⟩
  generalize hIx : (s1.heap.push { cls := .type "range", data := .fields #[.int 0 s1.toks, .int n tq, .int 1 (s1.toks + 1)] }).objs.size = Ix at hsz
  have hsize : ((s1.heap.push { cls := .type "range", data := .fields #[.int 0 s1.toks, .int n tq, .int 1 (s1.toks + 1)] }).push { cls := .type "range_iterator", data := .fields #[rawInt 0, rawInt (if (0 : Int) < n then (n : Int) - 0 else 0), rawInt 1] }).objs.size = Ix + 1 := by
    rw [Heap.size_push, hIx]
  refine comp_core O J hkind hcell (I := Ix) (trn_one (target := .Name x xp) (Walks.range O.lv.hh Ix 0 1 n) (fun i v s Q E st hq => wpAny_pure hq)) (fun s Q st hq => wpAny_pyIter_rangeiter st hq) (List.range n) (List.length_range) (fun i h st b hb => ?_)
    (fun c' => fun i : Nat => AS c' (.Name x xp) (.int i)) (fun c' e2 e3 e4 i d v K' Z' σ' s' Q' hd e I' hP hstep => ?_) ?_ (fun b hb => ?_) (fun b hb => ?_) (fun y a q => ?_) ((x, .no) :: caps.map fun p => (p.1, .cel false p.2.1 (some p.2.2))) ?_ ?_ ?_
    (R := fun rs => Q (.list rs) σ1) (fun c' O' w' s' l' => h1 c' O' w' (s'.trans hrel) l') (fun D C h' tk X => ?_)
  · rcases List.mem_cons.mp hb with rfl | hb
    · exact ⟨_, st⟩
    · cases hb
  · obtain ⟨t, rfl⟩ := hP
    obtain ⟨hlt, hd'⟩ := List.getElem?_eq_some_iff.mp hd
    rw [List.getElem_range] at hd'
    subst hd'
    have e5 : (0 : Int) + (i : Int) * 1 = i := by omega
    rw [e5]
    have := hstep K' Z' s' _ I' (.int _ t)
    rw [e2, e3, e4] at this
    exact this
  · have e2 : (0 : Int) + ((0 : Nat) : Int) * 1 = 0 := by omega
    have e3 : (n : Int) - ((0 : Nat) : Int) = if (0 : Int) < n then (n : Int) - 0 else 0 := by split <;> omega
    rw [e2, e3, ← hIx]
    exact Heap.get?_push_size _ rfl
  · rcases List.mem_cons.mp hb with rfl | hb
    · exact I1.fresh hsz
    · cases hb
  · rw [hsize]
    rcases List.mem_cons.mp hb with rfl | hb
    · exact Nat.lt_succ_self _
    · cases hb
  · obtain ⟨p, hp, rfl⟩ := hcl2 y a q
    have h2 := (capsAt p hp).1
    refine ⟨fun hb => ?_, ?_⟩
    · rcases List.mem_cons.mp hb with hb | hb
      · exact absurd (Nat.lt_of_lt_of_le h2 hsz) (by rw [hb]; exact Nat.lt_irrefl _)
      · cases hb
    · rw [hsize]; exact Nat.lt_succ_of_lt (Nat.lt_of_lt_of_le h2 hsz)
  · rw [List.map_cons, List.map_map]
    exact hnd
  · intro p hp
    rw [hrel]
    rcases List.mem_cons.mp hp with rfl | hp
    · exact hloc
    · obtain ⟨q, hq, rfl⟩ := List.mem_map.mp hp
      exact hcap q hq
  · intro p hp
    rcases List.mem_cons.mp hp with rfl | hp
    · exact .inl rfl
    · obtain ⟨q, hq, rfl⟩ := List.mem_map.mp hp
      obtain ⟨_, v, g1, g2⟩ := capsAt q hq
      exact .inr ⟨_, _, rfl, hcl q hq, v, g1.keeps (hk _ _), g2⟩
  · obtain ⟨Z', m', ys, n', rs, hn, hD, DD, hR, e, J', zD, zC, kD, kC, lD, lC, hDC⟩ := X.grow (tk := tk) O I1 ⟨_, _, rfl⟩ (fun b o q => ⟨fun hb => (by
      rcases List.mem_cons.mp hb with rfl | hb
      · exact absurd (Heap.lt_size q) (Nat.not_lt.mpr hsz)
      · cases hb), hk _ _ b o q⟩) (by rw [hsize]; exact Nat.le_succ_of_le hsz)
    refine ⟨m', hn, fun h'' hs'' => ?_⟩
    have J2 := J'.letC (h' := h'') (tk := tk) zC kC (Nat.ne_of_lt (Nat.lt_of_lt_of_le I1.ltL lC)) (fun p hp a ha => Nat.ne_of_lt (Nat.lt_of_lt_of_le ((hv1 p hp).ltAddr ha) lC)) hs''
    have hD2 : h''.get? D = some (lst ys n') := (hs''.2 D hDC).trans hD
    exact ⟨.list rs, σ1, Z'.add D (lst ys n'), (e1.trans e).trans (Ext.add zD), J2.addZ hD2 zD kD (Nat.ne_of_lt (Nat.lt_of_lt_of_le I1.ltL lD)) (fun p hp a ha => Nat.ne_of_lt (Nat.lt_of_lt_of_le ((hv1 p hp).ltAddr ha) lD)) (Nat.le_trans O.low (Nat.le_trans (Nat.le_of_lt I1.ltL) lD)),
      .list (Fz.add_same _ _ _) (DD.mono (Ext.add zD)), hR⟩
end

theorem told_of {W : World'} (H : Std W) {f : Fd} (F : FnIn W f) {k : Nat} {S : Spec} {nm : Str} (hname : f.name = nm) (rest : List Str) (ok : FnOk f rest) (hcell : ∀ x ∈ f.scope.names, x.2 ≠ .cell)
    (hS : ∀ ds Q, S ds Q → ds.length = f.ps.length)
    (body : ∀ c : Cx, Ok c k → c.W = W → c.env.scope = f.scope → c.env.cells = [] → ∀ ds Q, S ds Q → EXs c f.body (init f.ps ds rest) (retPost Q)) : Told W (k + 1) nm S := by
  obtain ⟨fa, F⟩ := F
  refine ⟨.ref fa, ?_, callee_of W H.base F rest ok hcell hS body⟩
  obtain ⟨o, pm, c', doc, hmg, ho, hdat, hcr⟩ := F.at_
  exact .inl ⟨by rw [← hname]; exact hmg, fa, o, _, rfl, ho, hdat⟩

theorem ex_set {σ : Sto} {x : Str} {v : Slot} {P : Sto → Prop} {σ2 : Sto} (h : SetAt σ x v σ2) (h2 : P σ2) : ∃ σ2, SetAt σ x v σ2 ∧ P σ2 := ⟨σ2, h, h2⟩
theorem ex_app {σ1 σ2 : Sto} {x : Str} {b : Bool} {a : Addr} {α : Type} {f : α → PyData} {ps : List α} {d : PyData} {Q : Sto → Prop} (p : α) (hd : d = f p) (hg : GetAt σ1 x (.own b a (ps.map f))) (hl : ps.length ≤ 1000000)
    (S : SetAt σ1 x (.own b a ((ps ++ [p]).map f)) σ2) (h : Q σ2) : ∃ σ2, GetAt σ1 x (.own b a (ps.map f)) ∧ (ps.map f).length ≤ 1000000 ∧ SetAt σ1 x (.own b a (ps.map f ++ [d])) σ2 ∧ Q σ2 :=
  ⟨σ2, hg, by rw [List.length_map]; exact hl, by subst hd; rw [List.map_append] at S; exact S, h⟩
theorem ex_ext {σ1 σ2 : Sto} {x : Str} {b : Bool} {a : Addr} {α : Type} {f : α → PyData} {ps qs : List α} {Q : Sto → Prop} (hg : GetAt σ1 x (.own b a (ps.map f))) (hl : ps.length + qs.length ≤ 1000000)
    (S : SetAt σ1 x (.own b a ((ps ++ qs).map f)) σ2) (h : Q σ2) : ∃ es σ2, PyData.list (qs.map f) = .list es ∧ GetAt σ1 x (.own b a (ps.map f)) ∧ (ps.map f).length + es.length ≤ 1000000 ∧ SetAt σ1 x (.own b a (ps.map f ++ es)) σ2 ∧ Q σ2 :=
  ⟨_, σ2, rfl, hg, by rw [List.length_map, List.length_map]; exact hl, by rw [List.map_append] at S; exact S, h⟩
theorem if_tt {P Q : Prop} (h : P) : if true = true then P else Q := by rw [if_pos rfl]; exact h
theorem if_ff {P Q : Prop} (h : Q) : if false = true then P else Q := by rw [if_neg Bool.false_ne_true]; exact h
theorem if_nt {P Q : Prop} (h : Q) : if (!true) = true then P else Q := if_ff h
theorem if_nf {P Q : Prop} (h : P) : if (!false) = true then P else Q := if_tt h
theorem all_nil_and {c : Cx} {σ : Sto} {Q : Bool → Sto → Prop} (h : Q true σ) : EAll c .And [] σ Q := all_nil h
theorem all_nil_or {c : Cx} {σ : Sto} {Q : Bool → Sto → Prop} (h : Q false σ) : EAll c .Or [] σ Q := all_nil h
theorem sp_len {α : Type} {f : α → PyData} {l : List α} {Q : PyData → Prop} (hl : l.length ≤ 16777216) (h : Q (.int l.length)) : S_len [.list (l.map f)] Q :=
  ⟨_, rfl, by rw [List.length_map]; exact hl, by rw [List.length_map]; exact h⟩
theorem it_mapN {c : Cx} {α : Type} {f : α → PyData} {l : List α} {i : Int} {n : Nat} {x : α} {Q : PyData → Prop} (hi : i = n) (hx : l[n]? = some x) (hf : n < 9000000000) (h : Q (f x)) : IT c (.list (l.map f)) (.int i) Q :=
  it_list (by omega) (by subst hi; rw [Int.toNat_natCast, List.getElem?_map, hx]; rfl) (by omega) h

set_option hygiene false in
local macro_rules | `(tactic| top_args) => `(tactic| first
  | with_reducible refine' xs_cons ?_
  | with_reducible refine' then_next ?_
  | with_reducible refine' r_int ?_
  | ((with_reducible refine' r_loc' O ?hg ?_); (case hg => (repeat (first | exact GetAt.zero | apply GetAt.succ))))
  | ((with_reducible refine' r_cel O ?hg ?_); (case hg => (repeat (first | exact GetAt.zero | apply GetAt.succ))))
  | ((with_reducible refine' r_own O ?hg ?hset ?_); (case hg => (repeat (first | exact GetAt.zero | apply GetAt.succ))); (case hset => (repeat (first | exact SetAt.zero (by first | rfl | assumption) | apply SetAt.succ))))
  | ((with_reducible refine' r_gl O ?g ?hx ?_); (case g => with_reducible assumption); (case hx => exact kind_of (by assumption) (by decide +kernel)))
  | ((with_reducible refine' r_callD O (by with_reducible assumption) ?hg ?_ ?hx); (case hg => (repeat (first | exact GetAt.zero | apply GetAt.succ))); (case hx => exact kind_of (by assumption) (by decide +kernel)))
  | ((with_reducible refine' r_call O (by with_reducible assumption) ?_ ?hx); (case hx => exact kind_of (by assumption) (by decide +kernel)))
  | with_reducible refine' if_tt ?_
  | with_reducible refine' if_ff ?_
  | with_reducible refine' if_nt ?_
  | with_reducible refine' if_nf ?_
  | ((with_reducible refine' sp_len ?hl ?_); (case hl => (first | omega | (simp only [List.length_map, List.length_append, List.length_cons, List.length_nil]; omega))))
  | ((with_reducible refine' it_mapN ?hi ?hx ?hf ?_); (case hx => assumption); (case hi => omega); (case hf => omega))
  | with_reducible refine' it_tup (by decide) rfl (by decide) ?_
  | with_reducible refine' it_lastI (by assumption) ?_
  | ((with_reducible refine' sl_nn ?hl ?_); (case hl => (first | omega | (simp only [List.length_map, List.length_append, List.length_cons, List.length_nil]; omega))))
  | ((with_reducible refine' sl_n ?hl ?_); (case hl => (first | omega | (simp only [List.length_map, List.length_append, List.length_cons, List.length_nil]; omega))))
  | ((with_reducible refine' sl__n ?hl ?_); (case hl => (first | omega | (simp only [List.length_map, List.length_append, List.length_cons, List.length_nil]; omega))))
  | with_reducible refine' and_len (Nat.le_of_ble_eq_true rfl) ?_
  | with_reducible refine' es_nil ?_
  | with_reducible refine' es_cons ?_
  | with_reducible refine' r_binop ?_
  | with_reducible refine' r_cmp ?_
  | with_reducible refine' r_boolop ?_
  | ((fail_if_success (have : StopIf := by assumption)); with_reducible refine' r_ifexp ?_)
  | with_reducible refine' r_slice O ?_
  | ((with_reducible refine' r_own_lastI O ?hg ?_); (case hg => (repeat (first | exact GetAt.zero | apply GetAt.succ))))
  | with_reducible refine' r_item ?_
  | with_reducible refine' r_list O ?_
  | with_reducible refine' r_tuple O ?_
  | with_reducible refine' r_usub ?_
  | with_reducible refine' r_str ?_
  | with_reducible refine' r_bool ?_
  | with_reducible refine' op_add ?_
  | with_reducible refine' op_sub ?_
  | ((with_reducible refine' op_mul ?hb ?_); (case hb => omega))
  | with_reducible refine' cmp_eq ?_
  | with_reducible refine' cmp_lt ?_
  | with_reducible refine' cmp_le ?_
  | with_reducible refine' cmp_gt ?_
  | with_reducible refine' cmp_ge ?_
  | with_reducible refine' cmp_ne ?_
  | with_reducible refine' cmp_eqs ?_
  | with_reducible refine' cmp_ne_nil O ?_
  | with_reducible refine' cmp_eq_nil O ?_
  | with_reducible refine' cmp_in_tup O ?_
  | with_reducible refine' cmp_in_list O ?_
  | with_reducible refine' xs_nil ?_
  | with_reducible refine' x_ret ?_
  | ((fail_if_success (have : StopIf := by assumption)); with_reducible refine' x_if ?_)
  | with_reducible refine' x_break ?_
  | with_reducible refine' as_tuple O ?_
  | with_reducible refine' ass_nil ?_
  | with_reducible refine' ass_cons ?_
  | ((with_reducible refine' as_name O ?hset ?_); (case hset => (repeat (first | exact SetAt.zero (by first | rfl | assumption) | apply SetAt.succ))))
  | ((with_reducible refine' x_append O ?hg ?_); (case hg => (repeat (first | exact GetAt.zero | apply GetAt.succ))))
  | ((with_reducible refine' x_extend O ?hg ?_); (case hg => (repeat (first | exact GetAt.zero | apply GetAt.succ))))
  | with_reducible refine' x_new O (fun a => ?_)
  | ((with_reducible refine' x_assignL O ?hx ?_); (case hx => exact kind_of (by assumption) (by decide +kernel)))
  | ((with_reducible refine' x_for_range O hcl ?hr ?hx ?_); (case hr => exact t_range H); (case hx => exact kind_of (by assumption) (by decide +kernel)))
  | ((with_reducible refine' x_for_enum O hcl ?hr ?hx ?_); (case hr => exact t_enum H); (case hx => exact kind_of (by assumption) (by decide +kernel)))
  | with_reducible refine' x_for O hcl goOk_tuple ?_
  | with_reducible refine' x_for O hcl goOk_name ?_
  | ((with_reducible refine' and_le ?hl ?_); (case hl => (first | omega | (simp only [List.length_map, List.length_append, List.length_cons, List.length_nil]; omega))))
  | with_reducible refine' then_ret ?_
  | with_reducible refine' then_brk ?_
  | with_reducible refine' end_next ?_
  | with_reducible refine' end_brk ?_
  | with_reducible refine' end_ret ?_
  | with_reducible refine' ret_ret ?_
  | ((with_reducible refine' ret_retD ?hg ?_); (case hg => (repeat (first | exact GetAt.zero | apply GetAt.succ))))
  | ((with_reducible refine' ex_dk ?hg ?_); (case hg => (repeat (first | exact GetAt.zero | apply GetAt.succ))))
  | ((with_reducible refine' ex_swap2 ?S1 ?S2 ?_); (case S1 => (repeat (first | exact SetAt.zero (by first | rfl | assumption) | apply SetAt.succ))); (case S2 => (repeat (first | exact SetAt.zero (by first | rfl | assumption) | apply SetAt.succ))))
  | ((with_reducible refine' ex_swap3 ?S1 ?S2 ?S3 ?_); (case S1 => (repeat (first | exact SetAt.zero (by first | rfl | assumption) | apply SetAt.succ))); (case S2 => (repeat (first | exact SetAt.zero (by first | rfl | assumption) | apply SetAt.succ))); (case S3 => (repeat (first | exact SetAt.zero (by first | rfl | assumption) | apply SetAt.succ))))
  | with_reducible refine' exit_ret ?_
  | with_reducible refine' exit_next ?_
  | ((with_reducible refine' rt_own_ne O ?hg ?_); (case hg => (repeat (first | exact GetAt.zero | apply GetAt.succ))))
  | ((with_reducible refine' rt_own_eq O ?hg ?_); (case hg => (repeat (first | exact GetAt.zero | apply GetAt.succ))))
  | with_reducible refine' rt_cmp ?_
  | with_reducible refine' rt_not ?_
  | with_reducible refine' rt_bool ?_
  | with_reducible refine' all_nil_and ?_
  | with_reducible refine' all_nil_or ?_
  | with_reducible refine' all_and ?_
  | with_reducible refine' all_or ?_
  | with_reducible refine' rt_name ?_
  | with_reducible refine' rt_call ?_
  | with_reducible refine' bool_one ?_
  | with_reducible refine' bool_and ?_
  | with_reducible refine' bool_or ?_
  | with_reducible refine' o_none ?_
  | with_reducible refine' o_some ?_
  | ((with_reducible refine' ex_set ?hset ?_); (case hset => (repeat (first | exact SetAt.zero (by first | rfl | assumption) | apply SetAt.succ))))
  | with_reducible refine' ⟨_, rfl, ?_⟩)



noncomputable def isBlank (x : Int) : Bool := decide (x = 32) || decide (x = 9) || decide (x = 10)
noncomputable def S_is_blank : Spec := fun ds Q => ∃ x : Int, ds = [.int x] ∧ Q (.bool (isBlank x))
theorem sp_is_blank {x : Int} {Q : PyData → Prop} (h : Q (.bool (isBlank x))) : S_is_blank [.int x] Q := ⟨x, rfl, h⟩
theorem T_is_blank {W : World'} (H : Std W) (F : FnIn W (fd 7)) : Told W 1 "is_blank" S_is_blank := by
  refine told_of H F rfl [] ⟨by decide +kernel, by decide +kernel, rfl, rfl, rfl, by (intro pm cd doc vs hvs; obtain ⟨_, rfl⟩ := len_one hvs; rfl)⟩ (by decide +kernel) (fun ds Q h => ?_) (fun c O hW hsc hcl ds Q hS => ?_)
  · obtain ⟨x, rfl, _⟩ := h; rfl
  subst hW
  obtain ⟨x, rfl, hQ⟩ := hS
  show EXs c (fd 7).body [("code", .val (.int x))] (retPost Q)
  generalize hfd : (fd 7).body = b
  conv at hfd => lhs; whnf
  subst hfd
  have g1 := H.blank
  have g2 := H.tab
  have g3 := H.rowend
  (repeat top_args)
  first | with_reducible refine' ite_both (fun hif => ?_) (fun hif => ?_) | with_reducible refine' ite_bothN (fun hif => ?_) (fun hif => ?_) | with_reducible refine' ite_bothB (fun hif => ?_) (fun hif => ?_)
  · (repeat top_args)
    simpa [isBlank, hif] using hQ
  (repeat top_args)
  first | with_reducible refine' ite_both (fun hif => ?_) (fun hif => ?_) | with_reducible refine' ite_bothN (fun hif => ?_) (fun hif => ?_) | with_reducible refine' ite_bothB (fun hif => ?_) (fun hif => ?_)
  · (repeat top_args)
    rename_i h0
    simpa [isBlank, hif, h0] using hQ
  (repeat top_args)
  rename_i h0
  simpa [isBlank, hif, h0] using hQ

noncomputable def endsRev : List Int → Bool
  | [] => false
  | x :: r => if x ∈ ([34, 39, 41, 93, 125] : List Int) then endsRev r else decide (x ∈ ([33, 46, 63] : List Int))
noncomputable def endsS (w : List Int) : Bool := endsRev w.reverse
noncomputable def S_ends : Spec := fun ds Q => ∃ w : List Int, ds = [.list (w.map .int)] ∧ w.length ≤ 1000 ∧ Q (.bool (endsS w))
theorem take_succ_rev {α : Type} {l : List α} {m : Nat} {x : α} (h : l[m]? = some x) : (l.take (m + 1)).reverse = x :: (l.take m).reverse := by
  rw [List.take_add_one, h]; simp
theorem T_ends {W : World'} (H : Std W) (F : FnIn W (fd 8)) : Told W 1 "ends_sentence" S_ends := by
  refine told_of H F rfl ["at"] ⟨by decide +kernel, by decide +kernel, rfl, rfl, rfl, by (intro pm cd doc vs hvs; obtain ⟨_, rfl⟩ := len_one hvs; rfl)⟩ (by decide +kernel) (fun ds Q h => ?_) (fun c O hW hsc hcl ds Q hS => ?_)
  · obtain ⟨x, rfl, _⟩ := h; rfl
  subst hW
  obtain ⟨w, rfl, hw, hQ⟩ := hS
  show EXs c (fd 8).body [("word", .val (.list (w.map .int))), ("at", .no)] (retPost Q)
  generalize hfd : (fd 8).body = b
  conv at hfd => lhs; whnf
  subst hfd
  have g1 := H.ends
  have g2 := H.closers
  have t1 := t_len H
  (repeat top_args)
  refine' x_while (fun n σ => ∃ m : Nat, m ≤ w.length ∧ n = m ∧ σ = ([("word", .val (.list (w.map .int))), ("at", .val (.int ((m : Int) - 1)))] : Sto) ∧ endsRev (w.take m).reverse = endsS w) w.length
    ⟨w.length, Nat.le_refl _, rfl, rfl, by rw [List.take_length]; rfl⟩ ?_
  rintro n σ1 ⟨m, hm, rfl, rfl, he⟩
  (repeat top_args)
  first | with_reducible refine' ite_both (fun h1 => ?_) (fun h1 => ?_) | with_reducible refine' ite_bothN (fun h1 => ?_) (fun h1 => ?_) | with_reducible refine' ite_bothB (fun h1 => ?_) (fun h1 => ?_)
  · obtain ⟨j, rfl⟩ : ∃ j, n = j + 1 := ⟨n - 1, by omega⟩
    have hx : w[j]? = some w[j] := List.getElem?_eq_getElem (by omega)
    rw [take_succ_rev hx] at he
    simp only [endsRev] at he
    (repeat top_args)
    first | with_reducible refine' ite_both (fun h2 => ?_) (fun h2 => ?_) | with_reducible refine' ite_bothN (fun h2 => ?_) (fun h2 => ?_) | with_reducible refine' ite_bothB (fun h2 => ?_) (fun h2 => ?_)
    · (repeat top_args)
      rw [if_pos h2] at he
      exact ⟨j, by omega, j, by omega, rfl, by rw [show ((j + 1 : Nat) : Int) - 1 - 1 = (j : Int) - 1 by omega], he⟩
    · (repeat top_args)
      first | with_reducible refine' ite_both (fun h3 => ?_) (fun h3 => ?_) | with_reducible refine' ite_bothN (fun h3 => ?_) (fun h3 => ?_) | with_reducible refine' ite_bothB (fun h3 => ?_) (fun h3 => ?_)
      · (repeat top_args)
        rw [if_neg h2] at he
        rw [he]
        exact hQ
      · omega
  · have hn : n = 0 := by omega
    subst hn
    (repeat top_args)
    first | with_reducible refine' ite_both (fun h3 => ?_) (fun h3 => ?_) | with_reducible refine' ite_bothN (fun h3 => ?_) (fun h3 => ?_) | with_reducible refine' ite_bothB (fun h3 => ?_) (fun h3 => ?_)
    · omega
    · (repeat top_args)
      rw [← he] at hQ
      exact hQ

/-! gap_of -/
noncomputable def gapOf (w b : List Int) : Int := if endsS w then (if 10 ∈ b ∨ 1 < b.length then 2 else 1) else 1
theorem sp_ends {w : List Int} {Q : PyData → Prop} (hw : w.length ≤ 1000) (h : Q (.bool (endsS w))) : S_ends [.list (w.map .int)] Q := ⟨w, rfl, hw, h⟩
noncomputable def S_gap_of : Spec := fun ds Q => ∃ w b : List Int, ds = [.list (w.map .int), .list (b.map .int)] ∧ w.length ≤ 1000 ∧ b.length ≤ 1000 ∧ Q (.int (gapOf w b))
theorem sp_gap_of {w b : List Int} {Q : PyData → Prop} (hw : w.length ≤ 1000) (hb : b.length ≤ 1000) (h : Q (.int (gapOf w b))) : S_gap_of [.list (w.map .int), .list (b.map .int)] Q := ⟨w, b, rfl, hw, hb, h⟩
theorem T_gap_of {W : World'} (H : Std W) (F8 : FnIn W (fd 8)) (F : FnIn W (fd 9)) : Told W 2 "gap_of" S_gap_of := by
  refine told_of H F rfl [] ⟨by decide +kernel, by decide +kernel, rfl, rfl, rfl, by (intro pm cd doc vs hvs; obtain ⟨_, _, rfl⟩ := len_two hvs; rfl)⟩ (by decide +kernel) (fun ds Q h => ?_) (fun c O hW hsc hcl ds Q hS => ?_)
  · obtain ⟨x, y, rfl, _⟩ := h; rfl
  subst hW
  obtain ⟨w, b, rfl, hw, hb, hQ⟩ := hS
  show EXs c (fd 9).body [("word", .val (.list (w.map .int))), ("between", .val (.list (b.map .int)))] (retPost Q)
  generalize hfd : (fd 9).body = b
  conv at hfd => lhs; whnf
  subst hfd
  have g1 := H.rowend
  have t1 := t_len H
  have t2 := T_ends H F8
  (repeat top_args)
  refine' sp_ends hw ?_
  (repeat top_args)
  unfold gapOf at hQ
  cases he : endsS w with
  | false =>
    (repeat top_args)
    rw [he] at hQ
    exact hQ
  | true =>
    rw [he, if_pos rfl] at hQ
    (repeat top_args)
    first | with_reducible refine' ite_both (fun h1 => ?_) (fun h1 => ?_) | with_reducible refine' ite_bothN (fun h1 => ?_) (fun h1 => ?_) | with_reducible refine' ite_bothB (fun h1 => ?_) (fun h1 => ?_)
    · (repeat top_args)
      rw [if_pos (.inl h1)] at hQ
      exact hQ
    · (repeat top_args)
      first | with_reducible refine' ite_both (fun h2 => ?_) (fun h2 => ?_) | with_reducible refine' ite_bothN (fun h2 => ?_) (fun h2 => ?_) | with_reducible refine' ite_bothB (fun h2 => ?_) (fun h2 => ?_)
      · (repeat top_args)
        rw [if_pos (.inr (by omega))] at hQ
        exact hQ
      · (repeat top_args)
        rw [if_neg (by intro q; rcases q with q | q; exact h1 q; omega)] at hQ
        exact hQ

/-! may_break -/
abbrev Piece := List Int × Int
abbrev dP (p : Piece) : PyData := .tuple [.list (p.1.map .int), .int p.2]
noncomputable def mayBreak (p : Piece) : Bool := decide (1 < p.2) || !decide (p.1.getLast? = some 46)
noncomputable def S_may_break : Spec := fun ds Q => ∃ p : Piece, ds = [dP p] ∧ p.1 ≠ [] ∧ p.1.length ≤ 1000 ∧ Q (.bool (mayBreak p))
theorem sp_may_break {p : Piece} {Q : PyData → Prop} (hp : p.1 ≠ []) (hl : p.1.length ≤ 1000) (h : Q (.bool (mayBreak p))) : S_may_break [dP p] Q := ⟨p, rfl, hp, hl, h⟩
theorem T_may_break {W : World'} (H : Std W) (F : FnIn W (fd 11)) : Told W 1 "may_break" S_may_break := by
  refine told_of H F rfl ["word", "gap"] ⟨by decide +kernel, by decide +kernel, rfl, rfl, rfl, by (intro pm cd doc vs hvs; obtain ⟨_, rfl⟩ := len_one hvs; rfl)⟩ (by decide +kernel) (fun ds Q h => ?_) (fun c O hW hsc hcl ds Q hS => ?_)
  · obtain ⟨x, rfl, _⟩ := h; rfl
  subst hW
  obtain ⟨p, rfl, hp, hl, hQ⟩ := hS
  show EXs c (fd 11).body [("piece", .val (dP p)), ("word", .no), ("gap", .no)] (retPost Q)
  generalize hfd : (fd 11).body = b
  conv at hfd => lhs; whnf
  subst hfd
  have g1 := H.period
  have t1 := t_len H
  have hpos : 0 < p.1.length := List.length_pos_iff.mpr hp
  have hx : p.1[p.1.length - 1]? = some (p.1[p.1.length - 1]) := List.getElem?_eq_getElem (by omega)
  have hlast : p.1.getLast? = some (p.1[p.1.length - 1]) := by rw [List.getLast?_eq_getElem?, hx]
  (repeat top_args)
  refine' x_assign_tup ?_
  (repeat top_args)
  first | with_reducible refine' ite_both (fun h1 => ?_) (fun h1 => ?_) | with_reducible refine' ite_bothN (fun h1 => ?_) (fun h1 => ?_) | with_reducible refine' ite_bothB (fun h1 => ?_) (fun h1 => ?_)
  · (repeat top_args)
    simpa [mayBreak, h1] using hQ
  · (repeat top_args)
    simpa [mayBreak, h1, hlast] using hQ

/-! pieces_of -/
noncomputable def nb (x : Int) : Bool := !isBlank x
noncomputable def spn (p : Int → Bool) (cs : List Int) (m : Nat) : Nat := m + ((cs.drop m).takeWhile p).length
theorem drop_at {α : Type} {l : List α} {m : Nat} {x : α} (h : l[m]? = some x) : l.drop m = x :: l.drop (m + 1) := by
  obtain ⟨hm, rfl⟩ := List.getElem?_eq_some_iff.mp h
  exact List.drop_eq_getElem_cons hm
section
variable {p : Int → Bool} {cs : List Int} {m : Nat} {x : Int}
theorem spn_t (h : cs[m]? = some x) (hp : p x = true) : spn p cs m = spn p cs (m + 1) := by
  unfold spn; rw [drop_at h, List.takeWhile_cons, if_pos hp, List.length_cons]; omega
theorem spn_f (h : cs[m]? = some x) (hp : p x = false) : spn p cs m = m := by
  unfold spn; rw [drop_at h, List.takeWhile_cons, if_neg (by rw [hp]; exact Bool.false_ne_true)]; rfl
theorem spn_end (h : cs.length ≤ m) : spn p cs m = m := by
  unfold spn; rw [List.drop_of_length_le h]; rfl
theorem tw_append (p : Int → Bool) (l : List Int) : l.takeWhile p ++ l.dropWhile p = l := List.takeWhile_append_dropWhile
theorem spn_le (h : m ≤ cs.length) : spn p cs m ≤ cs.length := by
  unfold spn
  have := congrArg List.length (tw_append p (cs.drop m))
  rw [List.length_append, List.length_drop] at this
  omega
theorem spn_drop : cs.drop (spn p cs m) = (cs.drop m).dropWhile p := by
  unfold spn
  rw [← List.drop_drop]
  have := tw_append p (cs.drop m)
  conv => lhs; arg 2; rw [← this]
  rw [List.drop_left]
theorem spn_take : (cs.drop m).take (spn p cs m - m) = (cs.drop m).takeWhile p := by
  unfold spn
  have := tw_append p (cs.drop m)
  rw [Nat.add_sub_cancel_left]
  conv => lhs; arg 2; rw [← this]
  rw [List.take_left]
theorem spn_ge : m ≤ spn p cs m := Nat.le_add_right _ _
end
theorem dropWhile_le (p : Int → Bool) (l : List Int) : (l.dropWhile p).length ≤ l.length := by
  have := congrArg List.length (tw_append p l)
  rw [List.length_append] at this
  omega
theorem pieces_lt (x : Int) (r : List Int) : (((x :: r).dropWhile nb).dropWhile isBlank).length < (x :: r).length := by
  cases hx : isBlank x with
  | true =>
    rw [List.dropWhile_cons, if_neg (by simp [nb, hx]), List.dropWhile_cons, if_pos hx, List.length_cons]
    exact Nat.lt_succ_of_le (dropWhile_le _ _)
  | false =>
    rw [List.dropWhile_cons, if_pos (by simp [nb, hx]), List.length_cons]
    exact Nat.lt_succ_of_le (Nat.le_trans (dropWhile_le _ _) (dropWhile_le _ _))
noncomputable def piecesGo : List Int → List Piece
  | [] => []
  | x :: r => ((x :: r).takeWhile nb, gapOf ((x :: r).takeWhile nb) (((x :: r).dropWhile nb).takeWhile isBlank)) :: piecesGo (((x :: r).dropWhile nb).dropWhile isBlank)
termination_by l => l.length
decreasing_by exact pieces_lt x r
noncomputable def piecesOf (cs : List Int) : List Piece := piecesGo (cs.dropWhile isBlank)

noncomputable def S_pieces_of : Spec := fun ds Q => ∃ cs : List Int, ds = [.list (cs.map .int)] ∧ cs.length ≤ 1000 ∧ Q (.list ((piecesOf cs).map dP))
theorem sp_pieces_of {cs : List Int} {Q : PyData → Prop} (h1 : cs.length ≤ 1000) (h : Q (.list ((piecesOf cs).map dP))) : S_pieces_of [.list (cs.map .int)] Q := ⟨cs, rfl, h1, h⟩
theorem T_pieces_of {W : World'} (H : Std W) (F7 : FnIn W (fd 7)) (F8 : FnIn W (fd 8)) (F9 : FnIn W (fd 9)) (F : FnIn W (fd 10)) : Told W 3 "pieces_of" S_pieces_of := by
  refine told_of H F rfl ["pieces", "at", "end", "after"] ⟨by decide +kernel, by decide +kernel, rfl, rfl, rfl, by (intro pm cd doc vs hvs; obtain ⟨_, rfl⟩ := len_one hvs; rfl)⟩ (by decide +kernel) (fun ds Q h => ?_) (fun c O hW hsc hcl ds Q hS => ?_)
  · obtain ⟨x, rfl, _⟩ := h; rfl
  subst hW
  obtain ⟨cs, rfl, hcs, hQ⟩ := hS
  show EXs c (fd 10).body [("codes", .val (.list (cs.map .int))), ("pieces", .no), ("at", .no), ("end", .no), ("after", .no)] (retPost Q)
  generalize hfd : (fd 10).body = b
  conv at hfd => lhs; whnf
  subst hfd
  have t1 := t_len H
  have t2 := T_is_blank H F7
  have t3 := T_gap_of H F8 F9
  (repeat top_args)
  refine' x_whileP (fun n σ => ∃ m : Nat, m ≤ cs.length ∧ n = cs.length - m ∧ σ = ([("codes", .val (.list (cs.map .int))), ("pieces", .own true a []), ("at", .val (.int m)), ("end", .no), ("after", .no)] : Sto) ∧ spn isBlank cs m = spn isBlank cs 0) cs.length
    (fun σ => σ = ([("codes", .val (.list (cs.map .int))), ("pieces", .own true a []), ("at", .val (.int (spn isBlank cs 0 : Nat))), ("end", .no), ("after", .no)] : Sto))
    ⟨0, Nat.zero_le _, rfl, rfl, rfl⟩ ?_ ?_
  · rintro n σ1 ⟨m, hm, rfl, rfl, he⟩
    (repeat top_args)
    first | with_reducible refine' ite_both (fun h1 => ?_) (fun h1 => ?_) | with_reducible refine' ite_bothN (fun h1 => ?_) (fun h1 => ?_) | with_reducible refine' ite_bothB (fun h1 => ?_) (fun h1 => ?_)
    · have hx : cs[m]? = some cs[m] := List.getElem?_eq_getElem (by omega)
      (repeat top_args)
      refine' sp_is_blank ?_
      cases hb : isBlank cs[m] with
      | true =>
        (repeat top_args)
        exact ⟨cs.length - (m + 1), by omega, m + 1, by omega, rfl, rfl, by rw [← spn_t hx hb]; exact he⟩
      | false =>
        (repeat top_args)
        rw [← he, spn_f hx hb]
    · (repeat top_args)
      rw [← he, spn_end (by omega)]
  rintro _ rfl
  (repeat top_args)
  refine' x_whileP (fun n σ => ∃ (m : Nat) (done : List Piece) (s1 s2 : Slot), m ≤ cs.length ∧ n = cs.length - m ∧ done.length ≤ m ∧ s1.kind = .local ∧ s2.kind = .local ∧ 
      σ = ([("codes", .val (.list (cs.map .int))), ("pieces", .own true a (done.map dP)), ("at", .val (.int m)), ("end", s1), ("after", s2)] : Sto) ∧ done ++ piecesGo (cs.drop m) = piecesOf cs) (cs.length - spn isBlank cs 0)
    (fun σ => ∃ s0 s1 s2, σ = ([("codes", .val (.list (cs.map .int))), ("pieces", .own true a ((piecesOf cs).map dP)), ("at", s0), ("end", s1), ("after", s2)] : Sto))
    ⟨spn isBlank cs 0, [], .no, .no, spn_le (Nat.zero_le _), rfl, Nat.zero_le _, rfl, rfl, rfl, ?_⟩ ?_ ?_
  · rw [spn_drop]; rfl
  · rintro n σ1 ⟨m, done, s1, s2, hm, rfl, hdl, k1, k2, rfl, he⟩
    (repeat top_args)
    first | with_reducible refine' ite_both (fun h1 => ?_) (fun h1 => ?_) | with_reducible refine' ite_bothN (fun h1 => ?_) (fun h1 => ?_) | with_reducible refine' ite_bothB (fun h1 => ?_) (fun h1 => ?_)
    · have hx : cs[m]? = some cs[m] := List.getElem?_eq_getElem (by omega)
      (repeat top_args)
      refine' x_whileP (fun n σ => ∃ e : Nat, m ≤ e ∧ e ≤ cs.length ∧ n = cs.length - e ∧ σ = ([("codes", .val (.list (cs.map .int))), ("pieces", .own true a (done.map dP)), ("at", .val (.int m)), ("end", .val (.int e)), ("after", s2)] : Sto) ∧ spn nb cs e = spn nb cs m) (cs.length - m)
        (fun σ => σ = ([("codes", .val (.list (cs.map .int))), ("pieces", .own true a (done.map dP)), ("at", .val (.int m)), ("end", .val (.int (spn nb cs m : Nat))), ("after", s2)] : Sto))
        ⟨m, Nat.le_refl _, hm, rfl, rfl, rfl⟩ ?_ ?_
      · rintro n σ1 ⟨e, hme, hel, rfl, rfl, hs⟩
        (repeat top_args)
        first | with_reducible refine' ite_both (fun h2 => ?_) (fun h2 => ?_) | with_reducible refine' ite_bothN (fun h2 => ?_) (fun h2 => ?_) | with_reducible refine' ite_bothB (fun h2 => ?_) (fun h2 => ?_)
        · have hx : cs[e]? = some cs[e] := List.getElem?_eq_getElem (by omega)
          (repeat top_args)
          refine' sp_is_blank ?_
          cases hb : isBlank cs[e] with
          | true =>
            (repeat top_args)
            rw [← hs, spn_f hx (by simp [nb, hb])]
          | false =>
            (repeat top_args)
            exact ⟨cs.length - (e + 1), by omega, e + 1, by omega, by omega, rfl, rfl, by rw [← spn_t hx (by simp [nb, hb])]; exact hs⟩
        · (repeat top_args)
          rw [← hs, spn_end (by omega)]
      rintro _ rfl
      (repeat top_args)
      have hE1 : spn nb cs m ≤ cs.length := spn_le hm
      have hE2 : m ≤ spn nb cs m := spn_ge
      have hE3 : (cs.drop m).take (spn nb cs m - m) = (cs.drop m).takeWhile nb := spn_take
      have hE4 : cs.drop (spn nb cs m) = (cs.drop m).dropWhile nb := spn_drop
      generalize spn nb cs m = e at hE1 hE2 hE3 hE4
      refine' x_whileP (fun n σ => ∃ f : Nat, e ≤ f ∧ f ≤ cs.length ∧ n = cs.length - f ∧ σ = ([("codes", .val (.list (cs.map .int))), ("pieces", .own true a (done.map dP)), ("at", .val (.int m)), ("end", .val (.int e)), ("after", .val (.int f))] : Sto) ∧ spn isBlank cs f = spn isBlank cs e) (cs.length - e)
        (fun σ => σ = ([("codes", .val (.list (cs.map .int))), ("pieces", .own true a (done.map dP)), ("at", .val (.int m)), ("end", .val (.int e)), ("after", .val (.int (spn isBlank cs e : Nat)))] : Sto))
        ⟨e, Nat.le_refl _, hE1, rfl, rfl, rfl⟩ ?_ ?_
      · rintro n σ1 ⟨f, hme, hel, rfl, rfl, hs⟩
        (repeat top_args)
        first | with_reducible refine' ite_both (fun h2 => ?_) (fun h2 => ?_) | with_reducible refine' ite_bothN (fun h2 => ?_) (fun h2 => ?_) | with_reducible refine' ite_bothB (fun h2 => ?_) (fun h2 => ?_)
        · have hx : cs[f]? = some cs[f] := List.getElem?_eq_getElem (by omega)
          (repeat top_args)
          refine' sp_is_blank ?_
          cases hb : isBlank cs[f] with
          | true =>
            (repeat top_args)
            exact ⟨cs.length - (f + 1), by omega, f + 1, by omega, by omega, rfl, rfl, by rw [← spn_t hx hb]; exact hs⟩
          | false =>
            (repeat top_args)
            rw [← hs, spn_f hx hb]
        · (repeat top_args)
          rw [← hs, spn_end (by omega)]
      rintro _ rfl
      (repeat top_args)
      have hG1 : spn isBlank cs e ≤ cs.length := spn_le hE1
      have hG2 : e ≤ spn isBlank cs e := spn_ge
      have hG3 : (cs.drop e).take (spn isBlank cs e - e) = (cs.drop e).takeWhile isBlank := spn_take
      have hG4 : cs.drop (spn isBlank cs e) = (cs.drop e).dropWhile isBlank := spn_drop
      generalize spn isBlank cs e = f at hG1 hG2 hG3 hG4
      have hL : (cs.drop m).length ≤ 1000 := by rw [List.length_drop]; omega
      have hL2 : (cs.drop e).length ≤ 1000 := by rw [List.length_drop]; omega
      refine' sp_gap_of (by rw [List.length_take]; omega) (by rw [List.length_take]; omega) ?_
      (repeat top_args)
      refine' ex_app ((cs.drop m).takeWhile nb, gapOf ((cs.drop m).takeWhile nb) (((cs.drop m).dropWhile nb).takeWhile isBlank)) (by rw [hE3, hG3, hE4]) (by (repeat (first | exact GetAt.zero | apply GetAt.succ))) (by omega) (by (repeat (first | exact SetAt.zero (by first | rfl | assumption) | apply SetAt.succ))) ?_
      (repeat top_args)
      have hd := drop_at hx
      have hlt := pieces_lt cs[m] (cs.drop (m + 1))
      rw [← hd, ← hE4, ← hG4, List.length_drop, List.length_drop] at hlt
      rw [hd, piecesGo, ← hd] at he
      refine ⟨cs.length - f, by omega, f, _, _, _, hG1, rfl, ?_, rfl, rfl, rfl, ?_⟩
      · rw [List.length_append, List.length_singleton]; omega
      · rw [← he, List.append_assoc, List.singleton_append, hG4, hE4]
    · (repeat top_args)
      have : m = cs.length := by omega
      subst this
      rw [List.drop_length, piecesGo, List.append_nil] at he
      subst he
      exact ⟨_, _, _, rfl⟩
  · rintro _ ⟨s0, s1, s2, rfl⟩
    (repeat top_args)
    exact hQ

/-! row_end -/
noncomputable def rowGo (width : Int) : Int → Nat → Nat → List Piece → Nat
  | _, _, n, [] => n
  | used, best, n, p :: r =>
    if width < used + p.1.length ∧ 0 < best then best
    else if r = [] ∨ mayBreak p = true then (if width < used + p.1.length then n + 1 else rowGo width (used + p.1.length + p.2) (n + 1) (n + 1) r)
    else rowGo width (used + p.1.length + p.2) best (n + 1) r
noncomputable def POk (ps : List Piece) : Prop := ps.length ≤ 1000 ∧ ∀ p ∈ ps, p.1 ≠ [] ∧ p.1.length ≤ 1000
theorem rowGo_le (width : Int) : ∀ (ps : List Piece) (used : Int) (best n : Nat), best ≤ n → rowGo width used best n ps ≤ n + ps.length
  | [], _, _, _, _ => by simp [rowGo]
  | p :: r, used, best, n, h => by
    rw [rowGo, List.length_cons]
    split
    · omega
    · split
      · split
        · omega
        · have := rowGo_le width r (used + p.1.length + p.2) (n + 1) (n + 1) (Nat.le_refl _); omega
      · have := rowGo_le width r (used + p.1.length + p.2) best (n + 1) (by omega); omega
theorem rowGo_pos (width : Int) : ∀ (ps : List Piece) (used : Int) (best n : Nat), ps ≠ [] ∨ 1 ≤ n → 1 ≤ rowGo width used best n ps
  | [], _, _, _, h => by
    rcases h with h | h
    · exact absurd rfl h
    · simpa [rowGo] using h
  | p :: r, used, best, n, h => by
    rw [rowGo]
    split
    · omega
    · split
      · split
        · omega
        · exact rowGo_pos width r _ _ _ (.inr (by omega))
      · exact rowGo_pos width r _ _ _ (.inr (by omega))
noncomputable def S_row_end : Spec := fun ds Q => ∃ (ps : List Piece) (first : Nat) (width : Int), ds = [.list (ps.map dP), .int first, .int width] ∧ POk ps ∧ first ≤ ps.length ∧ Q (.int (first + rowGo width 0 0 0 (ps.drop first) : Nat))
theorem sp_row_end {ps : List Piece} {first : Nat} {width : Int} {Q : PyData → Prop} (h1 : POk ps) (h2 : first ≤ ps.length) (h : Q (.int (first + rowGo width 0 0 0 (ps.drop first) : Nat))) :
    S_row_end [.list (ps.map dP), .int first, .int width] Q := ⟨ps, first, width, rfl, h1, h2, h⟩
abbrev dL' (l : List Int) : PyData := .list (l.map .int)
theorem drop_ne' {α : Type} {l : List α} {k : Nat} (h : k < l.length) : ¬ l.drop k = [] := fun q => by have := congrArg List.length q; rw [List.length_drop, List.length_nil] at this; omega
theorem T_row_end {W : World'} (H : Std W) (F11 : FnIn W (fd 11)) (F : FnIn W (fd 12)) : Told W 2 "row_end" S_row_end := by
  refine told_of H F rfl ["used", "best", "at", "word", "gap"] ⟨by decide +kernel, by decide +kernel, rfl, rfl, rfl, by (intro pm cd doc vs hvs; obtain ⟨_, _, _, rfl⟩ := len_three hvs; rfl)⟩ (by decide +kernel) (fun ds Q h => ?_) (fun c O hW hsc hcl ds Q hS => ?_)
  · obtain ⟨x, y, z, rfl, _⟩ := h; rfl
  subst hW
  obtain ⟨ps, first, width, rfl, ⟨hp1, hp2⟩, hf, hQ⟩ := hS
  show EXs c (fd 12).body [("pieces", .val (.list (ps.map dP))), ("first", .val (.int first)), ("width", .val (.int width)), ("used", .no), ("best", .no), ("at", .no), ("word", .no), ("gap", .no)] (retPost Q)
  generalize hfd : (fd 12).body = b
  conv at hfd => lhs; whnf
  subst hfd
  have t1 := t_len H
  have t2 := T_may_break H F11
  (repeat top_args)
  refine' x_whileP (fun n σ => ∃ (i : Nat) (used : Int) (best : Nat) (s1 s2 : Slot), first + i ≤ ps.length ∧ n = ps.length - (first + i) ∧ s1.kind = .local ∧ s2.kind = .local ∧ best ≤ i ∧
      σ = ([("pieces", .val (.list (ps.map dP))), ("first", .val (.int first)), ("width", .val (.int width)), ("used", .val (.int used)), ("best", .val (.int (first + best : Nat))), ("at", .val (.int (first + i : Nat))), ("word", s1), ("gap", s2)] : Sto) ∧
      rowGo width used best i (ps.drop (first + i)) = rowGo width 0 0 0 (ps.drop first)) (ps.length - first)
    (fun σ => ∃ s0 s1 s2 s3 s4 : Slot, σ = ([("pieces", .val (.list (ps.map dP))), ("first", .val (.int first)), ("width", .val (.int width)), ("used", s0), ("best", s1), ("at", s2), ("word", s3), ("gap", s4)] : Sto) ∧ first + rowGo width 0 0 0 (ps.drop first) = ps.length)
    ⟨0, 0, 0, .no, .no, hf, rfl, rfl, rfl, Nat.le_refl _, rfl, rfl⟩ ?_ ?_
  · rintro n σ1 ⟨i, used, best, s1, s2, hi, rfl, k1, k2, hb, rfl, he⟩
    (repeat top_args)
    first | with_reducible refine' ite_both (fun h1 => ?_) (fun h1 => ?_) | with_reducible refine' ite_bothN (fun h1 => ?_) (fun h1 => ?_) | with_reducible refine' ite_bothB (fun h1 => ?_) (fun h1 => ?_)
    · have hx : ps[first + i]? = some ps[first + i] := List.getElem?_eq_getElem (by omega)
      have hpx := hp2 _ (List.mem_of_getElem? hx)
      rw [drop_at hx, rowGo] at he
      (repeat top_args)
      refine' x_assign_tup ?_
      have stop : StopIf := ⟨⟩
      (repeat top_args)
      clear stop
      refine' x_join (fun σ => σ = ([("pieces", .val (.list (ps.map dP))), ("first", .val (.int first)), ("width", .val (.int width)), ("used", .val (.int (used + (ps[first + i]).1.length))), ("best", .val (.int (first + best : Nat))), ("at", .val (.int (first + i : Nat))), ("word", .val (dL' (ps[first + i]).1)), ("gap", .val (.int (ps[first + i]).2))] : Sto) ∧ ¬ (width < used + (ps[first + i]).1.length ∧ 0 < best)) ?_ ?_
      · (repeat top_args)
        first | with_reducible refine' ite_both (fun h2 => ?_) (fun h2 => ?_) | with_reducible refine' ite_bothN (fun h2 => ?_) (fun h2 => ?_) | with_reducible refine' ite_bothB (fun h2 => ?_) (fun h2 => ?_)
        · (repeat top_args)
          first | with_reducible refine' ite_both (fun h3 => ?_) (fun h3 => ?_) | with_reducible refine' ite_bothN (fun h3 => ?_) (fun h3 => ?_) | with_reducible refine' ite_bothB (fun h3 => ?_) (fun h3 => ?_)
          · (repeat top_args)
            rw [if_pos ⟨h2, by omega⟩] at he
            rw [← he] at hQ
            exact hQ
          · (repeat top_args)
            exact ⟨rfl, fun q => h3 (by have := q.2; omega)⟩
        · (repeat top_args)
          exact ⟨rfl, fun q => h2 q.1⟩
      rintro _ ⟨rfl, hc⟩
      rw [if_neg hc] at he
      clear hc
      have stop : StopIf := ⟨⟩
      (repeat top_args)
      clear stop
      rw [show ((first + i : Nat) : Int) + 1 = ((first + (i + 1) : Nat) : Int) by omega]
      refine' x_if ?_
      refine' et_join (decide (ps.drop (first + i + 1) = [] ∨ mayBreak ps[first + i] = true)) ?_ ?_
      · (repeat top_args)
        first | with_reducible refine' ite_both (fun h4 => ?_) (fun h4 => ?_) | with_reducible refine' ite_bothN (fun h4 => ?_) (fun h4 => ?_) | with_reducible refine' ite_bothB (fun h4 => ?_) (fun h4 => ?_)
        · (repeat top_args)
          exact ⟨(decide_eq_true (.inl (List.drop_of_length_le (by omega)))).symm, rfl⟩
        · (repeat top_args)
          refine' sp_may_break hpx.1 hpx.2 ?_
          (repeat top_args)
          have hne : ¬ ps.drop (first + i + 1) = [] := drop_ne' (by omega)
          cases hmb : mayBreak ps[first + i] with
          | true =>
            (repeat top_args)
            exact ⟨(decide_eq_true (.inr rfl)).symm, rfl⟩
          | false =>
            (repeat top_args)
            exact ⟨(decide_eq_false fun q => q.elim hne fun q => by cases q).symm, rfl⟩
      first | with_reducible refine' ite_both (fun h4 => ?_) (fun h4 => ?_) | with_reducible refine' ite_bothN (fun h4 => ?_) (fun h4 => ?_) | with_reducible refine' ite_bothB (fun h4 => ?_) (fun h4 => ?_)
      · rw [if_pos h4] at he
        (repeat top_args)
        first | with_reducible refine' ite_both (fun h5 => ?_) (fun h5 => ?_) | with_reducible refine' ite_bothN (fun h5 => ?_) (fun h5 => ?_) | with_reducible refine' ite_bothB (fun h5 => ?_) (fun h5 => ?_)
        · (repeat top_args)
          rw [if_pos h5] at he
          rw [← he] at hQ
          exact hQ
        · (repeat top_args)
          rw [if_neg h5] at he
          exact ⟨ps.length - (first + (i + 1)), by omega, i + 1, _, i + 1, _, _, by omega, rfl, rfl, rfl, Nat.le_refl _, rfl, he⟩
      · rw [if_neg h4] at he
        have hne : ps.drop (first + i + 1) ≠ [] := fun q => h4 (.inl q)
        have hlt : first + i + 1 < ps.length := Nat.lt_of_not_le fun q => hne (List.drop_of_length_le q)
        (repeat top_args)
        exact ⟨ps.length - (first + (i + 1)), by omega, i + 1, _, best, _, _, by omega, rfl, rfl, rfl, by omega, rfl, he⟩
    · (repeat top_args)
      have : first + i = ps.length := by omega
      rw [this, List.drop_length, rowGo] at he
      exact ⟨_, _, _, _, _, rfl, by omega⟩
  · rintro _ ⟨s0, s1, s2, s3, s4, rfl, he⟩
    (repeat top_args)
    rw [he] at hQ
    exact hQ

/-! rows_of -/
noncomputable def rowsGo (fw w : Int) (l : List Piece) : List (List Piece) :=
  if h : l = [] then [] else l.take (rowGo fw 0 0 0 l) :: rowsGo w w (l.drop (rowGo fw 0 0 0 l))
termination_by l.length
decreasing_by
  have h1 := rowGo_pos fw l 0 0 0 (.inl h)
  have h2 : 0 < l.length := List.length_pos_iff.mpr h
  rw [List.length_drop]; omega
theorem rowsGo_nil {fw w : Int} : rowsGo fw w [] = [] := by rw [rowsGo, dif_pos rfl]
theorem rowsGo_cons {fw w : Int} {l : List Piece} (h : l ≠ []) : rowsGo fw w l = l.take (rowGo fw 0 0 0 l) :: rowsGo w w (l.drop (rowGo fw 0 0 0 l)) := by rw [rowsGo, dif_neg h]
theorem POk.drop {ps : List Piece} (h : POk ps) (n : Nat) : POk (ps.drop n) := ⟨by rw [List.length_drop]; have := h.1; omega, fun p hp => h.2 p (List.mem_of_mem_drop hp)⟩
theorem POk.take {ps : List Piece} (h : POk ps) (n : Nat) : POk (ps.take n) := ⟨by rw [List.length_take]; have := h.1; omega, fun p hp => h.2 p (List.mem_of_mem_take hp)⟩
abbrev dR (r : List Piece) : PyData := .list (r.map dP)
noncomputable def S_rows_of : Spec := fun ds Q => ∃ (ps : List Piece) (fw w : Int), ds = [.list (ps.map dP), .int fw, .int w] ∧ POk ps ∧ Q (.list ((rowsGo fw w ps).map dR))
theorem sp_rows_of {ps : List Piece} {fw w : Int} {Q : PyData → Prop} (h1 : POk ps) (h : Q (.list ((rowsGo fw w ps).map dR))) : S_rows_of [.list (ps.map dP), .int fw, .int w] Q := ⟨ps, fw, w, rfl, h1, h⟩
theorem T_rows_of {W : World'} (H : Std W) (F11 : FnIn W (fd 11)) (F12 : FnIn W (fd 12)) (F : FnIn W (fd 13)) : Told W 3 "rows_of" S_rows_of := by
  refine told_of H F rfl ["rows", "at", "end"] ⟨by decide +kernel, by decide +kernel, rfl, rfl, rfl, by (intro pm cd doc vs hvs; obtain ⟨_, _, _, rfl⟩ := len_three hvs; rfl)⟩ (by decide +kernel) (fun ds Q h => ?_) (fun c O hW hsc hcl ds Q hS => ?_)
  · obtain ⟨x, y, z, rfl, _⟩ := h; rfl
  subst hW
  obtain ⟨ps, fw, w, rfl, ⟨hp1, hp2⟩, hQ⟩ := hS
  show EXs c (fd 13).body [("pieces", .val (.list (ps.map dP))), ("first_width", .val (.int fw)), ("width", .val (.int w)), ("rows", .no), ("at", .no), ("end", .no)] (retPost Q)
  generalize hfd : (fd 13).body = b
  conv at hfd => lhs; whnf
  subst hfd
  have t1 := t_len H
  have t2 := T_row_end H F11 F12
  (repeat top_args)
  refine' x_whileP (fun n σ => ∃ (m : Nat) (done : List (List Piece)) (s1 : Slot), m ≤ ps.length ∧ n = ps.length - m ∧ done.length ≤ m ∧ s1.kind = .local ∧
      σ = ([("pieces", .val (.list (ps.map dP))), ("first_width", .val (.int fw)), ("width", .val (.int w)), ("rows", .own true a (done.map dR)), ("at", .val (.int m)), ("end", s1)] : Sto) ∧ done ++ rowsGo (if m = 0 then fw else w) w (ps.drop m) = rowsGo fw w ps) (ps.length - 0)
    (fun σ => ∃ s0 s1, σ = ([("pieces", .val (.list (ps.map dP))), ("first_width", .val (.int fw)), ("width", .val (.int w)), ("rows", .own true a ((rowsGo fw w ps).map dR)), ("at", s0), ("end", s1)] : Sto))
    ⟨0, [], .no, Nat.zero_le _, rfl, Nat.zero_le _, rfl, rfl, rfl⟩ ?_ ?_
  · rintro n σ1 ⟨m, done, s1, hm, rfl, hdl, k1, rfl, he⟩
    (repeat top_args)
    first | with_reducible refine' ite_both (fun h1 => ?_) (fun h1 => ?_) | with_reducible refine' ite_bothN (fun h1 => ?_) (fun h1 => ?_) | with_reducible refine' ite_bothB (fun h1 => ?_) (fun h1 => ?_)
    · have hne : ps.drop m ≠ [] := fun q => by have := congrArg List.length q; rw [List.length_drop, List.length_nil] at this; omega
      have stop : StopIf := ⟨⟩
      (repeat top_args)
      clear stop
      refine' ev_join (.int (if m = 0 then fw else w)) ?_ ?_
      · (repeat top_args)
        first | with_reducible refine' ite_both (fun h2 => ?_) (fun h2 => ?_) | with_reducible refine' ite_bothN (fun h2 => ?_) (fun h2 => ?_) | with_reducible refine' ite_bothB (fun h2 => ?_) (fun h2 => ?_)
        · rw [if_pos (by omega)]
          (repeat top_args)
          exact ⟨rfl, rfl⟩
        · rw [if_neg (by omega)]
          (repeat top_args)
          exact ⟨rfl, rfl⟩
      generalize (if m = 0 then fw else w) = fw' at he ⊢
      (repeat top_args)
      refine' sp_row_end ⟨hp1, hp2⟩ (by omega) ?_
      (repeat top_args)
      have hk1 := rowGo_pos fw' (ps.drop m) 0 0 0 (.inl hne)
      have hk2 := rowGo_le fw' (ps.drop m) 0 0 0 (Nat.le_refl _)
      rw [List.length_drop] at hk2
      rw [rowsGo_cons hne] at he
      generalize rowGo fw' 0 0 0 (ps.drop m) = g at he hk1 hk2
      refine' ex_app ((ps.drop m).take g) (by rw [Nat.add_sub_cancel_left]) (by (repeat (first | exact GetAt.zero | apply GetAt.succ))) (by omega) (by (repeat (first | exact SetAt.zero (by first | rfl | assumption) | apply SetAt.succ))) ?_
      (repeat top_args)
      refine ⟨ps.length - (m + g), by omega, m + g, _, _, by omega, rfl, ?_, rfl, rfl, ?_⟩
      · rw [List.length_append, List.length_singleton]; omega
      · rw [if_neg (by omega), List.append_assoc, List.singleton_append, ← List.drop_drop]; exact he
    · (repeat top_args)
      have : m = ps.length := by omega
      subst this
      rw [List.drop_length, rowsGo_nil, List.append_nil] at he
      subst he
      exact ⟨_, _, rfl⟩
  · rintro _ ⟨s0, s1, rfl⟩
    (repeat top_args)
    exact hQ

/-! row_width -/
noncomputable def sumW (r : List Piece) : Int := (r.map fun p => (p.1.length : Int) + p.2).sum
noncomputable def rowWidth (r : List Piece) : Int := match r.getLast? with
  | none => 0
  | some p => sumW r - p.2
noncomputable def S_row_width : Spec := fun ds Q => ∃ (r : List Piece), ds = [dR r] ∧ POk r ∧ Q (.int (rowWidth r))
theorem sp_row_width {r : List Piece} {Q : PyData → Prop} (h1 : POk r) (h : Q (.int (rowWidth r))) : S_row_width [dR r] Q := ⟨r, rfl, h1, h⟩
theorem T_row_width {W : World'} (H : Std W) (F : FnIn W (fd 14)) : Told W 1 "row_width" S_row_width := by
  refine told_of H F rfl ["many", "word", "gap"] ⟨by decide +kernel, by decide +kernel, rfl, rfl, rfl, by (intro pm cd doc vs hvs; obtain ⟨_, rfl⟩ := len_one hvs; rfl)⟩ (by decide +kernel) (fun ds Q h => ?_) (fun c O hW hsc hcl ds Q hS => ?_)
  · obtain ⟨x, rfl, _⟩ := h; rfl
  subst hW
  obtain ⟨r, rfl, ⟨hp1, hp2⟩, hQ⟩ := hS
  show EXs c (fd 14).body [("row", .val (dR r)), ("many", .no), ("word", .no), ("gap", .no)] (retPost Q)
  generalize hfd : (fd 14).body = b
  conv at hfd => lhs; whnf
  subst hfd
  have t1 := t_len H
  (repeat top_args)
  refine' for_inv (fun i σ => ∃ s1 s2 : Slot, s1.kind = .local ∧ s2.kind = .local ∧ σ = ([("row", .val (dR r)), ("many", .val (.int (sumW (r.take i)))), ("word", s1), ("gap", s2)] : Sto)) ⟨.no, .no, rfl, rfl, rfl⟩ ?_ ?_
  · rintro i d σ1 R hd ⟨s1, s2, k1, k2, rfl⟩ hR
    rw [List.getElem?_map] at hd
    obtain ⟨p, hp, rfl⟩ := Option.map_eq_some_iff.mp hd
    have hpx := hp2 _ (List.mem_of_getElem? hp)
    (repeat top_args)
    have e : sumW (r.take (i + 1)) = sumW (r.take i) + p.1.length + p.2 := by
      rw [List.take_add_one, hp]
      simp only [sumW, Option.toList_some, List.map_append, List.sum_append, List.map_cons, List.map_nil, List.sum_cons, List.sum_nil]
      omega
    rw [e] at hR
    exact hR _ ⟨.val _, .val _, rfl, rfl, rfl⟩
  · rintro _ ⟨s1, s2, k1, k2, rfl⟩
    (repeat top_args)
    first | with_reducible refine' ite_both (fun h1 => ?_) (fun h1 => ?_) | with_reducible refine' ite_bothN (fun h1 => ?_) (fun h1 => ?_) | with_reducible refine' ite_bothB (fun h1 => ?_) (fun h1 => ?_)
    · have hx : r[r.length - 1]? = some (r[r.length - 1]'(by omega)) := List.getElem?_eq_getElem (by omega)
      (repeat top_args)
      rw [List.length_map, List.take_length]
      simpa [rowWidth, List.getLast?_eq_getElem?, hx] using hQ
    · (repeat top_args)
      have : r = [] := List.eq_nil_of_length_eq_zero (by omega)
      subst this
      exact hQ

/-! own_gaps -/
noncomputable def ownGaps (r : List Piece) : List Int := r.map (·.2)
noncomputable def S_own_gaps : Spec := fun ds Q => ∃ (r : List Piece), ds = [dR r] ∧ POk r ∧ Q (.list ((ownGaps r).map .int))
theorem sp_own_gaps {r : List Piece} {Q : PyData → Prop} (h1 : POk r) (h : Q (.list ((ownGaps r).map .int))) : S_own_gaps [dR r] Q := ⟨r, rfl, h1, h⟩
theorem T_own_gaps {W : World'} (H : Std W) (F : FnIn W (fd 16)) : Told W 1 "own_gaps" S_own_gaps := by
  refine told_of H F rfl [] ⟨by decide +kernel, by decide +kernel, rfl, rfl, rfl, by (intro pm cd doc vs hvs; obtain ⟨_, rfl⟩ := len_one hvs; rfl)⟩ (by decide +kernel) (fun ds Q h => ?_) (fun c O hW hsc hcl ds Q hS => ?_)
  · obtain ⟨x, rfl, _⟩ := h; rfl
  subst hW
  obtain ⟨r, rfl, ⟨hp1, hp2⟩, hQ⟩ := hS
  show EXs c (fd 16).body [("row", .val (dR r))] (retPost Q)
  generalize hfd : (fd 16).body = b
  conv at hfd => lhs; whnf
  subst hfd
  (repeat top_args)
  refine' r_comp O hcl goOk_tuple (by decide +kernel) (by decide +kernel) rfl (by decide +kernel) ["word", "gap"] (by decide +kernel) (by decide +kernel) ?_
  (repeat top_args)
  intro c' O' hW' hsc' hcl'
  refine' comp_inv (fun d => match d with | .tuple [_, g] => g | d => d) (fun σ => ∃ s1 s2 : Slot, s1.kind = .local ∧ s2.kind = .local ∧ σ = ([("word", s1), ("gap", s2)] : Sto)) ⟨.no, .no, rfl, rfl, rfl⟩ (by rw [List.length_map]; omega) ?_ ?_
  · rintro d σ1 R hd ⟨s1, s2, k1, k2, rfl⟩ hR
    obtain ⟨p, hp, rfl⟩ := List.mem_map.mp hd
    have O := O'
    (repeat top_args)
    exact hR _ ⟨.val _, .val _, rfl, rfl, rfl⟩
  · (repeat top_args)
    simpa [ownGaps, List.map_map, Function.comp_def] using hQ

/-! row_codes -/
noncomputable def rowCodes : List (List Int) → List Int → List Int
  | [], _ => []
  | w :: ws, gs => w ++ ((if ws = [] then [] else List.replicate (gs.headD 0).toNat 32) ++ rowCodes ws gs.tail)
noncomputable def S_row_codes : Spec := fun ds Q => ∃ (r : List Piece) (gs : List Int), ds = [dR r, .list (gs.map .int)] ∧ POk r ∧ r.length ≤ 100 ∧ r.length ≤ gs.length + 1 ∧ gs.length ≤ 1000 ∧ (∀ g ∈ gs, 0 ≤ g ∧ g ≤ 1000) ∧ Q (.list ((rowCodes (r.map (·.1)) gs).map .int))
theorem sp_row_codes {r : List Piece} {gs : List Int} {Q : PyData → Prop} (h1 : POk r) (h2 : r.length ≤ 100) (h3 : r.length ≤ gs.length + 1) (h4 : gs.length ≤ 1000) (h5 : ∀ g ∈ gs, 0 ≤ g ∧ g ≤ 1000) (h : Q (.list ((rowCodes (r.map (·.1)) gs).map .int))) :
    S_row_codes [dR r, .list (gs.map .int)] Q := ⟨r, gs, rfl, h1, h2, h3, h4, h5, h⟩
theorem range_get {n i d : Nat} (h : (List.range n)[i]? = some d) : d = i ∧ i < n := by
  obtain ⟨h1, h2⟩ := List.getElem?_eq_some_iff.mp h
  rw [List.getElem_range] at h2
  rw [List.length_range] at h1
  exact ⟨h2.symm, h1⟩
theorem T_row_codes {W : World'} (H : Std W) (F : FnIn W (fd 15)) : Told W 1 "row_codes" S_row_codes := by
  refine told_of H F rfl ["codes", "place"] ⟨by decide +kernel, by decide +kernel, rfl, rfl, rfl, by (intro pm cd doc vs hvs; obtain ⟨_, _, rfl⟩ := len_two hvs; rfl)⟩ (by decide +kernel) (fun ds Q h => ?_) (fun c O hW hsc hcl ds Q hS => ?_)
  · obtain ⟨x, y, rfl, _⟩ := h; rfl
  subst hW
  obtain ⟨r, gs, rfl, ⟨hp1, hp2⟩, hr, hrg, hgl, hg, hQ⟩ := hS
  show EXs c (fd 15).body [("row", .val (dR r)), ("gaps", .val (.list (gs.map .int))), ("codes", .no), ("place", .no)] (retPost Q)
  generalize hfd : (fd 15).body = b
  conv at hfd => lhs; whnf
  subst hfd
  have t1 := t_len H
  have g1 := H.blank
  (repeat top_args)
  refine' for_inv (fun i σ => ∃ (acc : List Int) (s : Slot), acc.length ≤ 2000 * i ∧ s.kind = .local ∧ σ = ([("row", .val (dR r)), ("gaps", .val (.list (gs.map .int))), ("codes", .own true a (acc.map .int)), ("place", s)] : Sto) ∧
    acc ++ rowCodes ((r.map (·.1)).drop i) (gs.drop i) = rowCodes (r.map (·.1)) gs) ⟨[], .no, Nat.zero_le _, rfl, rfl, rfl⟩ ?_ ?_
  · rintro i d σ1 R hd ⟨acc, s, hal, k1, rfl, he⟩ hR
    obtain ⟨rfl, hdr⟩ := range_get hd
    have hx : r[d]? = some (r[d]) := List.getElem?_eq_getElem hdr
    have hpx := hp2 _ (List.mem_of_getElem? hx)
    have hx2 : (r.map (·.1))[d]? = some (r[d]).1 := by rw [List.getElem?_map, hx]; rfl
    rw [drop_at hx2, rowCodes] at he
    (repeat top_args)
    refine' ex_ext (by (repeat (first | exact GetAt.zero | apply GetAt.succ))) (by omega) (by (repeat (first | exact SetAt.zero (by first | rfl | assumption) | apply SetAt.succ))) ?_
    (repeat top_args)
    first | with_reducible refine' ite_both (fun h1 => ?_) (fun h1 => ?_) | with_reducible refine' ite_bothN (fun h1 => ?_) (fun h1 => ?_) | with_reducible refine' ite_bothB (fun h1 => ?_) (fun h1 => ?_)
    · have hgx : gs[d]? = some (gs[d]'(by omega)) := List.getElem?_eq_getElem (by omega)
      have hgb := hg _ (List.mem_of_getElem? hgx)
      rw [if_neg (fun q => by have := congrArg List.length q; rw [List.length_drop, List.length_map, List.length_nil] at this; omega), drop_at hgx, List.headD_cons, List.tail_cons] at he
      generalize gs[d]'(by omega) = g at hgx hgb he
      (repeat top_args)
      refine' op_repI O (by omega) (by omega) ?_
      (repeat top_args)
      refine' ex_ext (by (repeat (first | exact GetAt.zero | apply GetAt.succ))) (by rw [List.length_append, List.length_replicate]; omega) (by (repeat (first | exact SetAt.zero (by first | rfl | assumption) | apply SetAt.succ))) ?_
      (repeat top_args)
      exact hR _ ⟨_, .val _, by rw [List.length_append, List.length_append, List.length_replicate]; omega, rfl, rfl, by rw [← he, List.append_assoc, List.append_assoc]⟩
    · have e : (r.map (·.1)).drop (d + 1) = [] := List.drop_of_length_le (by rw [List.length_map]; omega)
      rw [e] at he
      rw [if_pos rfl, rowCodes] at he
      (repeat top_args)
      exact hR _ ⟨_, .val _, by rw [List.length_append]; omega, rfl, rfl, by rw [← he, e, rowCodes, List.append_nil, List.append_nil, List.append_nil]⟩
  · rintro _ ⟨acc, s, hal, k1, rfl, he⟩
    rw [List.length_range, List.drop_of_length_le (by rw [List.length_map]; omega), rowCodes, List.append_nil] at he
    subst he
    (repeat top_args)
    exact hQ

theorem told_ofC {W : World'} (H : Std W) {f : Fd} (F : FnIn W f) {k : Nat} {S : Spec} {nm : Str} (hname : f.name = nm) (rest cells : List Str) (ok : FnOkC f rest cells)
    (hS : ∀ ds Q, S ds Q → ds.length = f.ps.length)
    (body : ∀ c : Cx, Ok c k → c.W = W → c.env.scope = f.scope → ∀ adr : Str → Addr, (∀ x ∈ cells, c.env.cells.lookup x = some (adr x)) → ∀ ds Q, S ds Q → EXs c f.body (initC f.ps ds rest cells adr) (retPost Q)) : Told W (k + 1) nm S := by
  obtain ⟨fa, F⟩ := F
  refine ⟨.ref fa, ?_, calleeC_of W H.base F rest cells ok hS body⟩
  obtain ⟨o, pm, c', doc, hmg, ho, hdat, hcr⟩ := F.at_
  exact .inl ⟨by rw [← hname]; exact hmg, fa, o, _, rfl, ho, hdat⟩
theorem x_assign_cel {c : Cx} {σ : Sto} {k : Nat} (O : Ok c k) {x : Str} {pp : Pos} {value : Expr} {pos : Pos} {Q : Fl → Sto → Prop} (h : EV c value σ fun d σ1 => ∃ a od σ2, GetAt σ1 x (.cel true a od) ∧ SetAt σ1 x (.cel true a (some d)) σ2 ∧ Q .next σ2)
    (hs : swapsWith value (some (.Name x pp)) pos.line c.env = pure false := by with_unfolding_all rfl) : EX c (.Assign [.Name x pp] value pos) σ Q := fun K Z s I => by
  refine wpAny_Assign_Name (noE_mono (h K Z s I) fun v s1 P => ?_) hs
  obtain ⟨d, σ1, Z1, e1, I1, D1, a, od, σ2, hg, S, h1⟩ := P
  exact store_cel O I1 hg S D1 fun s2 J => ⟨.next, σ2, Z1, e1, J, trivial, h1⟩
theorem ex_cel {σ1 : Sto} {x : Str} {d : PyData} {a : Addr} {od : Option PyData} {σ2 : Sto} {Q : Sto → Prop} (hg : GetAt σ1 x (.cel true a od)) (S : SetAt σ1 x (.cel true a (some d)) σ2) (h : Q σ2) :
    ∃ a od σ2, GetAt σ1 x (.cel true a od) ∧ SetAt σ1 x (.cel true a (some d)) σ2 ∧ Q σ2 := ⟨a, od, σ2, hg, S, h⟩

/-! spread_gaps -/
noncomputable def spreadGaps (r : List Piece) (width : Int) : List Int :=
  let gaps := ownGaps r
  let many : Int := r.length - 1
  let more := width - rowWidth r
  if many < 1 ∨ more ≤ 0 then gaps
  else (List.range (r.length - 1)).map (fun p => gaps.getD p 0 + more.fdiv many + (if many - (more - more.fdiv many * many) ≤ (p : Int) then 1 else 0)) ++ gaps.drop (r.length - 1)
noncomputable def S_spread_gaps : Spec := fun ds Q => ∃ (r : List Piece) (width : Int), ds = [dR r, .int width] ∧ POk r ∧ Q (.list ((spreadGaps r width).map .int))
theorem sp_spread_gaps {r : List Piece} {width : Int} {Q : PyData → Prop} (h1 : POk r) (h : Q (.list ((spreadGaps r width).map .int))) : S_spread_gaps [dR r, .int width] Q := ⟨r, width, rfl, h1, h⟩
noncomputable def scPl : Scope := { kind := .function, names := [(".0", .local), ("place", .local), ("each", .cell), ("gaps", .cell), ("left", .cell), ("many", .cell)], isGenerator := false, isCoroutine := false }
theorem T_spread_gaps {W : World'} (H : Std W) (F14 : FnIn W (fd 14)) (F16 : FnIn W (fd 16)) (F : FnIn W (fd 17)) : Told W 2 "spread_gaps" S_spread_gaps := by
  refine told_ofC H F rfl ["more"] ["gaps", "many", "each", "left"] ⟨by decide +kernel, by decide +kernel, by decide +kernel, rfl, rfl, rfl, by (intro pm cd doc vs hvs; obtain ⟨_, _, rfl⟩ := len_two hvs; rfl), fun L x hx => ?_⟩ (fun ds Q h => ?_) (fun c O hW hsc adr hadr ds Q hS => ?_)
  · simp only [List.mem_cons, List.not_mem_nil, or_false] at hx
    rcases hx with rfl | rfl | rfl | rfl <;> rfl
  · obtain ⟨x, y, rfl, _⟩ := h; rfl
  subst hW
  obtain ⟨r, width, rfl, ⟨hp1, hp2⟩, hQ⟩ := hS
  have a1 := hadr "gaps" (by decide)
  have a2 := hadr "many" (by decide)
  have a3 := hadr "each" (by decide)
  have a4 := hadr "left" (by decide)
  clear hadr
  show EXs c (fd 17).body [("row", .val (dR r)), ("width", .val (.int width)), ("more", .no), ("gaps", .cel true (adr "gaps") none), ("many", .cel true (adr "many") none), ("each", .cel true (adr "each") none), ("left", .cel true (adr "left") none)] (retPost Q)
  generalize adr "gaps" = ag at a1 ⊢
  generalize adr "many" = am at a2 ⊢
  generalize adr "each" = ae at a3 ⊢
  generalize adr "left" = al at a4 ⊢
  generalize hfd : (fd 17).body = b
  conv at hfd => lhs; whnf
  subst hfd
  have t1 := t_len H
  have t2 := T_row_width H F14
  have t3 := T_own_gaps H F16
  (repeat top_args)
  refine' x_assign_cel O ?_
  (repeat top_args)
  refine' sp_own_gaps ⟨hp1, hp2⟩ ?_
  refine' ex_cel (by (repeat (first | exact GetAt.zero | apply GetAt.succ))) (by (repeat (first | exact SetAt.zero (by first | rfl | assumption) | apply SetAt.succ))) ?_
  (repeat top_args)
  refine' x_assign_cel O ?_
  (repeat top_args)
  refine' ex_cel (by (repeat (first | exact GetAt.zero | apply GetAt.succ))) (by (repeat (first | exact SetAt.zero (by first | rfl | assumption) | apply SetAt.succ))) ?_
  (repeat top_args)
  refine' sp_row_width ⟨hp1, hp2⟩ ?_
  (repeat top_args)
  unfold spreadGaps at hQ
  first | with_reducible refine' ite_both (fun h1 => ?_) (fun h1 => ?_) | with_reducible refine' ite_bothN (fun h1 => ?_) (fun h1 => ?_) | with_reducible refine' ite_bothB (fun h1 => ?_) (fun h1 => ?_)
  · (repeat top_args)
    rw [if_pos (.inl h1)] at hQ
    exact hQ
  (repeat top_args)
  first | with_reducible refine' ite_both (fun h2 => ?_) (fun h2 => ?_) | with_reducible refine' ite_bothN (fun h2 => ?_) (fun h2 => ?_) | with_reducible refine' ite_bothB (fun h2 => ?_) (fun h2 => ?_)
  · (repeat top_args)
    rw [if_pos (.inr h2)] at hQ
    exact hQ
  rw [if_neg (fun q => q.elim h1 h2)] at hQ
  obtain ⟨n, hn⟩ : ∃ n, r.length = n + 1 := ⟨r.length - 1, by omega⟩
  have hm : (r.length : Int) - 1 = (n : Int) := by omega
  have hm2 : r.length - 1 = n := by omega
  rw [hm, hm2] at hQ
  rw [hm]
  generalize width - rowWidth r = more at h2 hQ ⊢
  (repeat top_args)
  refine' x_assign_cel O ?_
  (repeat top_args)
  refine' op_fdiv (by omega) (by omega) ?_
  generalize more.fdiv n = each at hQ ⊢
  (repeat top_args)
  refine' ex_cel (by (repeat (first | exact GetAt.zero | apply GetAt.succ))) (by (repeat (first | exact SetAt.zero (by first | rfl | assumption) | apply SetAt.succ))) ?_
  (repeat top_args)
  refine' x_assign_cel O ?_
  (repeat top_args)
  generalize more - each * n = left at hQ ⊢
  refine' ex_cel (by (repeat (first | exact GetAt.zero | apply GetAt.succ))) (by (repeat (first | exact SetAt.zero (by first | rfl | assumption) | apply SetAt.succ))) ?_
  (repeat top_args)
  have hgl : (ownGaps r).length = n + 1 := by rw [ownGaps, List.length_map, hn]
  refine' r_comp_rangeC O (scope' := scPl) (cl := [("many", am), ("left", al), ("gaps", ag), ("each", ae)]) ?_ (t_range H) (by exact kind_of (by assumption) (by decide +kernel)) (by decide +kernel) rfl (by decide +kernel) ?_
    [("gaps", ag, .list ((ownGaps r).map .int)), ("many", am, .int n), ("each", ae, .int each), ("left", al, .int left)] (show (["place", "gaps", "many", "each", "left"] : List Str).Nodup by decide +kernel) rfl ?_ ?_ ?_ ?_
  · simp [closureFor, cellOf, a1, a2, a3, a4]
  · unfold relabel Env.kindOf
    rw [hsc]
    rfl
  · intro p hp
    simp only [List.mem_cons, List.not_mem_nil, or_false] at hp
    rcases hp with rfl | rfl | rfl | rfl <;> rfl
  · intro p hp
    simp only [List.mem_cons, List.not_mem_nil, or_false] at hp
    rcases hp with rfl | rfl | rfl | rfl <;> rfl
  · intro x a hx
    have hx := mem_of_lookup hx
    simp only [List.mem_cons, List.not_mem_nil, or_false, Prod.mk.injEq] at hx
    rcases hx with ⟨_, rfl⟩ | ⟨_, rfl⟩ | ⟨_, rfl⟩ | ⟨_, rfl⟩
    · exact ⟨_, .tail _ (.head _), rfl⟩
    · exact ⟨_, .tail _ (.tail _ (.tail _ (.head _))), rfl⟩
    · exact ⟨_, .head _, rfl⟩
    · exact ⟨_, .tail _ (.tail _ (.head _)), rfl⟩
  (repeat top_args)
  refine' ⟨fun p hp => ?_, fun c' O' hW' hsc' hcl' => ?_⟩
  · simp only [List.mem_cons, List.not_mem_nil, or_false] at hp
    rcases hp with rfl | rfl | rfl | rfl <;> (repeat (first | exact GetAt.zero | apply GetAt.succ))
  have e : (List.range n).map (fun p => PyData.int ((ownGaps r).getD p 0 + each + (if (n : Int) - left ≤ (p : Int) then 1 else 0))) =
      ((List.range n).map (fun p => (ownGaps r).getD p 0 + each + (if (n : Int) - left ≤ (p : Int) then 1 else 0))).map .int := by rw [List.map_map]; rfl
  refine' comp_inv (fun p : Nat => PyData.int ((ownGaps r).getD p 0 + each + (if (n : Int) - left ≤ (p : Int) then 1 else 0))) (fun σ => ∃ s1 : Slot, s1.kind = .local ∧ σ = ([("place", s1), ("gaps", .cel false ag (some (.list ((ownGaps r).map .int)))), ("many", .cel false am (some (.int n))), ("each", .cel false ae (some (.int each))), ("left", .cel false al (some (.int left)))] : Sto))
    ⟨.no, rfl, rfl⟩ (by rw [List.length_range]; omega) ?_ ?_
  · rintro d σ1 R hd ⟨s1, k1, rfl⟩ hR
    have hd := List.mem_range.mp hd
    have hx : (ownGaps r)[d]? = some ((ownGaps r)[d]'(by omega)) := List.getElem?_eq_getElem (by omega)
    have hg : (ownGaps r).getD d 0 = (ownGaps r)[d]'(by omega) := by rw [List.getD_eq_getElem?_getD, hx]; rfl
    rw [hg] at hR
    have O := O'
    (repeat top_args)
    first | with_reducible refine' ite_both (fun h3 => ?_) (fun h3 => ?_) | with_reducible refine' ite_bothN (fun h3 => ?_) (fun h3 => ?_) | with_reducible refine' ite_bothB (fun h3 => ?_) (fun h3 => ?_)
    · rw [if_pos h3] at hR
      (repeat top_args)
      exact hR _ ⟨.val _, rfl, rfl⟩
    · rw [if_neg h3] at hR
      (repeat top_args)
      exact hR _ ⟨.val _, rfl, rfl⟩
  · rw [e]
    (repeat top_args)
    refine' op_catL O (by rw [List.length_map, List.length_range, List.length_drop, sizeLine_eq]; omega) ?_
    (repeat top_args)
    exact hQ

/-! placed_row -/
structure ROk (r : List Piece) : Prop where
  p : POk r
  len : r.length ≤ 100
  gap : ∀ p ∈ r, 0 ≤ p.2 ∧ p.2 ≤ 10
theorem ROk.own {r : List Piece} (h : ROk r) : ∀ g ∈ ownGaps r, 0 ≤ g ∧ g ≤ 10 := fun g hg => by
  obtain ⟨p, hp, rfl⟩ := List.mem_map.mp hg
  exact h.gap p hp
theorem ownGaps_len (r : List Piece) : (ownGaps r).length = r.length := by rw [ownGaps, List.length_map]
theorem rowCodes_len : ∀ (ws : List (List Int)) (gs : List Int), (∀ w ∈ ws, w.length ≤ 1000) → (∀ g ∈ gs, g ≤ 1000) → (rowCodes ws gs).length ≤ 2000 * ws.length
  | [], _, _, _ => by simp [rowCodes]
  | w :: ws, gs, h1, h2 => by
    have i := rowCodes_len ws gs.tail (fun w hw => h1 w (List.mem_cons_of_mem _ hw)) fun g hg => h2 g (List.mem_of_mem_tail hg)
    have hw := h1 w List.mem_cons_self
    have hg : (gs.headD 0).toNat ≤ 1000 := by
      cases gs with
      | nil => simp
      | cons g r => have := h2 g List.mem_cons_self; simp; omega
    rw [rowCodes, List.length_append, List.length_append, List.length_cons]
    split
    · rw [List.length_nil]; omega
    · rw [List.length_replicate]; omega
theorem ROk.codes_len {r : List Piece} (h : ROk r) {gs : List Int} (hg : ∀ g ∈ gs, g ≤ 1000) : (rowCodes (r.map (·.1)) gs).length ≤ 200000 := by
  have := rowCodes_len (r.map (·.1)) gs (fun w hw => by
    obtain ⟨p, hp, rfl⟩ := List.mem_map.mp hw
    exact (h.p.2 p hp).2) hg
  rw [List.length_map] at this
  have := h.len
  omega
theorem sumW_ge : ∀ {r : List Piece}, (∀ p ∈ r, 0 ≤ p.2) → 0 ≤ sumW r ∧ ∀ p, r.getLast? = some p → 0 ≤ sumW r - p.2
  | [], _ => ⟨by simp [sumW], fun p h => by cases h⟩
  | q :: r, h => by
    have hq := h q List.mem_cons_self
    have ih := sumW_ge (r := r) fun p hp => h p (List.mem_cons_of_mem _ hp)
    have e : sumW (q :: r) = q.1.length + q.2 + sumW r := by simp [sumW]
    rw [e]
    refine ⟨by have := ih.1; omega, fun p hp => ?_⟩
    cases r with
    | nil =>
      rw [List.getLast?_singleton] at hp
      cases hp
      simp [sumW]
    | cons q2 r2 =>
      rw [List.getLast?_cons_cons] at hp
      have := ih.2 p hp
      omega
theorem ROk.width_ge {r : List Piece} (h : ROk r) : 0 ≤ rowWidth r := by
  unfold rowWidth
  split
  · omega
  · rename_i p hp
    exact (sumW_ge fun p hp => (h.gap p hp).1).2 p hp
theorem fdiv_le {a b : Int} (ha : 0 ≤ a) (hb : 1 ≤ b) : 0 ≤ a.fdiv b ∧ a.fdiv b ≤ a := by
  rw [Int.fdiv_eq_ediv_of_nonneg _ (by omega)]
  exact ⟨Int.ediv_nonneg ha (by omega), Int.ediv_le_self _ ha⟩
theorem ROk.spread {r : List Piece} (h : ROk r) {width : Int} (hw : width ≤ 100) : (∀ g ∈ spreadGaps r width, 0 ≤ g ∧ g ≤ 1000) ∧ (spreadGaps r width).length = r.length := by
  have hr := h.width_ge
  have ho := h.own
  have hl := ownGaps_len r
  simp only [spreadGaps]
  split
  · exact ⟨fun g hg => by have := ho g hg; omega, hl⟩
  · rename_i hc
    have hd := fdiv_le (a := width - rowWidth r) (b := (r.length : Int) - 1) (by omega) (by omega)
    refine ⟨fun g hg => ?_, by rw [List.length_append, List.length_map, List.length_range, List.length_drop, hl]; omega⟩
    rcases List.mem_append.mp hg with hg | hg
    · obtain ⟨p, hp, rfl⟩ := List.mem_map.mp hg
      have hp := List.mem_range.mp hp
      have hx : (ownGaps r)[p]? = some ((ownGaps r)[p]'(by omega)) := List.getElem?_eq_getElem (by omega)
      have hgx := ho _ (List.mem_of_getElem? hx)
      rw [List.getD_eq_getElem?_getD, hx, Option.getD_some]
      generalize (width - rowWidth r).fdiv ((r.length : Int) - 1) = each at hd ⊢
      generalize (ownGaps r)[p]'(by omega) = gg at hgx ⊢
      split <;> omega
    · have := ho g (List.mem_of_mem_drop hg)
      omega
noncomputable def placedRow (r : List Piece) (width : Int) (way : Str) (last : Bool) : List Int :=
  if (way == "full") = true ∧ last = false then rowCodes (r.map (·.1)) (spreadGaps r width)
  else if width - (rowCodes (r.map (·.1)) (ownGaps r)).length ≤ 0 ∨ (way == "left") = true ∨ (way == "full") = true then rowCodes (r.map (·.1)) (ownGaps r)
  else if (way == "right") = true then List.replicate (width - (rowCodes (r.map (·.1)) (ownGaps r)).length).toNat 32 ++ rowCodes (r.map (·.1)) (ownGaps r)
  else List.replicate ((width - (rowCodes (r.map (·.1)) (ownGaps r)).length).fdiv 2).toNat 32 ++ rowCodes (r.map (·.1)) (ownGaps r)
noncomputable def S_placed_row : Spec := fun ds Q => ∃ (r : List Piece) (width : Int) (way : Str) (last : Bool), ds = [dR r, .int width, .str way, .bool last] ∧ ROk r ∧ width ≤ 100 ∧ Q (.list ((placedRow r width way last).map .int))
theorem sp_placed_row {r : List Piece} {width : Int} {way : Str} {last : Bool} {Q : PyData → Prop} (h1 : ROk r) (h2 : width ≤ 100) (h : Q (.list ((placedRow r width way last).map .int))) :
    S_placed_row [dR r, .int width, .str way, .bool last] Q := ⟨r, width, way, last, rfl, h1, h2, h⟩
theorem T_placed_row {W : World'} (H : Std W) (F14 : FnIn W (fd 14)) (F15 : FnIn W (fd 15)) (F16 : FnIn W (fd 16)) (F17 : FnIn W (fd 17)) (F : FnIn W (fd 18)) : Told W 3 "placed_row" S_placed_row := by
  refine told_of H F rfl ["codes", "room"] ⟨by decide +kernel, by decide +kernel, rfl, rfl, rfl, by (intro pm cd doc vs hvs; obtain ⟨_, _, _, _, rfl⟩ := len_four hvs; rfl)⟩ (by decide +kernel) (fun ds Q h => ?_) (fun c O hW hsc hcl ds Q hS => ?_)
  · obtain ⟨x, y, z, t, rfl, _⟩ := h; rfl
  subst hW
  obtain ⟨r, width, way, last, rfl, hr, hw, hQ⟩ := hS
  show EXs c (fd 18).body [("row", .val (dR r)), ("width", .val (.int width)), ("way", .val (.str way)), ("is_last", .val (.bool last)), ("codes", .no), ("room", .no)] (retPost Q)
  generalize hfd : (fd 18).body = b
  conv at hfd => lhs; whnf
  subst hfd
  have t1 := t_len H
  have t2 := T_own_gaps H F16
  have t3 := T_row_codes H F15
  have t4 := T_spread_gaps H F14 F16 F17
  have g1 := H.blank
  have hl := hr.len
  have hog := hr.own
  have hol := ownGaps_len r
  unfold placedRow at hQ
  (repeat top_args)
  refine' sp_own_gaps hr.p ?_
  (repeat top_args)
  refine' sp_row_codes hr.p hl (by omega) (by omega) (fun g hg => by have := hog g hg; omega) ?_
  have hcl2 := hr.codes_len (gs := ownGaps r) fun g hg => by have := hog g hg; omega
  generalize rowCodes (r.map (·.1)) (ownGaps r) = codes at hQ hcl2 ⊢
  have stop : StopIf := ⟨⟩
  (repeat top_args)
  clear stop
  refine' x_if ?_
  refine' et_join (decide ((way == "full") = true ∧ last = false)) ?_ ?_
  · (repeat top_args)
    first | with_reducible refine' ite_both (fun h1 => ?_) (fun h1 => ?_) | with_reducible refine' ite_bothN (fun h1 => ?_) (fun h1 => ?_) | with_reducible refine' ite_bothB (fun h1 => ?_) (fun h1 => ?_)
    · (repeat top_args)
      cases last with
      | false =>
        (repeat top_args)
        exact ⟨(decide_eq_true ⟨h1, rfl⟩).symm, rfl⟩
      | true =>
        (repeat top_args)
        exact ⟨(decide_eq_false fun q => by cases q.2).symm, rfl⟩
    · (repeat top_args)
      exact ⟨(decide_eq_false fun q => by rw [h1] at q; cases q.1).symm, rfl⟩
  first | with_reducible refine' ite_both (fun h1 => ?_) (fun h1 => ?_) | with_reducible refine' ite_bothN (fun h1 => ?_) (fun h1 => ?_) | with_reducible refine' ite_bothB (fun h1 => ?_) (fun h1 => ?_)
  · rw [if_pos h1] at hQ
    (repeat top_args)
    refine' sp_spread_gaps hr.p ?_
    (repeat top_args)
    have hs := hr.spread hw
    refine' sp_row_codes hr.p hl (by omega) (by omega) hs.1 ?_
    (repeat top_args)
    exact hQ
  rw [if_neg h1] at hQ
  have stop : StopIf := ⟨⟩
  (repeat top_args)
  clear stop
  refine' x_if ?_
  refine' et_join (decide (width - (codes.length : Int) ≤ 0 ∨ (way == "left") = true ∨ (way == "full") = true)) ?_ ?_
  · (repeat top_args)
    first | with_reducible refine' ite_both (fun h2 => ?_) (fun h2 => ?_) | with_reducible refine' ite_bothN (fun h2 => ?_) (fun h2 => ?_) | with_reducible refine' ite_bothB (fun h2 => ?_) (fun h2 => ?_)
    · (repeat top_args)
      exact ⟨(decide_eq_true (.inl h2)).symm, rfl⟩
    (repeat top_args)
    first | with_reducible refine' ite_both (fun h3 => ?_) (fun h3 => ?_) | with_reducible refine' ite_bothN (fun h3 => ?_) (fun h3 => ?_) | with_reducible refine' ite_bothB (fun h3 => ?_) (fun h3 => ?_)
    · (repeat top_args)
      exact ⟨(decide_eq_true (.inr (.inl h3))).symm, rfl⟩
    (repeat top_args)
    first | with_reducible refine' ite_both (fun h4 => ?_) (fun h4 => ?_) | with_reducible refine' ite_bothN (fun h4 => ?_) (fun h4 => ?_) | with_reducible refine' ite_bothB (fun h4 => ?_) (fun h4 => ?_)
    · (repeat top_args)
      exact ⟨(decide_eq_true (.inr (.inr h4))).symm, rfl⟩
    (repeat top_args)
    exact ⟨(decide_eq_false fun q => by rcases q with q | q | q; exact h2 q; rw [h3] at q; cases q; rw [h4] at q; cases q).symm, rfl⟩
  first | with_reducible refine' ite_both (fun h2 => ?_) (fun h2 => ?_) | with_reducible refine' ite_bothN (fun h2 => ?_) (fun h2 => ?_) | with_reducible refine' ite_bothB (fun h2 => ?_) (fun h2 => ?_)
  · rw [if_pos h2] at hQ
    (repeat top_args)
    exact hQ
  rw [if_neg h2] at hQ
  have hroom : ¬ width - (codes.length : Int) ≤ 0 := fun q => h2 (.inl q)
  clear h1 h2
  (repeat top_args)
  first | with_reducible refine' ite_both (fun h5 => ?_) (fun h5 => ?_) | with_reducible refine' ite_bothN (fun h5 => ?_) (fun h5 => ?_) | with_reducible refine' ite_bothB (fun h5 => ?_) (fun h5 => ?_)
  · rw [if_pos h5] at hQ
    (repeat top_args)
    refine' op_repI O (by omega) (by omega) ?_
    (repeat top_args)
    refine' op_catL O (by rw [List.length_replicate, sizeLine_eq]; omega) ?_
    (repeat top_args)
    exact hQ
  · rw [if_neg (fun q => by rw [h5] at q; cases q)] at hQ
    (repeat top_args)
    refine' op_fdiv (by decide) (by decide) ?_
    have hd := fdiv_le (a := width - codes.length) (b := 2) (by omega) (by decide)
    (repeat top_args)
    refine' op_repI O (by omega) (by omega) ?_
    (repeat top_args)
    refine' op_catL O (by rw [List.length_replicate, sizeLine_eq]; omega) ?_
    (repeat top_args)
    exact hQ

/-! filled -/
theorem takeWhile_le (p : Int → Bool) (l : List Int) : (l.takeWhile p).length ≤ l.length := by
  have := congrArg List.length (tw_append p l)
  rw [List.length_append] at this
  omega
theorem gapOf_12 (w b : List Int) : gapOf w b = 1 ∨ gapOf w b = 2 := by
  unfold gapOf; split
  · split
    · exact .inr rfl
    · exact .inl rfl
  · exact .inl rfl
theorem dropWhile_head (p : Int → Bool) : ∀ (l : List Int) (x : Int) (r : List Int), l.dropWhile p = x :: r → p x = false
  | [], x, r, h => by cases h
  | a :: l, x, r, h => by
    rw [List.dropWhile_cons] at h
    split at h
    · exact dropWhile_head p l x r h
    · rename_i ha
      cases h
      simpa using ha
theorem piecesGo_ok : ∀ (n : Nat) (l : List Int), l.length ≤ n → (∀ x r, l = x :: r → isBlank x = false) → (piecesGo l).length ≤ l.length ∧ ∀ p ∈ piecesGo l, p.1 ≠ [] ∧ p.1.length ≤ l.length ∧ (p.2 = 1 ∨ p.2 = 2)
  | n, [], _, _ => by
    rw [piecesGo]
    exact ⟨Nat.le_refl _, fun p hp => by cases hp⟩
  | 0, x :: r, h, _ => by simp at h
  | n + 1, x :: r, h, hx => by
    have hlt := pieces_lt x r
    have ih := piecesGo_ok n (((x :: r).dropWhile nb).dropWhile isBlank) (by omega) fun y s e => dropWhile_head _ _ y s e
    rw [piecesGo]
    refine ⟨by rw [List.length_cons]; omega, fun p hp => ?_⟩
    rcases List.mem_cons.mp hp with rfl | hp
    · refine ⟨?_, takeWhile_le _ _, gapOf_12 _ _⟩
      rw [List.takeWhile_cons, if_pos (by simp [nb, hx x r rfl])]
      exact List.cons_ne_nil _ _
    · have := ih.2 p hp
      exact ⟨this.1, by omega, this.2.2⟩
theorem piecesOf_ok (cs : List Int) : (piecesOf cs).length ≤ cs.length ∧ ∀ p ∈ piecesOf cs, p.1 ≠ [] ∧ p.1.length ≤ cs.length ∧ (p.2 = 1 ∨ p.2 = 2) := by
  have h := piecesGo_ok _ (cs.dropWhile isBlank) (Nat.le_refl _) fun x r e => dropWhile_head _ _ x r e
  have hl := dropWhile_le isBlank cs
  exact ⟨Nat.le_trans h.1 hl, fun p hp => let ⟨a, b, c⟩ := h.2 p hp; ⟨a, Nat.le_trans b hl, c⟩⟩
theorem rowsGo_ok : ∀ (n : Nat) (l : List Piece) (fw w : Int), l.length ≤ n → (rowsGo fw w l).length ≤ l.length ∧ ∀ r ∈ rowsGo fw w l, r ≠ [] ∧ r.length ≤ l.length ∧ ∀ p ∈ r, p ∈ l
  | n, [], _, _, _ => by
    rw [rowsGo_nil]
    exact ⟨Nat.le_refl _, fun p hp => by cases hp⟩
  | 0, x :: r, _, _, h => by simp at h
  | n + 1, x :: r, fw, w, h => by
    have hk := rowGo_pos fw (x :: r) 0 0 0 (.inl (List.cons_ne_nil _ _))
    have ih := rowsGo_ok n ((x :: r).drop (rowGo fw 0 0 0 (x :: r))) w w (by rw [List.length_drop]; omega)
    rw [rowsGo_cons (List.cons_ne_nil _ _)]
    generalize rowGo fw 0 0 0 (x :: r) = k at hk ih ⊢
    rw [List.length_drop] at ih
    refine ⟨by rw [List.length_cons]; have := ih.1; rw [List.length_cons] at this ⊢; omega, fun q hq => ?_⟩
    rcases List.mem_cons.mp hq with rfl | hq
    · refine ⟨fun e => ?_, by rw [List.length_take]; omega, fun p hp => List.mem_of_mem_take hp⟩
      have := congrArg List.length e
      rw [List.length_take, List.length_cons, List.length_nil] at this
      omega
    · have := ih.2 q hq
      exact ⟨this.1, by have := this.2.1; omega, fun p hp => List.mem_of_mem_drop (this.2.2 p hp)⟩
abbrev dL (l : List Int) : PyData := .list (l.map .int)
noncomputable def filledL (cs : List Int) (col : Int) (fp pf : List Int) (way : Str) : List (List Int) :=
  (rowsGo (col - fp.length) (col - pf.length) (piecesOf cs)).mapIdx fun i r =>
    (if i = 0 then fp else pf) ++ placedRow r (col - (if i = 0 then fp else pf).length) way (decide ((i : Int) = (rowsGo (col - fp.length) (col - pf.length) (piecesOf cs)).length - 1))
structure COk (cs : List Int) (col : Int) (fp pf : List Int) : Prop where
  cs : cs.length ≤ 100
  col : col ≤ 100
  fp : fp.length ≤ 100
  pf : pf.length ≤ 100
theorem COk.pieces {cs : List Int} {col : Int} {fp pf : List Int} (h : COk cs col fp pf) : POk (piecesOf cs) :=
  ⟨by have := (piecesOf_ok cs).1; have := h.cs; omega, fun p hp => by have := (piecesOf_ok cs).2 p hp; have h2 := h.cs; exact ⟨this.1, by omega⟩⟩
theorem COk.rows {cs : List Int} {col : Int} {fp pf : List Int} (h : COk cs col fp pf) {fw w : Int} : ∀ r ∈ rowsGo fw w (piecesOf cs), ROk r := fun r hr => by
  have h1 := (rowsGo_ok _ (piecesOf cs) fw w (Nat.le_refl _)).2 r hr
  have h2 := h.pieces
  have h3 := (piecesOf_ok cs).1
  have h4 := h.cs
  refine ⟨⟨by omega, fun p hp => h2.2 p (h1.2.2 p hp)⟩, by omega, fun p hp => ?_⟩
  rcases ((piecesOf_ok cs).2 p (h1.2.2 p hp)).2.2 with e | e <;> rw [e] <;> decide
noncomputable def S_filled : Spec := fun ds Q => ∃ (cs : List Int) (col : Int) (fp pf : List Int) (way : Str), ds = [dL cs, .int col, dL fp, dL pf, .str way] ∧ COk cs col fp pf ∧ Q (.list ((filledL cs col fp pf way).map dL))
theorem sp_filled {cs : List Int} {col : Int} {fp pf : List Int} {way : Str} {Q : PyData → Prop} (h1 : COk cs col fp pf) (h : Q (.list ((filledL cs col fp pf way).map dL))) :
    S_filled [dL cs, .int col, dL fp, dL pf, .str way] Q := ⟨cs, col, fp, pf, way, rfl, h1, h⟩
theorem placedRow_len {r : List Piece} {width : Int} {way : Str} {last : Bool} (h : ROk r) (hw : width ≤ 100) : (placedRow r width way last).length ≤ 200100 := by
  have h1 := h.codes_len (gs := ownGaps r) fun g hg => by have := h.own g hg; omega
  have h2 := h.codes_len (gs := spreadGaps r width) fun g hg => by have := (h.spread hw).1 g hg; omega
  unfold placedRow
  generalize rowCodes (r.map (·.1)) (ownGaps r) = codes at h1 ⊢
  split
  · omega
  · split
    · omega
    · rename_i hc
      have hd := fdiv_le (a := width - codes.length) (b := 2) (by omega) (by decide)
      split <;> rw [List.length_append, List.length_replicate] <;> omega
theorem T_filled {W : World'} (H : Std W) (F : ∀ i, 7 ≤ i → i ≤ 19 → FnIn W (fd i)) : Told W 4 "filled" S_filled := by
  have F7 := F 7 (by decide) (by decide)
  have F8 := F 8 (by decide) (by decide)
  have F9 := F 9 (by decide) (by decide)
  have F10 := F 10 (by decide) (by decide)
  have F11 := F 11 (by decide) (by decide)
  have F12 := F 12 (by decide) (by decide)
  have F13 := F 13 (by decide) (by decide)
  have F14 := F 14 (by decide) (by decide)
  have F15 := F 15 (by decide) (by decide)
  have F16 := F 16 (by decide) (by decide)
  have F17 := F 17 (by decide) (by decide)
  have F18 := F 18 (by decide) (by decide)
  have F19 := F 19 (by decide) (by decide)
  clear F
  refine told_of H F19 rfl ["rows", "found", "place", "own"] ⟨by decide +kernel, by decide +kernel, rfl, rfl, rfl, by (intro pm cd doc vs hvs; obtain ⟨_, _, _, _, _, rfl⟩ := len_five hvs; rfl)⟩ (by decide +kernel) (fun ds Q h => ?_) (fun c O hW hsc hcl ds Q hS => ?_)
  · obtain ⟨x, y, z, t, u, rfl, _⟩ := h; rfl
  subst hW
  obtain ⟨cs, col, fp, pf, way, rfl, hc, hQ⟩ := hS
  show EXs c (fd 19).body [("codes", .val (dL cs)), ("column", .val (.int col)), ("first_prefix", .val (dL fp)), ("prefix", .val (dL pf)), ("way", .val (.str way)), ("rows", .no), ("found", .no), ("place", .no), ("own", .no)] (retPost Q)
  generalize hfd : (fd 19).body = b
  conv at hfd => lhs; whnf
  subst hfd
  have t1 := t_len H
  have t2 := T_pieces_of H F7 F8 F9 F10
  have t3 := T_rows_of H F11 F12 F13
  have t4 := T_placed_row H F14 F15 F16 F17 F18
  have hcs := hc.cs
  have hcol := hc.col
  have hfp := hc.fp
  have hpf := hc.pf
  (repeat top_args)
  refine' sp_pieces_of (by omega) ?_
  (repeat top_args)
  refine' sp_rows_of hc.pieces ?_
  have hrows := fun r => hc.rows (fw := col - fp.length) (w := col - pf.length) r
  have hrl := (rowsGo_ok _ (piecesOf cs) (col - fp.length) (col - pf.length) (Nat.le_refl _)).1
  have hpl := (piecesOf_ok cs).1
  unfold filledL at hQ
  generalize rowsGo (col - fp.length) (col - pf.length) (piecesOf cs) = rows at hQ hrows hrl ⊢
  (repeat top_args)
  generalize hres : (rows.mapIdx fun i r => (if i = 0 then fp else pf) ++ placedRow r (col - (if i = 0 then fp else pf).length) way (decide ((i : Int) = (rows.length : Int) - 1))) = res at hQ
  refine' for_inv (fun i σ => ∃ s1 s2 : Slot, s1.kind = .local ∧ s2.kind = .local ∧ σ = ([("codes", .val (dL cs)), ("column", .val (.int col)), ("first_prefix", .val (dL fp)), ("prefix", .val (dL pf)), ("way", .val (.str way)), ("rows", .val (.list (rows.map dR))),
    ("found", .own true a ((res.take i).map dL)), ("place", s1), ("own", s2)] : Sto)) ⟨.no, .no, rfl, rfl, rfl⟩ ?_ ?_
  · rintro i d σ1 R hd ⟨s1, s2, k1, k2, rfl⟩ hR
    obtain ⟨rfl, hdr⟩ := range_get hd
    have hx : rows[d]? = some (rows[d]) := List.getElem?_eq_getElem hdr
    have hrx := hrows _ (List.mem_of_getElem? hx)
    have hrd : res[d]? = some ((if d = 0 then fp else pf) ++ placedRow rows[d] (col - (if d = 0 then fp else pf).length) way (decide ((d : Int) = (rows.length : Int) - 1))) := by
      rw [← hres, List.getElem?_mapIdx, hx]; rfl
    rw [List.take_add_one, hrd, Option.toList_some] at hR
    have stop : StopIf := ⟨⟩
    (repeat top_args)
    clear stop
    refine' ev_join (dL (if d = 0 then fp else pf)) ?_ ?_
    · (repeat top_args)
      first | with_reducible refine' ite_both (fun h1 => ?_) (fun h1 => ?_) | with_reducible refine' ite_bothN (fun h1 => ?_) (fun h1 => ?_) | with_reducible refine' ite_bothB (fun h1 => ?_) (fun h1 => ?_)
      · rw [if_pos (by omega)]
        (repeat top_args)
        exact ⟨rfl, rfl⟩
      · rw [if_neg (by omega)]
        (repeat top_args)
        exact ⟨rfl, rfl⟩
    have hown : (if d = 0 then fp else pf).length ≤ 100 := by split <;> assumption
    generalize (if d = 0 then fp else pf) = own at hR hown ⊢
    clear hrd
    (repeat top_args)
    refine' sp_placed_row hrx (by omega) ?_
    have hpl2 := placedRow_len (width := col - own.length) (way := way) (last := decide ((d : Int) = (rows.length : Int) - 1)) hrx (by omega)
    refine' op_catL O (by rw [sizeLine_eq]; omega) ?_
    refine' ex_app (own ++ placedRow rows[d] (col - own.length) way (decide ((d : Int) = (rows.length : Int) - 1))) rfl (by (repeat (first | exact GetAt.zero | apply GetAt.succ))) (by rw [List.length_take]; omega) (by (repeat (first | exact SetAt.zero (by first | rfl | assumption) | apply SetAt.succ))) ?_
    (repeat top_args)
    exact hR _ ⟨.val _, .val _, rfl, rfl, rfl⟩
  · rintro _ ⟨s1, s2, k1, k2, rfl⟩
    (repeat top_args)
    rw [List.length_range, List.take_of_length_le (by rw [← hres, List.length_mapIdx]; exact Nat.le_refl _)]
    exact hQ

theorem told_ofD {W : World'} (H : Std W) {f : Fd} (F : FnIn W f) {k : Nat} {S : SpecD} {nm : Str} (hname : f.name = nm) (x : Str) (ps : List Str) (hps : f.ps = x :: ps) (rest : List Str) (ok : FnOk f rest) (hcell : ∀ x ∈ f.scope.names, x.2 ≠ .cell)
    (hS : ∀ dk ds Q, S dk ds Q → ds.length = ps.length)
    (body : ∀ c : Cx, Ok c k → c.W = W → c.env.scope = f.scope → c.env.cells = [] → ∀ p dk ds Q, S dk ds Q → EXs c f.body (initD x p dk ps ds rest) (retPostD x p Q)) : ToldD W (k + 1) nm S := by
  obtain ⟨fa, F⟩ := F
  refine ⟨.ref fa, ?_, calleeD_of W H.base F x ps hps rest ok hcell hS body⟩
  obtain ⟨o, pm, c', doc, hmg, ho, hdat, hcr⟩ := F.at_
  exact .inl ⟨by rw [← hname]; exact hmg, fa, o, _, rfl, ho, hdat⟩
theorem ex_dk {σ1 : Sto} {x : Str} {b : Bool} {a : Addr} {dk1 : List PyData} {S : List PyData → Prop} (hg : GetAt σ1 x (.own b a dk1)) (h : S dk1) : ∃ dk1, GetAt σ1 x (.own b a dk1) ∧ S dk1 := ⟨dk1, hg, h⟩
theorem ret_retD {x : Str} {p : Addr} {dk : List PyData} {Q : List PyData → PyData → Prop} {σ : Sto} {d : PyData} (hg : GetAt σ x (.own false p dk)) (h : Q dk d) : retPostD x p Q (.ret d) σ := ⟨dk, hg, h⟩

/-! _law_draw -/
noncomputable def S_draw : SpecD := fun dk ds Q => ∃ (l : List Int) (many : Nat), dk = l.map .int ∧ ds = [.int many] ∧ 0 < many ∧ l.length ≤ 63 ∧ ∀ (l' : List Int) (r : Nat), l'.length ≤ l.length → r < many → Q (l'.map .int) (.int r)
theorem sp_draw {l : List Int} {many : Nat} {m : Int} {Q : List PyData → PyData → Prop} (hm : m = many) (h1 : 0 < many) (h2 : l.length ≤ 63) (h : ∀ (l' : List Int) (r : Nat), l'.length ≤ l.length → r < many → Q (l'.map .int) (.int r)) :
    S_draw (l.map .int) [.int m] Q := ⟨l, many, rfl, by rw [hm], h1, h2, h⟩
theorem T_draw {W : World'} (H : Std W) (F : FnIn W (fd 21)) : ToldD W 1 "_law_draw" S_draw := by
  refine told_ofD H F rfl "deck" ["many"] (by decide +kernel) [] ⟨by decide +kernel, by decide +kernel, rfl, rfl, rfl, by (intro pm cd doc vs hvs; obtain ⟨_, _, rfl⟩ := len_two hvs; rfl)⟩ (by decide +kernel) (fun dk ds Q h => ?_) (fun c O hW hsc hcl p dk ds Q hS => ?_)
  · obtain ⟨x, y, _, rfl, _⟩ := h; rfl
  subst hW
  obtain ⟨l, many, rfl, rfl, hm, hl, hQ⟩ := hS
  show EXs c (fd 21).body [("deck", .own false p (l.map .int)), ("many", .val (.int many))] (retPostD "deck" p Q)
  generalize hfd : (fd 21).body = b
  conv at hfd => lhs; whnf
  subst hfd
  (repeat top_args)
  cases l with
  | nil =>
    first | with_reducible refine' ite_both (fun h => ?_) (fun h => ?_) | with_reducible refine' ite_bothN (fun h => ?_) (fun h => ?_) | with_reducible refine' ite_bothB (fun h => ?_) (fun h => ?_)
    · exact absurd h (by simp)
    (repeat top_args)
    exact hQ [] 0 (Nat.le_refl _) hm
  | cons x l =>
    rw [List.length_cons] at hl
    first | with_reducible refine' ite_both (fun h => ?_) (fun h => ?_) | with_reducible refine' ite_bothN (fun h => ?_) (fun h => ?_) | with_reducible refine' ite_bothB (fun h => ?_) (fun h => ?_)
    · (repeat top_args)
      refine' r_pop0 O (by (repeat (first | exact GetAt.zero | apply GetAt.succ))) (by omega) (by (repeat (first | exact SetAt.zero (by first | rfl | assumption) | apply SetAt.succ))) ?_
      (repeat top_args)
      refine' op_mod (by omega) ?_
      (repeat top_args)
      have h1 : 0 ≤ x.fmod many := Int.fmod_nonneg_of_pos x (by omega)
      have h2 : x.fmod many < many := Int.fmod_lt_of_pos x (by omega)
      have e : x.fmod many = ((x.fmod many).toNat : Int) := by omega
      rw [e]
      exact hQ l _ (by rw [List.length_cons]; omega) (by omega)
    · exact absurd h (by simp)

/-! _law_word -/
noncomputable def theWords : List (List Int) := [[97], [98, 99], [100, 101, 102], [97, 46], [98, 63], [99, 46, 41], [100, 100, 100, 100, 100]]
noncomputable def theGaps : List (List Int) := [[32], [32, 32], [10], [32, 10, 32]]
noncomputable def S_word : SpecD := fun dk ds Q => ∃ (l : List Int), dk = l.map .int ∧ ds = [] ∧ l.length ≤ 63 ∧ ∀ (l' : List Int) (w : List Int), l'.length ≤ l.length → w ∈ theWords → Q (l'.map .int) (dL w)
theorem sp_word {l : List Int} {Q : List PyData → PyData → Prop} (h2 : l.length ≤ 63) (h : ∀ (l' : List Int) (w : List Int), l'.length ≤ l.length → w ∈ theWords → Q (l'.map .int) (dL w)) : S_word (l.map .int) [] Q := ⟨l, rfl, rfl, h2, h⟩
theorem T_word {W : World'} (H : Std W) (F21 : FnIn W (fd 21)) (F : FnIn W (fd 22)) : ToldD W 2 "_law_word" S_word := by
  refine told_ofD H F rfl "deck" [] (by decide +kernel) ["some"] ⟨by decide +kernel, by decide +kernel, rfl, rfl, rfl, by (intro pm cd doc vs hvs; obtain ⟨_, rfl⟩ := len_one hvs; rfl)⟩ (by decide +kernel) (fun dk ds Q h => ?_) (fun c O hW hsc hcl p dk ds Q hS => ?_)
  · obtain ⟨x, _, rfl, _⟩ := h; rfl
  subst hW
  obtain ⟨l, rfl, rfl, hl, hQ⟩ := hS
  show EXs c (fd 22).body [("deck", .own false p (l.map .int)), ("some", .no)] (retPostD "deck" p Q)
  generalize hfd : (fd 22).body = b
  conv at hfd => lhs; whnf
  subst hfd
  have t1 := T_draw H F21
  (repeat top_args)
  refine' sp_draw (many := 7) rfl (by decide) hl (fun l' r hl' hr => ?_)
  (repeat top_args)
  refine' it_mapN (f := dL) (l := theWords) (n := r) rfl (List.getElem?_eq_getElem (show r < theWords.length from hr)) (by omega) ?_
  (repeat top_args)
  exact hQ l' _ hl' (List.getElem_mem _)

/-! _law_text -/
abbrev Part := List Int × List Int
abbrev dPt (p : Part) : PyData := .tuple [dL p.1, dL p.2]
noncomputable def S_text : SpecD := fun dk ds Q => ∃ (l : List Int) (many : Nat), dk = l.map .int ∧ ds = [.int many] ∧ many ≤ 100 ∧ l.length ≤ 63 ∧ ∀ (l' : List Int) (ps : List Part), l'.length ≤ l.length → ps.length = many → (∀ p ∈ ps, p.1 ∈ theWords ∧ p.2 ∈ theGaps) → Q (l'.map .int) (.list (ps.map dPt))
theorem sp_text {l : List Int} {many : Nat} {m : Int} {Q : List PyData → PyData → Prop} (hm : m = many) (h1 : many ≤ 100) (h2 : l.length ≤ 63) (h : ∀ (l' : List Int) (ps : List Part), l'.length ≤ l.length → ps.length = many → (∀ p ∈ ps, p.1 ∈ theWords ∧ p.2 ∈ theGaps) → Q (l'.map .int) (.list (ps.map dPt))) :
    S_text (l.map .int) [.int m] Q := ⟨l, many, rfl, by rw [hm], h1, h2, h⟩
theorem T_text {W : World'} (H : Std W) (F21 : FnIn W (fd 21)) (F22 : FnIn W (fd 22)) (F : FnIn W (fd 23)) : ToldD W 3 "_law_text" S_text := by
  refine told_ofD H F rfl "deck" ["many"] (by decide +kernel) ["parts_here", "turn"] ⟨by decide +kernel, by decide +kernel, rfl, rfl, rfl, by (intro pm cd doc vs hvs; obtain ⟨_, _, rfl⟩ := len_two hvs; rfl)⟩ (by decide +kernel) (fun dk ds Q h => ?_) (fun c O hW hsc hcl p dk ds Q hS => ?_)
  · obtain ⟨x, y, _, rfl, _⟩ := h; rfl
  subst hW
  obtain ⟨l, many, rfl, rfl, hm, hl, hQ⟩ := hS
  show EXs c (fd 23).body [("deck", .own false p (l.map .int)), ("many", .val (.int many)), ("parts_here", .no), ("turn", .no)] (retPostD "deck" p Q)
  generalize hfd : (fd 23).body = b
  conv at hfd => lhs; whnf
  subst hfd
  have t1 := T_draw H F21
  have t2 := T_word H F21 F22
  (repeat top_args)
  refine' for_inv (fun i σ => ∃ (l' : List Int) (ps : List Part) (s : Slot), l'.length ≤ l.length ∧ ps.length = i ∧ (∀ p ∈ ps, p.1 ∈ theWords ∧ p.2 ∈ theGaps) ∧ s.kind = .local ∧
    σ = ([("deck", .own false p (l'.map .int)), ("many", .val (.int many)), ("parts_here", .own true a (ps.map dPt)), ("turn", s)] : Sto)) ⟨l, [], .no, Nat.le_refl _, rfl, fun p hp => (by cases hp), rfl, rfl⟩ ?_ ?_
  · rintro i d σ1 R hd ⟨l', ps, s, hl', hps, hpw, k1, rfl⟩ hR
    obtain ⟨rfl, hdr⟩ := range_get hd
    (repeat top_args)
    refine' sp_word (by omega) (fun l2 w hl2 hw => ?_)
    (repeat top_args)
    refine' sp_draw (many := 4) rfl (by decide) (by omega) (fun l3 r hl3 hr => ?_)
    (repeat top_args)
    refine' it_mapN (f := dL) (l := theGaps) (n := r) rfl (List.getElem?_eq_getElem (show r < theGaps.length from hr)) (by omega) ?_
    (repeat top_args)
    refine' ex_app (w, theGaps[r]'hr) rfl (by (repeat (first | exact GetAt.zero | apply GetAt.succ))) (by omega) (by (repeat (first | exact SetAt.zero (by first | rfl | assumption) | apply SetAt.succ))) ?_
    (repeat top_args)
    refine hR _ ⟨l3, _, .val _, by omega, by rw [List.length_append, List.length_singleton, hps], fun q hq => ?_, rfl, rfl⟩
    rcases List.mem_append.mp hq with hq | hq
    · exact hpw q hq
    · rw [List.mem_singleton] at hq
      subst hq
      exact ⟨hw, List.getElem_mem _⟩
  · rintro _ ⟨l', ps, s, hl', hps, hpw, k1, rfl⟩
    rw [List.length_range] at hps
    (repeat top_args)
    exact hQ l' ps hl' hps hpw

theorem r_own_lastI {c : Cx} {σ : Sto} {k : Nat} (O : Ok c k) {x : Str} {p cp up pos : Pos} {q : Nat} {b : Bool} {a : Addr} {l : List Int} {i : Int} {Q : PyData → Sto → Prop} (hg : GetAt σ x (.own b a ((l ++ [i]).map .int))) (h : Q (.int i) σ)
    (hd : (x == ("__debug__" : Str)) = false := by decide +kernel) : EV c (.Subscript (.Name x p) (.UnaryOp .USub (.Constant (.int 1) q cp) up) pos) σ Q :=
  r_own_last O (ds := l.map .int) (d := .int i) (by rw [List.map_append] at hg; exact hg) h hd
theorem cmp_ne_nil {c : Cx} {k : Nat} (O : Ok c k) {a : List Int} {P : Bool → Prop} (h : P (!decide (a = []))) : OPB c .NotEq (.list (a.map .int)) (.list []) P := cmp_neL (b := []) O h
theorem cmp_eq_nil {c : Cx} {k : Nat} (O : Ok c k) {a : List Int} {P : Bool → Prop} (h : P (decide (a = []))) : OPB c .Eq (.list (a.map .int)) (.list []) P := cmp_eqL (b := []) O h


/-! _law_gap -/
noncomputable def lawGap (w b : List Int) : Int := if endsS w = true ∧ (1 < b.length ∨ b = [10]) then 2 else 1
noncomputable def S_law_gap : Spec := fun ds Q => ∃ w b : List Int, ds = [dL w, dL b] ∧ w.length ≤ 1000 ∧ b.length ≤ 1000 ∧ Q (.int (lawGap w b))
theorem sp_law_gap {w b : List Int} {Q : PyData → Prop} (hw : w.length ≤ 1000) (hb : b.length ≤ 1000) (h : Q (.int (lawGap w b))) : S_law_gap [dL w, dL b] Q := ⟨w, b, rfl, hw, hb, h⟩
theorem T_law_gap {W : World'} (H : Std W) (F : FnIn W (fd 24)) : Told W 1 "_law_gap" S_law_gap := by
  refine told_of H F rfl ["rest", "is_end"] ⟨by decide +kernel, by decide +kernel, rfl, rfl, rfl, by (intro pm cd doc vs hvs; obtain ⟨_, _, rfl⟩ := len_two hvs; rfl)⟩ (by decide +kernel) (fun ds Q h => ?_) (fun c O hW hsc hcl ds Q hS => ?_)
  · obtain ⟨x, y, rfl, _⟩ := h; rfl
  subst hW
  obtain ⟨w, b, rfl, hw, hb, hQ⟩ := hS
  show EXs c (fd 24).body [("word", .val (dL w)), ("between", .val (dL b)), ("rest", .no), ("is_end", .no)] (retPost Q)
  generalize hfd : (fd 24).body = b
  conv at hfd => lhs; whnf
  subst hfd
  have t1 := t_len H
  refine' xs_cons ?_
  refine' x_assign_comp O hcl goOk_name (by decide +kernel) (by decide +kernel) rfl (by decide +kernel) ["code"] (by decide +kernel) (by decide +kernel) (by exact kind_of (by assumption) (by decide +kernel)) (by decide +kernel) ?_
  (repeat top_args)
  intro c' O' hW' hsc' hcl'
  refine' comp_inv (fun d => d) (fun σ => ∃ s1 : Slot, s1.kind = .local ∧ σ = ([("code", s1)] : Sto)) ⟨.no, rfl, rfl⟩ (by rw [List.length_map]; omega) ?_ ?_
  · rintro d σ1 R hd ⟨s1, k1, rfl⟩ hR
    have O := O'
    (repeat top_args)
    exact hR _ ⟨.val _, rfl, rfl⟩
  intro a
  rw [List.map_id']
  (repeat top_args)
  refine' x_whileP (fun n σ => ∃ l : List Int, l.length = n ∧ l.length ≤ w.length ∧ endsRev l.reverse = endsS w ∧ σ = ([("word", .val (dL w)), ("between", .val (dL b)), ("rest", .own true a (l.map .int)), ("is_end", .no)] : Sto)) w.length
    (fun σ => ∃ l : List Int, l.length ≤ w.length ∧ σ = ([("word", .val (dL w)), ("between", .val (dL b)), ("rest", .own true a (l.map .int)), ("is_end", .no)] : Sto) ∧ ((l = [] ∧ endsS w = false) ∨ ∃ l0 i, l = l0 ++ [i] ∧ endsS w = decide (i ∈ ([33, 46, 63] : List Int))))
    ⟨w, rfl, Nat.le_refl _, rfl, rfl⟩ ?_ ?_
  · rintro n σ1 ⟨l, rfl, hl, he, rfl⟩
    (repeat top_args)
    first | with_reducible refine' ite_both (fun h1 => ?_) (fun h1 => ?_) | with_reducible refine' ite_bothN (fun h1 => ?_) (fun h1 => ?_) | with_reducible refine' ite_bothB (fun h1 => ?_) (fun h1 => ?_)
    · obtain ⟨l, i, rfl⟩ : ∃ l' i, l = l' ++ [i] := ⟨l.dropLast, l.getLast h1, (List.dropLast_concat_getLast h1).symm⟩
      rw [List.length_append, List.length_singleton] at hl
      rw [List.reverse_append] at he
      simp only [List.reverse_singleton, List.singleton_append, endsRev] at he
      (repeat top_args)
      refine' cmp_in_tup O (l := [34, 39, 41, 93, 125]) ?_
      first | with_reducible refine' ite_both (fun h2 => ?_) (fun h2 => ?_) | with_reducible refine' ite_bothN (fun h2 => ?_) (fun h2 => ?_) | with_reducible refine' ite_bothB (fun h2 => ?_) (fun h2 => ?_)
      · rw [if_pos h2] at he
        (repeat top_args)
        refine' x_pop O (by (repeat (first | exact GetAt.zero | apply GetAt.succ))) (by omega) (by (repeat (first | exact SetAt.zero (by first | rfl | assumption) | apply SetAt.succ))) ?_
        (repeat top_args)
        exact ⟨l.length, by rw [List.length_append, List.length_singleton]; omega, l, rfl, by omega, he, rfl⟩
      · rw [if_neg h2] at he
        (repeat top_args)
        exact ⟨_, by rw [List.length_append, List.length_singleton]; omega, rfl, .inr ⟨l, i, rfl, he.symm⟩⟩
    · have : l = [] := by simpa using h1
      subst this
      (repeat top_args)
      exact ⟨_, by simp, rfl, .inl ⟨rfl, he.symm⟩⟩
  rintro _ ⟨l, hl, rfl, he⟩
  (repeat top_args)
  unfold lawGap at hQ
  rcases he with ⟨rfl, he⟩ | ⟨l0, i, rfl, he⟩
  · rw [if_neg (fun q => by rw [he] at q; cases q.1)] at hQ
    first | with_reducible refine' ite_both (fun h1 => ?_) (fun h1 => ?_) | with_reducible refine' ite_bothN (fun h1 => ?_) (fun h1 => ?_) | with_reducible refine' ite_bothB (fun h1 => ?_) (fun h1 => ?_)
    · exact absurd h1 (by simp)
    (repeat top_args)
    exact hQ
  · rw [List.length_append, List.length_singleton] at hl
    first | with_reducible refine' ite_both (fun h1 => ?_) (fun h1 => ?_) | with_reducible refine' ite_bothN (fun h1 => ?_) (fun h1 => ?_) | with_reducible refine' ite_bothB (fun h1 => ?_) (fun h1 => ?_)
    · (repeat top_args)
      refine' it_neg (by decide) (by rw [List.length_map, List.length_append, List.length_singleton]; omega) (by decide) (d := .int i) (by
        rw [List.length_map, List.length_append, List.length_singleton, show (-1 + ((l0.length + 1 : Nat) : Int)).toNat = l0.length by omega]
        simp) ?_
      (repeat top_args)
      refine' cmp_in_tup O (l := [33, 46, 63]) ?_
      (repeat top_args)
      rw [he] at hQ
      first | with_reducible refine' ite_both (fun h2 => ?_) (fun h2 => ?_) | with_reducible refine' ite_bothN (fun h2 => ?_) (fun h2 => ?_) | with_reducible refine' ite_bothB (fun h2 => ?_) (fun h2 => ?_)
      · (repeat top_args)
        first | with_reducible refine' ite_both (fun h3 => ?_) (fun h3 => ?_) | with_reducible refine' ite_bothN (fun h3 => ?_) (fun h3 => ?_) | with_reducible refine' ite_bothB (fun h3 => ?_) (fun h3 => ?_)
        · (repeat top_args)
          rw [if_pos ⟨by simpa using h2, .inl (by omega)⟩] at hQ
          exact hQ
        · (repeat top_args)
          refine' cmp_eqL O (b := [10]) ?_
          first | with_reducible refine' ite_both (fun h4 => ?_) (fun h4 => ?_) | with_reducible refine' ite_bothN (fun h4 => ?_) (fun h4 => ?_) | with_reducible refine' ite_bothB (fun h4 => ?_) (fun h4 => ?_)
          · (repeat top_args)
            rw [if_pos ⟨by simpa using h2, .inr h4⟩] at hQ
            exact hQ
          · (repeat top_args)
            rw [if_neg (fun q => q.2.elim (fun q => h3 (by omega)) h4)] at hQ
            exact hQ
      · (repeat top_args)
        rw [if_neg (fun q => h2 (by simpa using q.1))] at hQ
        exact hQ
    · exact absurd h1 (by simp)

theorem it_lastI {c : Cx} {l : List Int} {i : Int} {Q : PyData → Prop} (h : l.getLast? = some i) (hq : Q (.int i)) : IT c (.list (l.map .int)) (.int (-1)) Q := by
  obtain ⟨l0, rfl⟩ : ∃ l0, l = l0 ++ [i] := by
    have hne : l ≠ [] := fun e => by rw [e] at h; cases h
    rw [List.getLast?_eq_some_getLast hne] at h
    cases h
    exact ⟨_, (List.dropLast_concat_getLast hne).symm⟩
  exact it_neg (by decide) (by rw [List.length_map, List.length_append, List.length_singleton]; omega) (by decide) (d := .int i) (by
        rw [List.length_map, List.length_append, List.length_singleton, show (-1 + ((l0.length + 1 : Nat) : Int)).toNat = l0.length by omega]
        simp) hq


/-! _law_width -/
noncomputable def lawWidth (ws : List (List Int)) (gs : List Int) : Int := (ws.map fun w => (w.length : Int)).sum + (gs.take (ws.length - 1)).sum
structure WOk (ws : List (List Int)) (gs : List Int) : Prop where
  n : ws.length ≤ 100
  len : gs.length = ws.length
  w : ∀ w ∈ ws, w ≠ [] ∧ w.length ≤ 1000
theorem WOk.drop {ws : List (List Int)} {gs : List Int} (h : WOk ws gs) (k : Nat) : WOk (ws.drop k) (gs.drop k) :=
  ⟨by rw [List.length_drop]; have := h.n; omega, by rw [List.length_drop, List.length_drop, h.len], fun w hw => h.w w (List.mem_of_mem_drop hw)⟩
theorem WOk.take {ws : List (List Int)} {gs : List Int} (h : WOk ws gs) (k : Nat) : WOk (ws.take k) (gs.take k) :=
  ⟨by rw [List.length_take]; have := h.n; omega, by rw [List.length_take, List.length_take, h.len], fun w hw => h.w w (List.mem_of_mem_take hw)⟩
noncomputable def S_law_width : Spec := fun ds Q => ∃ (ws : List (List Int)) (gs : List Int), ds = [.list (ws.map dL), dL gs] ∧ WOk ws gs ∧ ws ≠ [] ∧ Q (.int (lawWidth ws gs))
theorem sp_law_width {ws : List (List Int)} {gs : List Int} {Q : PyData → Prop} (h1 : WOk ws gs) (h2 : ws ≠ []) (h : Q (.int (lawWidth ws gs))) : S_law_width [.list (ws.map dL), dL gs] Q := ⟨ws, gs, rfl, h1, h2, h⟩
theorem sp_sum {l : List Int} {Q : PyData → Prop} (h : Q (.int l.sum)) : S_sum [.list (l.map .int)] Q := ⟨l, rfl, h⟩
theorem T_law_width {W : World'} (H : Std W) (F : FnIn W (fd 25)) : Told W 1 "_law_width" S_law_width := by
  refine told_of H F rfl [] ⟨by decide +kernel, by decide +kernel, rfl, rfl, rfl, by (intro pm cd doc vs hvs; obtain ⟨_, _, rfl⟩ := len_two hvs; rfl)⟩ (by decide +kernel) (fun ds Q h => ?_) (fun c O hW hsc hcl ds Q hS => ?_)
  · obtain ⟨x, y, rfl, _⟩ := h; rfl
  subst hW
  obtain ⟨ws, gs, rfl, hw, hne, hQ⟩ := hS
  show EXs c (fd 25).body [("words", .val (.list (ws.map dL))), ("gaps", .val (dL gs))] (retPost Q)
  generalize hfd : (fd 25).body = b
  conv at hfd => lhs; whnf
  subst hfd
  have t1 := t_len H
  have t2 := t_sum H
  have hn := hw.n
  have hgl := hw.len
  have hpos : 0 < ws.length := List.length_pos_iff.mpr hne
  (repeat top_args)
  refine' r_comp O hcl goOk_name (by decide +kernel) (by decide +kernel) rfl (by decide +kernel) ["word"] (by decide +kernel) (by decide +kernel) ?_
  (repeat top_args)
  intro c' O' hW' hsc' hcl'
  have t3 := t1
  rw [← hW'] at t3
  refine' comp_inv (fun d => match d with | .list l => .int l.length | d => d) (fun σ => ∃ s1 : Slot, s1.kind = .local ∧ σ = ([("word", s1)] : Sto)) ⟨.no, rfl, rfl⟩ (by rw [List.length_map]; omega) ?_ ?_
  · rintro d σ1 R hd ⟨s1, k1, rfl⟩ hR
    obtain ⟨w, hwm, rfl⟩ := List.mem_map.mp hd
    have hwx := hw.w w hwm
    have O := O'
    clear t1
    (repeat top_args)
    have h9 := hR [("word", .val (dL w))] ⟨.val _, rfl, rfl⟩
    simp only [List.length_map] at h9
    exact h9
  have e : List.map (fun d => match d with | PyData.list l => PyData.int l.length | d => d) (ws.map dL) = (ws.map fun w => (w.length : Int)).map .int := by
    rw [List.map_map, List.map_map]
    exact List.map_congr_left fun w _ => by simp
  rw [e]
  (repeat top_args)
  refine' sp_sum ?_
  (repeat top_args)
  rw [show (ws.length : Int) - 1 = ((ws.length - 1 : Nat) : Int) by omega]
  (repeat top_args)
  refine' sp_sum ?_
  (repeat top_args)
  exact hQ

/-! _law_break -/
noncomputable def brk : List (List Int) → List Int → Nat
  | [], _ => 0
  | w :: ws, gs => if ws ≠ [] ∧ w.getLast? = some 46 ∧ gs.headD 0 = 1 then 1 + brk ws gs.tail else 1
theorem brk_pos : ∀ {ws : List (List Int)} {gs : List Int}, ws ≠ [] → 1 ≤ brk ws gs
  | [], _, h => absurd rfl h
  | w :: ws, gs, _ => by rw [brk]; split <;> omega
theorem brk_le : ∀ (ws : List (List Int)) (gs : List Int), brk ws gs ≤ ws.length
  | [], _ => by rw [brk]; exact Nat.le_refl _
  | w :: ws, gs => by
    rw [brk, List.length_cons]
    split
    · have := brk_le ws gs.tail; omega
    · omega
noncomputable def S_law_break : Spec := fun ds Q => ∃ (ws : List (List Int)) (gs : List Int) (first : Nat), ds = [.list (ws.map dL), dL gs, .int first] ∧ WOk ws gs ∧ first < ws.length ∧ Q (.int (first + brk (ws.drop first) (gs.drop first) : Nat))
theorem sp_law_break {ws : List (List Int)} {gs : List Int} {first : Nat} {Q : PyData → Prop} (h1 : WOk ws gs) (h2 : first < ws.length) (h : Q (.int (first + brk (ws.drop first) (gs.drop first) : Nat))) : S_law_break [.list (ws.map dL), dL gs, .int first] Q := ⟨ws, gs, first, rfl, h1, h2, h⟩
theorem T_law_break {W : World'} (H : Std W) (F : FnIn W (fd 26)) : Told W 1 "_law_break" S_law_break := by
  refine told_of H F rfl ["at"] ⟨by decide +kernel, by decide +kernel, rfl, rfl, rfl, by (intro pm cd doc vs hvs; obtain ⟨_, _, _, rfl⟩ := len_three hvs; rfl)⟩ (by decide +kernel) (fun ds Q h => ?_) (fun c O hW hsc hcl ds Q hS => ?_)
  · obtain ⟨x, y, z, rfl, _⟩ := h; rfl
  subst hW
  obtain ⟨ws, gs, first, rfl, hw, hf, hQ⟩ := hS
  show EXs c (fd 26).body [("words", .val (.list (ws.map dL))), ("gaps", .val (dL gs)), ("first", .val (.int first)), ("at", .no)] (retPost Q)
  generalize hfd : (fd 26).body = b
  conv at hfd => lhs; whnf
  subst hfd
  have t1 := t_len H
  have hn := hw.n
  have hgl := hw.len
  (repeat top_args)
  refine' x_whileP (fun n σ => ∃ j : Nat, j < ws.length ∧ n = ws.length - j ∧ j + brk (ws.drop j) (gs.drop j) = first + brk (ws.drop first) (gs.drop first) ∧ σ = ([("words", .val (.list (ws.map dL))), ("gaps", .val (dL gs)), ("first", .val (.int first)), ("at", .val (.int ((j : Int) + 1)))] : Sto)) (ws.length - first)
    (fun σ => σ = ([("words", .val (.list (ws.map dL))), ("gaps", .val (dL gs)), ("first", .val (.int first)), ("at", .val (.int (first + brk (ws.drop first) (gs.drop first) : Nat)))] : Sto))
    ⟨first, hf, rfl, rfl, rfl⟩ ?_ ?_
  · rintro n σ1 ⟨j, hj, rfl, he, rfl⟩
    have hx : ws[j]? = some ws[j] := List.getElem?_eq_getElem hj
    have hg : gs[j]? = some (gs[j]'(by omega)) := List.getElem?_eq_getElem (by omega)
    have hwx := hw.w _ (List.mem_of_getElem? hx)
    rw [drop_at hx, drop_at hg, brk, List.headD_cons, List.tail_cons] at he
    generalize gs[j]'(by omega) = g at hg he
    have hl : (ws[j]).getLast? = some ((ws[j]).getLast hwx.1) := List.getLast?_eq_some_getLast hwx.1
    (repeat top_args)
    first | with_reducible refine' ite_both (fun h1 => ?_) (fun h1 => ?_) | with_reducible refine' ite_bothN (fun h1 => ?_) (fun h1 => ?_) | with_reducible refine' ite_bothB (fun h1 => ?_) (fun h1 => ?_)
    · (repeat top_args)
      first | with_reducible refine' ite_both (fun h2 => ?_) (fun h2 => ?_) | with_reducible refine' ite_bothN (fun h2 => ?_) (fun h2 => ?_) | with_reducible refine' ite_bothB (fun h2 => ?_) (fun h2 => ?_)
      · (repeat top_args)
        first | with_reducible refine' ite_both (fun h3 => ?_) (fun h3 => ?_) | with_reducible refine' ite_bothN (fun h3 => ?_) (fun h3 => ?_) | with_reducible refine' ite_bothB (fun h3 => ?_) (fun h3 => ?_)
        · rw [if_pos ⟨fun q => by have := congrArg List.length q; rw [List.length_drop, List.length_nil] at this; omega, by rw [hl, h2], h3⟩] at he
          (repeat top_args)
          exact ⟨ws.length - (j + 1), by omega, j + 1, by omega, rfl, by omega, rfl⟩
        · rw [if_neg (fun q => h3 q.2.2)] at he
          (repeat top_args)
          rw [← he]
          rfl
      · rw [if_neg (fun q => h2 (by have := q.2.1; rw [hl] at this; exact Option.some.inj this))] at he
        (repeat top_args)
        rw [← he]
        rfl
    · rw [if_neg (fun q => q.1 (List.drop_of_length_le (by omega)))] at he
      (repeat top_args)
      rw [← he]
      rfl
  · rintro _ rfl
    (repeat top_args)
    exact hQ

theorem ex_swap2 {σ σ1 σ2 : Sto} {x y : Str} {d1 d2 : PyData} {Q : Sto → Prop} (S1 : SetAt σ y (.val d2) σ1) (S2 : SetAt σ1 x (.val d1) σ2) (h : Q σ2) :
    ∃ ds σ2, PyData.tuple [d1, d2] = .tuple ds ∧ [x, y].length = ds.length ∧ SetAll σ [x, y].reverse ds.reverse σ2 ∧ Q σ2 := ⟨_, _, rfl, rfl, .cons S1 (.cons S2 .nil), h⟩
theorem ex_swap3 {σ σ1 σ2 σ3 : Sto} {x y z : Str} {d1 d2 d3 : PyData} {Q : Sto → Prop} (S1 : SetAt σ z (.val d3) σ1) (S2 : SetAt σ1 y (.val d2) σ2) (S3 : SetAt σ2 x (.val d1) σ3) (h : Q σ3) :
    ∃ ds σ3, PyData.tuple [d1, d2, d3] = .tuple ds ∧ [x, y, z].length = ds.length ∧ SetAll σ [x, y, z].reverse ds.reverse σ3 ∧ Q σ3 := ⟨_, _, rfl, rfl, .cons S1 (.cons S2 (.cons S3 .nil)), h⟩


/-! _law_rows -/
noncomputable def grow (own : Int) (ws : List (List Int)) (gs : List Int) (k : Nat) : Nat :=
  if h : k < ws.length then
    (if own < lawWidth (ws.take (k + brk (ws.drop k) (gs.drop k))) (gs.take (k + brk (ws.drop k) (gs.drop k))) then k else grow own ws gs (k + brk (ws.drop k) (gs.drop k)))
  else k
termination_by ws.length - k
decreasing_by
  have : 1 ≤ brk (ws.drop k) (gs.drop k) := brk_pos fun q => by have := congrArg List.length q; rw [List.length_drop, List.length_nil] at this; omega
  omega
theorem grow_end {own : Int} {ws : List (List Int)} {gs : List Int} {k : Nat} (h : ¬ k < ws.length) : grow own ws gs k = k := by rw [grow, dif_neg h]
theorem grow_stop {own : Int} {ws : List (List Int)} {gs : List Int} {k : Nat} (h : k < ws.length) (h2 : own < lawWidth (ws.take (k + brk (ws.drop k) (gs.drop k))) (gs.take (k + brk (ws.drop k) (gs.drop k)))) : grow own ws gs k = k := by rw [grow, dif_pos h, if_pos h2]
theorem grow_go {own : Int} {ws : List (List Int)} {gs : List Int} {k : Nat} (h : k < ws.length) (h2 : ¬ own < lawWidth (ws.take (k + brk (ws.drop k) (gs.drop k))) (gs.take (k + brk (ws.drop k) (gs.drop k)))) : grow own ws gs k = grow own ws gs (k + brk (ws.drop k) (gs.drop k)) := by rw [grow, dif_pos h, if_neg h2]
theorem grow_ge (own : Int) (ws : List (List Int)) (gs : List Int) : ∀ (n k : Nat), ws.length - k ≤ n → k ≤ grow own ws gs k ∧ (k ≤ ws.length → grow own ws gs k ≤ ws.length) := by
  intro n
  induction n with
  | zero => intro k h; rw [grow_end (by omega)]; exact ⟨Nat.le_refl _, fun q => q⟩
  | succ n ih =>
    intro k h
    by_cases hk : k < ws.length
    · by_cases h2 : own < lawWidth (ws.take (k + brk (ws.drop k) (gs.drop k))) (gs.take (k + brk (ws.drop k) (gs.drop k)))
      · rw [grow_stop hk h2]; exact ⟨Nat.le_refl _, fun q => q⟩
      · have h3 : 1 ≤ brk (ws.drop k) (gs.drop k) := brk_pos fun q => by have := congrArg List.length q; rw [List.length_drop, List.length_nil] at this; omega
        have h4 := brk_le (ws.drop k) (gs.drop k)
        rw [List.length_drop] at h4
        have := ih (k + brk (ws.drop k) (gs.drop k)) (by omega)
        rw [grow_go hk h2]
        exact ⟨by omega, fun _ => this.2 (by omega)⟩
    · rw [grow_end hk]; exact ⟨Nat.le_refl _, fun q => q⟩
noncomputable def growAt (own : Int) (ws : List (List Int)) (gs : List Int) (at_ : Nat) : Nat := at_ + grow own (ws.drop at_) (gs.drop at_) (brk (ws.drop at_) (gs.drop at_))
theorem drop_ne {α : Type} {l : List α} {k : Nat} (h : k < l.length) : l.drop k ≠ [] := fun q => by have := congrArg List.length q; rw [List.length_drop, List.length_nil] at this; omega
theorem growAt_gt {own : Int} {ws : List (List Int)} {gs : List Int} {k : Nat} (h : k < ws.length) : k < growAt own ws gs k ∧ growAt own ws gs k ≤ ws.length := by
  have h1 : 1 ≤ brk (ws.drop k) (gs.drop k) := brk_pos (drop_ne h)
  have h2 := brk_le (ws.drop k) (gs.drop k)
  have h3 := grow_ge own (ws.drop k) (gs.drop k) _ (brk (ws.drop k) (gs.drop k)) (Nat.le_refl _)
  have h4 := h3.2 h2
  rw [List.length_drop] at h4
  unfold growAt
  omega
noncomputable def lawRows (fr r : Int) (ws : List (List Int)) (gs : List Int) (k : Nat) : List (Nat × Nat) :=
  if h : k < ws.length then (k, growAt fr ws gs k) :: lawRows r r ws gs (growAt fr ws gs k) else []
termination_by ws.length - k
decreasing_by
  have := growAt_gt (own := fr) (gs := gs) h
  omega
abbrev dE (e : Nat × Nat) : PyData := .tuple [.int e.1, .int e.2]
noncomputable def S_law_rows : Spec := fun ds Q => ∃ (ws : List (List Int)) (gs : List Int) (fr r : Int), ds = [.list (ws.map dL), dL gs, .int fr, .int r] ∧ WOk ws gs ∧ Q (.list ((lawRows fr r ws gs 0).map dE))
theorem sp_law_rows {ws : List (List Int)} {gs : List Int} {fr r : Int} {Q : PyData → Prop} (h1 : WOk ws gs) (h : Q (.list ((lawRows fr r ws gs 0).map dE))) : S_law_rows [.list (ws.map dL), dL gs, .int fr, .int r] Q := ⟨ws, gs, fr, r, rfl, h1, h⟩
theorem T_law_rows {W : World'} (H : Std W) (F25 : FnIn W (fd 25)) (F26 : FnIn W (fd 26)) (F : FnIn W (fd 27)) : Told W 2 "_law_rows" S_law_rows := by
  refine told_of H F rfl ["rows", "at", "own", "end", "after_here"] ⟨by decide +kernel, by decide +kernel, rfl, rfl, rfl, by (intro pm cd doc vs hvs; obtain ⟨_, _, _, _, rfl⟩ := len_four hvs; rfl)⟩ (by decide +kernel) (fun ds Q h => ?_) (fun c O hW hsc hcl ds Q hS => ?_)
  · obtain ⟨x, y, z, t, rfl, _⟩ := h; rfl
  subst hW
  obtain ⟨ws, gs, fr, r, rfl, hw, hQ⟩ := hS
  show EXs c (fd 27).body [("words", .val (.list (ws.map dL))), ("gaps", .val (dL gs)), ("first_room", .val (.int fr)), ("room", .val (.int r)), ("rows", .no), ("at", .no), ("own", .no), ("end", .no), ("after_here", .no)] (retPost Q)
  generalize hfd : (fd 27).body = b
  conv at hfd => lhs; whnf
  subst hfd
  have t1 := t_len H
  have t2 := T_law_width H F25
  have t3 := T_law_break H F26
  have hn := hw.n
  have hgl := hw.len
  refine' xs_cons ?_
  refine' x_assign_own0 O (by with_unfolding_all rfl) (swap2 O (by exact kind_of (by assumption) (by decide +kernel)) (by exact kind_of (by assumption) (by decide +kernel)) (by decide +kernel)) (by (repeat (first | exact SetAt.zero (by first | rfl | assumption) | apply SetAt.succ))) (fun a => ?_)
  (repeat top_args)
  refine' x_whileP (fun n σ => ∃ (k : Nat) (done : List (Nat × Nat)) (s1 s2 s3 : Slot), k ≤ ws.length ∧ n = ws.length - k ∧ done.length ≤ k ∧ done ++ lawRows (if done = [] then fr else r) r ws gs k = lawRows fr r ws gs 0 ∧ s1.kind = .local ∧ s2.kind = .local ∧ s3.kind = .local ∧
     σ = ([("words", .val (.list (ws.map dL))), ("gaps", .val (dL gs)), ("first_room", .val (.int fr)), ("room", .val (.int r)), ("rows", .own true a (done.map dE)), ("at", .val (.int k)), ("own", s1), ("end", s2), ("after_here", s3)] : Sto)) (ws.length - 0)
    (fun σ => ∃ s0 s1 s2 s3, σ = ([("words", .val (.list (ws.map dL))), ("gaps", .val (dL gs)), ("first_room", .val (.int fr)), ("room", .val (.int r)), ("rows", .own true a ((lawRows fr r ws gs 0).map dE)), ("at", s0), ("own", s1), ("end", s2), ("after_here", s3)] : Sto))
    ⟨0, [], .no, .no, .no, Nat.zero_le _, rfl, Nat.zero_le _, rfl, rfl, rfl, rfl, rfl⟩ ?_ ?_
  · rintro n σ1 ⟨k, done, s1, s2, s3, hk, rfl, hdl, he, k1, k2, k3, rfl⟩
    (repeat top_args)
    first | with_reducible refine' ite_both (fun h1 => ?_) (fun h1 => ?_) | with_reducible refine' ite_bothN (fun h1 => ?_) (fun h1 => ?_) | with_reducible refine' ite_bothB (fun h1 => ?_) (fun h1 => ?_)
    · have hk : k < ws.length := by omega
      refine' xs_cons ?_
      refine' x_assign_swap O ?_ (by with_unfolding_all rfl) (swap2 O (by exact kind_of (by assumption) (by decide +kernel)) (by exact kind_of (by assumption) (by decide +kernel)) (by decide +kernel))
      have stop : StopIf := ⟨⟩
      (repeat top_args)
      clear stop
      refine' ev_join (.int (if done = [] then fr else r)) ?_ ?_
      · (repeat top_args)
        first | with_reducible refine' ite_both (fun h2 => ?_) (fun h2 => ?_) | with_reducible refine' ite_bothN (fun h2 => ?_) (fun h2 => ?_) | with_reducible refine' ite_bothB (fun h2 => ?_) (fun h2 => ?_)
        · rw [if_pos (by simpa using h2)]
          (repeat top_args)
          exact ⟨rfl, rfl⟩
        · rw [if_neg (fun q => by rw [q] at h2; cases h2)]
          (repeat top_args)
          exact ⟨rfl, rfl⟩
      generalize (if done = [] then fr else r) = own at he ⊢
      (repeat top_args)
      refine' sp_law_break hw hk ?_
      (repeat top_args)
      refine' x_whileP (fun n σ => ∃ (j : Nat) (s : Slot), 1 ≤ j ∧ k + j ≤ ws.length ∧ n = ws.length - (k + j) ∧ grow own (ws.drop k) (gs.drop k) j = grow own (ws.drop k) (gs.drop k) (brk (ws.drop k) (gs.drop k)) ∧ s.kind = .local ∧
         σ = ([("words", .val (.list (ws.map dL))), ("gaps", .val (dL gs)), ("first_room", .val (.int fr)), ("room", .val (.int r)), ("rows", .own true a (done.map dE)), ("at", .val (.int k)), ("own", .val (.int own)), ("end", .val (.int (k + j : Nat))), ("after_here", s)] : Sto)) (ws.length - (k + brk (ws.drop k) (gs.drop k)))
        (fun σ => ∃ s : Slot, s.kind = .local ∧ σ = ([("words", .val (.list (ws.map dL))), ("gaps", .val (dL gs)), ("first_room", .val (.int fr)), ("room", .val (.int r)), ("rows", .own true a (done.map dE)), ("at", .val (.int k)), ("own", .val (.int own)), ("end", .val (.int (growAt own ws gs k : Nat))), ("after_here", s)] : Sto))
        ⟨brk (ws.drop k) (gs.drop k), s3, brk_pos (drop_ne hk), by have := brk_le (ws.drop k) (gs.drop k); rw [List.length_drop] at this; omega, rfl, rfl, k3, rfl⟩ ?_ ?_
      · rintro n σ1 ⟨j, s, hj1, hj, rfl, hg, k4, rfl⟩
        (repeat top_args)
        first | with_reducible refine' ite_both (fun h3 => ?_) (fun h3 => ?_) | with_reducible refine' ite_bothN (fun h3 => ?_) (fun h3 => ?_) | with_reducible refine' ite_bothB (fun h3 => ?_) (fun h3 => ?_)
        · have hjl : j < (ws.drop k).length := by rw [List.length_drop]; omega
          (repeat top_args)
          refine' sp_law_break hw (by omega) ?_
          have hb1 : 1 ≤ brk (ws.drop (k + j)) (gs.drop (k + j)) := brk_pos (drop_ne (by omega))
          have hb2 := brk_le (ws.drop (k + j)) (gs.drop (k + j))
          rw [List.length_drop] at hb2
          have hst := @grow_stop own (ws.drop k) (gs.drop k) j hjl
          have hgo := @grow_go own (ws.drop k) (gs.drop k) j hjl
          rw [List.drop_drop, List.drop_drop] at hst hgo
          generalize brk (ws.drop (k + j)) (gs.drop (k + j)) = b at hb1 hb2 hst hgo ⊢
          (repeat top_args)
          have e : k + j + b - k = j + b := by omega
          rw [e]
          refine' sp_law_width ((hw.drop k).take _) (fun q => by have := congrArg List.length q; rw [List.length_take, List.length_drop, List.length_nil] at this; omega) ?_
          (repeat top_args)
          first | with_reducible refine' ite_both (fun h4 => ?_) (fun h4 => ?_) | with_reducible refine' ite_bothN (fun h4 => ?_) (fun h4 => ?_) | with_reducible refine' ite_bothB (fun h4 => ?_) (fun h4 => ?_)
          · (repeat top_args)
            rw [hst h4] at hg
            rw [show growAt own ws gs k = k + j by rw [growAt, ← hg]]
            exact ⟨.val _, rfl, rfl⟩
          · (repeat top_args)
            rw [hgo h4] at hg
            exact ⟨ws.length - (k + (j + b)), by omega, j + b, .val _, by omega, by omega, rfl, hg, rfl, by rw [Nat.add_assoc]⟩
        · (repeat top_args)
          rw [grow_end (by rw [List.length_drop]; omega)] at hg
          rw [show growAt own ws gs k = k + j by rw [growAt, ← hg]]
          exact ⟨s, k4, rfl⟩
      rintro _ ⟨s, k4, rfl⟩
      have hgt := growAt_gt (own := own) (gs := gs) hk
      rw [lawRows, dif_pos hk] at he
      (repeat top_args)
      refine' ex_app (k, growAt own ws gs k) rfl (by (repeat (first | exact GetAt.zero | apply GetAt.succ))) (by omega) (by (repeat (first | exact SetAt.zero (by first | rfl | assumption) | apply SetAt.succ))) ?_
      (repeat top_args)
      refine ⟨ws.length - growAt own ws gs k, by omega, growAt own ws gs k, _, .val _, .val _, _, hgt.2, rfl, ?_, ?_, rfl, rfl, k4, rfl⟩
      · rw [List.length_append, List.length_singleton]; omega
      · rw [if_neg (by simp), List.append_assoc, List.singleton_append]; exact he
    · (repeat top_args)
      have : k = ws.length := by omega
      rw [lawRows, dif_neg (by omega), List.append_nil] at he
      subst he
      exact ⟨_, _, _, _, rfl⟩
  · rintro _ ⟨s0, s1, s2, s3, rfl⟩
    (repeat top_args)
    exact hQ

/-! _law_row -/
theorem zip_get {α : Type} {f : α → PyData} {l : List α} {i : Nat} {d : PyData × Nat} (h : (l.map f).zipIdx[i]? = some d) : ∃ x, l[i]? = some x ∧ d = (f x, i) ∧ i < l.length := by
  rw [List.getElem?_zipIdx, List.getElem?_map] at h
  cases hx : l[i]? with
  | none => rw [hx] at h; cases h
  | some x =>
    rw [hx] at h
    simp only [Option.map_some, Nat.zero_add] at h
    cases h
    exact ⟨x, rfl, rfl, (List.getElem?_eq_some_iff.mp hx).1⟩
noncomputable def S_law_row : Spec := fun ds Q => ∃ (ws : List (List Int)) (gs : List Int), ds = [.list (ws.map dL), dL gs] ∧ WOk ws gs ∧ (∀ g ∈ gs, 0 ≤ g ∧ g ≤ 1000) ∧ Q (dL (rowCodes ws gs))
theorem sp_law_row {ws : List (List Int)} {gs : List Int} {Q : PyData → Prop} (h1 : WOk ws gs) (h2 : ∀ g ∈ gs, 0 ≤ g ∧ g ≤ 1000) (h : Q (dL (rowCodes ws gs))) : S_law_row [.list (ws.map dL), dL gs] Q := ⟨ws, gs, rfl, h1, h2, h⟩
theorem T_law_row {W : World'} (H : Std W) (F : FnIn W (fd 28)) : Told W 1 "_law_row" S_law_row := by
  refine told_of H F rfl ["codes", "place", "word"] ⟨by decide +kernel, by decide +kernel, rfl, rfl, rfl, by (intro pm cd doc vs hvs; obtain ⟨_, _, rfl⟩ := len_two hvs; rfl)⟩ (by decide +kernel) (fun ds Q h => ?_) (fun c O hW hsc hcl ds Q hS => ?_)
  · obtain ⟨x, y, rfl, _⟩ := h; rfl
  subst hW
  obtain ⟨ws, gs, rfl, hw, hg, hQ⟩ := hS
  show EXs c (fd 28).body [("words", .val (.list (ws.map dL))), ("gaps", .val (dL gs)), ("codes", .no), ("place", .no), ("word", .no)] (retPost Q)
  generalize hfd : (fd 28).body = b
  conv at hfd => lhs; whnf
  subst hfd
  have t1 := t_len H
  have hn := hw.n
  have hgl := hw.len
  refine' xs_cons ?_
  refine' x_assign O ?_
  (repeat top_args)
  refine' for_inv (fun i σ => ∃ (acc : List Int) (s1 s2 : Slot), acc.length ≤ 2000 * i ∧ s1.kind = .local ∧ s2.kind = .local ∧ σ = ([("words", .val (.list (ws.map dL))), ("gaps", .val (dL gs)), ("codes", .val (dL acc)), ("place", s1), ("word", s2)] : Sto) ∧
    acc ++ rowCodes (ws.drop i) (gs.drop i) = rowCodes ws gs) ⟨[], .no, .no, Nat.zero_le _, rfl, rfl, rfl, rfl⟩ ?_ ?_
  · rintro i d σ1 R hd ⟨acc, s1, s2, hal, k1, k2, rfl, he⟩ hR
    obtain ⟨w, hx, rfl, hi⟩ := zip_get hd
    have hwx := hw.w _ (List.mem_of_getElem? hx)
    have hgx : gs[i]? = some (gs[i]'(by omega)) := List.getElem?_eq_getElem (by omega)
    have hgb := hg _ (List.mem_of_getElem? hgx)
    rw [drop_at hx, rowCodes, drop_at hgx, List.headD_cons, List.tail_cons] at he
    generalize gs[i]'(by omega) = g at hgx hgb he
    (repeat top_args)
    refine' op_catL O (by rw [sizeLine_eq]; omega) ?_
    (repeat top_args)
    first | with_reducible refine' ite_both (fun h1 => ?_) (fun h1 => ?_) | with_reducible refine' ite_bothN (fun h1 => ?_) (fun h1 => ?_) | with_reducible refine' ite_bothB (fun h1 => ?_) (fun h1 => ?_)
    · rw [if_neg (drop_ne (by omega))] at he
      (repeat top_args)
      refine' op_repI O (by omega) (by omega) ?_
      refine' op_catL O (by rw [List.length_append, List.length_replicate, sizeLine_eq]; omega) ?_
      (repeat top_args)
      exact hR _ ⟨_, .val _, .val _, by rw [List.length_append, List.length_append, List.length_replicate]; omega, rfl, rfl, rfl, by rw [← he]; simp only [List.append_assoc]⟩
    · have e : ws.drop (i + 1) = [] := List.drop_of_length_le (by omega)
      rw [e] at he
      rw [if_pos rfl, rowCodes] at he
      (repeat top_args)
      refine' op_catL O (b := []) (by rw [List.length_append, List.length_nil, sizeLine_eq]; omega) ?_
      (repeat top_args)
      exact hR _ ⟨_, .val _, .val _, by rw [List.length_append, List.length_append, List.length_nil]; omega, rfl, rfl, rfl, by rw [← he, e, rowCodes]; simp only [List.append_assoc, List.append_nil]⟩
  · rintro _ ⟨acc, s1, s2, hal, k1, k2, rfl, he⟩
    rw [List.length_zipIdx, List.length_map, List.drop_of_length_le (Nat.le_refl _), rowCodes, List.append_nil] at he
    subst he
    (repeat top_args)
    exact hQ

/-! _law_is_spread -/
noncomputable def isSp (x : Int) : Bool := decide (x = 32)
noncomputable def moreOf (hs gs : List Int) (n : Nat) : List Int := (List.zipWith (· - ·) hs gs).take (n - 1)
structure SOk (row : List Int) (ws : List (List Int)) (gs : List Int) (room : Int) (hs : List Int) : Prop where
  w : WOk ws gs
  ne : ws ≠ []
  eq : row = rowCodes ws hs
  hl : hs.length = ws.length
  small : ws.length ≤ 60
  hb : ∀ h ∈ hs, 0 ≤ h ∧ h ≤ 1000
  clear : ∀ w ∈ ws, (32 : Int) ∉ w
  wide : (row.length : Int) = if 1 < ws.length ∧ lawWidth ws gs < room then room else lawWidth ws gs
  sorted : (moreOf hs gs ws.length).Pairwise (· ≤ ·)
  nonneg : ∀ x ∈ moreOf hs gs ws.length, 0 ≤ x
  near : ∀ x ∈ moreOf hs gs ws.length, ∀ y ∈ moreOf hs gs ws.length, y - x ≤ 1
noncomputable def S_is_spread : Spec := fun ds Q => ∃ (row : List Int) (ws : List (List Int)) (gs : List Int) (room : Int) (hs : List Int), ds = [dL row, .list (ws.map dL), dL gs, .int room] ∧ SOk row ws gs room hs ∧ Q (.bool true)
theorem sp_is_spread {row : List Int} {ws : List (List Int)} {gs : List Int} {room : Int} {hs : List Int} {Q : PyData → Prop} (h1 : SOk row ws gs room hs) (h : Q (.bool true)) : S_is_spread [dL row, .list (ws.map dL), dL gs, .int room] Q := ⟨row, ws, gs, room, hs, rfl, h1, h⟩
theorem sp_sorted {l : List Int} {Q : PyData → Prop} (hl : l.length < 64) (hs : l.Pairwise (· ≤ ·)) (h : Q (dL l)) : S_sorted [dL l] Q :=
  ⟨l, rfl, hl, fun l' hp hs' => by rw [show l' = l from hp.eq_of_pairwise (fun a b _ _ h1 h2 => Int.le_antisymm h1 h2) hs' hs]; exact h⟩
theorem takeWhile_rep (n : Nat) (l : List Int) (h : l.takeWhile isSp = []) : (List.replicate n 32 ++ l).takeWhile isSp = List.replicate n 32 := by
  induction n with
  | zero => simpa using h
  | succ n ih => rw [List.replicate_succ, List.cons_append, List.takeWhile_cons, if_pos (by rfl), ih]
theorem rowCodes_clear {ws : List (List Int)} {hs : List Int} (h1 : ∀ w ∈ ws, w ≠ []) (h2 : ∀ w ∈ ws, (32 : Int) ∉ w) : (rowCodes ws hs).takeWhile isSp = [] := by
  cases ws with
  | nil => rfl
  | cons w ws =>
    obtain ⟨x, r, rfl⟩ : ∃ x r, w = x :: r := List.exists_cons_of_ne_nil (h1 w List.mem_cons_self)
    have hx : x ≠ 32 := fun e => h2 _ List.mem_cons_self (by rw [e]; exact List.mem_cons_self)
    rw [rowCodes, List.cons_append, List.takeWhile_cons, if_neg (by simp [isSp, hx])]
theorem T_is_spread {W : World'} (H : Std W) (F25 : FnIn W (fd 25)) (F : FnIn W (fd 29)) : Told W 2 "_law_is_spread" S_is_spread := by
  refine told_of H F rfl ["more_here", "at", "place", "word", "begin", "wide"] ⟨by decide +kernel, by decide +kernel, rfl, rfl, rfl, by (intro pm cd doc vs hvs; obtain ⟨_, _, _, _, rfl⟩ := len_four hvs; rfl)⟩ (by decide +kernel) (fun ds Q h => ?_) (fun c O hW hsc hcl ds Q hS => ?_)
  · obtain ⟨x, y, z, t, u, rfl, _⟩ := h; rfl
  subst hW
  obtain ⟨row, ws, gs, room, hs, rfl, hS, hQ⟩ := hS
  show EXs c (fd 29).body [("row", .val (dL row)), ("words", .val (.list (ws.map dL))), ("gaps", .val (dL gs)), ("room", .val (.int room)), ("more_here", .no), ("at", .no), ("place", .no), ("word", .no), ("begin", .no), ("wide", .no)] (retPost Q)
  generalize hfd : (fd 29).body = b
  conv at hfd => lhs; whnf
  subst hfd
  have t1 := t_len H
  have t2 := T_law_width H F25
  have t3 := t_sorted H
  have hn := hS.w.n
  have hgl := hS.w.len
  have hhl := hS.hl
  have hrl : row.length ≤ 200000 := by
    have := rowCodes_len ws hs (fun w hw => (hS.w.w w hw).2) (fun g hg => (hS.hb g hg).2)
    rw [← hS.eq] at this
    omega
  have hml : (moreOf hs gs ws.length).length = ws.length - 1 := by
    rw [moreOf, List.length_take, List.length_zipWith]; omega
  refine' xs_cons ?_
  refine' x_assign_own0 O (by with_unfolding_all rfl) (swap2 O (by exact kind_of (by assumption) (by decide +kernel)) (by exact kind_of (by assumption) (by decide +kernel)) (by decide +kernel)) (by (repeat (first | exact SetAt.zero (by first | rfl | assumption) | apply SetAt.succ))) (fun a => ?_)
  (repeat top_args)
  refine' for_inv (fun i σ => ∃ (p : Nat) (s1 s2 s3 : Slot), p ≤ row.length ∧ s1.kind = .local ∧ s2.kind = .local ∧ s3.kind = .local ∧ row.drop p = rowCodes (ws.drop i) (hs.drop i) ∧
    σ = ([("row", .val (dL row)), ("words", .val (.list (ws.map dL))), ("gaps", .val (dL gs)), ("room", .val (.int room)), ("more_here", .own true a (((moreOf hs gs ws.length).take i).map .int)), ("at", .val (.int p)), ("place", s1), ("word", s2), ("begin", s3), ("wide", .no)] : Sto))
    ⟨0, .no, .no, .no, Nat.zero_le _, rfl, rfl, rfl, hS.eq, rfl⟩ ?_ ?_
  · rintro i d σ1 R hd ⟨p, s1, s2, s3, hp, k1, k2, k3, he, rfl⟩ hR
    obtain ⟨w, hx, rfl, hi⟩ := zip_get hd
    have hwx := hS.w.w _ (List.mem_of_getElem? hx)
    have hgx : gs[i]? = some (gs[i]'(by omega)) := List.getElem?_eq_getElem (by omega)
    have hhx : hs[i]? = some (hs[i]'(by omega)) := List.getElem?_eq_getElem (by omega)
    have hhb := hS.hb _ (List.mem_of_getElem? hhx)
    rw [drop_at hx, rowCodes, drop_at hhx, List.headD_cons, List.tail_cons] at he
    have hmx : i + 1 < ws.length → (moreOf hs gs ws.length)[i]? = some (hs[i]'(by omega) - gs[i]'(by omega)) := fun h => by
      rw [moreOf, List.getElem?_take, if_pos (by omega), List.getElem?_zipWith, hhx, hgx]
    generalize gs[i]'(by omega) = g at hgx hmx
    generalize hs[i]'(by omega) = h at hhx hhb he hmx
    have hpl := congrArg List.length he
    rw [List.length_drop, List.length_append] at hpl
    have he1 : (row.drop p).take w.length = w := by rw [he, List.take_left]
    have he2 : row.drop (p + w.length) = (if ws.drop (i + 1) = [] then [] else List.replicate h.toNat 32) ++ rowCodes (ws.drop (i + 1)) (hs.drop (i + 1)) := by
      rw [← List.drop_drop, he, List.drop_left]
    have hclr := rowCodes_clear (ws := ws.drop (i + 1)) (hs := hs.drop (i + 1)) (fun w hw => (hS.w.w w (List.mem_of_mem_drop hw)).1) (fun w hw => hS.clear w (List.mem_of_mem_drop hw))
    show ASs c _ [.int (i : Int), dL w] _ _
    (repeat top_args)
    rw [← Int.natCast_add]
    (repeat top_args)
    rw [Nat.add_sub_cancel_left, he1]
    refine' cmp_neL O ?_
    first | with_reducible refine' ite_both (fun h1 => ?_) (fun h1 => ?_) | with_reducible refine' ite_bothN (fun h1 => ?_) (fun h1 => ?_) | with_reducible refine' ite_bothB (fun h1 => ?_) (fun h1 => ?_)
    · exact absurd rfl h1
    (repeat top_args)
    rw [← Int.natCast_add]
    have hE1 : spn isSp row (p + w.length) ≤ row.length := spn_le (by omega)
    refine' x_whileP (fun n σ => ∃ e : Nat, p + w.length ≤ e ∧ e ≤ row.length ∧ n = row.length - e ∧ spn isSp row e = spn isSp row (p + w.length) ∧
        σ = ([("row", .val (dL row)), ("words", .val (.list (ws.map dL))), ("gaps", .val (dL gs)), ("room", .val (.int room)), ("more_here", .own true a (((moreOf hs gs ws.length).take i).map .int)), ("at", .val (.int e)), ("place", .val (.int i)), ("word", .val (dL w)), ("begin", .val (.int (p + w.length : Nat))), ("wide", .no)] : Sto)) (row.length - (p + w.length))
      (fun σ => σ = ([("row", .val (dL row)), ("words", .val (.list (ws.map dL))), ("gaps", .val (dL gs)), ("room", .val (.int room)), ("more_here", .own true a (((moreOf hs gs ws.length).take i).map .int)), ("at", .val (.int (spn isSp row (p + w.length) : Nat))), ("place", .val (.int i)), ("word", .val (dL w)), ("begin", .val (.int (p + w.length : Nat))), ("wide", .no)] : Sto))
      ⟨p + w.length, Nat.le_refl _, by omega, rfl, rfl, rfl⟩ ?_ ?_
    · rintro n σ1 ⟨e, hpe, hel, rfl, hsp, rfl⟩
      (repeat top_args)
      first | with_reducible refine' ite_both (fun h2 => ?_) (fun h2 => ?_) | with_reducible refine' ite_bothN (fun h2 => ?_) (fun h2 => ?_) | with_reducible refine' ite_bothB (fun h2 => ?_) (fun h2 => ?_)
      · have hx : row[e]? = some row[e] := List.getElem?_eq_getElem (by omega)
        (repeat top_args)
        first | with_reducible refine' ite_both (fun h3 => ?_) (fun h3 => ?_) | with_reducible refine' ite_bothN (fun h3 => ?_) (fun h3 => ?_) | with_reducible refine' ite_bothB (fun h3 => ?_) (fun h3 => ?_)
        · (repeat top_args)
          exact ⟨row.length - (e + 1), by omega, e + 1, by omega, by omega, rfl, by rw [← spn_t hx (by simp [isSp, h3])]; exact hsp, rfl⟩
        · (repeat top_args)
          rw [← hsp, spn_f hx (by simp [isSp, h3])]
      · (repeat top_args)
        rw [← hsp, spn_end (by omega)]
    rintro _ rfl
    have hspn : row.drop (spn isSp row (p + w.length)) = rowCodes (ws.drop (i + 1)) (hs.drop (i + 1)) ∧ (i + 1 < ws.length → spn isSp row (p + w.length) = p + w.length + h.toNat) := by
      have hdw := tw_append isSp (row.drop (p + w.length))
      rw [spn_drop]
      unfold spn
      rw [he2] at hdw ⊢
      by_cases hlast : ws.drop (i + 1) = []
      · rw [hlast, if_pos rfl, rowCodes]
        refine ⟨rfl, fun q => absurd hlast (drop_ne q)⟩
      · rw [if_neg hlast] at hdw ⊢
        rw [takeWhile_rep _ _ hclr] at hdw ⊢
        exact ⟨List.append_cancel_left hdw, fun _ => by rw [List.length_replicate]⟩
    generalize spn isSp row (p + w.length) = q at hE1 hspn ⊢
    (repeat top_args)
    first | with_reducible refine' ite_both (fun h4 => ?_) (fun h4 => ?_) | with_reducible refine' ite_bothN (fun h4 => ?_) (fun h4 => ?_) | with_reducible refine' ite_bothB (fun h4 => ?_) (fun h4 => ?_)
    · have hq := hspn.2 (by omega)
      (repeat top_args)
      refine' ex_app (h - g) (by rw [show ((q : Nat) : Int) - ((p + w.length : Nat) : Int) - g = h - g by omega]) (by (repeat (first | exact GetAt.zero | apply GetAt.succ))) (by rw [List.length_take]; omega) (by (repeat (first | exact SetAt.zero (by first | rfl | assumption) | apply SetAt.succ))) ?_
      (repeat top_args)
      exact hR _ ⟨q, .val _, .val _, .val _, hE1, rfl, rfl, rfl, hspn.1, by rw [List.take_add_one, hmx (by omega)]; rfl⟩
    · (repeat top_args)
      exact hR _ ⟨q, .val _, .val _, .val _, hE1, rfl, rfl, rfl, hspn.1, by rw [List.take_of_length_le (show (moreOf hs gs ws.length).length ≤ i + 1 by omega), List.take_of_length_le (show (moreOf hs gs ws.length).length ≤ i by omega)]⟩
  · rintro _ ⟨p, s1, s2, s3, hp, k1, k2, k3, he, rfl⟩
    rw [List.length_zipIdx, List.length_map, List.drop_of_length_le (Nat.le_refl _), rowCodes] at he
    rw [List.length_zipIdx, List.length_map, List.take_of_length_le (show (moreOf hs gs ws.length).length ≤ ws.length by omega)]
    have hp2 := congrArg List.length he
    rw [List.length_drop, List.length_nil] at hp2
    obtain rfl : p = row.length := by omega
    (repeat top_args)
    refine' sp_law_width hS.w hS.ne ?_
    have hwide := hS.wide
    have hso := hS.sorted
    have hnn := hS.nonneg
    have hnr := hS.near
    have hml2 : (moreOf hs gs ws.length).length < 64 := by have := hS.small; omega
    generalize lawWidth ws gs = wide at hwide ⊢
    generalize moreOf hs gs ws.length = more at hso hnn hnr hml2 ⊢
    (repeat top_args)
    first | with_reducible refine' ite_both (fun h1 => ?_) (fun h1 => ?_) | with_reducible refine' ite_bothN (fun h1 => ?_) (fun h1 => ?_) | with_reducible refine' ite_bothB (fun h1 => ?_) (fun h1 => ?_)
    · exact absurd rfl h1
    have stop : StopIf := ⟨⟩
    (repeat top_args)
    clear stop
    refine' ev_join (.int row.length) ?_ ?_
    · (repeat top_args)
      first | with_reducible refine' ite_both (fun h2 => ?_) (fun h2 => ?_) | with_reducible refine' ite_bothN (fun h2 => ?_) (fun h2 => ?_) | with_reducible refine' ite_bothB (fun h2 => ?_) (fun h2 => ?_)
      · (repeat top_args)
        first | with_reducible refine' ite_both (fun h3 => ?_) (fun h3 => ?_) | with_reducible refine' ite_bothN (fun h3 => ?_) (fun h3 => ?_) | with_reducible refine' ite_bothB (fun h3 => ?_) (fun h3 => ?_)
        · rw [if_pos ⟨by omega, h3⟩] at hwide
          (repeat top_args)
          exact ⟨by rw [hwide], rfl⟩
        · rw [if_neg (fun q => h3 q.2)] at hwide
          (repeat top_args)
          exact ⟨by rw [hwide], rfl⟩
      · rw [if_neg (fun q => h2 (by omega))] at hwide
        (repeat top_args)
        exact ⟨by rw [hwide], rfl⟩
    clear hwide
    (repeat top_args)
    first | with_reducible refine' ite_both (fun h4 => ?_) (fun h4 => ?_) | with_reducible refine' ite_bothN (fun h4 => ?_) (fun h4 => ?_) | with_reducible refine' ite_bothB (fun h4 => ?_) (fun h4 => ?_)
    · exact absurd rfl h4
    (repeat top_args)
    refine' sp_sorted hml2 hso ?_
    refine' cmp_eqL O ?_
    (repeat top_args)
    first | with_reducible refine' ite_both (fun h5 => ?_) (fun h5 => ?_) | with_reducible refine' ite_bothN (fun h5 => ?_) (fun h5 => ?_) | with_reducible refine' ite_bothB (fun h5 => ?_) (fun h5 => ?_)
    · (repeat top_args)
      first | with_reducible refine' ite_both (fun h6 => ?_) (fun h6 => ?_) | with_reducible refine' ite_bothN (fun h6 => ?_) (fun h6 => ?_) | with_reducible refine' ite_bothB (fun h6 => ?_) (fun h6 => ?_)
      · (repeat top_args)
        exact hQ
      · have hx0 : more[0]? = some (more[0]'(List.length_pos_iff.mpr h6)) := List.getElem?_eq_getElem (List.length_pos_iff.mpr h6)
        have hm0 := List.mem_of_getElem? hx0
        have hx1 : more.getLast? = some (more.getLast h6) := List.getLast?_eq_some_getLast h6
        have hm1 := List.getLast_mem h6
        have hb0 := hnn _ hm0
        have hb1 := hnr _ hm0 _ hm1
        generalize more[0]'(List.length_pos_iff.mpr h6) = m0 at hx0 hm0 hb0 hb1
        generalize more.getLast h6 = m1 at hx1 hm1 hb1
        (repeat top_args)
        first | with_reducible refine' ite_both (fun h7 => ?_) (fun h7 => ?_) | with_reducible refine' ite_bothN (fun h7 => ?_) (fun h7 => ?_) | with_reducible refine' ite_bothB (fun h7 => ?_) (fun h7 => ?_)
        · (repeat top_args)
          rw [decide_eq_true hb1]
          exact hQ
        · omega
    · exact absurd rfl h5

/-! the plain law: the text's pieces -/
noncomputable def wordOk (w : List Int) : Prop := w ≠ [] ∧ ∀ x ∈ w, isBlank x = false
noncomputable def blankOk (b : List Int) : Prop := b ≠ [] ∧ ∀ x ∈ b, isBlank x = true
theorem takeWhile_app {p : Int → Bool} : ∀ {a b : List Int}, (∀ x ∈ a, p x = true) → b.takeWhile p = [] → (a ++ b).takeWhile p = a
  | [], b, _, h => h
  | x :: a, b, h1, h2 => by
    rw [List.cons_append, List.takeWhile_cons, if_pos (h1 x List.mem_cons_self), takeWhile_app (fun y hy => h1 y (List.mem_cons_of_mem _ hy)) h2]
theorem dropWhile_app {p : Int → Bool} : ∀ {a b : List Int}, (∀ x ∈ a, p x = true) → b.takeWhile p = [] → (a ++ b).dropWhile p = b
  | [], b, _, h => by
    have := tw_append p b
    rw [h, List.nil_append] at this
    exact this
  | x :: a, b, h1, h2 => by
    rw [List.cons_append, List.dropWhile_cons, if_pos (h1 x List.mem_cons_self), dropWhile_app (fun y hy => h1 y (List.mem_cons_of_mem _ hy)) h2]
theorem takeWhile_nil {p : Int → Bool} {a b : List Int} (h : a ≠ []) (h1 : ∀ x ∈ a, p x = false) : (a ++ b).takeWhile p = [] := by
  obtain ⟨x, r, rfl⟩ := List.exists_cons_of_ne_nil h
  rw [List.cons_append, List.takeWhile_cons, if_neg (by rw [h1 x List.mem_cons_self]; exact Bool.false_ne_true)]
noncomputable def flat (qs : List Part) : List Int := qs.flatMap fun q => q.1 ++ q.2
noncomputable def piecesBy (qs : List Part) : List Piece := qs.map fun q => (q.1, gapOf q.1 q.2)
noncomputable def QOk (qs : List Part) : Prop := ∀ q ∈ qs, wordOk q.1 ∧ blankOk q.2
theorem flat_word {qs : List Part} (h : QOk qs) : (flat qs).takeWhile isBlank = [] := by
  cases qs with
  | nil => rfl
  | cons q r =>
    have hq := (h q List.mem_cons_self).1
    show ((q.1 ++ q.2) ++ flat r).takeWhile isBlank = []
    rw [List.append_assoc]
    exact takeWhile_nil hq.1 hq.2
theorem pieces_flat : ∀ (qs : List Part), QOk qs → piecesGo (flat qs) = piecesBy qs
  | [], _ => by
    show piecesGo [] = []
    rw [piecesGo]
  | q :: r, h => by
    have hq := h q List.mem_cons_self
    have hr : QOk r := fun p hp => h p (List.mem_cons_of_mem _ hp)
    have e : flat (q :: r) = q.1 ++ (q.2 ++ flat r) := by
      show (q.1 ++ q.2) ++ flat r = _
      rw [List.append_assoc]
    have h1 : (q.2 ++ flat r).takeWhile nb = [] := takeWhile_nil hq.2.1 fun x hx => by simp [nb, hq.2.2 x hx]
    have h2 : ∀ x ∈ q.1, nb x = true := fun x hx => by simp [nb, hq.1.2 x hx]
    obtain ⟨x, s, hx⟩ : ∃ x s, flat (q :: r) = x :: s := by
      obtain ⟨x, s, hs⟩ := List.exists_cons_of_ne_nil hq.1.1
      exact ⟨x, s ++ (q.2 ++ flat r), by rw [e, hs]; rfl⟩
    rw [hx, piecesGo, ← hx, e, takeWhile_app h2 h1, dropWhile_app h2 h1, takeWhile_app hq.2.2 (flat_word hr), dropWhile_app hq.2.2 (flat_word hr), pieces_flat r hr]
    rfl
theorem piecesOf_flat {qs : List Part} (h : QOk qs) {b : List Int} (hb : ∀ x ∈ b, isBlank x = true) : piecesOf (b ++ flat qs) = piecesBy qs := by
  rw [piecesOf, dropWhile_app hb (flat_word h), pieces_flat _ h]
noncomputable def partsOk (qs : List Part) : Prop := ∀ q ∈ qs, q.1 ∈ theWords ∧ q.2 ∈ theGaps
theorem words_ok : ∀ w ∈ theWords, wordOk w ∧ w.length ≤ 5 ∧ (32 : Int) ∉ w := by
  unfold wordOk
  decide
theorem gaps_ok : ∀ b ∈ theGaps, blankOk b ∧ b.length ≤ 3 := by
  unfold blankOk
  decide
theorem gap_law : ∀ w ∈ theWords, ∀ b ∈ theGaps, gapOf w b = lawGap w b := by decide
theorem partsOk.q {qs : List Part} (h : partsOk qs) : QOk qs := fun q hq => ⟨(words_ok _ (h q hq).1).1, (gaps_ok _ (h q hq).2).1⟩

/-! the plain law: the rows -/
noncomputable def GOk (ps : List Piece) : Prop := ∀ p ∈ ps, p.1 ≠ [] ∧ (p.2 = 1 ∨ p.2 = 2)
abbrev wsOf (ps : List Piece) : List (List Int) := ps.map (·.1)
abbrev gsOf (ps : List Piece) : List Int := ps.map (·.2)
theorem GOk.drop {ps : List Piece} (h : GOk ps) (k : Nat) : GOk (ps.drop k) := fun p hp => h p (List.mem_of_mem_drop hp)
theorem GOk.take {ps : List Piece} (h : GOk ps) (k : Nat) : GOk (ps.take k) := fun p hp => h p (List.mem_of_mem_take hp)
theorem sumW_append (a b : List Piece) : sumW (a ++ b) = sumW a + sumW b := by simp [sumW]
theorem sumW_take {ps : List Piece} {n : Nat} {p : Piece} (h : ps[n]? = some p) : sumW (ps.take (n + 1)) = sumW (ps.take n) + p.1.length + p.2 := by
  rw [List.take_add_one, h, Option.toList_some, sumW_append]
  simp [sumW]
  omega
theorem sumW_split (l : List Piece) : (l.map fun p => (p.1.length : Int)).sum + (gsOf l).sum = sumW l := by
  induction l with
  | nil => rfl
  | cons p r ih =>
    simp only [sumW, gsOf, List.map_cons, List.sum_cons] at ih ⊢
    omega
theorem wd_succ {ps : List Piece} {n : Nat} {p : Piece} (h : ps[n]? = some p) : lawWidth ((wsOf ps).take (n + 1)) ((gsOf ps).take (n + 1)) = sumW (ps.take n) + p.1.length := by
  have hn : n < ps.length := (List.getElem?_eq_some_iff.mp h).1
  have e1 : ((wsOf ps).take (n + 1)).length = n + 1 := by rw [List.length_take, List.length_map]; omega
  rw [lawWidth, e1, Nat.add_sub_cancel, List.take_take, Nat.min_eq_left (Nat.le_succ n), ← List.map_take, List.map_map, List.take_add_one, h, Option.toList_some, ← List.map_take, ← sumW_split]
  simp [Function.comp_def]
  omega
theorem sumW_mono {ps : List Piece} (hg : GOk ps) : ∀ {m n : Nat}, n ≤ m → sumW (ps.take n) ≤ sumW (ps.take m) := by
  intro m n h
  induction m with
  | zero => rw [show n = 0 by omega]; exact Int.le_refl _
  | succ m ih =>
    rcases Nat.lt_or_ge n (m + 1) with h1 | h1
    · have := ih (by omega)
      cases hx : ps[m]? with
      | none =>
        rw [List.take_of_length_le (show ps.length ≤ m + 1 by have := List.getElem?_eq_none_iff.mp hx; omega)]
        rw [List.take_of_length_le (show ps.length ≤ m from List.getElem?_eq_none_iff.mp hx)] at this
        exact this
      | some p =>
        rw [sumW_take hx]
        have := (hg p (List.mem_of_getElem? hx)).2
        omega
    · rw [show n = m + 1 by omega]; exact Int.le_refl _
theorem wd_mono {ps : List Piece} (hg : GOk ps) {n m : Nat} {p : Piece} (h : ps[n]? = some p) (h1 : n + 1 ≤ m) (h2 : m ≤ ps.length) : sumW (ps.take n) + p.1.length ≤ lawWidth ((wsOf ps).take m) ((gsOf ps).take m) := by
  obtain ⟨j, rfl⟩ : ∃ j, m = j + 1 := ⟨m - 1, by omega⟩
  have hx : ps[j]? = some (ps[j]'(by omega)) := List.getElem?_eq_getElem (by omega)
  rw [wd_succ hx]
  rcases Nat.lt_or_ge n j with h3 | h3
  · have := sumW_mono hg (m := j) (n := n + 1) (by omega)
    rw [sumW_take h] at this
    have := (hg p (List.mem_of_getElem? h)).2
    omega
  · obtain rfl : n = j := by omega
    rw [hx] at h
    cases h
    exact Int.le_refl _
theorem brk_piece {p : Piece} {r : List Piece} (hp : p.2 = 1 ∨ p.2 = 2) : brk (wsOf (p :: r)) (gsOf (p :: r)) = if r = [] ∨ mayBreak p = true then 1 else 1 + brk (wsOf r) (gsOf r) := by
  rw [wsOf, gsOf, List.map_cons, List.map_cons, brk, List.headD_cons, List.tail_cons]
  by_cases hr : r = []
  · subst hr
    simp
  · have hm : mayBreak p = true ↔ ¬ (p.1.getLast? = some 46 ∧ p.2 = 1) := by
      unfold mayBreak
      rcases hp with h | h <;> by_cases h2 : p.1.getLast? = some 46 <;> simp [h, h2]
    by_cases h : p.1.getLast? = some 46 ∧ p.2 = 1
    · rw [if_pos ⟨by simpa using hr, h⟩, if_neg (fun q => q.elim hr fun q => hm.mp q h)]
    · rw [if_neg (fun q => h q.2), if_pos (.inr (hm.mpr h))]
theorem brk_at {ps : List Piece} (hg : GOk ps) {n : Nat} {p : Piece} (h : ps[n]? = some p) : brk ((wsOf ps).drop n) ((gsOf ps).drop n) = if ps.drop (n + 1) = [] ∨ mayBreak p = true then 1 else 1 + brk ((wsOf ps).drop (n + 1)) ((gsOf ps).drop (n + 1)) := by
  rw [← List.map_drop, ← List.map_drop, drop_at h]
  rw [brk_piece (hg p (List.mem_of_getElem? h)).2]
  simp only [wsOf, gsOf, List.map_drop]
theorem rowGo_grow {ps : List Piece} (hg : GOk ps) (width : Int) : ∀ (m n best : Nat), ps.length - n ≤ m → n ≤ ps.length → 1 ≤ best → best ≤ n → (n < ps.length → best + brk ((wsOf ps).drop best) ((gsOf ps).drop best) = n + brk ((wsOf ps).drop n) ((gsOf ps).drop n)) → (n = ps.length → best = n) →
    rowGo width (sumW (ps.take n)) best n (ps.drop n) = grow width (wsOf ps) (gsOf ps) best := by
  intro m
  induction m with
  | zero =>
    intro n best h hn hb hbn _ h2
    have e := h2 (by omega)
    rw [List.drop_of_length_le (by omega), rowGo, grow_end (by rw [List.length_map]; omega), e]
  | succ m ih =>
    intro n best h hn hb hbn h1 h2
    rcases Nat.lt_or_ge n ps.length with hlt | hge
    · have hx : ps[n]? = some ps[n] := List.getElem?_eq_getElem hlt
      have hk := h1 hlt
      have hle := brk_le ((wsOf ps).drop n) ((gsOf ps).drop n)
      have hpos : 1 ≤ brk ((wsOf ps).drop n) ((gsOf ps).drop n) := brk_pos (drop_ne (by rw [List.length_map]; omega))
      rw [List.length_drop, List.length_map] at hle
      have hmono := wd_mono hg hx (m := n + brk ((wsOf ps).drop n) ((gsOf ps).drop n)) (by omega) (by omega)
      have hbr := brk_at hg hx
      have hsx := sumW_take hx
      have hwd := wd_succ hx
      have hbl : best < (wsOf ps).length := by rw [List.length_map]; omega
      rw [drop_at hx, rowGo]
      generalize ps[n] = p at hx hmono hbr hsx hwd ⊢
      by_cases hw : width < sumW (ps.take n) + p.1.length
      · rw [if_pos ⟨hw, by omega⟩, grow_stop hbl (by rw [hk]; omega)]
      · rw [if_neg (fun q => hw q.1)]
        by_cases hc : ps.drop (n + 1) = [] ∨ mayBreak p = true
        · rw [if_pos hc, if_neg hw, ← hsx]
          rw [if_pos hc] at hbr
          rw [hbr] at hk
          rw [grow_go hbl (by rw [hk, hwd]; exact hw), hk]
          exact ih (n + 1) (n + 1) (by omega) (by omega) (by omega) (Nat.le_refl _) (fun _ => rfl) (fun _ => rfl)
        · rw [if_neg hc, ← hsx]
          rw [if_neg hc] at hbr
          have hlt2 : n + 1 < ps.length := by
            refine Nat.lt_of_not_le fun q => hc (.inl (List.drop_of_length_le (by omega)))
          exact ih (n + 1) best (by omega) (by omega) hb (by omega) (fun _ => by omega) (fun q => by omega)
    · have e := h2 (by omega)
      rw [List.drop_of_length_le (by omega), rowGo, grow_end (by rw [List.length_map]; omega), e]
theorem rowGo_grow0 {ps : List Piece} (hg : GOk ps) (width : Int) : ∀ (m n : Nat), ps.length - n ≤ m → n < ps.length →
    rowGo width (sumW (ps.take n)) 0 n (ps.drop n) = grow width (wsOf ps) (gsOf ps) (n + brk ((wsOf ps).drop n) ((gsOf ps).drop n)) := by
  intro m
  induction m with
  | zero => intro n h hn; omega
  | succ m ih =>
    intro n h hlt
    have hx : ps[n]? = some ps[n] := List.getElem?_eq_getElem hlt
    have hbr := brk_at hg hx
    have hsx := sumW_take hx
    rw [drop_at hx, rowGo, if_neg (fun q => Nat.lt_irrefl _ q.2)]
    by_cases hc : ps.drop (n + 1) = [] ∨ mayBreak ps[n] = true
    · rw [if_pos hc] at hbr
      rw [if_pos hc, hbr]
      by_cases hw : width < sumW (ps.take n) + ps[n].1.length
      · rw [if_pos hw]
        rcases Nat.lt_or_ge (n + 1) ps.length with hl | hl
        · have hle := brk_le ((wsOf ps).drop (n + 1)) ((gsOf ps).drop (n + 1))
          rw [List.length_drop, List.length_map] at hle
          have := wd_mono hg hx (m := n + 1 + brk ((wsOf ps).drop (n + 1)) ((gsOf ps).drop (n + 1))) (by omega) (by omega)
          rw [grow_stop (by rw [List.length_map]; exact hl) (by omega)]
        · rw [grow_end (by rw [List.length_map]; omega)]
      · rw [if_neg hw, ← hsx]
        exact rowGo_grow hg width _ (n + 1) (n + 1) (Nat.le_refl _) (by omega) (by omega) (Nat.le_refl _) (fun _ => rfl) (fun _ => rfl)
    · rw [if_neg hc] at hbr
      have hlt2 : n + 1 < ps.length := Nat.lt_of_not_le fun q => hc (.inl (List.drop_of_length_le (by omega)))
      rw [if_neg hc, ← hsx, ih (n + 1) (by omega) hlt2, hbr]
      congr 1
      omega
theorem rowGo_eq {ps : List Piece} (hg : GOk ps) (hne : ps ≠ []) (width : Int) : rowGo width 0 0 0 ps = grow width (wsOf ps) (gsOf ps) (brk (wsOf ps) (gsOf ps)) := by
  have := rowGo_grow0 hg width _ 0 (Nat.le_refl _) (List.length_pos_iff.mpr hne)
  simpa [sumW] using this
noncomputable def cutE (ps : List Piece) (e : Nat × Nat) : List Piece := (ps.drop e.1).take (e.2 - e.1)
theorem growAt_eq {ps : List Piece} (hg : GOk ps) {k : Nat} (hk : k < ps.length) (width : Int) : growAt width (wsOf ps) (gsOf ps) k = k + rowGo width 0 0 0 (ps.drop k) := by
  rw [growAt, rowGo_eq (hg.drop k) (drop_ne hk), ← List.map_drop, ← List.map_drop]
theorem lawRows_eq {ps : List Piece} (hg : GOk ps) : ∀ (m k : Nat) (fr r : Int), ps.length - k ≤ m → (lawRows fr r (wsOf ps) (gsOf ps) k).map (cutE ps) = rowsGo fr r (ps.drop k) := by
  intro m
  induction m with
  | zero =>
    intro k fr r h
    rw [lawRows, dif_neg (by rw [List.length_map]; omega), List.drop_of_length_le (by omega), rowsGo_nil]
    rfl
  | succ m ih =>
    intro k fr r h
    rcases Nat.lt_or_ge k ps.length with hlt | hge
    · have h1 := growAt_eq hg hlt fr
      have h2 := rowGo_pos fr (ps.drop k) 0 0 0 (.inl (drop_ne hlt))
      rw [lawRows, dif_pos (by rw [List.length_map]; exact hlt), rowsGo_cons (drop_ne hlt), List.map_cons, ih _ r r (by omega), h1, cutE, Nat.add_sub_cancel_left, List.drop_drop]
    · rw [lawRows, dif_neg (by rw [List.length_map]; omega), List.drop_of_length_le (by omega), rowsGo_nil]
      rfl
theorem lawRows_mem {ws : List (List Int)} {gs : List Int} : ∀ (m k : Nat) (fr r : Int), ws.length - k ≤ m → ∀ e ∈ lawRows fr r ws gs k, k ≤ e.1 ∧ e.1 < e.2 ∧ e.2 ≤ ws.length := by
  intro m
  induction m with
  | zero =>
    intro k fr r h e he
    rw [lawRows, dif_neg (by omega)] at he
    cases he
  | succ m ih =>
    intro k fr r h e he
    rcases Nat.lt_or_ge k ws.length with hlt | hge
    · have h1 := growAt_gt (own := fr) (gs := gs) hlt
      rw [lawRows, dif_pos hlt] at he
      rcases List.mem_cons.mp he with rfl | he
      · exact ⟨Nat.le_refl _, h1⟩
      · have := ih _ r r (by omega) e he
        exact ⟨by omega, this.2⟩
    · rw [lawRows, dif_neg (by omega)] at he
      cases he

/-! the plain law: one row -/
theorem rowCodes_wide : ∀ (ws : List (List Int)) (hs : List Int), ws.length ≤ hs.length → (∀ h ∈ hs, 0 ≤ h) → ((rowCodes ws hs).length : Int) = lawWidth ws hs
  | [], hs, _, _ => by simp [rowCodes, lawWidth]
  | [w], hs, _, _ => by simp [rowCodes, lawWidth]
  | w :: w2 :: ws, [], h, _ => by simp at h
  | w :: w2 :: ws, h :: hs, hl, hh => by
    have i := rowCodes_wide (w2 :: ws) hs (by simpa using hl) fun x hx => hh x (List.mem_cons_of_mem _ hx)
    have h0 := hh h List.mem_cons_self
    rw [rowCodes, if_neg (List.cons_ne_nil _ _), List.headD_cons, List.tail_cons, List.length_append, List.length_append, List.length_replicate]
    simp only [lawWidth, List.map_cons, List.sum_cons, List.length_cons, Nat.add_sub_cancel, List.take_succ_cons] at i ⊢
    omega
theorem rowWidth_eq {R : List Piece} (hne : R ≠ []) : rowWidth R = lawWidth (wsOf R) (gsOf R) := by
  obtain ⟨n, hn⟩ : ∃ n, R.length = n + 1 := ⟨R.length - 1, by have := List.length_pos_iff.mpr hne; omega⟩
  have hx : R[n]? = some (R[n]'(by omega)) := List.getElem?_eq_getElem (by omega)
  have hl : R.getLast? = some (R[n]'(by omega)) := by rw [List.getLast?_eq_getElem?, show R.length - 1 = n by omega, hx]
  have h1 := wd_succ hx
  have h2 := sumW_take hx
  rw [List.take_of_length_le (show R.length ≤ n + 1 by omega)] at h2
  rw [List.take_of_length_le (show (wsOf R).length ≤ n + 1 by rw [List.length_map]; omega), List.take_of_length_le (show (gsOf R).length ≤ n + 1 by rw [List.length_map]; omega)] at h1
  rw [rowWidth, hl, h1]
  show sumW R - _ = _
  omega
theorem sum_spread (g : Nat → Int) (each a : Int) (ha : 0 ≤ a) : ∀ k : Nat, ((List.range k).map fun p => g p + each + (if a ≤ (p : Int) then 1 else 0)).sum = ((List.range k).map g).sum + k * each + (if a ≤ k then k - a else 0)
  | 0 => by
    simp only [List.range_zero, List.map_nil, List.sum_nil]
    split <;> omega
  | k + 1 => by
    have ih := sum_spread g each a ha k
    have e : ((k + 1 : Nat) : Int) * each = k * each + each := by rw [Int.natCast_succ, Int.add_mul, Int.one_mul]
    rw [List.range_succ, List.map_append, List.sum_append, ih, List.map_append, List.sum_append, e]
    simp only [List.map_cons, List.map_nil, List.sum_cons, List.sum_nil]
    split <;> split <;> omega
theorem range_getD (l : List Int) (m : Nat) (h : m ≤ l.length) : (List.range m).map (fun p => l.getD p 0) = l.take m := by
  refine List.ext_getElem? fun i => ?_
  rw [List.getElem?_map, List.getElem?_take]
  rcases Nat.lt_or_ge i m with hi | hi
  · rw [if_pos hi, List.getElem?_range hi, Option.map_some, List.getD_eq_getElem?_getD, List.getElem?_eq_getElem (by omega)]
    rfl
  · rw [if_neg (by omega), List.getElem?_eq_none (by rw [List.length_range]; omega)]
    rfl
theorem fdiv_left {x : Int} {m : Nat} (hm : 1 ≤ m) : 0 ≤ x - x.fdiv m * m ∧ x - x.fdiv m * m < m := by
  rw [Int.fdiv_eq_ediv_of_nonneg _ (Int.natCast_nonneg m)]
  have h1 := Int.emod_nonneg x (show (m : Int) ≠ 0 by omega)
  have h2 := Int.emod_lt_of_pos x (show (0 : Int) < m by omega)
  have h3 := Int.emod_add_mul_ediv x m
  rw [Int.mul_comm] at h3
  omega
theorem pairwise_range {f : Nat → Int} (hf : ∀ i j, i < j → f i ≤ f j) (n : Nat) : ((List.range n).map f).Pairwise (· ≤ ·) :=
  List.pairwise_map.mpr (List.pairwise_lt_range.imp fun h => hf _ _ h)
theorem more_spread (G : List Int) (n : Nat) (hG : G.length = n + 1) (each a : Int) :
    moreOf (((List.range n).map fun p => G.getD p 0 + each + (if a ≤ (p : Int) then 1 else 0)) ++ G.drop n) G (n + 1) = (List.range n).map fun p : Nat => each + (if a ≤ (p : Int) then 1 else 0) := by
  rw [moreOf, Nat.add_sub_cancel]
  refine List.ext_getElem? fun i => ?_
  rw [List.getElem?_take]
  rcases Nat.lt_or_ge i n with hi | hi
  · have hgx : G[i]? = some (G[i]'(by omega)) := List.getElem?_eq_getElem (by omega)
    rw [if_pos hi, List.getElem?_zipWith, List.getElem?_append_left (by rw [List.length_map, List.length_range]; exact hi), List.getElem?_map, List.getElem?_map, List.getElem?_range hi, hgx]
    simp only [Option.map_some, List.getD_eq_getElem?_getD, hgx, Option.getD_some]
    congr 1
    omega
  · rw [if_neg (by omega), List.getElem?_eq_none (by rw [List.length_map, List.length_range]; omega)]
theorem spread_ok {R : List Piece} (hR : ROk R) (hne : R ≠ []) (h60 : R.length ≤ 60) (hc : ∀ w ∈ wsOf R, (32 : Int) ∉ w) {width : Int} (hw : width ≤ 100) : SOk (rowCodes (wsOf R) (spreadGaps R width)) (wsOf R) (gsOf R) width (spreadGaps R width) := by
  have hs := hR.spread hw
  have hwok : WOk (wsOf R) (gsOf R) := ⟨by rw [List.length_map]; omega, by rw [List.length_map, List.length_map], fun w hw => by
    obtain ⟨p, hp, rfl⟩ := List.mem_map.mp hw
    exact hR.p.2 p hp⟩
  have hrow := rowCodes_wide (wsOf R) (spreadGaps R width) (by rw [List.length_map, hs.2]; exact Nat.le_refl _) (fun h hh => (hs.1 h hh).1)
  obtain ⟨n, hn⟩ : ∃ n, R.length = n + 1 := ⟨R.length - 1, by have := List.length_pos_iff.mpr hne; omega⟩
  have hwl : (wsOf R).length = n + 1 := by rw [List.length_map, hn]
  have hgl : (gsOf R).length = n + 1 := by rw [List.length_map, hn]
  have key : lawWidth (wsOf R) (spreadGaps R width) = (if 1 < (wsOf R).length ∧ lawWidth (wsOf R) (gsOf R) < width then width else lawWidth (wsOf R) (gsOf R)) ∧
      (moreOf (spreadGaps R width) (gsOf R) (wsOf R).length).Pairwise (· ≤ ·) ∧ ∃ e : Int, 0 ≤ e ∧ ∀ x ∈ moreOf (spreadGaps R width) (gsOf R) (wsOf R).length, x = e ∨ x = e + 1 := by
    have hrw := rowWidth_eq hne
    simp only [spreadGaps]
    rw [hrw, hn]
    by_cases hcase : ((n + 1 : Nat) : Int) - 1 < 1 ∨ width - lawWidth (wsOf R) (gsOf R) ≤ 0
    · rw [if_pos hcase, show ownGaps R = gsOf R from rfl, if_neg (fun q => by rw [hwl] at q; omega)]
      have hz : ∀ x ∈ moreOf (gsOf R) (gsOf R) (wsOf R).length, x = 0 := fun x hx => by
        have hx := List.mem_of_mem_take hx
        rw [List.zipWith_self] at hx
        obtain ⟨y, _, rfl⟩ := List.mem_map.mp hx
        omega
      refine ⟨rfl, ?_, 0, Int.le_refl _, fun x hx => .inl (hz x hx)⟩
      exact List.Pairwise.imp_of_mem (R := fun _ _ => True) (fun ha hb _ => by rw [hz _ ha, hz _ hb]; exact Int.le_refl _) (List.pairwise_of_forall fun _ _ => trivial)
    · rw [if_neg hcase, if_pos ⟨by rw [hwl]; omega, by omega⟩, show ownGaps R = gsOf R from rfl, Nat.add_sub_cancel, show ((n + 1 : Nat) : Int) - 1 = (n : Int) by omega]
      have hn1 : 1 ≤ n := by omega
      have hleft := fdiv_left (x := width - lawWidth (wsOf R) (gsOf R)) hn1
      have hdiv := fdiv_le (a := width - lawWidth (wsOf R) (gsOf R)) (b := n) (by omega) (by omega)
      generalize hm : width - lawWidth (wsOf R) (gsOf R) = more at hleft hdiv hcase ⊢
      generalize he : more.fdiv n = each at hleft hdiv ⊢
      have hlen : ((List.range n).map fun p => (gsOf R).getD p 0 + each + (if (n : Int) - (more - each * n) ≤ (p : Int) then 1 else 0)).length = n := by rw [List.length_map, List.length_range]
      refine ⟨?_, ?_⟩
      · have hsum := sum_spread (fun p => (gsOf R).getD p 0) each (n - (more - each * n)) (by omega) n
        rw [range_getD _ _ (by omega), if_pos (by omega)] at hsum
        have hcm : (n : Int) * each = each * n := Int.mul_comm _ _
        simp only [lawWidth, hwl, Nat.add_sub_cancel] at hm ⊢
        rw [List.take_left' hlen, hsum]
        omega
      · have hmo := more_spread (gsOf R) n hgl each (n - (more - each * n))
        rw [← hwl] at hmo
        rw [hmo]
        refine ⟨pairwise_range (fun i j hij => ?_) n, each, hdiv.1, fun x hx => ?_⟩
        · split <;> split <;> omega
        · obtain ⟨p, _, rfl⟩ := List.mem_map.mp hx
          split <;> omega
  obtain ⟨k1, k2, e, k3, k4⟩ := key
  refine ⟨hwok, by simpa using hne, rfl, by rw [hs.2, List.length_map], by rw [List.length_map]; exact h60, hs.1, hc, by rw [hrow, k1], k2, fun x hx => ?_, fun x hx y hy => ?_⟩
  · have := k4 x hx; omega
  · have := k4 x hx; have := k4 y hy; omega
noncomputable def ways : List Str := ["left", "full", "right", "center"]
noncomputable def padOf (way : Str) (pad : Int) : Int := if (way == "right") = true then pad else if (way == "center") = true then pad.fdiv 2 else 0
theorem placed_plain {R : List Piece} {width : Int} {way : Str} {last : Bool} (hway : way ∈ ways) (h : ¬ ((way == "full") = true ∧ last = false)) :
    placedRow R width way last = List.replicate (padOf way (if 0 < width - (rowCodes (wsOf R) (gsOf R)).length then width - (rowCodes (wsOf R) (gsOf R)).length else 0)).toNat 32 ++ rowCodes (wsOf R) (gsOf R) := by
  unfold placedRow padOf
  rw [if_neg h, show ownGaps R = gsOf R from rfl]
  generalize width - ((rowCodes (wsOf R) (gsOf R)).length : Int) = room
  simp only [ways, List.mem_cons, List.not_mem_nil, or_false] at hway
  by_cases hr : 0 < room
  · rw [if_pos hr]
    rcases hway with rfl | rfl | rfl | rfl
    · rw [if_pos (.inr (.inl (by decide))), if_neg (by decide), if_neg (by decide)]; rfl
    · rw [if_pos (.inr (.inr (by decide))), if_neg (by decide), if_neg (by decide)]; rfl
    · rw [if_neg (fun q => by rcases q with q | q | q; omega; exact absurd q (by decide); exact absurd q (by decide)), if_pos (by decide), if_pos (by decide)]
    · rw [if_neg (fun q => by rcases q with q | q | q; omega; exact absurd q (by decide); exact absurd q (by decide)), if_neg (by decide), if_neg (by decide), if_pos (by decide)]
  · rw [if_neg hr, if_pos (.inl (by omega))]
    split
    · rfl
    · split <;> rfl

/-! the plain law: what is filled and read anew -/
noncomputable def up1 (p : Piece) : Piece := (p.1, if endsS p.1 = true then 2 else 1)
noncomputable def up : List Piece → List Piece
  | [] => []
  | p :: r => if r = [] then [up1 p] else p :: up r
noncomputable def QG (p : Piece) : Prop := p.2 = 1 ∨ (p.2 = 2 ∧ endsS p.1 = true)
theorem up1_ge {p : Piece} (h : QG p) : p.2 ≤ (up1 p).2 := by
  unfold up1
  rcases h with h | ⟨h, h2⟩
  · split <;> simp [h]
  · rw [if_pos h2, h]; exact Int.le_refl 2
theorem up1_break {p : Piece} (h : QG p) (hb : mayBreak p = true) : mayBreak (up1 p) = true := by
  unfold mayBreak at hb ⊢
  rcases h with h | ⟨h, h2⟩
  · rw [h] at hb
    simp only [Bool.or_eq_true, decide_eq_true_eq] at hb ⊢
    rcases hb with hb | hb
    · exact absurd hb (by decide)
    · exact .inr hb
  · simp [up1, h2]
theorem up_len : ∀ (r : List Piece), (up r).length = r.length
  | [] => rfl
  | p :: r => by
    rw [up]
    split
    · rename_i h; subst h; rfl
    · rw [List.length_cons, up_len r, List.length_cons]
inductive Sim : List Piece → List Piece → Prop
  | nil : Sim [] []
  | cons {p p' : Piece} {r r' : List Piece} (hw : p'.1 = p.1) (hg : p.2 ≤ p'.2) (hb : (r' = [] ∨ mayBreak p' = true) ↔ (r = [] ∨ mayBreak p = true)) (hr : Sim r r') : Sim (p :: r) (p' :: r')
theorem Sim.nil_iff {l l' : List Piece} (h : Sim l l') : l' = [] ↔ l = [] := by cases h <;> simp
theorem rowGo_ge (width : Int) : ∀ (l : List Piece) (used : Int) (best n : Nat), best ≤ n → best ≤ rowGo width used best n l
  | [], _, _, _, h => h
  | p :: r, used, best, n, h => by
    rw [rowGo]
    split
    · exact Nat.le_refl _
    · split
      · split
        · omega
        · have := rowGo_ge width r (used + p.1.length + p.2) (n + 1) (n + 1) (Nat.le_refl _); omega
      · exact rowGo_ge width r _ _ _ (by omega)
theorem rowGo_jump (width : Int) : ∀ (l : List Piece) (used : Int) (best n : Nat), best ≤ n → l ≠ [] → rowGo width used best n l = best ∨ n + 1 ≤ rowGo width used best n l
  | [], _, _, _, _, h => absurd rfl h
  | p :: r, used, best, n, h, _ => by
    rw [rowGo]
    split
    · exact .inl rfl
    · split
      · split
        · exact .inr (Nat.le_refl _)
        · exact .inr (rowGo_ge width r _ (n + 1) (n + 1) (Nat.le_refl _))
      · rename_i hb
        rcases rowGo_jump width r (used + p.1.length + p.2) best (n + 1) (by omega) (fun q => hb (.inl q)) with h1 | h1
        · exact .inl h1
        · exact .inr (by omega)
theorem sim_stay (width : Int) : ∀ {l l' : List Piece}, Sim l l' → ∀ (used used' : Int) (best n : Nat), used ≤ used' → 0 < best → best ≤ n → rowGo width used best n l = best → rowGo width used' best n l' = best
  | _, _, .nil, _, _, _, _, _, _, _, h => h
  | _, _, .cons (p := p) (p' := p') (r := r) (r' := r') hw hg hb hr, used, used', best, n, hu, h0, hbn, h => by
    rw [rowGo] at h ⊢
    rw [hw]
    by_cases h1 : width < used' + p.1.length
    · rw [if_pos ⟨h1, h0⟩]
    · rw [if_neg (fun q => h1 q.1)]
      rw [if_neg (fun q => h1 (by have := q.1; omega))] at h
      by_cases h2 : r = [] ∨ mayBreak p = true
      · rw [if_pos h2, if_neg (fun q => h1 (by omega))] at h
        have := rowGo_ge width r (used + p.1.length + p.2) (n + 1) (n + 1) (Nat.le_refl _)
        omega
      · rw [if_neg h2] at h
        rw [if_neg (fun q => h2 (hb.mp q))]
        exact sim_stay width hr _ _ best (n + 1) (by omega) h0 (by omega) h
theorem row_same (width : Int) {rest rest' : List Piece} (hs : Sim rest rest') : ∀ (R : List Piece) (used : Int) (best n : Nat), (∀ p ∈ R, QG p) → R ≠ [] → best ≤ n → rowGo width used best n (R ++ rest) = n + R.length → rowGo width used best n (up R ++ rest') = n + R.length
  | [], _, _, _, _, h, _, _ => absurd rfl h
  | [p], used, best, n, hq, _, hbn, h => by
    have hqp := hq p List.mem_cons_self
    simp only [List.singleton_append, List.length_singleton, rowGo, up, if_true] at h ⊢
    show (if width < used + p.1.length ∧ 0 < best then best else if rest' = [] ∨ mayBreak (up1 p) = true then (if width < used + p.1.length then n + 1 else rowGo width (used + p.1.length + (up1 p).2) (n + 1) (n + 1) rest') else rowGo width (used + p.1.length + (up1 p).2) best (n + 1) rest') = n + 1
    by_cases h1 : width < used + p.1.length ∧ 0 < best
    · rw [if_pos h1] at h; omega
    rw [if_neg h1] at h ⊢
    by_cases h2 : rest = [] ∨ mayBreak p = true
    · rw [if_pos h2] at h
      rw [if_pos (h2.elim (fun q => .inl (hs.nil_iff.mpr q)) fun q => .inr (up1_break hqp q))]
      by_cases h3 : width < used + p.1.length
      · rw [if_pos h3]
      · rw [if_neg h3] at h ⊢
        exact sim_stay width hs _ _ (n + 1) (n + 1) (by have := up1_ge hqp; omega) (by omega) (Nat.le_refl _) h
    · rw [if_neg h2] at h
      rcases rowGo_jump width rest (used + p.1.length + p.2) best (n + 1) (by omega) (fun q => h2 (.inl q)) with h4 | h4 <;> omega
  | p :: q :: R, used, best, n, hq, _, hbn, h => by
    have ih := fun used best n => row_same width hs (q :: R) used best n (fun x hx => hq x (List.mem_cons_of_mem _ hx)) (List.cons_ne_nil _ _)
    have hu : up (p :: q :: R) = p :: up (q :: R) := by rw [up, if_neg (List.cons_ne_nil _ _)]
    have hne : up (q :: R) ++ rest' ≠ [] := fun e => by
      have := congrArg List.length e
      rw [List.length_append, up_len, List.length_cons, List.length_nil] at this
      omega
    rw [hu, List.cons_append, rowGo]
    rw [List.cons_append, rowGo] at h
    rw [List.length_cons] at h ⊢
    by_cases h1 : width < used + p.1.length ∧ 0 < best
    · rw [if_pos h1] at h; omega
    rw [if_neg h1] at h ⊢
    have e2 : ∀ (a b : List Piece), a ≠ [] → b ≠ [] → ((a = [] ∨ mayBreak p = true) ↔ (b = [] ∨ mayBreak p = true)) := fun a b ha hb => by simp [ha, hb]
    by_cases h2 : (q :: R) ++ rest = [] ∨ mayBreak p = true
    · rw [if_pos h2] at h
      rw [if_pos ((e2 _ _ hne (List.cons_ne_nil _ _)).mpr h2)]
      by_cases h3 : width < used + p.1.length
      · rw [if_pos h3] at h
        rw [List.length_cons] at h
        omega
      · rw [if_neg h3] at h ⊢
        have := ih (used + p.1.length + p.2) (n + 1) (n + 1) (Nat.le_refl _) (by rw [h]; omega)
        rw [this]; omega
    · rw [if_neg h2] at h
      rw [if_neg (fun x => h2 ((e2 _ _ hne (List.cons_ne_nil _ _)).mp x))]
      have := ih (used + p.1.length + p.2) best (n + 1) (by omega) (by rw [h]; omega)
      rw [this]; omega
theorem row_break (width : Int) {rest : List Piece} {p : Piece} : ∀ (R : List Piece) (used : Int) (best n : Nat), best ≤ n → rowGo width used best n (R ++ p :: rest) = n + (R.length + 1) → rest = [] ∨ mayBreak p = true
  | [], used, best, n, hbn, h => by
    rw [List.nil_append, rowGo, List.length_nil] at h
    by_cases h1 : width < used + p.1.length ∧ 0 < best
    · rw [if_pos h1] at h; omega
    rw [if_neg h1] at h
    by_cases h2 : rest = [] ∨ mayBreak p = true
    · exact h2
    rw [if_neg h2] at h
    rcases rowGo_jump width rest (used + p.1.length + p.2) best (n + 1) (by omega) (fun q => h2 (.inl q)) with h4 | h4 <;> omega
  | q :: R, used, best, n, hbn, h => by
    rw [List.cons_append, rowGo, List.length_cons] at h
    by_cases h1 : width < used + q.1.length ∧ 0 < best
    · rw [if_pos h1] at h; omega
    rw [if_neg h1] at h
    by_cases h2 : R ++ p :: rest = [] ∨ mayBreak q = true
    · rw [if_pos h2] at h
      by_cases h3 : width < used + q.1.length
      · rw [if_pos h3] at h; omega
      · rw [if_neg h3] at h
        exact row_break width R (used + q.1.length + q.2) (n + 1) (n + 1) (Nat.le_refl _) (by rw [h]; omega)
    · rw [if_neg h2] at h
      exact row_break width R (used + q.1.length + q.2) best (n + 1) (by omega) (by rw [h]; omega)
theorem sim_up {rest rest' : List Piece} (hs : Sim rest rest') : ∀ (R : List Piece) (p : Piece), (∀ q ∈ R ++ [p], QG q) → (rest = [] ∨ mayBreak p = true) → Sim ((R ++ [p]) ++ rest) (up (R ++ [p]) ++ rest')
  | [], p, hq, hb => by
    have hqp := hq p (by simp)
    rw [List.nil_append, up, if_pos rfl, List.singleton_append, List.singleton_append]
    exact .cons rfl (up1_ge hqp) ⟨fun _ => hb, fun h => h.elim (fun q => .inl (hs.nil_iff.mpr q)) fun q => .inr (up1_break hqp q)⟩ hs
  | q :: R, p, hq, hb => by
    have ih := sim_up hs R p (fun x hx => hq x (List.mem_cons_of_mem _ hx)) hb
    rw [List.cons_append, up, if_neg (by simp), List.cons_append, List.cons_append]
    refine .cons rfl (Int.le_refl _) ?_ ih
    rw [ih.nil_iff]
noncomputable def flatUp (rows : List (List Piece)) : List Piece := (rows.map up).flatten
theorem rows_up : ∀ (m : Nat) (l : List Piece) (fw w : Int), l.length ≤ m → (∀ p ∈ l, QG p) → Sim l (flatUp (rowsGo fw w l)) ∧ rowsGo fw w (flatUp (rowsGo fw w l)) = (rowsGo fw w l).map up := by
  intro m
  induction m with
  | zero =>
    intro l fw w h _
    obtain rfl : l = [] := List.eq_nil_of_length_eq_zero (by omega)
    rw [rowsGo_nil]
    exact ⟨.nil, rowsGo_nil⟩
  | succ m ih =>
    intro l fw w h hq
    by_cases hne : l = []
    · subst hne
      rw [rowsGo_nil]
      exact ⟨.nil, rowsGo_nil⟩
    have hk1 := rowGo_pos fw l 0 0 0 (.inl hne)
    have hk2 := rowGo_le fw l 0 0 0 (Nat.le_refl _)
    rw [rowsGo_cons hne]
    generalize hk : rowGo fw 0 0 0 l = k at hk1 hk2
    obtain ⟨hs, hr⟩ := ih (l.drop k) w w (by rw [List.length_drop]; omega) fun p hp => hq p (List.mem_of_mem_drop hp)
    have hlen : (l.take k).length = k := by rw [List.length_take]; omega
    have hRne : l.take k ≠ [] := fun e => by rw [e, List.length_nil] at hlen; omega
    have hql : ∀ p ∈ l.take k, QG p := fun p hp => hq p (List.mem_of_mem_take hp)
    have hk' : rowGo fw 0 0 0 (l.take k ++ l.drop k) = 0 + (l.take k).length := by rw [List.take_append_drop, hk, hlen, Nat.zero_add]
    have hsame := row_same fw hs (l.take k) 0 0 0 hql hRne (Nat.le_refl _) hk'
    have hflat : flatUp (l.take k :: rowsGo w w (l.drop k)) = up (l.take k) ++ flatUp (rowsGo w w (l.drop k)) := by
      unfold flatUp
      rw [List.map_cons, List.flatten_cons]
    have hul : (up (l.take k)).length = k := by rw [up_len, hlen]
    rw [hflat]
    refine ⟨?_, ?_⟩
    · obtain ⟨R, p, hRp⟩ : ∃ R p, l.take k = R ++ [p] := ⟨_, _, (List.dropLast_concat_getLast hRne).symm⟩
      have hb : l.drop k = [] ∨ mayBreak p = true := by
        rw [hRp, List.append_assoc, List.singleton_append, List.length_append, List.length_singleton] at hk'
        exact row_break fw R 0 0 0 (Nat.le_refl _) hk'
      have := sim_up hs R p (fun q hx => hql q (by rw [hRp]; exact hx)) hb
      rw [← hRp, List.take_append_drop] at this
      exact this
    · rw [rowsGo_cons (fun e => by have := congrArg List.length e; rw [List.length_append, hul, List.length_nil] at this; omega), hsame, hlen, Nat.zero_add, List.take_left' hul, List.drop_left' hul, hr, List.map_cons]
/-! the text of the rows -/
noncomputable def partsUp : List Piece → List Part
  | [] => []
  | p :: r => if r = [] then [(p.1, [10])] else (p.1, List.replicate p.2.toNat 32) :: partsUp r
theorem flat_append (a b : List Part) : flat (a ++ b) = flat a ++ flat b := List.flatMap_append
theorem rowCodes_two (w w2 : List Int) (ws : List (List Int)) (gs : List Int) : rowCodes (w :: w2 :: ws) gs = w ++ (List.replicate (gs.headD 0).toNat 32 ++ rowCodes (w2 :: ws) gs.tail) := by
  rw [rowCodes, if_neg (List.cons_ne_nil _ _)]
theorem flat_partsUp : ∀ (R : List Piece), R ≠ [] → flat (partsUp R) = rowCodes (wsOf R) (gsOf R) ++ [10]
  | [], h => absurd rfl h
  | [p], _ => by simp [partsUp, flat, rowCodes]
  | p :: q :: R, _ => by
    have ih := flat_partsUp (q :: R) (List.cons_ne_nil _ _)
    rw [partsUp, if_neg (List.cons_ne_nil _ _)]
    show (p.1 ++ List.replicate p.2.toNat 32) ++ flat (partsUp (q :: R)) = _
    rw [ih]
    show _ = rowCodes (p.1 :: q.1 :: wsOf R) (p.2 :: gsOf (q :: R)) ++ [10]
    rw [rowCodes_two, List.headD_cons, List.tail_cons]
    simp only [List.append_assoc]
    rfl
theorem gap_replicate {p : Piece} (h : QG p) : gapOf p.1 (List.replicate p.2.toNat 32) = p.2 := by
  unfold gapOf
  rcases h with h | ⟨h, h2⟩
  · rw [h]
    split
    · rw [if_neg (by decide)]
    · rfl
  · rw [h, if_pos h2, if_pos (by decide)]
theorem gap_end (p : Piece) : gapOf p.1 [10] = (up1 p).2 := by
  by_cases h : endsS p.1 = true <;> simp [gapOf, up1, h]
theorem pieces_partsUp : ∀ (R : List Piece), (∀ p ∈ R, QG p) → piecesBy (partsUp R) = up R
  | [], _ => rfl
  | p :: r, h => by
    rw [partsUp, up]
    split
    · show [(p.1, gapOf p.1 [10])] = [up1 p]
      rw [gap_end]; rfl
    · show (p.1, gapOf p.1 (List.replicate p.2.toNat 32)) :: piecesBy (partsUp r) = _
      rw [gap_replicate (h p List.mem_cons_self), pieces_partsUp r fun q hq => h q (List.mem_cons_of_mem _ hq)]
theorem partsUp_ok : ∀ (R : List Piece), (∀ p ∈ R, QG p ∧ wordOk p.1) → QOk (partsUp R)
  | [], _ => fun q hq => by cases hq
  | p :: r, h => by
    have hp := h p List.mem_cons_self
    rw [partsUp]
    split
    · intro q hq
      rw [List.mem_singleton] at hq
      subst hq
      exact ⟨hp.2, by show blankOk [10]; unfold blankOk; decide⟩
    · intro q hq
      rcases List.mem_cons.mp hq with rfl | hq
      · refine ⟨hp.2, ?_, fun x hx => ?_⟩
        · rcases hp.1 with e | ⟨e, _⟩ <;> simp [e]
        · rw [List.eq_of_mem_replicate hx]; rfl
      · exact partsUp_ok r (fun q hq => h q (List.mem_cons_of_mem _ hq)) q hq
noncomputable def againOf (rows : List (List Piece)) : List Int := rows.flatMap fun R => rowCodes (wsOf R) (gsOf R) ++ [10]
theorem again_flat {rows : List (List Piece)} (h : ∀ R ∈ rows, R ≠ []) : againOf rows = flat (rows.flatMap partsUp) := by
  induction rows with
  | nil => rfl
  | cons R rows ih =>
    rw [List.flatMap_cons, flat_append, flat_partsUp R (h R List.mem_cons_self), ← ih fun S hS => h S (List.mem_cons_of_mem _ hS)]
    rfl
theorem piecesBy_append (a b : List Part) : piecesBy (a ++ b) = piecesBy a ++ piecesBy b := List.map_append
theorem piecesBy_rows {rows : List (List Piece)} (h : ∀ R ∈ rows, ∀ p ∈ R, QG p) : piecesBy (rows.flatMap partsUp) = flatUp rows := by
  induction rows with
  | nil => rfl
  | cons R rows ih =>
    rw [List.flatMap_cons, piecesBy_append, pieces_partsUp R (h R List.mem_cons_self), ih fun S hS => h S (List.mem_cons_of_mem _ hS)]
    rfl
theorem piecesOf_again {rows : List (List Piece)} (h1 : ∀ R ∈ rows, R ≠ []) (h2 : ∀ R ∈ rows, ∀ p ∈ R, QG p ∧ wordOk p.1) : piecesOf (againOf rows) = flatUp rows := by
  rw [again_flat h1]
  have hq : QOk (rows.flatMap partsUp) := fun q hq => by
    obtain ⟨R, hR, hq⟩ := List.mem_flatMap.mp hq
    exact partsUp_ok R (h2 R hR) q hq
  have := piecesOf_flat hq (b := []) (fun x hx => by cases hx)
  rw [List.nil_append] at this
  rw [this, piecesBy_rows fun R hR p hp => (h2 R hR p hp).1]

/-! a row's last gap is not used -/
theorem rowCodes_congr : ∀ (ws : List (List Int)) (gs gs' : List Int), gs.take (ws.length - 1) = gs'.take (ws.length - 1) → rowCodes ws gs = rowCodes ws gs'
  | [], _, _, _ => rfl
  | [w], _, _, _ => by simp [rowCodes]
  | w :: w2 :: ws, gs, gs', h => by
    rw [List.length_cons, List.length_cons, Nat.add_sub_cancel] at h
    have hh : gs.headD 0 = gs'.headD 0 := by
      cases gs <;> cases gs' <;> simp at h ⊢
      exact h.1
    have ht : gs.tail.take ((w2 :: ws).length - 1) = gs'.tail.take ((w2 :: ws).length - 1) := by
      rw [List.length_cons, Nat.add_sub_cancel]
      cases gs <;> cases gs' <;> simp at h ⊢
      exact h.2
    rw [rowCodes_two, rowCodes_two, hh, rowCodes_congr (w2 :: ws) _ _ ht]
theorem up_words : ∀ (R : List Piece), wsOf (up R) = wsOf R
  | [] => rfl
  | p :: r => by
    rw [up]
    split
    · rename_i h; subst h; rfl
    · show p.1 :: wsOf (up r) = p.1 :: wsOf r
      rw [up_words r]
theorem up_gaps : ∀ (R : List Piece), (gsOf (up R)).take (R.length - 1) = (gsOf R).take (R.length - 1)
  | [] => rfl
  | [p] => rfl
  | p :: q :: r => by
    have ih := up_gaps (q :: r)
    rw [up, if_neg (List.cons_ne_nil _ _)]
    simp only [gsOf, List.map_cons, List.length_cons, Nat.add_sub_cancel, List.take_succ_cons] at ih ⊢
    rw [ih]
theorem up_ne {R : List Piece} (h : R ≠ []) : up R ≠ [] := fun e => by
  have := congrArg List.length e
  rw [up_len, List.length_nil] at this
  exact h (List.eq_nil_of_length_eq_zero this)
theorem up_width {R : List Piece} (h : R ≠ []) : rowWidth (up R) = rowWidth R := by
  rw [rowWidth_eq (up_ne h), rowWidth_eq h, up_words, lawWidth, lawWidth, List.length_map, up_gaps]
theorem up_spread {R : List Piece} (h : R ≠ []) (width : Int) : (spreadGaps (up R) width).take (R.length - 1) = (spreadGaps R width).take (R.length - 1) := by
  have hg := up_gaps R
  simp only [spreadGaps, show ∀ r, ownGaps r = gsOf r from fun _ => rfl]
  rw [up_width h, up_len]
  split
  · exact hg
  · have hl : ∀ (g : List Int) (f : Int → Nat → Int), ((List.range (R.length - 1)).map fun p => f (g.getD p 0) p).length = R.length - 1 := fun g f => by rw [List.length_map, List.length_range]
    rw [List.take_left' (by rw [List.length_map, List.length_range]), List.take_left' (by rw [List.length_map, List.length_range])]
    refine List.map_congr_left fun p hp => ?_
    have hp := List.mem_range.mp hp
    have e : (gsOf (up R)).getD p 0 = (gsOf R).getD p 0 := by
      have := congrArg (fun l => l[p]?) hg
      simp only [List.getElem?_take, if_pos hp] at this
      rw [List.getD_eq_getElem?_getD, List.getD_eq_getElem?_getD, this]
    rw [e]
theorem up_placed {R : List Piece} (h : R ≠ []) (width : Int) (way : Str) (last : Bool) : placedRow (up R) width way last = placedRow R width way last := by
  have e1 : rowCodes (wsOf R) (gsOf (up R)) = rowCodes (wsOf R) (gsOf R) := rowCodes_congr _ _ _ (by rw [List.length_map]; exact up_gaps R)
  have e2 : rowCodes (wsOf R) (spreadGaps (up R) width) = rowCodes (wsOf R) (spreadGaps R width) := rowCodes_congr _ _ _ (by rw [List.length_map]; exact up_spread h width)
  unfold placedRow
  rw [show (up R).map (·.1) = wsOf R from up_words R, show ownGaps (up R) = gsOf (up R) from rfl, e1, e2]
  rfl
theorem refill {cs : List Int} {col : Int} {fp pf : List Int} {way : Str} (h : ∀ p ∈ piecesOf cs, QG p ∧ wordOk p.1) :
    filledL (againOf (rowsGo (col - fp.length) (col - pf.length) (piecesOf cs))) col fp pf way = filledL cs col fp pf way := by
  have hok := (rowsGo_ok _ (piecesOf cs) (col - fp.length) (col - pf.length) (Nat.le_refl _)).2
  have h2 := (rows_up _ (piecesOf cs) (col - fp.length) (col - pf.length) (Nat.le_refl _) fun p hp => (h p hp).1).2
  unfold filledL
  rw [piecesOf_again (fun R hR => (hok R hR).1) (fun R hR p hp => h p ((hok R hR).2.2 p hp)), h2]
  generalize rowsGo (col - fp.length) (col - pf.length) (piecesOf cs) = rows at hok ⊢
  rw [List.length_map]
  refine List.ext_getElem? fun i => ?_
  rw [List.getElem?_mapIdx, List.getElem?_mapIdx, List.getElem?_map]
  cases hx : rows[i]? with
  | none => rfl
  | some R =>
    simp only [Option.map_some]
    rw [up_placed (hok R (List.mem_of_getElem? hx)).1]

/-! facts of a drawn text -/
noncomputable def pcs (qs : List Part) : List Piece := qs.map fun q => (q.1, lawGap q.1 q.2)
theorem pcs_by {qs : List Part} (h : partsOk qs) : piecesBy qs = pcs qs := List.map_congr_left fun q hq => by rw [gap_law _ (h q hq).1 _ (h q hq).2]
theorem pcs_ok {qs : List Part} (h : partsOk qs) : ∀ p ∈ pcs qs, QG p ∧ wordOk p.1 ∧ p.1.length ≤ 5 ∧ (32 : Int) ∉ p.1 := fun p hp => by
  obtain ⟨q, hq, rfl⟩ := List.mem_map.mp hp
  refine ⟨?_, words_ok _ (h q hq).1⟩
  unfold QG lawGap
  dsimp only
  split
  · rename_i e; exact .inr ⟨rfl, e.1⟩
  · exact .inl rfl
theorem QG.g {p : Piece} (h : QG p) : p.2 = 1 ∨ p.2 = 2 := h.imp id And.left
theorem pcs_g {qs : List Part} (h : partsOk qs) : GOk (pcs qs) := fun p hp => let ⟨a, b, _⟩ := pcs_ok h p hp; ⟨b.1, a.g⟩
theorem pcs_of {qs : List Part} (h : partsOk qs) (z : Nat) : piecesOf (List.replicate z 32 ++ flat qs) = pcs qs := by
  rw [piecesOf_flat h.q (fun x hx => by rw [List.eq_of_mem_replicate hx]; rfl), pcs_by h]
theorem flat_len : ∀ (qs : List Part), (∀ q ∈ qs, q.1.length + q.2.length ≤ 8) → (flat qs).length ≤ 8 * qs.length
  | [], _ => by simp [flat]
  | q :: r, h => by
    have ih := flat_len r fun p hp => h p (List.mem_cons_of_mem _ hp)
    have := h q List.mem_cons_self
    show ((q.1 ++ q.2) ++ flat r).length ≤ _
    rw [List.length_append, List.length_append, List.length_cons]
    omega
theorem partsOk.len {qs : List Part} (h : partsOk qs) : (flat qs).length ≤ 8 * qs.length :=
  flat_len qs fun q hq => by have := (words_ok _ (h q hq).1).2.1; have := (gaps_ok _ (h q hq).2).2; omega
theorem Sim.length : ∀ {l l' : List Piece}, Sim l l' → l'.length = l.length
  | _, _, .nil => rfl
  | _, _, .cons _ _ _ h => by rw [List.length_cons, List.length_cons, h.length]
theorem partsUp_mem : ∀ (R : List Piece), ∀ q ∈ partsUp R, ∃ p ∈ R, q.1 = p.1 ∧ (q.2 = [10] ∨ q.2 = List.replicate p.2.toNat 32)
  | [], q, hq => by cases hq
  | p :: r, q, hq => by
    rw [partsUp] at hq
    split at hq
    · rw [List.mem_singleton] at hq
      subst hq
      exact ⟨p, List.mem_cons_self, rfl, .inl rfl⟩
    · rcases List.mem_cons.mp hq with rfl | hq
      · exact ⟨p, List.mem_cons_self, rfl, .inr rfl⟩
      · obtain ⟨p', hp', h⟩ := partsUp_mem r q hq
        exact ⟨p', List.mem_cons_of_mem _ hp', h⟩
theorem again_len {ps : List Piece} (h : ∀ p ∈ ps, QG p ∧ wordOk p.1 ∧ p.1.length ≤ 5) (fw w : Int) : (againOf (rowsGo fw w ps)).length ≤ 8 * ps.length := by
  have hok := (rowsGo_ok _ ps fw w (Nat.le_refl _)).2
  have hs := (rows_up _ ps fw w (Nat.le_refl _) fun p hp => (h p hp).1).1
  rw [again_flat fun R hR => (hok R hR).1]
  have hl : ((rowsGo fw w ps).flatMap partsUp).length = ps.length := by
    have := congrArg List.length (piecesBy_rows (rows := rowsGo fw w ps) fun R hR p hp => (h p ((hok R hR).2.2 p hp)).1)
    rw [hs.length] at this
    unfold piecesBy at this
    rw [List.length_map] at this
    exact this
  rw [← hl]
  refine flat_len _ fun q hq => ?_
  obtain ⟨R, hR, hq⟩ := List.mem_flatMap.mp hq
  obtain ⟨p, hp, e1, e2⟩ := partsUp_mem R q hq
  have hpx := h p ((hok R hR).2.2 p hp)
  have h5 := hpx.2.2
  rw [e1]
  rcases e2 with e2 | e2 <;> rw [e2]
  · rw [List.length_singleton]; omega
  · rw [List.length_replicate]
    rcases hpx.1.g with e | e <;> rw [e] <;> simp <;> omega

theorem sp_abs {x : Int} {Q : PyData → Prop} (h : Q (.int (if x < 0 then -x else x))) : S_abs [.int x] Q := ⟨x, rfl, h⟩
theorem sp_list {l : List PyData} {Q : PyData → Prop} (hl : l.length ≤ 16777216) (h : Q (.list l)) : S_list [.list l] Q := ⟨l, rfl, hl, h⟩
theorem sp_min {x y : Int} {Q : PyData → Prop} (h : Q (.int (if y < x then y else x))) : S_min [.int x, .int y] Q := ⟨x, y, rfl, h⟩
theorem sp_max {x y : Int} {Q : PyData → Prop} (h : Q (.int (if x < y then y else x))) : S_max [.int x, .int y] Q := ⟨x, y, rfl, h⟩

structure RF (ps : List Piece) (col : Int) (fp pf : List Int) (way : Str) (due : List (Nat × Nat)) (rows : List (List Int)) : Prop where
  len : rows.length = due.length
  row : ∀ i e, due[i]? = some e → rows[i]? = some ((if i = 0 then fp else pf) ++ placedRow (cutE ps e) (col - (if i = 0 then fp else pf).length) way (decide (i + 1 = due.length)))
  mem : ∀ e ∈ due, e.1 < e.2 ∧ e.2 ≤ ps.length
  le : due.length ≤ ps.length
theorem rf_of {ps : List Piece} (hg : GOk ps) {cs : List Int} (hp : piecesOf cs = ps) (col : Int) (fp pf : List Int) (way : Str) :
    RF ps col fp pf way (lawRows (col - fp.length) (col - pf.length) (wsOf ps) (gsOf ps) 0) (filledL cs col fp pf way) := by
  have h1 := lawRows_eq hg _ 0 (col - fp.length) (col - pf.length) (Nat.le_refl _)
  have h2 := lawRows_mem (ws := wsOf ps) (gs := gsOf ps) _ 0 (col - fp.length) (col - pf.length) (Nat.le_refl _)
  have h3 := (rowsGo_ok _ ps (col - fp.length) (col - pf.length) (Nat.le_refl _)).1
  rw [List.drop_zero] at h1
  unfold filledL
  rw [hp]
  rw [← h1] at h3 ⊢
  rw [List.length_map] at h3 ⊢
  generalize lawRows (col - fp.length) (col - pf.length) (wsOf ps) (gsOf ps) 0 = due at h2 h3 ⊢
  refine ⟨by rw [List.length_mapIdx, List.length_map], fun i e he => ?_, fun e he => ?_, h3⟩
  · have hi := (List.getElem?_eq_some_iff.mp he).1
    rw [List.getElem?_mapIdx, List.getElem?_map, he]
    simp only [Option.map_some]
    rw [show decide ((i : Int) = (due.length : Int) - 1) = decide (i + 1 = due.length) from decide_eq_decide.mpr (by omega)]
  · have := h2 e he
    rw [List.length_map] at this
    exact this.2
theorem cut_ws (ps : List Piece) (e : Nat × Nat) : wsOf (cutE ps e) = ((wsOf ps).drop e.1).take (e.2 - e.1) := by simp only [cutE, wsOf, List.map_take, List.map_drop]
theorem cut_gs (ps : List Piece) (e : Nat × Nat) : gsOf (cutE ps e) = ((gsOf ps).drop e.1).take (e.2 - e.1) := by simp only [cutE, gsOf, List.map_take, List.map_drop]
noncomputable def againE (ps : List Piece) (due : List (Nat × Nat)) : List Int := due.flatMap fun e => rowCodes (wsOf (cutE ps e)) (gsOf (cutE ps e)) ++ [10]
theorem again_eq {ps : List Piece} (hg : GOk ps) (fw w : Int) : againE ps (lawRows fw w (wsOf ps) (gsOf ps) 0) = againOf (rowsGo fw w ps) := by
  have h1 := lawRows_eq hg _ 0 fw w (Nat.le_refl _)
  rw [List.drop_zero] at h1
  rw [← h1, againOf, List.flatMap_map]
  rfl
theorem it_lead {c : Cx} {fp pf : List Int} {i : Nat} {Q : PyData → Prop} (h : Q (dL (if i = 0 then fp else pf))) : IT c (.tuple [dL fp, dL pf]) (.int (if (1 : Int) < (i : Int) then 1 else (i : Int))) Q := by
  by_cases hi : i = 0
  · subst hi
    exact it_tup (by decide) (d := dL fp) rfl (by decide) h
  · rw [if_neg hi] at h
    rw [show (if (1 : Int) < (i : Int) then 1 else (i : Int)) = 1 by split <;> omega]
    exact it_tup (by decide) (d := dL pf) rfl (by decide) h
theorem comp_invM {c : Cx} {α δ : Type} {elt : Expr} {step : δ → Sto → (Sto → Prop) → Prop} {l : List α} {f : α → δ} {σ : Sto} {R : List PyData → Prop} (g : α → PyData) (J : Sto → Prop) (h0 : J σ) (hl : l.length ≤ 1000000)
    (turn : ∀ x σ1 (R' : PyData → Sto → Prop), x ∈ l → J σ1 → (∀ σ2, J σ2 → R' (g x) σ2) → step (f x) σ1 fun σ2 => EV c elt σ2 R')
    (cont : R (l.map g)) : COMP c elt step (l.map f) σ [] R := by
  have key : ∀ (rest done : List α) (σ : Sto), l = done ++ rest → J σ → COMP c elt step (rest.map f) σ (done.map g) R := by
    intro rest
    induction rest with
    | nil =>
      intro done σ e hJ
      rw [List.append_nil] at e
      subst e
      exact cont
    | cons d ds ih =>
      intro done σ e hJ
      refine turn d σ _ (by rw [e]; simp) hJ fun σ2 h2 => ⟨?_, ?_⟩
      · have := congrArg List.length e
        rw [List.length_append] at this
        rw [List.length_map]; omega
      · have := ih (done ++ [d]) σ2 (by rw [e, List.append_assoc]; rfl) h2
        rw [List.map_append] at this
        exact this
  exact key l [] σ rfl h0
theorem pcs_ws (qs : List Part) : wsOf (pcs qs) = qs.map (·.1) := List.map_map
theorem pcs_gs (qs : List Part) : gsOf (pcs qs) = qs.map fun q => lawGap q.1 q.2 := List.map_map
noncomputable def absD (d : PyData) : PyData := match d with
  | .int x => .int (if x < 0 then -x else x)
  | d => d
theorem absD_map (l : List Int) : (l.map PyData.int).map absD = (l.map fun x => if x < 0 then -x else x).map .int := by
  rw [List.map_map, List.map_map]; rfl
set_option maxHeartbeats 8000000 in
theorem law_body {c : Cx} (O : Ok c 5) (H : Std c.W) (F : ∀ i, 7 ≤ i → i ≤ 29 → i ≠ 20 → FnIn c.W (fd i)) (hsc : c.env.scope = (fd 30).scope) (hcl : c.env.cells = []) (sc : List Int) (hl : sc.length ≤ 63) (Q : PyData → Prop) (hQ : Q (.bool true)) :
    EXs c (fd 30).body (init ["script"] [dL sc] ["deck", "way", "parts_here", "column", "leads", "words", "codes", "word", "between", "gaps", "given", "rows", "due", "place", "first", "last", "lead", "row", "own", "wide", "room", "plain_here", "pad", "is_right", "again_here"]) (retPost Q) := by
  have t1 := t_len H
  have t2 := t_abs H
  have t3 := T_draw H (F 21 (by decide) (by decide) (by decide))
  have t4 := T_text H (F 21 (by decide) (by decide) (by decide)) (F 22 (by decide) (by decide) (by decide)) (F 23 (by decide) (by decide) (by decide))
  have t5 := T_law_gap H (F 24 (by decide) (by decide) (by decide))
  have t6 := T_law_width H (F 25 (by decide) (by decide) (by decide))
  have t7 := T_law_rows H (F 25 (by decide) (by decide) (by decide)) (F 26 (by decide) (by decide) (by decide)) (F 27 (by decide) (by decide) (by decide))
  have t8 := T_law_row H (F 28 (by decide) (by decide) (by decide))
  have t9 := T_is_spread H (F 25 (by decide) (by decide) (by decide)) (F 29 (by decide) (by decide) (by decide))
  have t10 := T_filled H fun i h1 h2 => F i h1 (by omega) (by omega)
  have t11 := t_list H
  have t12 := t_min H
  have t13 := t_max H
  show EXs c (fd 30).body [("script", .val (dL sc)), ("deck", .no), ("way", .no), ("parts_here", .no), ("column", .no), ("leads", .no), ("words", .no), ("codes", .no), ("word", .no), ("between", .no), ("gaps", .no), ("given", .no), ("rows", .no), ("due", .no), ("place", .no), ("first", .no), ("last", .no), ("lead", .no), ("row", .no), ("own", .no), ("wide", .no), ("room", .no), ("plain_here", .no), ("pad", .no), ("is_right", .no), ("again_here", .no)] (retPost Q)
  generalize hfd : (fd 30).body = b
  conv at hfd => lhs; whnf
  subst hfd
  refine' xs_cons ?_
  refine' x_assign_comp O hcl goOk_name (by decide +kernel) (by decide +kernel) rfl (by decide +kernel) ["cell"] (by decide +kernel) (by decide +kernel) (by exact kind_of (by assumption) (by decide +kernel)) (by decide +kernel) ?_
  (repeat top_args)
  refine' sl_map (by rw [sizeLine_eq]; omega) trivial (show (0 : Int) ≤ 40 by decide) ?_
  (repeat top_args)
  have hdl : (cutAt sc none (some 40)).length ≤ 63 := by
    simp only [cutAt, List.length_take]; omega
  generalize cutAt sc none (some 40) = sc2 at hdl ⊢
  intro c' O' hW' hsc' hcl'
  rw [← hW'] at t2
  refine' comp_inv absD (fun σ => ∃ s1 : Slot, s1.kind = .local ∧ σ = ([("cell", s1)] : Sto)) ⟨.no, rfl, rfl⟩ (by rw [List.length_map]; omega) ?_ ?_
  · rintro d σ1 R hd ⟨s1, k1, rfl⟩ hR
    obtain ⟨x, hx, rfl⟩ := List.mem_map.mp hd
    have O := O'
    (repeat top_args)
    refine' sp_abs ?_
    exact hR _ ⟨.val _, rfl, rfl⟩
  rw [hW'] at t2
  clear hW' hsc' hcl' O' c'
  intro a
  rw [absD_map]
  have hdl2 : (sc2.map fun x => if x < 0 then -x else x).length ≤ 63 := by rw [List.length_map]; exact hdl
  generalize (sc2.map fun x => if x < 0 then -x else x) = l1 at hdl2 ⊢
  clear hdl hl
  (repeat top_args)
  refine' sp_draw (many := 4) rfl (by decide) hdl2 (fun l2 r2 hl2 hr2 => ?_)
  (repeat top_args)
  refine' it_mapN (f := .str) (l := ways) (n := r2) rfl (List.getElem?_eq_getElem (show r2 < ways.length from hr2)) (by omega) ?_
  have hway : ways[r2]'hr2 ∈ ways := List.getElem_mem _
  generalize ways[r2]'hr2 = way at hway ⊢
  clear hr2
  (repeat top_args)
  refine' x_assign_swap O ?_ (by with_unfolding_all rfl) (swap2 O (by exact kind_of (by assumption) (by decide +kernel)) (by exact kind_of (by assumption) (by decide +kernel)) (by decide +kernel))
  (repeat top_args)
  refine' sp_draw (many := 7) rfl (by decide) (by omega) (fun l3 r3 hl3 hr3 => ?_)
  (repeat top_args)
  refine' sp_text (many := 1 + r3) (by omega) (by omega) (by omega) (fun l4 qs hl4 hqn hqs => ?_)
  have hqn : qs.length ≤ 7 ∧ 1 ≤ qs.length := by omega
  (repeat top_args)
  refine' sp_draw (many := 12) rfl (by decide) (by omega) (fun l5 r5 hl5 hr5 => ?_)
  (repeat top_args)
  have hcol : (4 : Int) + (r5 : Int) ≤ 15 ∧ 4 ≤ (4 : Int) + (r5 : Int) := by omega
  generalize (4 : Int) + (r5 : Int) = col at hcol ⊢
  refine' sp_draw (many := 3) rfl (by decide) (by omega) (fun l6 r6 hl6 hr6 => ?_)
  (repeat top_args)
  refine' sl__n (l := [42, 32]) (f := .int) (by decide) ?_
  (repeat top_args)
  refine' sp_draw (many := 3) rfl (by decide) (by omega) (fun l7 r7 hl7 hr7 => ?_)
  (repeat top_args)
  refine' sl__n (l := [32, 32]) (f := .int) (by decide) ?_
  have hfp : (([42, 32] : List Int).take r6).length ≤ 2 := by rw [List.length_take]; exact Nat.min_le_right _ _
  have hpf : (([32, 32] : List Int).take r7).length ≤ 2 := by rw [List.length_take]; exact Nat.min_le_right _ _
  generalize ([42, 32] : List Int).take r6 = fp at hfp ⊢
  generalize ([32, 32] : List Int).take r7 = pf at hpf ⊢
  clear hr3 hr5 hr6 hr7
  (repeat top_args)
  refine' x_assign_swap O ?_ (by with_unfolding_all rfl) (swap2 O (by exact kind_of (by assumption) (by decide +kernel)) (by exact kind_of (by assumption) (by decide +kernel)) (by decide +kernel))
  (repeat top_args)
  refine' r_comp O hcl goOk_name (by decide +kernel) (by decide +kernel) rfl (by decide +kernel) ["part"] (by decide +kernel) (by decide +kernel) ?_
  (repeat top_args)
  intro c' O' hW' hsc' hcl'
  refine' comp_invM (fun q : Part => dL q.1) (fun σ => ∃ s1 : Slot, s1.kind = .local ∧ σ = ([("part", s1)] : Sto)) ⟨.no, rfl, rfl⟩ (by omega) ?_ ?_
  · rintro q σ1 R hq ⟨s1, k1, rfl⟩ hR
    have O := O'
    (repeat top_args)
    exact hR _ ⟨.val _, rfl, rfl⟩
  clear hW' hsc' hcl' O' c'
  rw [show qs.map (fun q => dL q.1) = (wsOf (pcs qs)).map dL by rw [pcs_ws, List.map_map]; rfl]
  (repeat top_args)
  refine' sp_draw (many := 2) rfl (by decide) (by omega) (fun l8 z hl8 hz => ?_)
  (repeat top_args)
  refine' op_repI O (by omega) (by omega) ?_
  rw [Int.toNat_natCast]
  (repeat top_args)
  refine' x_assign_comp O hcl goOk_tuple (by decide +kernel) (by decide +kernel) rfl (by decide +kernel) ["word", "between"] (by decide +kernel) (by decide +kernel) (by exact kind_of (by assumption) (by decide +kernel)) (by decide +kernel) ?_
  (repeat top_args)
  intro c' O' hW' hsc' hcl'
  rw [← hW'] at t5
  refine' comp_invM (fun q : Part => .int (lawGap q.1 q.2)) (fun σ => ∃ s1 s2 : Slot, s1.kind = .local ∧ s2.kind = .local ∧ σ = ([("word", s1), ("between", s2)] : Sto)) ⟨.no, .no, rfl, rfl, rfl⟩ (by omega) ?_ ?_
  · rintro q σ1 R hq ⟨s1, s2, k1, k2, rfl⟩ hR
    have h1 := (words_ok _ (hqs q hq).1).2.1
    have h2 := (gaps_ok _ (hqs q hq).2).2
    have O := O'
    (repeat top_args)
    refine' sp_law_gap (by omega) (by omega) ?_
    exact hR _ ⟨.val _, .val _, rfl, rfl, rfl⟩
  rw [hW'] at t5
  clear hW' hsc' hcl' O' c'
  rw [show qs.map (fun q => PyData.int (lawGap q.1 q.2)) = (gsOf (pcs qs)).map .int by rw [pcs_gs, List.map_map]; rfl]
  intro ag
  (repeat top_args)
  have hfl : ∀ i, (flat (qs.take i)).length ≤ 56 := fun i => by
    have h1 : partsOk (qs.take i) := fun q hq => hqs q (List.mem_of_mem_take hq)
    have := h1.len
    rw [List.length_take] at this
    omega
  refine' for_inv (fun i σ => ∃ s1 s2 : Slot, s1.kind = .local ∧ s2.kind = .local ∧ σ = ([("script", .val (dL sc)), ("deck", .own true a (l8.map .int)), ("way", .val (.str way)), ("parts_here", .val (.list (qs.map dPt))), ("column", .val (.int col)), ("leads", .val (.tuple [dL fp, dL pf])),
    ("words", .val (.list ((wsOf (pcs qs)).map dL))), ("codes", .val (dL (List.replicate z 32 ++ flat (qs.take i)))), ("word", s1), ("between", s2), ("gaps", .own true ag ((gsOf (pcs qs)).map .int)), ("given", .no), ("rows", .no), ("due", .no), ("place", .no), ("first", .no), ("last", .no), ("lead", .no), ("row", .no), ("own", .no), ("wide", .no), ("room", .no), ("plain_here", .no), ("pad", .no), ("is_right", .no), ("again_here", .no)] : Sto))
    ⟨.no, .no, rfl, rfl, by rw [List.take_zero, show flat [] = [] from rfl, List.append_nil]⟩ ?_ ?_
  · rintro i d σ1 R hd ⟨s1, s2, k1, k2, rfl⟩ hR
    rw [List.getElem?_map] at hd
    obtain ⟨q, hq, rfl⟩ := Option.map_eq_some_iff.mp hd
    have h1 := (words_ok _ (hqs q (List.mem_of_getElem? hq)).1).2.1
    have h2 := (gaps_ok _ (hqs q (List.mem_of_getElem? hq)).2).2
    have h3 := hfl i
    rw [List.take_add_one, hq, Option.toList_some, flat_append, show flat [q] = q.1 ++ q.2 by simp [flat], ← List.append_assoc, ← List.append_assoc] at hR
    generalize hacc : List.replicate z 32 ++ flat (qs.take i) = acc at hR ⊢
    have hal : acc.length ≤ 58 := by rw [← hacc, List.length_append, List.length_replicate]; omega
    (repeat top_args)
    refine' op_catL O (by rw [sizeLine_eq]; omega) ?_
    (repeat top_args)
    refine' op_catL O (by rw [List.length_append, sizeLine_eq]; omega) ?_
    (repeat top_args)
    exact hR _ ⟨.val _, .val _, rfl, rfl, rfl⟩
  rintro _ ⟨s1, s2, k1, k2, rfl⟩
  have h7 := hfl qs.length
  rw [List.length_map]
  rw [List.take_length] at h7 ⊢
  have hpc := pcs_of hqs z
  have hcsl : (List.replicate z 32 ++ flat qs).length ≤ 100 := by rw [List.length_append, List.length_replicate]; omega
  generalize List.replicate z 32 ++ flat qs = cs at hpc hcsl ⊢
  (repeat top_args)
  refine' sp_list (by rw [List.length_map]; omega) ?_
  (repeat top_args)
  refine' x_assign_swap O ?_ (by with_unfolding_all rfl) (swap2 O (by exact kind_of (by assumption) (by decide +kernel)) (by exact kind_of (by assumption) (by decide +kernel)) (by decide +kernel))
  (repeat top_args)
  have hCOk : COk cs col fp pf := ⟨hcsl, by omega, by omega, by omega⟩
  refine' sp_filled hCOk ?_
  (repeat top_args)
  have hpg := pcs_g hqs
  have hpo := pcs_ok hqs
  have hpl : (pcs qs).length = qs.length := List.length_map _
  have hW : WOk (wsOf (pcs qs)) (gsOf (pcs qs)) := ⟨by rw [List.length_map]; omega, by rw [List.length_map, List.length_map], fun w hw => by
    obtain ⟨p, hp, rfl⟩ := List.mem_map.mp hw
    have := hpo p hp
    exact ⟨this.2.1.1, by omega⟩⟩
  refine' sp_law_rows hW ?_
  have hrf := rf_of hpg hpc col fp pf way
  have hrefill := refill (cs := cs) (col := col) (fp := fp) (pf := pf) (way := way) (fun p hp => by rw [hpc] at hp; have := hpo p hp; exact ⟨this.1, this.2.1⟩)
  have hag := again_len (ps := pcs qs) (fun p hp => by have := hpo p hp; exact ⟨this.1, this.2.1, this.2.2.1⟩) (col - fp.length) (col - pf.length)
  rw [hpc] at hrefill
  rw [← again_eq hpg] at hrefill hag
  generalize hrows : filledL cs col fp pf way = rows at hrf hrefill ⊢
  generalize lawRows (col - fp.length) (col - pf.length) (wsOf (pcs qs)) (gsOf (pcs qs)) 0 = due at hrf hrefill hag ⊢
  have hrl := hrf.len
  have hdl := hrf.le
  (repeat top_args)
  first | with_reducible refine' ite_both (fun h1 => ?_) (fun h1 => ?_) | with_reducible refine' ite_bothN (fun h1 => ?_) (fun h1 => ?_) | with_reducible refine' ite_bothB (fun h1 => ?_) (fun h1 => ?_)
  · exact absurd (by rw [hrl]) h1
  (repeat top_args)
  refine' cmp_neL O ?_
  first | with_reducible refine' ite_both (fun h2 => ?_) (fun h2 => ?_) | with_reducible refine' ite_bothN (fun h2 => ?_) (fun h2 => ?_) | with_reducible refine' ite_bothB (fun h2 => ?_) (fun h2 => ?_)
  · exact absurd rfl h2
  (repeat top_args)
  refine' for_inv (fun i σ => ∃ u0 u1 u2 u3 u4 u5 u6 u7 u8 u9 u10 : Slot, u0.kind = .local ∧ u1.kind = .local ∧ u2.kind = .local ∧ u3.kind = .local ∧ u4.kind = .local ∧ u5.kind = .local ∧ u6.kind = .local ∧ u7.kind = .local ∧ u8.kind = .local ∧ u9.kind = .local ∧ u10.kind = .local ∧ σ = ([("script", .val (dL sc)), ("deck", .own true a (l8.map .int)), ("way", .val (.str way)), ("parts_here", .val (.list (qs.map dPt))), ("column", .val (.int col)), ("leads", .val (.tuple [dL fp, dL pf])), ("words", .val (.list ((wsOf (pcs qs)).map dL))), ("codes", .val (dL cs)), ("word", s1), ("between", s2), ("gaps", .val (dL (gsOf (pcs qs)))), ("given", .val (dL cs)), ("rows", .val (.list (rows.map dL))), ("due", .val (.list (due.map dE))), ("place", u0), ("first", u1), ("last", u2), ("lead", u3), ("row", u4), ("own", u5), ("wide", u6), ("room", u7), ("plain_here", u8), ("pad", u9), ("is_right", u10), ("again_here", .no)] : Sto))
    ⟨.no, .no, .no, .no, .no, .no, .no, .no, .no, .no, .no, rfl, rfl, rfl, rfl, rfl, rfl, rfl, rfl, rfl, rfl, rfl, rfl⟩ ?_ ?_
  · rintro i d σ1 R hd ⟨u0, u1, u2, u3, u4, u5, u6, u7, u8, u9, u10, k10, k11, k12, k13, k14, k15, k16, k17, k18, k19, k20, rfl⟩ hR
    obtain ⟨e, he, rfl, hi⟩ := zip_get hd
    obtain ⟨first, last⟩ := e
    have hrow := hrf.row _ _ he
    have hmem := hrf.mem _ (List.mem_of_getElem? he)
    dsimp only at hmem
    show ASs c _ [.int (i : Int), dE (first, last)] _ _
    (repeat top_args)
    refine' sp_min ?_
    refine' it_lead ?_
    have hlead : (if i = 0 then fp else pf).length ≤ 2 := by split <;> omega
    generalize (if i = 0 then fp else pf) = lead at hrow hlead ⊢
    (repeat top_args)
    have hRw := cut_ws (pcs qs) (first, last)
    have hRg := cut_gs (pcs qs) (first, last)
    have hRl : (cutE (pcs qs) (first, last)).length = last - first := by
      rw [cutE, List.length_take, List.length_drop]; dsimp only; omega
    have hRm : ∀ p ∈ cutE (pcs qs) (first, last), p ∈ pcs qs := fun p hp => List.mem_of_mem_drop (List.mem_of_mem_take hp)
    dsimp only at hRw hRg
    generalize cutE (pcs qs) (first, last) = Rw at hRw hRg hRl hRm hrow
    have hROk : ROk Rw := ⟨⟨by omega, fun p hp => by have := hpo p (hRm p hp); exact ⟨this.2.1.1, by omega⟩⟩, by omega, fun p hp => by have := (hpg p (hRm p hp)).2; omega⟩
    have hRne : Rw ≠ [] := fun q => by rw [q, List.length_nil] at hRl; omega
    have hclr : ∀ w ∈ wsOf Rw, (32 : Int) ∉ w := fun w hw => by
      obtain ⟨p, hp, rfl⟩ := List.mem_map.mp hw
      exact (hpo p (hRm p hp)).2.2.2
    have hWR : WOk (wsOf Rw) (gsOf Rw) := by rw [hRw, hRg]; exact (hW.drop _).take _
    have hgb : ∀ g ∈ gsOf Rw, 0 ≤ g ∧ g ≤ 1000 := fun g hg => by
      obtain ⟨p, hp, rfl⟩ := List.mem_map.mp hg
      have := (hpg p (hRm p hp)).2; omega
    have hpll := hROk.codes_len (gs := gsOf Rw) fun g hg => (hgb g hg).2
    have hXl := placedRow_len (width := col - lead.length) (way := way) (last := decide (i + 1 = due.length)) hROk (by omega)
    have hplain := placed_plain (R := Rw) (width := col - lead.length) (way := way) (last := decide (i + 1 = due.length)) hway
    have hspread := spread_ok (R := Rw) hROk hRne (by omega) hclr (width := col - lead.length) (by omega)
    have hfull : (way == "full") = true ∧ ¬ i + 1 = due.length → placedRow Rw (col - lead.length) way (decide (i + 1 = due.length)) = rowCodes (wsOf Rw) (spreadGaps Rw (col - lead.length)) := fun q => by
      unfold placedRow
      rw [if_pos ⟨q.1, decide_eq_false q.2⟩]
    generalize placedRow Rw (col - lead.length) way (decide (i + 1 = due.length)) = X at hrow hXl hplain hfull
    refine' x_assign_swap O ?_ (by with_unfolding_all rfl) (swap3 O (by exact kind_of (by assumption) (by decide +kernel)) (by exact kind_of (by assumption) (by decide +kernel)) (by exact kind_of (by assumption) (by decide +kernel)) (by decide +kernel) (by decide +kernel) (by decide +kernel))
    (repeat top_args)
    rw [List.drop_left]
    (repeat top_args)
    rw [← hRw]
    (repeat top_args)
    rw [← hRg]
    (repeat top_args)
    refine' x_assign_swap O ?_ (by with_unfolding_all rfl) (swap2 O (by exact kind_of (by assumption) (by decide +kernel)) (by exact kind_of (by assumption) (by decide +kernel)) (by decide +kernel))
    (repeat top_args)
    rw [← hRw]
    (repeat top_args)
    rw [← hRg]
    refine' sp_law_row hWR hgb ?_
    change (rowCodes (wsOf Rw) (gsOf Rw)).length ≤ 200000 at hpll
    generalize hpn : rowCodes (wsOf Rw) (gsOf Rw) = pn at hpll hplain ⊢
    (repeat top_args)
    refine' sp_max ?_
    generalize hpad : (if 0 < col - (lead.length : Int) - (pn.length : Int) then col - (lead.length : Int) - (pn.length : Int) else 0) = pad at hplain ⊢
    have hpb : 0 ≤ pad ∧ pad ≤ 100 := by rw [← hpad]; split <;> omega
    clear hpad
    have stop : StopIf := ⟨⟩
    (repeat top_args)
    clear stop
    refine' x_join (fun σ => σ = ([("script", .val (dL sc)), ("deck", .own true a (l8.map .int)), ("way", .val (.str way)), ("parts_here", .val (.list (qs.map dPt))), ("column", .val (.int col)), ("leads", .val (.tuple [dL fp, dL pf])), ("words", .val (.list ((wsOf (pcs qs)).map dL))), ("codes", .val (dL cs)), ("word", s1), ("between", s2), ("gaps", .val (dL (gsOf (pcs qs)))), ("given", .val (dL cs)), ("rows", .val (.list (rows.map dL))), ("due", .val (.list (due.map dE))), ("place", .val (.int i)), ("first", .val (.int first)), ("last", .val (.int last)), ("lead", .val (dL lead)), ("row", .val (dL X)), ("own", .val (.list ((wsOf Rw).map dL))), ("wide", .val (dL (gsOf Rw))), ("room", .val (.int (col - lead.length))), ("plain_here", .val (dL pn)), ("pad", .val (.int pad)), ("is_right", .val (.bool true)), ("again_here", .no)] : Sto)) ?_ ?_
    · refine' x_if ?_
      refine' et_join (decide ((way == "full") = true ∧ ¬ i + 1 = due.length)) ?_ ?_
      · (repeat top_args)
        first | with_reducible refine' ite_both (fun h3 => ?_) (fun h3 => ?_) | with_reducible refine' ite_bothN (fun h3 => ?_) (fun h3 => ?_) | with_reducible refine' ite_bothB (fun h3 => ?_) (fun h3 => ?_)
        · (repeat top_args)
          first | with_reducible refine' ite_both (fun h4 => ?_) (fun h4 => ?_) | with_reducible refine' ite_bothN (fun h4 => ?_) (fun h4 => ?_) | with_reducible refine' ite_bothB (fun h4 => ?_) (fun h4 => ?_)
          · (repeat top_args)
            exact ⟨(decide_eq_true ⟨h3, by omega⟩).symm, rfl⟩
          · (repeat top_args)
            exact ⟨(decide_eq_false fun q => q.2 (by omega)).symm, rfl⟩
        · (repeat top_args)
          exact ⟨(decide_eq_false fun q => by rw [h3] at q; cases q.1).symm, rfl⟩
      first | with_reducible refine' ite_both (fun h3 => ?_) (fun h3 => ?_) | with_reducible refine' ite_bothN (fun h3 => ?_) (fun h3 => ?_) | with_reducible refine' ite_bothB (fun h3 => ?_) (fun h3 => ?_)
      · have hX := hfull h3
        subst hX
        (repeat top_args)
        refine' sp_is_spread hspread ?_
        (repeat top_args)
        rfl
      · have hX := hplain (fun q => h3 ⟨q.1, of_decide_eq_false q.2⟩)
        have stop : StopIf := ⟨⟩
        (repeat top_args)
        clear stop
        have hpo2 : 0 ≤ padOf way pad ∧ padOf way pad ≤ 100 := by
          unfold padOf
          have hd2 := fdiv_le (a := pad) (b := 2) hpb.1 (by decide)
          clear hrow hmem hpo hfull hspread hplain
          split
          · exact hpb
          · split <;> omega
        refine' ev_join (.int (padOf way pad)) ?_ ?_
        · unfold padOf
          (repeat top_args)
          first | with_reducible refine' ite_both (fun h5 => ?_) (fun h5 => ?_) | with_reducible refine' ite_bothN (fun h5 => ?_) (fun h5 => ?_) | with_reducible refine' ite_bothB (fun h5 => ?_) (fun h5 => ?_)
          · rw [if_pos h5]
            (repeat top_args)
            exact ⟨rfl, rfl⟩
          · rw [if_neg (fun q => by rw [h5] at q; cases q)]
            (repeat top_args)
            first | with_reducible refine' ite_both (fun h6 => ?_) (fun h6 => ?_) | with_reducible refine' ite_bothN (fun h6 => ?_) (fun h6 => ?_) | with_reducible refine' ite_bothB (fun h6 => ?_) (fun h6 => ?_)
            · rw [if_pos h6]
              (repeat top_args)
              refine' op_fdiv (by decide) (by decide) ?_
              exact ⟨rfl, rfl⟩
            · rw [if_neg (fun q => by rw [h6] at q; cases q)]
              (repeat top_args)
              exact ⟨rfl, rfl⟩
        generalize padOf way pad = pd at hX hpo2 ⊢
        refine' op_repI O (by omega) (by omega) ?_
        (repeat top_args)
        refine' op_catL O (by rw [List.length_replicate, sizeLine_eq]; omega) ?_
        refine' cmp_eqL O ?_
        rw [decide_eq_true hX]
        (repeat top_args)
        rfl
    rintro _ rfl
    (repeat top_args)
    rw [List.take_left]
    refine' cmp_neL O ?_
    first | with_reducible refine' ite_both (fun h9 => ?_) (fun h9 => ?_) | with_reducible refine' ite_bothN (fun h9 => ?_) (fun h9 => ?_) | with_reducible refine' ite_bothB (fun h9 => ?_) (fun h9 => ?_)
    · exact absurd rfl h9
    (repeat top_args)
    exact hR _ ⟨.val _, .val _, .val _, .val _, .val _, .val _, .val _, .val _, .val _, .val _, .val _, rfl, rfl, rfl, rfl, rfl, rfl, rfl, rfl, rfl, rfl, rfl, rfl⟩
  rintro _ ⟨u0, u1, u2, u3, u4, u5, u6, u7, u8, u9, u10, k10, k11, k12, k13, k14, k15, k16, k17, k18, k19, k20, rfl⟩
  refine' then_next ?_
  refine' xs_cons ?_
  refine' x_assign O ?_
  (repeat top_args)
  have hpre : ∀ i, (againE (pcs qs) (due.take i)).length ≤ 56 := fun i => by
    have e : againE (pcs qs) due = againE (pcs qs) (due.take i) ++ againE (pcs qs) (due.drop i) := by
      rw [againE, againE, againE, ← List.flatMap_append, List.take_append_drop]
    have := congrArg List.length e
    rw [List.length_append] at this
    omega
  refine' for_inv (fun i σ => ∃ v1 v2 : Slot, v1.kind = .local ∧ v2.kind = .local ∧ σ = ([("script", .val (dL sc)), ("deck", .own true a (l8.map .int)), ("way", .val (.str way)), ("parts_here", .val (.list (qs.map dPt))), ("column", .val (.int col)), ("leads", .val (.tuple [dL fp, dL pf])), ("words", .val (.list ((wsOf (pcs qs)).map dL))), ("codes", .val (dL cs)), ("word", s1), ("between", s2), ("gaps", .val (dL (gsOf (pcs qs)))), ("given", .val (dL cs)), ("rows", .val (.list (rows.map dL))), ("due", .val (.list (due.map dE))), ("place", u0), ("first", v1), ("last", v2), ("lead", u3), ("row", u4), ("own", u5), ("wide", u6), ("room", u7), ("plain_here", u8), ("pad", u9), ("is_right", u10), ("again_here", .val (dL (againE (pcs qs) (due.take i))))] : Sto))
    ⟨u1, u2, k11, k12, rfl⟩ ?_ ?_
  · rintro i d σ1 R hd ⟨v1, v2, q1, q2, rfl⟩ hR
    rw [List.getElem?_map] at hd
    obtain ⟨e, he, rfl⟩ := Option.map_eq_some_iff.mp hd
    have hmem := hrf.mem _ (List.mem_of_getElem? he)
    have hp1 := hpre i
    have hp2 := hpre (i + 1)
    have hRw := cut_ws (pcs qs) e
    have hRg := cut_gs (pcs qs) e
    have hWR : WOk (wsOf (cutE (pcs qs) e)) (gsOf (cutE (pcs qs) e)) := by rw [hRw, hRg]; exact (hW.drop _).take _
    have hgb : ∀ g ∈ gsOf (cutE (pcs qs) e), 0 ≤ g ∧ g ≤ 1000 := fun g hg => by
      obtain ⟨p, hp, rfl⟩ := List.mem_map.mp hg
      have := (hpg p (List.mem_of_mem_drop (List.mem_of_mem_take hp))).2; omega
    have enext : againE (pcs qs) (due.take (i + 1)) = againE (pcs qs) (due.take i) ++ rowCodes (wsOf (cutE (pcs qs) e)) (gsOf (cutE (pcs qs) e)) ++ [10] := by
      rw [againE, againE, List.take_add_one, he, Option.toList_some, List.flatMap_append, List.flatMap_singleton, List.append_assoc]
    rw [enext] at hR hp2
    rw [List.length_append, List.length_append, List.length_singleton] at hp2
    generalize againE (pcs qs) (due.take i) = acc at hR hp1 hp2 ⊢
    obtain ⟨first, last⟩ := e
    dsimp only at hmem hRw hRg
    generalize cutE (pcs qs) (first, last) = Rw at hRw hRg hWR hgb hR hp2
    (repeat top_args)
    rw [← hRw]
    (repeat top_args)
    rw [← hRg]
    refine' sp_law_row hWR hgb ?_
    (repeat top_args)
    refine' op_catL O (by rw [sizeLine_eq]; omega) ?_
    (repeat top_args)
    refine' op_catL O (b := [10]) (by rw [List.length_append, List.length_singleton, sizeLine_eq]; omega) ?_
    (repeat top_args)
    exact hR _ ⟨.val _, .val _, rfl, rfl, rfl⟩
  rintro _ ⟨v1, v2, q1, q2, rfl⟩
  rw [List.length_map, List.take_length]
  (repeat top_args)
  refine' sp_filled ⟨by omega, by omega, by omega, by omega⟩ ?_
  rw [hrefill]
  (repeat top_args)
  refine' cmp_eqLL O ?_
  rw [decide_eq_true rfl]
  exact hQ

/-! the join -/
theorem tup_glob {p : Program} {w : World} {mg : Str → Option Value} {h : Heap} (B : Tables p w mg h) {x : Str} {l : List Int} (e : tupIntsOf p x = some l) : ∃ v, mg x = some v ∧ Den h.get? v (.tuple (l.map .int)) := by
  obtain ⟨a, vs, h1, ⟨o, h2, h3, n, h4⟩, h5⟩ := B.tupI x l e
  exact ⟨_, h1, .tuple h2 h3 h4 (by rw [List.toList_toArray]; exact den_of_ints h5)⟩
theorem val_glob {p : Program} {loose : List Str} {mean : ExcName → Option Value} {mg mb : Str → Option Value} {h : Heap} (T : Top p loose mean mg mb h) {x : Str} {i : Int} (e : valOf p x = some (.int i)) : ∃ v, mg x = some v ∧ Den h.get? v (.int i) := by
  obtain ⟨v, h1, h2⟩ := T.const x _ e
  have := h2 h
  cases this
  exact ⟨_, h1, .int _ _⟩
noncomputable def biFree (p : Program) (loose : List Str) : Bool := builtinsUsed.all fun q => !(startupNames.contains q.1) && !(loose.contains q.1) && !(((recsOf p).map (·.name)).contains q.1) && !(((litsOf p).map (·.1)).contains q.1) && !(((clssOf p loose).map (·.name)).contains q.1)
theorem not_mem_of {l : List Str} {x : Str} (h : (!(l.contains x)) = true) : x ∉ l := fun q => by
  rw [List.contains_iff_mem.mpr q] at h
  cases h
theorem boot_ok : ∀ p ∈ builtinsUsed, p.1 ≠ "__name__" ∧ bootBuiltins p.1 = some p.2 := by
  intro p hp
  simp only [builtinsUsed, List.mem_cons, List.not_mem_nil, or_false] at hp
  rcases hp with rfl | rfl | rfl | rfl | rfl | rfl | rfl | rfl | rfl <;> exact ⟨by decide +kernel, by kernel_rfl⟩
noncomputable def fdIdx : List Nat := [7, 8, 9, 10, 11, 12, 13, 14, 15, 16, 17, 18, 19, 21, 22, 23, 24, 25, 26, 27, 28, 29]
structure TopFacts (p : Program) (loose : List Str) : Prop where
  recs : ((recsOf p).map fun d => (⟨d.name, d.params, d.body, d.scope⟩ : Fd)) = (fdIdx ++ [30]).map fd
  blank : valOf p "BLANK" = some (.int 32)
  tab : valOf p "TAB" = some (.int 9)
  rowend : valOf p "ROW_END" = some (.int 10)
  period : valOf p "PERIOD" = some (.int 46)
  ends : tupIntsOf p "ENDS" = some [33, 46, 63]
  closers : tupIntsOf p "CLOSERS" = some [34, 39, 41, 93, 125]
  bi : biFree p loose = true
theorem std_of {prog : Program} {w : World} {p : Program} {loose : List Str} {mean : ExcName → Option Value} {mg mb : Str → Option Value} {h : Heap} (T : Top p loose mean mg mb h) (B : Tables p w mg h) (TF : TopFacts p loose) :
    Std ⟨prog, w, h, mg, mb⟩ ∧ ∀ i, 7 ≤ i → i ≤ 29 → i ≠ 20 → FnIn ⟨prog, w, h, mg, mb⟩ (fd i) := by
  refine ⟨⟨⟨T.g, T.b, T.nolimit⟩, val_glob T TF.blank, val_glob T TF.tab, val_glob T TF.rowend, val_glob T TF.period, tup_glob B TF.ends, tup_glob B TF.closers, fun q hq => ?_⟩, fun i h1 h2 h3 => ?_⟩
  · have hb := List.all_eq_true.mp TF.bi q hq
    have hk := boot_ok q hq
    simp only [Bool.and_eq_true] at hb
    obtain ⟨⟨⟨⟨b1, b2⟩, b3⟩, b4⟩, b5⟩ := hb
    exact ⟨T.free _ (not_mem_of b1) (not_mem_of b2) (not_mem_of b3) (not_mem_of b4) (not_mem_of b5), (T.builtins _ hk.1).trans hk.2⟩
  · have hall : ∀ j < 30, 7 ≤ j → j ≠ 20 → j ∈ fdIdx := by decide
    have hi := hall i (by omega) h1 h3
    have hmem : fd i ∈ (recsOf p).map fun d => (⟨d.name, d.params, d.body, d.scope⟩ : Fd) := by
      rw [TF.recs]; exact List.mem_map_of_mem (List.mem_append_left _ hi)
    obtain ⟨d, hd, he⟩ := List.mem_map.mp hmem
    obtain ⟨a, o, pm, code, doc, e1, e2, e3, e4⟩ := T.fn d hd
    rw [← he]
    obtain ⟨c', rfl⟩ : ∃ c', code = .ref c' := by
      obtain ⟨c', _, _, _, e, _⟩ := e4
      exact ⟨c', e⟩
    exact ⟨a, o, pm, c', doc, e1, e2, e3, e4⟩
theorem join {prog : Program} {w : World} {s : Shared} {p : Program} {loose : List Str} {mean : ExcName → Option Value} {mg mb : Str → Option Value} (T : Top p loose mean mg mb s.heap) (B : Tables p w mg s.heap) (TF : TopFacts p loose)
    {fa cd a : Addr} {vs : Array Value} {n : Nat} {sc : List Int} (hs : s.heap.get? a = some (lst vs n)) (hi : IntsAre vs.toList sc) (hlen : sc.length ≤ 63) {h₁ : Heap} {m : Str → Option Value} (F : Fr s.heap s.heap.objs.size h₁ m) (hm : m "script" = some (.ref a)) {tk : Nat}
    {name : Str} {scope : Scope} {body : List Stmt} (hsc : scope = (fd 30).scope) (hbody : body = (fd 30).body)
    {Q : Flow → Shared → Prop} {E : Value → Shared → Prop} (post : ∀ h' tk', (∀ b o, s.heap.get? b = some o → h'.get? b = some o) → Q (.ret (.bool true)) { s with heap := h', toks := tk' }) :
    wpAny (model prog w) (callerA.deeper (envOf name scope s.heap.objs.size fa (.ref cd))) (execs body (envOf name scope s.heap.objs.size fa (.ref cd))) Q E { s with heap := h₁, toks := tk } := by
  subst hsc hbody
  obtain ⟨H, HF⟩ := std_of (prog := prog) (w := w) T B TF
  let env := envOf name (fd 30).scope s.heap.objs.size fa (.ref cd)
  let rest : List Str := ["deck", "way", "parts_here", "column", "leads", "words", "codes", "word", "between", "gaps", "given", "rows", "due", "place", "first", "last", "lead", "row", "own", "wide", "room", "plain_here", "pad", "is_right", "again_here"]
  let c : Cx := ⟨prog, w, callerA.deeper env, env, s.heap.get?, { s with heap := h₁, toks := tk }, s.heap.objs.size, mg, mb, s.heap⟩
  let Kp0 : Kp := fun a => (s.heap.get? a).map fun o => (o, false)
  have hfresh : ∀ {o : Obj}, s.heap.get? s.heap.objs.size ≠ some o := fun {o} e => absurd (Heap.lt_size e) (Nat.lt_irrefl _)
  have O : Ok c 5 := ⟨rfl, rfl, rfl, ⟨rfl, by show callerA.depth + 1 + 5 * 5 + 200 < recursionLimit; decide, by show callerA.units + 3 + 50 * 5 + 1000 < cLine; decide⟩, H.base, fun _ _ e => e, Nat.le_refl _⟩
  have hnames : (init ["script"] [dL sc] rest).map (·.1) = ("script" : Str) :: rest := init_names rfl
  have I : Inv c Kp0 s.heap.get? (init ["script"] [dL sc] rest) c.s0 := by
    refine ⟨fun a o' b e => ?_, fun a o' e => ?_, fun a o' e => F.keep _ _ e, fun a o' e => .inl e, fun a o' e => e, ?_, ?_, ⟨_, _, rfl⟩, by rw [hnames]; decide +kernel, fun p hp => ?_, ⟨_, F.ns, fun p hp => ?_⟩, fun p hp q hq hne a ha => ?_⟩
    · cases q : s.heap.get? a with
      | none => simp only [Kp0, q] at e; cases e
      | some o2 => simp only [Kp0, q, Option.map_some] at e; cases e; exact F.keep _ _ q
    · cases q : s.heap.get? a with
      | none => simp only [Kp0, q] at e; cases e
      | some o2 => simp only [Kp0, q, Option.map_some] at e; cases e
    · cases q : s.heap.get? s.heap.objs.size with
      | none => exact q
      | some o2 => exact absurd q hfresh
    · show (s.heap.get? s.heap.objs.size).map _ = none
      cases q : s.heap.get? s.heap.objs.size with
      | none => rfl
      | some o2 => exact absurd q hfresh
    · have h1 : p.1 ∈ ("script" : Str) :: rest := by rw [← hnames]; exact List.mem_map_of_mem (f := (·.1)) hp
      rw [init_kind hp]
      have h2 : ∀ x ∈ ("script" : Str) :: rest, (fd 30).scope.names.lookup x = some .local := by decide +kernel
      exact h2 _ h1
    · rcases List.mem_append.mp hp with h | h
      · have h : p = (("script" : Str), Slot.val (dL sc)) := by simpa using h
        subst h
        exact ⟨_, hm, .list hs (den_of_ints hi)⟩
      · obtain ⟨x, _, rfl⟩ := List.mem_map.mp h
        trivial
    · rcases List.mem_append.mp hp with h | h
      · have h : p = (("script" : Str), Slot.val (dL sc)) := by simpa using h
        subst h
        cases ha
      · obtain ⟨x, _, rfl⟩ := List.mem_map.mp h
        cases ha
  have key := law_body O H HF rfl rfl sc hlen (fun d => d = .bool true) rfl Kp0 s.heap.get? c.s0 I
  refine wpAny_mono key (fun f s' P => ?_) fun _ _ x => x.elim
  obtain ⟨r, σ', Z', e, J, Df, hr⟩ := P
  cases r with
  | ret d =>
    cases f with
    | ret v =>
      obtain ⟨h, tk', hs'⟩ := J.rest
      have hd : d = .bool true := hr
      subst hd
      have Df' : Den Z' v (.bool true) := Df
      cases Df'
      rw [hs']
      refine post h tk' fun b o q => ?_
      have := J.kept b o false (by show (s.heap.get? b).map _ = _; rw [q]; rfl)
      rw [hs'] at this
      exact this
    | _ => exact Df.elim
  | _ => exact hr.elim
theorem well_get {P : Params} {h : Heap} {a : Addr} {l : List PyData} {vs : Array Value} (hw : Well P h (.ref a) (ofPy (.list l))) (hL : h.IsList a vs) : h.get? a = some (lst vs 0) := by
  obtain ⟨o, ho, hc, n, hd⟩ := hL
  have key : ∀ d, Well P h (.ref a) d → ofPy (.list l) = d → ∃ us : List Value, h.get? a = some { cls := .type "list", data := .seq us.toArray } := by
    intro d hw e
    cases hw with
    | list e1 _ => exact ⟨_, e1⟩
    | _ => simp [ofPy] at e
  obtain ⟨us, e1⟩ := key _ hw rfl
  rw [ho] at e1
  cases e1
  cases hd
  exact ho
theorem join2 {prog : Program} {w : World} {s : Shared} {p : Program} {loose : List Str} {mean : ExcName → Option Value} {mg mb : Str → Option Value} (T : Top p loose mean mg mb s.heap) (B : Tables p w mg s.heap) (TF : TopFacts p loose)
    {P : Params} {fa cd a : Addr} {vs : List Value} {sc : List Int} (hw : Well P s.heap (.ref a) (ofPy (.list (sc.map .int)))) (hL : s.heap.IsList a vs.toArray) (hi : IntsAre vs sc) (hlen : sc.length ≤ 63) {h₁ : Heap} {m : Str → Option Value} (F : Fr s.heap s.heap.objs.size h₁ m) (hm : m "script" = some (.ref a)) {tk : Nat}
    {name : Str} {scope : Scope} {body : List Stmt} (hsc : scope = (fd 30).scope) (hbody : body = (fd 30).body)
    {Q : Flow → Shared → Prop} {E : Value → Shared → Prop} (post : ∀ h' tk', (∀ b o, s.heap.get? b = some o → h'.get? b = some o) → Q (.ret (.bool true)) { s with heap := h', toks := tk' }) :
    wpAny (model prog w) (callerA.deeper (envOf name scope s.heap.objs.size fa (.ref cd))) (execs body (envOf name scope s.heap.objs.size fa (.ref cd))) Q E { s with heap := h₁, toks := tk } :=
  join T B TF (well_get hw hL) (by rw [List.toList_toArray]; exact hi) hlen F hm hsc hbody post

end Mine

set_option maxRecDepth 100000 in
set_option maxHeartbeats 8000000 in
theorem PySem.Challenge.cw_np0021_01_holds : PySem.Challenge.rw_np0021_01.Holds := by
  w_on
  o_law
  o_head (Hook.none)
  case hw => w_witness2
  w_strict (
    intro w s₀ s₁ mg mb G Y fa o pm cd doc dV kV ho hd hcd hD hmg hg args vals as hpre hlay hrd hwl hlo
    refine Ground.open G ?_
    intro T B D TE TW
    try (refine guard_noD D (by decide +kernel) ?_; clear D)
    try (obtain ⟨_, _, he, B0⟩ := based_of_top T rfl hmg ho hd; have he' : cd = _ := he; subst he'; clear he)
    wrow_args hpre hlay hrd hwl hlo
    all_goals (
      first | refine callC_kw (enter_call ?_) | refine enter_call ?_
      w_top on
      try refine codeAny_mono ?_ (fun _ _ g => GoodW.toG g)
      w_call any ho hd hcd hD T F)
    refine' Mine.join2 (by assumption) (by assumption) ?tf (by assumption) (by assumption) (by assumption) ?hlen (by assumption) ?hm ?hsc ?hbody ?post
    case hlen => omega
    case hm => rfl
    case hsc => kernel_rfl
    case hbody => kernel_rfl
    case tf => exact ⟨by kernel_rfl, by kernel_rfl, by kernel_rfl, by kernel_rfl, by kernel_rfl, by kernel_rfl, by kernel_rfl, by kernel_rfl⟩
    case post =>
      intro h' tk' hk
      refine ⟨.inl ⟨_, .bool true, [], rfl, fun _ => rfl, .bool true, ?_, fun _ => ⟨List.nodup_nil, fun a ha => by cases ha⟩⟩, hk, rfl, by assumption⟩
      kernel_rfl)
