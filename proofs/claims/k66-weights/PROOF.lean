import PyProof.Rows.All
import Wide.All
import OpenK.AllK
import Wide.FinOn
import HandS.ForMost
import HandS.IsInst
import HandS.Gcd
import HandS.Deep
import HandS.TupAny
import HandS.Zip
import HandS.Rev
import HandS.Wide
import KE.DataEq
import PySem.Challenge.RW_cheesestead_k66_weights_one_by_one
set_option Elab.async false
set_option linter.all false
set_option maxRecDepth 100000
set_option maxHeartbeats 4000000
namespace Mini
open PySem PySem.Spec PyProof.Rows L2

/-! ### data, and what bears them -/
inductive D where
  | non | bl (b : Bool) | int (i : Int) | str (s : Str) | tup (xs : List D) | lst (xs : List D) | scr (xs : List D) | spot
  deriving Inhabited

mutual
inductive Rep (K : PySem.W.Frag) (sp : Option Addr) (H : Hp) : V → D → Prop
  | non : Rep K sp H .non .non
  | bl (b : Bool) : Rep K sp H (.bl b) (.bl b)
  | int (i : Int) : Rep K sp H (.int i) (.int i)
  | str (x : Str) : Rep K sp H (.str x) (.str x)
  | tup {a : Addr} {xs : List V} {ds : List D} : SqT K H a xs → RepL K sp H xs ds → Rep K sp H (.ref a) (.tup ds)
  | lst {a : Addr} {xs : List V} {ds : List D} : H a = some (.lst xs) → RepL K sp H xs ds → Rep K sp H (.ref a) (.lst ds)
  | scr {a : Addr} {xs : List V} {ds : List D} : SqL K H a xs → RepL K sp H xs ds → Rep K sp H (.ref a) (.scr ds)
  | spot {a : Addr} : sp = some a → Rep K sp H (.ref a) .spot
inductive RepL (K : PySem.W.Frag) (sp : Option Addr) (H : Hp) : List V → List D → Prop
  | nil : RepL K sp H [] []
  | cons {v : V} {vs : List V} {d : D} {ds : List D} : Rep K sp H v d → RepL K sp H vs ds → RepL K sp H (v :: vs) (d :: ds)
end

def Ext (H H' : Hp) : Prop := ∀ a o, H a = some o → H' a = some o
theorem Ext.refl (H : Hp) : Ext H H := fun _ _ h => h
theorem Ext.trans {H H1 H2 : Hp} (a : Ext H H1) (b : Ext H1 H2) : Ext H H2 := fun x o h => b x o (a x o h)
theorem Ext.upd {H : Hp} {p : Addr} {o : HO} (h : H p = none) : Ext H (upd H p o) := fun a u e => by
  rw [upd_ne (ne_of_none e h)]; exact e
theorem ext_l {K : PySem.W.Frag} {H H' : Hp} {a : Addr} {xs : List V} (e : Ext H H') (h : SqL K H a xs) : SqL K H' a xs := by
  rcases h with (h | ⟨o, h⟩) | h
  · exact .inl (.inl (e _ _ h))
  · exact .inl (.inr ⟨o, e _ _ h⟩)
  · exact .inr h
theorem ext_t {K : PySem.W.Frag} {H H' : Hp} {a : Addr} {xs : List V} (e : Ext H H') (h : SqT K H a xs) : SqT K H' a xs := by
  rcases h with (h | ⟨o, h⟩) | h
  · exact .inl (.inl (e _ _ h))
  · exact .inl (.inr ⟨o, e _ _ h⟩)
  · exact .inr h
mutual
theorem Rep.ext {K : PySem.W.Frag} {sp : Option Addr} {H H' : Hp} (e : Ext H H') : ∀ (d : D) (v : V), Rep K sp H v d → Rep K sp H' v d
  | .non, _, h => by cases h; exact .non
  | .bl b, _, h => by cases h; exact .bl b
  | .int i, _, h => by cases h; exact .int i
  | .str x, _, h => by cases h; exact .str x
  | .tup ds, _, h => by
    cases h with
    | tup h1 h2 => exact .tup (ext_t e h1) (RepL.ext e ds _ h2)
  | .lst ds, _, h => by
    cases h with
    | lst h1 h2 => exact .lst (e _ _ h1) (RepL.ext e ds _ h2)
  | .scr ds, _, h => by
    cases h with
    | scr h1 h2 => exact .scr (ext_l e h1) (RepL.ext e ds _ h2)
  | .spot, _, h => by
    cases h with
    | spot h => exact .spot h
theorem RepL.ext {K : PySem.W.Frag} {sp : Option Addr} {H H' : Hp} (e : Ext H H') : ∀ (ds : List D) (vs : List V), RepL K sp H vs ds → RepL K sp H' vs ds
  | [], _, h => by cases h; exact .nil
  | d :: ds, _, h => by
    cases h with
    | cons h1 h2 => exact .cons (Rep.ext e d _ h1) (RepL.ext e ds _ h2)
end
section
variable {K : PySem.W.Frag} {sp : Option Addr} {H : Hp}
theorem RepL.len : ∀ {vs : List V} {ds : List D}, RepL K sp H vs ds → vs.length = ds.length
  | _, _, .nil => rfl
  | _, _, .cons _ t => congrArg (· + 1) (RepL.len t)
theorem RepL.get : ∀ {vs : List V} {ds : List D} {i : Nat} {d : D}, RepL K sp H vs ds → ds[i]? = some d → ∃ v, vs[i]? = some v ∧ Rep K sp H v d
  | _, _, _, _, .nil, e => by simp at e
  | _, _, 0, _, .cons r _, e => by simp at e; subst e; exact ⟨_, rfl, r⟩
  | _, _, i + 1, d, .cons _ t, e => by
    obtain ⟨v, h1, h2⟩ := RepL.get (i := i) (d := d) t (by simpa using e)
    exact ⟨v, by simpa using h1, h2⟩
theorem RepL.get' : ∀ {vs : List V} {ds : List D} {i : Nat} {v : V}, RepL K sp H vs ds → vs[i]? = some v → ∃ d, ds[i]? = some d ∧ Rep K sp H v d
  | _, _, _, _, .nil, e => by simp at e
  | _, _, 0, _, .cons r _, e => by simp at e; subst e; exact ⟨_, rfl, r⟩
  | _, _, i + 1, v, .cons _ t, e => by
    obtain ⟨d, h1, h2⟩ := RepL.get' (i := i) (v := v) t (by simpa using e)
    exact ⟨d, by simpa using h1, h2⟩
theorem RepL.append : ∀ {vs ws : List V} {ds es : List D}, RepL K sp H vs ds → RepL K sp H ws es → RepL K sp H (vs ++ ws) (ds ++ es)
  | _, _, _, _, .nil, s => s
  | _, _, _, _, .cons r t, s => .cons r (RepL.append t s)
theorem RepL.take : ∀ {vs : List V} {ds : List D} (n : Nat), RepL K sp H vs ds → RepL K sp H (vs.take n) (ds.take n)
  | _, _, 0, _ => .nil
  | _, _, _ + 1, .nil => .nil
  | _, _, n + 1, .cons r t => .cons r (RepL.take n t)
theorem RepL.drop : ∀ {vs : List V} {ds : List D} (n : Nat), RepL K sp H vs ds → RepL K sp H (vs.drop n) (ds.drop n)
  | _, _, 0, r => r
  | _, _, _ + 1, .nil => .nil
  | _, _, n + 1, .cons _ t => RepL.drop n t
theorem RepL.set : ∀ {vs : List V} {ds : List D} {v : V} {d : D} (i : Nat), Rep K sp H v d → RepL K sp H vs ds → RepL K sp H (vs.set i v) (ds.set i d)
  | _, _, _, _, _, _, .nil => .nil
  | _, _, _, _, 0, q, .cons _ t => .cons q t
  | _, _, _, _, i + 1, q, .cons r t => .cons r (RepL.set i q t)
theorem RepL.ints : ∀ {vs : List V} (ns : List Int), RepL K sp H vs (ns.map D.int) → vs = ns.map V.int
  | _, [], .nil => rfl
  | _, n :: ns, .cons r t => by cases r; rw [RepL.ints ns t]; rfl
theorem repl_ints : ∀ (ns : List Int), RepL K sp H (ns.map V.int) (ns.map D.int)
  | [] => .nil
  | n :: ns => .cons (.int n) (repl_ints ns)
end

/-! ### worlds: B the part that stands for good, H all; sp: where the counter's list stands -/
structure Wd (sp : Option Addr) (B H : Hp) : Prop where
  sub : Ext B H
  spn : ∀ a, sp = some a → B a = none
structure Ge (sp : Option Addr) (B H B' H' : Hp) : Prop where
  hh : ∀ a o, sp ≠ some a → H a = some o → H' a = some o
  bb : Ext B B'
  wd : Wd sp B' H'
  old : ∀ a o, H a = some o → B a = none → B' a = none
theorem Ge.refl {sp : Option Addr} {B H : Hp} (w : Wd sp B H) : Ge sp B H B H := ⟨fun _ _ _ h => h, Ext.refl _, w, fun _ _ _ h => h⟩
theorem Ge.trans {sp : Option Addr} {B H B1 H1 B2 H2 : Hp} (a : Ge sp B H B1 H1) (b : Ge sp B1 H1 B2 H2) : Ge sp B H B2 H2 := by
  refine ⟨fun x o n h => b.hh x o n (a.hh x o n h), a.bb.trans b.bb, b.wd, fun x o h n => ?_⟩
  by_cases e : sp = some x
  · exact b.wd.spn x e
  · exact b.old x o (a.hh x o e h) (a.old x o h n)
def SpotAt (sp : Option Addr) (k : Option Int) (H : Hp) : Prop :=
  match sp, k with
  | none, none => True
  | some a, some i => H a = some (.lst [.int i])
  | _, _ => False
theorem SpotAt.ne {sp : Option Addr} {k : Option Int} {H : Hp} {p : Addr} (h : SpotAt sp k H) (hp : H p = none) : sp ≠ some p := by
  intro e
  subst e
  cases k with
  | none => exact h
  | some i =>
    have h' : H p = some (.lst [.int i]) := h
    rw [hp] at h'; cases h'
/-- a new object -/
theorem Ge.new {sp : Option Addr} {k : Option Int} {B H : Hp} {p : Addr} {o : HO} (w : Wd sp B H) (s : SpotAt sp k H) (hp : H p = none) : Ge sp B H (upd B p o) (upd H p o) := by
  have ns := s.ne hp
  have hb : B p = none := by
    cases e : B p with
    | none => rfl
    | some u => have := w.sub p u e; rw [hp] at this; cases this
  refine ⟨fun a u _ h => by rw [upd_ne (ne_of_none h hp)]; exact h, Ext.upd hb, ⟨fun a u h => ?_, fun a e => ?_⟩, fun a u h n => ?_⟩
  · by_cases ha : a = p
    · subst ha; rw [upd_same] at h ⊢; exact h
    · rw [upd_ne ha] at h ⊢; exact w.sub a u h
  · rw [upd_ne (fun q => ns (by rw [← q]; exact e))]; exact w.spn a e
  · rw [upd_ne (ne_of_none h hp)]; exact n
/-- a new object that stays outside of B -/
theorem Ge.newOut {sp : Option Addr} {k : Option Int} {B H : Hp} {p : Addr} {o : HO} (w : Wd sp B H) (s : SpotAt sp k H) (hp : H p = none) : Ge sp B H B (upd H p o) := by
  refine ⟨fun a u _ h => by rw [upd_ne (ne_of_none h hp)]; exact h, Ext.refl _, ⟨fun a u h => ?_, w.spn⟩, fun a u h n => n⟩
  rw [upd_ne (ne_of_none (w.sub a u h) hp)]; exact w.sub a u h
theorem SpotAt.ge {sp : Option Addr} {k : Option Int} {H : Hp} {p : Addr} {o : HO} (s : SpotAt sp k H) (hp : H p = none) : SpotAt sp k (upd H p o) := by
  have ns := s.ne hp
  cases sp with
  | none => cases k <;> exact s
  | some a =>
    cases k with
    | none => exact s
    | some i =>
      show upd H p o a = _
      rw [upd_ne (fun e => ns (by rw [e]))]
      exact s

/-! ### the slots -/
abbrev Rho := List (Option D)
/-- the slots that are not in mu hold what ρ says, over B -/
def RI (K : PySem.W.Frag) (sp : Option Addr) (B : Hp) (mu : List Nat) (ρ : Rho) (σ : L2.St) : Prop :=
  σ.length = ρ.length ∧ ∀ i d, i ∉ mu → ρ[i]? = some (some d) → ∃ v, σ[i]? = some (some v) ∧ Rep K sp B v d
theorem RI.ext {K : PySem.W.Frag} {sp : Option Addr} {B B' : Hp} {mu : List Nat} {ρ : Rho} {σ : L2.St} (h : RI K sp B mu ρ σ) (e : Ext B B') : RI K sp B' mu ρ σ :=
  ⟨h.1, fun i d n q => let ⟨v, h1, h2⟩ := h.2 i d n q; ⟨v, h1, Rep.ext e d v h2⟩⟩

/-- an expression's reading: it gives d, and the counter k becomes k' -/
def tD (K : PySem.W.Frag) (ρ : Rho) (mu : List Nat) (k : Option Int) (d : D) (k' : Option Int) : TE := fun σ H Q =>
  ∃ sp B, Wd sp B H ∧ SpotAt sp k H ∧ RI K sp B mu ρ σ ∧ ∀ v B' H', Ge sp B H B' H' → SpotAt sp k' H' → Rep K sp B' v d → Q v H'
def tDs (K : PySem.W.Frag) (ρ : Rho) (mu : List Nat) (k : Option Int) (ds : List D) (k' : Option Int) : TA := fun σ H Q =>
  ∃ sp B, Wd sp B H ∧ SpotAt sp k H ∧ RI K sp B mu ρ σ ∧ ∀ vs B' H', Ge sp B H B' H' → SpotAt sp k' H' → RepL K sp B' vs ds → Q vs H'
def tDT (K : PySem.W.Frag) (ρ : Rho) (mu : List Nat) (k : Option Int) (b : Bool) (k' : Option Int) : TT := fun σ H Q =>
  ∃ sp B, Wd sp B H ∧ SpotAt sp k H ∧ RI K sp B mu ρ σ ∧ ∀ B' H', Ge sp B H B' H' → SpotAt sp k' H' → Q b H'
section
variable {X : Cx} {e : Expr}
theorem _root_.L2.PE.wk {t t' : TE} (h : PE X e t) (w : ∀ σ H Q, t' σ H Q → t σ H Q) : PE X e t' := ⟨fun pins s σ H Q I hw => h.run pins s σ H Q I (w _ _ _ hw)⟩
theorem _root_.L2.PT.wk {t t' : TT} (h : PT X e t) (w : ∀ σ H Q, t' σ H Q → t σ H Q) : PT X e t' := ⟨fun pins s σ H Q I hw => h.run pins s σ H Q I (w _ _ _ hw)⟩
theorem _root_.L2.PW.wk {t t' : TT} (h : PW X e t) (w : ∀ σ H Q, t' σ H Q → t σ H Q) : PW X e t' := ⟨fun wh pins s σ H Q I hw => h.run wh pins s σ H Q I (w _ _ _ hw)⟩
theorem _root_.L2.PA.wk {es : List Expr} {t t' : TA} (h : PA X es t) (w : ∀ σ H Q, t' σ H Q → t σ H Q) : PA X es t' := ⟨fun po pins s σ H Q I hw => h.run po pins s σ H Q I (w _ _ _ hw)⟩
end

/-! ### == of data -/
mutual
def D.py : D → PyData
  | .non => .none
  | .bl b => .bool b
  | .int i => .int i
  | .str s => .str s
  | .tup xs => .tuple (D.pys xs)
  | .lst xs => .list (D.pys xs)
  | .scr _ => .none
  | .spot => .none
def D.pys : List D → List PyData
  | [] => []
  | x :: xs => x.py :: D.pys xs
end
mutual
/-- the depth; nothing deeper than the fuel, no counter within -/
def D.fine : Nat → D → Bool
  | _, .non => true
  | _, .bl _ => true
  | _, .int _ => true
  | _, .str _ => true
  | 0, .tup _ => false
  | n + 1, .tup xs => D.fines n xs
  | 0, .lst _ => false
  | n + 1, .lst xs => D.fines n xs
  | _, .scr _ => false
  | _, .spot => false
def D.fines : Nat → List D → Bool
  | _, [] => true
  | n, x :: xs => D.fine n x && D.fines n xs
end
mutual
theorem fine_dp {K : PySem.W.Frag} {sp : Option Addr} {H : Hp} : ∀ (n : Nat) (d : D) (v : V), d.fine n = true → Rep K sp H v d → Dp K H v d.py
  | _, .non, _, _, h => by cases h; exact .non
  | _, .bl b, _, _, h => by cases h; exact .bl b
  | _, .int b, _, _, h => by cases h; exact .int b
  | _, .str b, _, _, h => by cases h; exact .str b
  | 0, .tup _, _, f, _ => by simp [D.fine] at f
  | n + 1, .tup ds, _, f, h => by
    cases h with
    | tup h1 h2 => exact .tup h1 (fines_dp n ds _ (by simpa [D.fine] using f) h2)
  | 0, .lst _, _, f, _ => by simp [D.fine] at f
  | n + 1, .lst ds, _, f, h => by
    cases h with
    | lst h1 h2 => exact .lst (.inl (.inl h1)) (fines_dp n ds _ (by simpa [D.fine] using f) h2)
  | _, .scr _, _, f, _ => by simp [D.fine] at f
  | _, .spot, _, f, _ => by simp [D.fine] at f
theorem fines_dp {K : PySem.W.Frag} {sp : Option Addr} {H : Hp} : ∀ (n : Nat) (ds : List D) (vs : List V), D.fines n ds = true → RepL K sp H vs ds → DpAll K H vs (D.pys ds)
  | _, [], _, _, h => by cases h; exact .nil
  | n, d :: ds, _, f, h => by
    cases h with
    | cons h1 h2 =>
      simp only [D.fines, Bool.and_eq_true] at f
      exact .cons (fine_dp n d _ f.1 h1) (fines_dp n ds _ f.2 h2)
end
mutual
theorem fine_plain : ∀ (n : Nat) (d : D), d.fine n = true → d.py.plain = true ∧ d.py.depth ≤ n
  | _, .non, _ => ⟨rfl, Nat.zero_le _⟩
  | _, .bl _, _ => ⟨rfl, Nat.zero_le _⟩
  | _, .int _, _ => ⟨rfl, Nat.zero_le _⟩
  | _, .str _, _ => ⟨rfl, Nat.zero_le _⟩
  | 0, .tup _, f => by simp [D.fine] at f
  | n + 1, .tup ds, f => by
    have h := fines_plain n ds (by simpa [D.fine] using f)
    exact ⟨by simpa [D.py, PyData.plain] using h.1, by simp only [D.py, PyData.depth]; omega⟩
  | 0, .lst _, f => by simp [D.fine] at f
  | n + 1, .lst ds, f => by
    have h := fines_plain n ds (by simpa [D.fine] using f)
    exact ⟨by simpa [D.py, PyData.plain] using h.1, by simp only [D.py, PyData.depth]; omega⟩
  | _, .scr _, f => by simp [D.fine] at f
  | _, .spot, f => by simp [D.fine] at f
theorem fines_plain : ∀ (n : Nat) (ds : List D), D.fines n ds = true → PyData.plainAll (D.pys ds) = true ∧ PyData.depthAll (D.pys ds) ≤ n
  | _, [], _ => ⟨rfl, Nat.zero_le _⟩
  | n, d :: ds, f => by
    simp only [D.fines, Bool.and_eq_true] at f
    have h1 := fine_plain n d f.1
    have h2 := fines_plain n ds f.2
    exact ⟨by simp only [D.pys, PyData.plainAll, h1.1, h2.1, Bool.and_self], by simp only [D.pys, PyData.depthAll]; omega⟩
end
def rEqP (K : PySem.W.Frag) : R2 := fun x y H Q => ∃ d e, Dp K H x d ∧ Dp K H y e ∧ d.plain = true ∧ e.plain = true ∧ d.depth ≤ 64 ∧ Q (.bl (PyData.eqv d e)) H
def rNeP (K : PySem.W.Frag) : R2 := fun x y H Q => ∃ d e, Dp K H x d ∧ Dp K H y e ∧ d.plain = true ∧ e.plain = true ∧ d.depth ≤ 64 ∧ Q (.bl (!PyData.eqv d e)) H
theorem op_eqP {X : Cx} (hu : X.A.units + 64 < cLine) : OpR X (compareOp .Eq) (rEqP X.K) := by
  intro pins s σ H x y v u Q I rx ry h
  obtain ⟨d, e, hd, he, sd, se, dp, q⟩ := h
  obtain ⟨as, r1⟩ := Dp.reads I d x v hd rx
  obtain ⟨bs, r2⟩ := Dp.reads I e y u he ry
  exact SeqAt.eq_plain r1 r2 sd se (by omega) ⟨.bl _, H, I, rfl, q⟩
theorem op_neP {X : Cx} (hu : X.A.units + 64 < cLine) : OpR X (compareOp .NotEq) (rNeP X.K) := by
  intro pins s σ H x y v u Q I rx ry h
  obtain ⟨d, e, hd, he, sd, se, dp, q⟩ := h
  obtain ⟨as, r1⟩ := Dp.reads I d x v hd rx
  obtain ⟨bs, r2⟩ := Dp.reads I e y u he ry
  exact SeqAt.ne_plain r1 r2 sd se (by omega) ⟨.bl _, H, I, rfl, q⟩
end Mini
namespace Mini
open PySem PySem.Spec PyProof.Rows L2

/-! ### the small language -/
inductive BO where | add | sub | mul | fdiv | mod | pow
inductive CO where | eq | ne | lt | le | gt | ge | isin | notin
inductive BI where | len | int | sum | max | min | abs | all | any | tuple | list | gcd | sorted
mutual
inductive Tg where
  | name (i : Nat) | tup (ts : Tgs)
inductive Tgs where
  | nil | cons (t : Tg) (ts : Tgs)
end
mutual
inductive E where
  | var (i : Nat) | cst (d : D) | bin (op : BO) (a b : E) | neg (a : E)
  | cmp (op : CO) (a b : E) | chain (op op' : CO) (a b c : E)
  | isN (a : E) | notN (a : E)
  | and (a b : E) | or (a b : E) | not (a : E) | ite (t : T) (a b : E)
  | tup (es : Es) | lst (es : Es)
  | idx (a b : E) | sli (m : Nat) (a lo hi : E)
  | call (f : Nat) (es : Es) | bi (f : BI) (es : Es) | isi (a : E) (ts : List Nat)
  | comp0 (elt : E) (tg : Tg) (it : I) (own : List Nat)
  | comp1 (elt : E) (tg : Tg) (it : I) (t : T) (own : List Nat)
inductive T where
  | val (e : E) | not (t : T) | and (a b : T) | or (a b : T) | ite (c a b : T)
inductive Es where
  | nil | cons (e : E) (es : Es)
inductive I where
  | seq (e : E) | rng (es : Es) | enum (e : E) | zip (a b : E) | rev (e : E)
end
mutual
inductive S where
  | set (i : Nat) (e : E) | new (i : Nat) (e : E) | spot (i : Nat) | par (i j : Nat) (a b : E) | asg (t : Tg) (e : E)
  | aug (i : Nat) (op : BO) (e : E) | setI (i : Nat) (ix e : E)
  | app (i : Nat) (e : E) | pop (i : Nat)
  | ret (e : E) | retN | ite (t : T) (a b : Ss) | for (tg : Tg) (it : I) (body : Ss) | while (t : T) (body : Ss)
  | expr (e : E) | brk | cnt | pass | never
inductive Ss where
  | nil | cons (s : S) (ss : Ss)
end

/-! ### what it means -/
def small64 (i : Int) : Bool := decide (-18446744073709551616 < i) && decide (i < 18446744073709551616)
def mulOk (i j : Int) : Bool := small64 i || small64 j || decide (i.natAbs.log2 + j.natAbs.log2 < 1000000)
def divOk (j : Int) : Bool := decide (0 < j) && (small64 j || decide (j.natAbs.log2 < 9000))
def lineOk (n : Nat) : Bool := decide (n ≤ 16777216)
def boSem : BO → D → D → Option D
  | .add, .int i, .int j => some (.int (i + j))
  | .add, .str a, .str b => if lineOk (a.length + b.length) then some (.str (a ++ b)) else none
  | .add, .lst a, .lst b => if lineOk (a.length + b.length) then some (.lst (a ++ b)) else none
  | .add, .tup a, .tup b => if lineOk (a.length + b.length) then some (.tup (a ++ b)) else none
  | .sub, .int i, .int j => some (.int (i - j))
  | .mul, .int i, .int j => if mulOk i j then some (.int (i * j)) else none
  | .fdiv, .int i, .int j => if divOk j then some (.int (i / j)) else none
  | .mod, .int i, .int j => if decide (0 < j) then some (.int (i % j)) else none
  | .pow, .int i, .int j => if decide (0 ≤ j) && decide (j ≤ 1000) && small64 i then some (.int (i ^ j.toNat)) else none
  | _, _, _ => none
def eqD (x y : D) : Option Bool :=
  match x, y with
  | .int i, .int j => some (decide (i = j))
  | .str a, .str b => some (decide (a = b))
  | .bl a, .bl b => some (decide (a = b))
  | .non, .non => some true
  | a, b => if a.fine 60 && b.fine 60 then some (PyData.eqv a.py b.py) else none
def anyEq (x : D) : List D → Option Bool
  | [] => some false
  | y :: ys => match eqD y x with
    | some true => (anyEq x ys).map fun _ => true
    | some false => anyEq x ys
    | none => none
def coSem : CO → D → D → Option Bool
  | .eq, x, y => eqD x y
  | .ne, x, y => (eqD x y).map (!·)
  | .lt, .int i, .int j => some (decide (i < j))
  | .le, .int i, .int j => some (decide (i ≤ j))
  | .gt, .int i, .int j => some (decide (j < i))
  | .ge, .int i, .int j => some (decide (j ≤ i))
  | .isin, x, .lst ys => if x.fine 60 then anyEq x ys else none
  | .isin, x, .tup ys => if x.fine 60 then anyEq x ys else none
  | .notin, x, .lst ys => if x.fine 60 then (anyEq x ys).map (!·) else none
  | .notin, x, .tup ys => if x.fine 60 then (anyEq x ys).map (!·) else none
  | _, _, _ => none
def truth : D → Option Bool
  | .non => some false
  | .bl b => some b
  | .int i => some (i != 0)
  | .lst ds => some (!ds.isEmpty)
  | .tup ds => some (!ds.isEmpty)
  | .str s => if lineOk s.length then some ((s.length : Int) != 0) else none
  | .scr _ => none
  | .spot => none
def toInt : D → Option Int
  | .int i => some i
  | _ => none
def toInts : List D → Option (List Int)
  | [] => some []
  | .int i :: r => (toInts r).map (i :: ·)
  | _ :: _ => none
def toBls : List D → Option (List Bool)
  | [] => some []
  | .bl i :: r => (toBls r).map (i :: ·)
  | _ :: _ => none
def maxL : Int → List Int → Int
  | m, [] => m
  | m, x :: r => maxL (if m < x then x else m) r
def minL : Int → List Int → Int
  | m, [] => m
  | m, x :: r => minL (if x < m then x else m) r
def insI (x : Int) : List Int → List Int
  | [] => [x]
  | y :: r => if x ≤ y then x :: y :: r else y :: insI x r
def sortI : List Int → List Int
  | [] => []
  | x :: r => insI x (sortI r)
def biSem : BI → List D → Option D
  | .len, [.lst ds] => some (.int ds.length)
  | .len, [.tup ds] => some (.int ds.length)
  | .len, [.scr ds] => some (.int ds.length)
  | .len, [.str s] => if lineOk s.length then some (.int s.length) else none
  | .int, [.int i] => some (.int i)
  | .int, [.bl b] => some (.int (if b then 1 else 0))
  | .sum, [.lst ds] => (toInts ds).map fun ns => .int ns.sum
  | .max, [.int i, .int j] => some (.int (if j > i then j else i))
  | .max, [.lst ds] => match toInts ds with
    | some (n :: ns) => some (.int (maxL n ns))
    | _ => none
  | .min, [.int i, .int j] => some (.int (if j < i then j else i))
  | .min, [.lst ds] => match toInts ds with
    | some (n :: ns) => some (.int (minL n ns))
    | _ => none
  | .abs, [.int i] => some (.int (if i < 0 then -i else i))
  | .all, [.lst ds] => (toBls ds).map fun bs => .bl (bs.all id)
  | .any, [.lst ds] => (toBls ds).map fun bs => .bl (bs.any id)
  | .tuple, [.lst ds] => some (.tup ds)
  | .tuple, [.tup ds] => some (.tup ds)
  | .list, [.lst ds] => some (.lst ds)
  | .list, [.tup ds] => some (.lst ds)
  | .gcd, [.int i, .int j] => some (.int ((Nat.gcd i.natAbs j.natAbs : Nat) : Int))
  | .sorted, [.lst ds] => match toInts ds with
    | some ns => if decide (ns.length < 64) then some (.lst ((sortI ns).map .int)) else none
    | none => none
  | _, _ => none
/-- isinstance: 0 int, 1 bool, 2 str, 3 list, 4 tuple -/
def isOf : D → Nat → Option Bool
  | .int _, t => some (t == 0)
  | .bl _, t => some (t == 0 || t == 1)
  | .str _, t => some (t == 2)
  | .lst _, t => some (t == 3)
  | .tup _, t => some (t == 4)
  | .non, t => some false
  | .scr _, _ => none
  | .spot, _ => none
def isOfs (d : D) : List Nat → Option Bool
  | [] => some false
  | t :: ts => match isOf d t with
    | some true => some true
    | some false => isOfs d ts
    | none => none
mutual
def asg : Tg → D → Rho → Option Rho
  | .name i, d, ρ => some (ρ.set i (some d))
  | .tup ts, .tup ds, ρ => asgs ts ds ρ
  | .tup _, _, _ => none
def asgs : Tgs → List D → Rho → Option Rho
  | .nil, [], ρ => some ρ
  | .cons t ts, d :: ds, ρ => (asg t d ρ).bind (asgs ts ds)
  | _, _, _ => none
end
def wipeR (ρ : Rho) : List Nat → Rho
  | [] => ρ
  | v :: vs => (wipeR ρ vs).set v none
abbrev Ky := Option Int
abbrev Call := Nat → List D → Ky → Option (D × Ky)
def rngL (a c : Int) (n : Nat) : List D := (List.range n).map fun (t : Nat) => D.int (a + (t : Int) * c)
def rng62 (i : Int) : Bool := decide (-4611686018427387904 ≤ i) && decide (i < 4611686018427387904)
def rngSem : List D → Option (List D)
  | [.int j] => if rng62 j then some (rngL 0 1 j.toNat) else none
  | [.int i, .int j] => if rng62 i && rng62 j then some (rngL i 1 (j - i).toNat) else none
  | [.int i, .int j, .int c] => if decide (c ≠ 0) && decide (c.natAbs < 1073741824) && Builtin.Range.small i j c && decide (0 ≤ Builtin.Range.rangeSize i j c) then some (rngL i c (Builtin.Range.rangeSize i j c).toNat) else none
  | _ => none
def items : D → Option (List D)
  | .lst ds => some ds
  | .tup ds => some ds
  | .scr ds => some ds
  | .str s => some (s.cps.toList.map fun c => D.str ⟨#[c]⟩)
  | _ => none
def enumL : Nat → List D → List D
  | _, [] => []
  | i, d :: ds => .tup [.int i, d] :: enumL (i + 1) ds
def zipL : List D → List D → List D
  | a :: as, b :: bs => .tup [a, b] :: zipL as bs
  | _, _ => []
/-- a comprehension over its items -/
def compD (f : Rho → Ky → Option (D × Ky)) (g : Rho → Ky → Option (Bool × Ky)) (tg : Tg) (ρ : Rho) : List D → Ky → Option (List D × Ky)
  | [], k => some ([], k)
  | x :: xs, k =>
    match asg tg x ρ with
    | none => none
    | some ρ1 => match g ρ1 k with
      | none => none
      | some (false, k1) => compD f g tg ρ xs k1
      | some (true, k1) => match f ρ1 k1 with
        | none => none
        | some (y, k2) => match compD f g tg ρ xs k2 with
          | none => none
          | some (ys, k3) => some (y :: ys, k3)
def cutD (xs : List D) (lo hi : Option Int) : List D := (xs.drop (HT.sIx xs.length 0 lo)).take (HT.sIx xs.length xs.length hi - HT.sIx xs.length 0 lo)
def sliSem (a : D) (lo hi : Option Int) : Option D :=
  match a with
  | .lst ds => some (.lst (cutD ds lo hi))
  | .scr ds => some (.lst (cutD ds lo hi))
  | .tup ds => some (.tup (cutD ds lo hi))
  | _ => none
def idxSem (k : Ky) : D → D → Option D
  | .lst ds, .int i => atI ds i
  | .scr ds, .int i => atI ds i
  | .tup ds, .int i => atI ds i
  | .str s, .int i => if lineOk s.length then (atI s.cps.toList i).map fun c => .str ⟨#[c]⟩ else none
  | .spot, .int 0 => k.map .int
  | _, _ => none
mutual
def evE (c : Call) : E → Rho → Ky → Option (D × Ky)
  | .var i, ρ, k => match ρ[i]? with
    | some (some d) => some (d, k)
    | _ => none
  | .cst d, _, k => some (d, k)
  | .bin op a b, ρ, k => match evE c a ρ k with
    | none => none
    | some (x, k1) => match evE c b ρ k1 with
      | none => none
      | some (y, k2) => (boSem op x y).map (·, k2)
  | .neg a, ρ, k => match evE c a ρ k with
    | some (.int i, k1) => some (.int (-i), k1)
    | _ => none
  | .cmp op a b, ρ, k => match evE c a ρ k with
    | none => none
    | some (x, k1) => match evE c b ρ k1 with
      | none => none
      | some (y, k2) => (coSem op x y).map (.bl ·, k2)
  | .chain op op' a b e, ρ, k => match evE c a ρ k with
    | none => none
    | some (x, k1) => match evE c b ρ k1 with
      | none => none
      | some (y, k2) => match coSem op x y with
        | none => none
        | some false => some (.bl false, k2)
        | some true => match evE c e ρ k2 with
          | none => none
          | some (z, k3) => (coSem op' y z).map (.bl ·, k3)
  | .isN a, ρ, k => match evE c a ρ k with
    | some (.non, k1) => some (.bl true, k1)
    | some (_, k1) => some (.bl false, k1)
    | none => none
  | .notN a, ρ, k => match evE c a ρ k with
    | some (.non, k1) => some (.bl false, k1)
    | some (_, k1) => some (.bl true, k1)
    | none => none
  | .and a b, ρ, k => match evE c a ρ k with
    | some (.bl true, k1) => evE c b ρ k1
    | some (.bl false, k1) => some (.bl false, k1)
    | _ => none
  | .or a b, ρ, k => match evE c a ρ k with
    | some (.bl false, k1) => evE c b ρ k1
    | some (.bl true, k1) => some (.bl true, k1)
    | _ => none
  | .not a, ρ, k => match evE c a ρ k with
    | some (.bl b, k1) => some (.bl (!b), k1)
    | _ => none
  | .ite t a b, ρ, k => match evT c t ρ k with
    | none => none
    | some (true, k1) => evE c a ρ k1
    | some (false, k1) => evE c b ρ k1
  | .tup es, ρ, k => (evEs c es ρ k).bind fun (ds, k1) => if lineOk ds.length then some (.tup ds, k1) else none
  | .lst es, ρ, k => (evEs c es ρ k).bind fun (ds, k1) => if lineOk ds.length then some (.lst ds, k1) else none
  | .idx a b, ρ, k => match evE c a ρ k with
    | none => none
    | some (x, k1) => match evE c b ρ k1 with
      | none => none
      | some (y, k2) => (idxSem k2 x y).map (·, k2)
  | .sli m a lo hi, ρ, k => match evE c a ρ k with
    | none => none
    | some (x, k1) =>
      match (if m == 1 || m == 3 then (match evE c lo ρ k1 with
        | some (.int i, k2) => some (some i, k2)
        | _ => none) else some (none, k1) : Option (Option Int × Ky)) with
      | none => none
      | some (l, k2) =>
        match (if m == 2 || m == 3 then (match evE c hi ρ k2 with
          | some (.int i, k3) => some (some i, k3)
          | _ => none) else some (none, k2) : Option (Option Int × Ky)) with
        | none => none
        | some (h, k3) => (sliSem x l h).map (·, k3)
  | .call f es, ρ, k => match evEs c es ρ k with
    | none => none
    | some (ds, k1) => c f ds k1
  | .bi f es, ρ, k => match evEs c es ρ k with
    | none => none
    | some (ds, k1) => (biSem f ds).map (·, k1)
  | .isi a ts, ρ, k => match evE c a ρ k with
    | none => none
    | some (x, k1) => (isOfs x ts).map (.bl ·, k1)
  | .comp0 elt tg it own, ρ, k => match evI c it ρ k with
    | none => none
    | some (ds, k1) => if lineOk ds.length then
        match compD (fun ρ k => evE c elt ρ k) (fun _ k => some (true, k)) tg (wipeR ρ own) ds k1 with
        | none => none
        | some (ys, k2) => some (.lst ys, k2)
      else none
  | .comp1 elt tg it t own, ρ, k => match evI c it ρ k with
    | none => none
    | some (ds, k1) => if lineOk ds.length then
        match compD (fun ρ k => evE c elt ρ k) (fun ρ k => evT c t ρ k) tg (wipeR ρ own) ds k1 with
        | none => none
        | some (ys, k2) => some (.lst ys, k2)
      else none
def evT (c : Call) : T → Rho → Ky → Option (Bool × Ky)
  | .val e, ρ, k => match evE c e ρ k with
    | none => none
    | some (x, k1) => (truth x).map (·, k1)
  | .not t, ρ, k => match evT c t ρ k with
    | none => none
    | some (b, k1) => some (!b, k1)
  | .and a b, ρ, k => match evT c a ρ k with
    | none => none
    | some (true, k1) => evT c b ρ k1
    | some (false, k1) => some (false, k1)
  | .or a b, ρ, k => match evT c a ρ k with
    | none => none
    | some (true, k1) => some (true, k1)
    | some (false, k1) => evT c b ρ k1
  | .ite t a b, ρ, k => match evT c t ρ k with
    | none => none
    | some (true, k1) => evT c a ρ k1
    | some (false, k1) => evT c b ρ k1
def evEs (c : Call) : Es → Rho → Ky → Option (List D × Ky)
  | .nil, _, k => some ([], k)
  | .cons e es, ρ, k => match evE c e ρ k with
    | none => none
    | some (x, k1) => match evEs c es ρ k1 with
      | none => none
      | some (xs, k2) => some (x :: xs, k2)
def evI (c : Call) : I → Rho → Ky → Option (List D × Ky)
  | .seq e, ρ, k => match evE c e ρ k with
    | none => none
    | some (x, k1) => (items x).map (·, k1)
  | .rng es, ρ, k => match evEs c es ρ k with
    | none => none
    | some (ds, k1) => (rngSem ds).map (·, k1)
  | .enum e, ρ, k => match evE c e ρ k with
    | some (.lst ds, k1) => some (enumL 0 ds, k1)
    | _ => none
  | .zip a b, ρ, k => match evE c a ρ k with
    | none => none
    | some (x, k1) => match evE c b ρ k1 with
      | none => none
      | some (y, k2) => match x, y with
        | .lst xs, .lst ys => some (zipL xs ys, k2)
        | .tup xs, .tup ys => some (zipL xs ys, k2)
        | _, _ => none
  | .rev e, ρ, k => match evE c e ρ k with
    | some (.lst ds, k1) => some (ds.reverse, k1)
    | some (.tup ds, k1) => some (ds.reverse, k1)
    | _ => none
end

/-! ### which slots an expression names -/
mutual
def avTg (mu : List Nat) : Tg → Bool
  | .name i => true
  | .tup ts => avTgs mu ts
def avTgs (mu : List Nat) : Tgs → Bool
  | .nil => true
  | .cons t ts => avTg mu t && avTgs mu ts
end
mutual
def avE (mu : List Nat) : E → Bool
  | .var i => !mu.contains i
  | .cst _ => true
  | .bin _ a b => avE mu a && avE mu b
  | .neg a => avE mu a
  | .cmp _ a b => avE mu a && avE mu b
  | .chain _ _ a b c => avE mu a && avE mu b && avE mu c
  | .isN a => avE mu a
  | .notN a => avE mu a
  | .and a b => avE mu a && avE mu b
  | .or a b => avE mu a && avE mu b
  | .not a => avE mu a
  | .ite t a b => avT mu t && avE mu a && avE mu b
  | .tup es => avEs mu es
  | .lst es => avEs mu es
  | .idx a b => avE mu a && avE mu b
  | .sli _ a b c => avE mu a && avE mu b && avE mu c
  | .call _ es => avEs mu es
  | .bi _ es => avEs mu es
  | .isi a _ => avE mu a
  | .comp0 a _ it _ => avE mu a && avI mu it
  | .comp1 a _ it t _ => avE mu a && avI mu it && avT mu t
def avT (mu : List Nat) : T → Bool
  | .val e => avE mu e
  | .not t => avT mu t
  | .and a b => avT mu a && avT mu b
  | .or a b => avT mu a && avT mu b
  | .ite a b c => avT mu a && avT mu b && avT mu c
def avEs (mu : List Nat) : Es → Bool
  | .nil => true
  | .cons e es => avE mu e && avEs mu es
def avI (mu : List Nat) : I → Bool
  | .seq e => avE mu e
  | .rng es => avEs mu es
  | .enum e => avE mu e
  | .zip a b => avE mu a && avE mu b
  | .rev e => avE mu e
end

/-! ### statements -/
mutual
/-- no list within -/
def noL : D → Bool
  | .non => true | .bl _ => true | .int _ => true | .str _ => true | .spot => true
  | .tup xs => noLs xs
  | .lst _ => false
  | .scr _ => false
def noLs : List D → Bool
  | [] => true
  | x :: xs => noL x && noLs xs
end
structure Sta where
  ρ : Rho
  mu : List Nat
  k : Ky
inductive O where
  | nx (s : Sta) | rt (d : D) (k : Ky) | bk (s : Sta) | ct (s : Sta)
/-- the mutable slots that e does not name stay so -/
def Sta.keep (s : Sta) (f : List Nat → Bool) (k : Ky) : Sta := { s with mu := s.mu.filter fun i => f [i], k := k }
def Sta.put (s : Sta) (i : Nat) (d : D) : Sta := { ρ := s.ρ.set i (some d), mu := s.mu.filter (· != i), k := s.k }
mutual
def tgMu : Tg → List Nat → List Nat
  | .name i, mu => mu.filter (· != i)
  | .tup ts, mu => tgsMu ts mu
def tgsMu : Tgs → List Nat → List Nat
  | .nil, mu => mu
  | .cons t ts, mu => tgsMu ts (tgMu t mu)
end
def stE (c : Call) (e : E) (s : Sta) : Option (D × Sta) :=
  match evE c e s.ρ s.k with
  | none => none
  | some (d, k) => some (d, if noL d then { s with k := k } else s.keep (fun m => avE m e) k)
def whileD (t : Sta → Option (Bool × Ky)) (body : Sta → Option O) : Nat → Sta → Option O
  | 0, _ => none
  | n + 1, s => match t s with
    | none => none
    | some (false, k) => some (.nx { s with k := k })
    | some (true, k) => match body { s with k := k } with
      | none => none
      | some (.nx s') => whileD t body n s'
      | some (.ct s') => whileD t body n s'
      | some (.bk s') => some (.nx s')
      | some (.rt d k) => some (.rt d k)
def forD (tg : Tg) (body : Sta → Option O) : List D → Sta → Option O
  | [], s => some (.nx s)
  | d :: ds, s => match asg tg d s.ρ with
    | none => none
    | some ρ => match body { ρ := ρ, mu := tgMu tg s.mu, k := s.k } with
      | none => none
      | some (.nx s') => forD tg body ds s'
      | some (.ct s') => forD tg body ds s'
      | some (.bk s') => some (.nx s')
      | some (.rt d k) => some (.rt d k)
def augSem : BO → D → D → Option D
  | .add, .int i, .int j => some (.int (i + j))
  | .sub, .int i, .int j => some (.int (i - j))
  | .mul, .int i, .int j => if small64 i || small64 j then some (.int (i * j)) else none
  | .add, .str a, .str b => if lineOk (a.length + b.length) then some (.str (a ++ b)) else none
  | _, _, _ => none
mutual
def evS (c : Call) (w : Nat) : S → Sta → Option O
  | .set i e, s => match stE c e s with
    | none => none
    | some (d, s1) => some (.nx (s1.put i d))
  | .new i e, s => match evE c e s.ρ s.k with
    | some (.lst ds, k) => if noLs ds && decide (i < s.ρ.length) then some (.nx { ρ := s.ρ.set i (some (.lst ds)), mu := i :: s.mu.filter (· != i), k := k })
      else some (.nx ((s.keep (fun m => avE m e) k).put i (.lst ds)))
    | _ => none
  | .spot i, s => match s.k with
    | none => some (.nx { (s.put i .spot) with k := some 0 })
    | some _ => none
  | .par i j a b, s => match evE c a s.ρ s.k with
    | none => none
    | some (x, k1) => match evE c b s.ρ k1 with
      | none => none
      | some (y, k2) => if noL x && noL y then some (.nx (({ s with k := k2 }.put i x).put j y)) else none
  | .asg t e, s => match stE c e s with
    | none => none
    | some (d, s1) => (asg t d s1.ρ).map fun ρ => .nx { ρ := ρ, mu := tgMu t s1.mu, k := s1.k }
  | .aug i op e, s => match s.ρ[i]? with
    | some (some x) => match evE c e s.ρ s.k with
      | none => none
      | some (y, k) => (augSem op x y).map fun z => .nx ({ s with k := k }.put i z)
    | _ => none
  | .setI i ix e, s => match evE c e s.ρ s.k with
    | none => none
    | some (d, k1) => match evE c ix s.ρ k1 with
      | some (.int j, k2) => match s.ρ[i]?, d with
        | some (some .spot), .int m => if decide (j = 0) && k2.isSome then some (.nx { ρ := s.ρ, mu := s.mu, k := some m }) else none
        | some (some (.lst ds)), _ => if s.mu.contains i && noL d then (ixN ds.length j).map fun j => .nx { s with ρ := s.ρ.set i (some (.lst (ds.set j d))), k := k2 } else none
        | _, _ => none
      | _ => none
  | .app i e, s => match s.ρ[i]? with
    | some (some (.lst ds)) => match evE c e s.ρ s.k with
      | none => none
      | some (d, k) => if s.mu.contains i && noL d && decide (ds.length < 16777216) then some (.nx { s with ρ := s.ρ.set i (some (.lst (ds ++ [d]))), k := k }) else none
    | _ => none
  | .pop i, s => match s.ρ[i]? with
    | some (some (.lst ds)) => if s.mu.contains i && !ds.isEmpty then some (.nx { s with ρ := s.ρ.set i (some (.lst ds.dropLast)) }) else none
    | _ => none
  | .ret e, s => match evE c e s.ρ s.k with
    | none => none
    | some (d, k) => some (.rt d k)
  | .retN, s => some (.rt .non s.k)
  | .ite t a b, s => match evT c t s.ρ s.k with
    | none => none
    | some (true, k) => evSs c w a { s with k := k }
    | some (false, k) => evSs c w b { s with k := k }
  | .for tg it body, s => match evI c it s.ρ s.k with
    | none => none
    | some (ds, k) => forD tg (fun s => evSs c w body s) ds (s.keep (fun m => avI m it) k)
  | .while t body, s => whileD (fun s => evT c t s.ρ s.k) (fun s => evSs c w body s) w s
  | .expr e, s => match evE c e s.ρ s.k with
    | none => none
    | some (_, k) => some (.nx { s with k := k })
  | .brk, s => some (.bk s)
  | .cnt, s => some (.ct s)
  | .pass, s => some (.nx s)
  | .never, _ => none
def evSs (c : Call) (w : Nat) : Ss → Sta → Option O
  | .nil, s => some (.nx s)
  | .cons a b, s => match evS c w a s with
    | some (.nx s') => evSs c w b s'
    | o => o
end
/-- a def: its parameters' number, its slots' number, its body -/
structure Def where
  ps : Nat
  ns : Nat
  body : Ss
/-- a call's end: a counter that was made within is forgotten -/
def endK : Ky → D → Ky → Option (D × Ky)
  | none, .bl b, some _ => some (.bl b, none)
  | none, _, some _ => none
  | _, d, k => some (d, k)
def run (w : Nat) (ds : List Def) : Nat → Call
  | 0, _, _, _ => none
  | n + 1, f, as, k => match ds[f]? with
    | none => none
    | some d => if as.length == d.ps then
        match evSs (run w ds n) w d.body { ρ := as.map some ++ List.replicate (d.ns - d.ps) none, mu := [], k := k } with
        | some (.nx s) => endK k .non s.k
        | some (.rt x k') => endK k x k'
        | _ => none
      else none
end Mini
namespace Mini
open PySem PySem.Spec PyProof.Rows L2

/-! ### from the text to the small language -/
structure CT where
  /-- the defs by name -/
  fns : List (Str × Nat)
  /-- the module's constants -/
  consts : List (Str × D)
  /-- the name of math.gcd -/
  gcd : List Str
def ix (N : List Str) (x : Str) : Option Nat := N.findIdx? (· == x)
def isVis (sc : Scope) (x : Str) : Bool := match sc.names.lookup x with
  | some .local => true | some .cell => true | some .free => true | _ => false
def isLoc (sc : Scope) (x : Str) : Bool := match sc.names.lookup x with
  | some .local => true | some .cell => true | _ => false
def isGl (sc : Scope) (x : Str) : Bool := match sc.names.lookup x with
  | some .globalImplicit => true | _ => false
def okName (x : Str) : Bool := !(x == ("__debug__" : Str)) && !(x == ("__classdict__" : Str)) && !(x == ("__name__" : Str))
def slot (sc : Scope) (N : List Str) (x : Str) : Option Nat := if isVis sc x && okName x then ix N x else none
def slotL (sc : Scope) (N : List Str) (x : Str) : Option Nat := if isLoc sc x && okName x then ix N x else none
def glob (sc : Scope) (x : Str) : Bool := isGl sc x && okName x
def cBO : Operator → Option BO
  | .Add => some .add | .Sub => some .sub | .Mult => some .mul | .FloorDiv => some .fdiv | .Mod => some .mod | .Pow => some .pow
  | _ => none
def cCO : CmpOp → Option CO
  | .Eq => some .eq | .NotEq => some .ne | .Lt => some .lt | .LtE => some .le | .Gt => some .gt | .GtE => some .ge | .In => some .isin | .NotIn => some .notin
  | _ => none
def cTy (sc : Scope) : Expr → Option Nat
  | .Name x _ => if glob sc x then
      if x == ("int" : Str) then some 0 else if x == ("bool" : Str) then some 1 else if x == ("str" : Str) then some 2 else if x == ("list" : Str) then some 3 else if x == ("tuple" : Str) then some 4 else none
    else none
  | _ => none
def cBI (x : Str) : Option BI :=
  if x == ("len" : Str) then some .len else if x == ("int" : Str) then some .int else if x == ("sum" : Str) then some .sum else if x == ("max" : Str) then some .max
  else if x == ("min" : Str) then some .min else if x == ("abs" : Str) then some .abs else if x == ("all" : Str) then some .all else if x == ("any" : Str) then some .any
  else if x == ("tuple" : Str) then some .tuple else if x == ("list" : Str) then some .list else if x == ("sorted" : Str) then some .sorted else none
def mapO {α β : Type} (f : α → Option β) : List α → Option (List β)
  | [] => some []
  | x :: xs => match f x with
    | none => none
    | some y => match mapO f xs with
      | none => none
      | some ys => some (y :: ys)
def toEs : List E → Es
  | [] => .nil
  | e :: es => .cons e (toEs es)
def cTg (sc : Scope) (N : List Str) : Nat → Expr → Option Tg
  | 0, _ => none
  | n + 1, e => match e with
    | .Name x _ => (slotL sc N x).map .name
    | .Tuple es _ _ => (mapO (cTg sc N n) es).map fun ts => .tup (ts.foldr Tgs.cons .nil)
    | _ => none
mutual
def tgSlots : Tg → List Nat
  | .name i => [i]
  | .tup ts => tgsSlots ts
def tgsSlots : Tgs → List Nat
  | .nil => []
  | .cons t ts => tgSlots t ++ tgsSlots ts
end
/-- a comprehension's target: its own names alone -/
def cTgIn (sc : Scope) (N : List Str) (own : List Nat) (e : Expr) : Option Tg :=
  match cTg sc N 8 e with
  | none => none
  | some t => if (tgSlots t).all fun i => own.contains i then some t else none
def ownOf (N : List Str) (names : List (Str × NameKind)) : List (Str × Nat) :=
  names.filterMap fun y => match y.2 with
    | .local => (ix N y.1).map (y.1, ·)
    | .cell => (ix N y.1).map (y.1, ·)
    | _ => none
def isTupE : Expr → Bool
  | .Tuple _ _ _ => true
  | _ => false
mutual
def cE (Γ : CT) : Nat → Scope → List Str → Expr → Option E
  | 0, _, _, _ => none
  | n + 1, sc, N, e => match e with
    | .Name x _ => if glob sc x then (Γ.consts.lookup x).map .cst else (slot sc N x).map .var
    | .Constant c _ _ => match c with
      | .int i => some (.cst (.int i))
      | .bool b => some (.cst (.bl b))
      | .none => some (.cst .non)
      | .str s => some (.cst (.str s))
      | _ => none
    | .BinOp a op b _ => match cBO op, cE Γ n sc N a, cE Γ n sc N b with
      | some o, some x, some y => some (.bin o x y)
      | _, _, _ => none
    | .UnaryOp op a _ => match op, cE Γ n sc N a with
      | .USub, some x => some (.neg x)
      | .Not, some x => some (.not x)
      | _, _ => none
    | .Compare a ops bs _ => match ops, bs with
      | [op], [b] => match op with
        | .Is => match b with
          | .Constant .none _ _ => (cE Γ n sc N a).map .isN
          | _ => none
        | .IsNot => match b with
          | .Constant .none _ _ => (cE Γ n sc N a).map .notN
          | _ => none
        | _ => match cCO op, cE Γ n sc N a, cE Γ n sc N b with
          | some o, some x, some y => some (.cmp o x y)
          | _, _, _ => none
      | [op, op'], [b, c] => match cCO op, cCO op', cE Γ n sc N a, cE Γ n sc N b, cE Γ n sc N c with
        | some o, some o', some x, some y, some z => some (.chain o o' x y z)
        | _, _, _, _, _ => none
      | _, _ => none
    | .BoolOp op vs _ => match vs with
      | [a, b] => match op, cE Γ n sc N a, cE Γ n sc N b with
        | .And, some x, some y => some (.and x y)
        | .Or, some x, some y => some (.or x y)
        | _, _, _ => none
      | [a, b, c] => match op, cE Γ n sc N a, cE Γ n sc N b, cE Γ n sc N c with
        | .And, some x, some y, some z => some (.and x (.and y z))
        | .Or, some x, some y, some z => some (.or x (.or y z))
        | _, _, _, _ => none
      | [a, b, c, d] => match op, cE Γ n sc N a, cE Γ n sc N b, cE Γ n sc N c, cE Γ n sc N d with
        | .And, some x, some y, some z, some u => some (.and x (.and y (.and z u)))
        | .Or, some x, some y, some z, some u => some (.or x (.or y (.or z u)))
        | _, _, _, _, _ => none
      | _ => none
    | .IfExp t a b _ => match cT Γ n sc N t, cE Γ n sc N a, cE Γ n sc N b with
      | some x, some y, some z => some (.ite x y z)
      | _, _, _ => none
    | .Tuple es _ _ => (mapO (cE Γ n sc N) es).map fun xs => .tup (toEs xs)
    | .List es _ => (mapO (cE Γ n sc N) es).map fun xs => .lst (toEs xs)
    | .Subscript a i _ => match i with
      | .Slice lo hi st _ => match st, cE Γ n sc N a with
        | none, some x => match lo, hi with
          | none, none => some (.sli 0 x (.cst .non) (.cst .non))
          | some l, none => (cE Γ n sc N l).map fun l => .sli 1 x l (.cst .non)
          | none, some h => (cE Γ n sc N h).map fun h => .sli 2 x (.cst .non) h
          | some l, some h => match cE Γ n sc N l, cE Γ n sc N h with
            | some l, some h => some (.sli 3 x l h)
            | _, _ => none
        | _, _ => none
      | _ => match cE Γ n sc N a, cE Γ n sc N i with
        | some x, some y => some (.idx x y)
        | _, _ => none
    | .Call f args kw _ => match f, kw with
      | .Name x _, [] => if glob sc x then
          match Γ.fns.lookup x with
          | some i => (mapO (cE Γ n sc N) args).map fun xs => .call i (toEs xs)
          | none => if x == ("isinstance" : Str) then
              match args with
              | [a, t] => match cE Γ n sc N a with
                | none => none
                | some y => match t with
                  | .Tuple ts _ _ => if 0 < ts.length ∧ ts.length ≤ 8 then (mapO (cTy sc) ts).map fun us => .isi y us else none
                  | .Name z pz => (cTy sc (.Name z pz)).map fun u => .isi y [u]
                  | _ => none
              | _ => none
            else if Γ.gcd.contains x then
              match args with
              | [_, _] => (mapO (cE Γ n sc N) args).map fun xs => .bi .gcd (toEs xs)
              | _ => none
            else match cBI x, args with
              | some b, _ :: _ => (mapO (cE Γ n sc N) args).map fun xs => .bi b (toEs xs)
              | _, _ => none
        else none
      | _, _ => none
    | .ListComp elt gens scope _ => match gens with
      | [⟨tg, it, ifs, asy⟩] =>
        if asy == 0 && blkC N sc scope (ownOf N scope.names) then
          match cTgIn scope N ((ownOf N scope.names).map (·.2)) tg, cI Γ n sc N tg it, cE Γ n (relS scope sc) N elt with
          | some t, some i, some x => match ifs with
            | [] => some (.comp0 x t i ((ownOf N scope.names).map (·.2)))
            | [q] => (cT Γ n (relS scope sc) N q).map fun q => .comp1 x t i q ((ownOf N scope.names).map (·.2))
            | _ => none
          | _, _, _ => none
        else none
      | _ => none
    | _ => none
def cT (Γ : CT) : Nat → Scope → List Str → Expr → Option T
  | 0, _, _, _ => none
  | n + 1, sc, N, e => match e with
    | .UnaryOp .Not a _ => (cT Γ n sc N a).map .not
    | .BoolOp op vs _ => match vs with
      | [a, b] => match op, cT Γ n sc N a, cT Γ n sc N b with
        | .And, some x, some y => some (.and x y)
        | .Or, some x, some y => some (.or x y)
        | _, _, _ => none
      | [a, b, c] => match op, cT Γ n sc N a, cT Γ n sc N b, cT Γ n sc N c with
        | .And, some x, some y, some z => some (.and x (.and y z))
        | .Or, some x, some y, some z => some (.or x (.or y z))
        | _, _, _, _ => none
      | [a, b, c, d] => match op, cT Γ n sc N a, cT Γ n sc N b, cT Γ n sc N c, cT Γ n sc N d with
        | .And, some x, some y, some z, some u => some (.and x (.and y (.and z u)))
        | .Or, some x, some y, some z, some u => some (.or x (.or y (.or z u)))
        | _, _, _, _, _ => none
      | _ => none
    | .IfExp _ _ _ _ => none
    | _ => (cE Γ n sc N e).map .val
def cI (Γ : CT) : Nat → Scope → List Str → Expr → Expr → Option I
  | 0, _, _, _, _ => none
  | n + 1, sc, N, tg, e => match e with
    | .Call (.Name x px) args kw po =>
      if x == ("range" : Str) then
        if glob sc x && kw.isEmpty then match args with
          | [_] => (mapO (cE Γ n sc N) args).map fun xs => .rng (toEs xs)
          | [_, _] => (mapO (cE Γ n sc N) args).map fun xs => .rng (toEs xs)
          | [_, _, _] => (mapO (cE Γ n sc N) args).map fun xs => .rng (toEs xs)
          | _ => none
        else none
      else if x == ("enumerate" : Str) then
        if glob sc x && kw.isEmpty && isTupE tg then match args with
          | [a] => (cE Γ n sc N a).map .enum
          | _ => none
        else none
      else if x == ("zip" : Str) then
        if glob sc x && kw.isEmpty && isTupE tg then match args with
          | [a, b] => match cE Γ n sc N a, cE Γ n sc N b with
            | some x, some y => some (.zip x y)
            | _, _ => none
          | _ => none
        else none
      else if x == ("reversed" : Str) then
        if glob sc x && kw.isEmpty then match args with
          | [a] => (cE Γ n sc N a).map .rev
          | _ => none
        else none
      else (cE Γ n sc N (.Call (.Name x px) args kw po)).map .seq
    | _ => (cE Γ n sc N e).map .seq
end
/-- a new flat list -/
def freshShape : Expr → Bool
  | .List _ _ => true
  | .ListComp _ _ _ _ => true
  | .Call (.Name x _) _ _ _ => x == ("list" : Str) || x == ("sorted" : Str)
  | _ => false
def toSs : List S → Ss
  | [] => .nil
  | s :: ss => .cons s (toSs ss)
def isComp : Expr → Bool
  | .ListComp _ _ _ _ => true
  | _ => false
def swOk (sc : Scope) (tx : Str) (py : Pos) (value : Expr) : Bool := match value with
  | .ListComp _ _ s pos => sc.kind == .function && sc.names.lookup tx == some .local && py.line == pos.line && !(s.names.any fun (n, k) => n == tx && (k == .local || k == .cell))
  | _ => false
def parOk (sc : Scope) (x y : Str) (px py : Pos) (a b : Expr) : Bool :=
  sc.kind == .function && sc.names.lookup x == some .local && sc.names.lookup y == some .local && px.line == py.line && !(x == y) && !(foldedForSure 8 a && foldedForSure 8 b) && !(constantsAlone 8 a && constantsAlone 8 b)
def isSpotE : Expr → Bool
  | .List [.Constant (.int 0) _ _] _ => true
  | _ => false
def cS (Γ : CT) (sc : Scope) (N : List Str) : Nat → Stmt → Option S
  | 0, _ => none
  | n + 1, st => match st with
    | .Assign tgs e _ => match tgs with
      | [.Name x py] => match slotL sc N x with
        | none => none
        | some i =>
          if x == ("spot" : Str) && isSpotE e then some (.spot i)
          else if isComp e && !swOk sc x py e then none
          else (cE Γ n sc N e).map fun y => if freshShape e then .new i y else .set i y
      | [.Tuple ts tk tp] => match e with
        | .Tuple vs _ _ => match ts, vs with
          | [.Name x px, .Name y py], [a, b] => if parOk sc x y px py a b then
              match slotL sc N x, slotL sc N y, cE Γ n sc N a, cE Γ n sc N b with
              | some i, some j, some u, some v => some (.par i j u v)
              | _, _, _, _ => none
            else none
          | _, _ => none
        | _ => match cTg sc N 9 (.Tuple ts tk tp), cE Γ n sc N e with
          | some u, some y => some (.asg u y)
          | _, _ => none
      | [.Subscript (.Name x _) ix _] => if isComp e then none else match slot sc N x, cE Γ n sc N ix, cE Γ n sc N e with
        | some i, some u, some y => some (.setI i u y)
        | _, _, _ => none
      | _ => none
    | .AugAssign (.Name x _) op e _ => match slotL sc N x, cBO op, cE Γ n sc N e with
      | some i, some o, some y => some (.aug i o y)
      | _, _, _ => none
    | .Return o _ => match o with
      | none => some .retN
      | some e => (cE Γ n sc N e).map .ret
    | .If t a b _ => match cT Γ n sc N t, mapO (cS Γ sc N n) a, mapO (cS Γ sc N n) b with
      | some x, some y, some z => some (.ite x (toSs y) (toSs z))
      | _, _, _ => none
    | .For tg it body [] _ => match cTg sc N 8 tg, cI Γ n sc N tg it, mapO (cS Γ sc N n) body with
      | some x, some y, some z => some (.for x y (toSs z))
      | _, _, _ => none
    | .While t body [] _ => match cT Γ n sc N t, mapO (cS Γ sc N n) body with
      | some x, some y => some (.while x (toSs y))
      | _, _ => none
    | .Expr e _ => match e with
      | .Constant (.str _) _ _ => some .pass
      | .Call (.Attribute (.Name x _) m apos) args [] cpos =>
        if !(apos.endLine == cpos.line) then none
        else if m == ("append" : Str) then match args with
          | [a] => match slot sc N x, cE Γ n sc N a with
            | some i, some y => some (.app i y)
            | _, _ => none
          | _ => none
        else if m == ("pop" : Str) then match args with
          | [] => (slot sc N x).map .pop
          | _ => none
        else none
      | .Call (.Name x p) args kw q => (cE Γ n sc N (.Call (.Name x p) args kw q)).map .expr
      | _ => none
    | .Pass _ => some .pass
    | .Break _ => some .brk
    | .Continue _ => some .cnt
    | .Raise _ _ _ => some .never
    | _ => none
def cSs (Γ : CT) (sc : Scope) (N : List Str) (n : Nat) (l : List Stmt) : Option Ss := (mapO (cS Γ sc N n) l).map toSs
end Mini
namespace Mini
open PySem PySem.Spec PyProof.Rows L2

/-! ### shapes -/
def plainE : Expr → Bool
  | .Name _ _ => true | .Constant _ _ _ => true | .BinOp _ _ _ _ => true | .UnaryOp _ _ _ => true | .Compare _ _ _ _ => true | .BoolOp _ _ _ => true
  | .IfExp _ _ _ _ => true | .Tuple _ _ _ => true | .List _ _ => true | .Subscript _ _ _ => true | .Call _ _ _ _ => true | .ListComp _ _ _ _ => true
  | _ => false
theorem cE_shape {Γ : CT} {n : Nat} {sc : Scope} {N : List Str} {e : Expr} {il : E} (h : cE Γ n sc N e = some il) : plainE e = true := by
  cases n with
  | zero => simp [cE] at h
  | succ n => cases e <;> first | rfl | (simp [cE] at h)
theorem star_of {e : Expr} (h : plainE e = true) (es : List Expr) (env : Env) : starEach (e :: es) env = (false, eval e env) :: starEach es env := by
  cases e <;> first | rfl | (simp [plainE] at h)
theorem noSet_of {e : Expr} (h : plainE e = true) (env : Env) (x : Value) : foldedSetIterable e env x = pure x := by
  cases e <;> first | rfl | (simp [plainE] at h)
theorem noMark_of {e : Expr} (h : plainE e = true) (op : CmpOp) : behindInMarks op e = false := by
  cases e <;> first | rfl | (simp [plainE] at h)
theorem plainIx_of {e : Expr} (h : plainE e = true) : PlainIx e := by
  intro o i
  cases e <;> first | rfl | (simp [plainE] at h)
theorem noStar_of {es : List Expr} {pos : Pos} {env : Env} (h : ∀ e ∈ es, plainE e = true) : (backTo pos (starEach es env)).any (·.1) = false := by
  induction es with
  | nil => rfl
  | cons e es ih =>
    rw [star_of (h e List.mem_cons_self)]
    show (false || (backTo pos (starEach es env)).any (·.1)) = false
    rw [ih fun x hx => h x (List.mem_cons_of_mem _ hx)]
    rfl
theorem mapO_cons {α β : Type} {f : α → Option β} {x : α} {xs : List α} {ys : List β} (h : mapO f (x :: xs) = some ys) : ∃ y zs, f x = some y ∧ mapO f xs = some zs ∧ ys = y :: zs := by
  unfold mapO at h
  cases e : f x with
  | none => rw [e] at h; cases h
  | some y =>
    rw [e] at h
    cases e2 : mapO f xs with
    | none => rw [e2] at h; cases h
    | some zs => rw [e2] at h; cases h; exact ⟨y, zs, rfl, rfl, rfl⟩
theorem ix_get {N : List Str} {x : Str} {i : Nat} (h : ix N x = some i) : N[i]? = some x := by
  unfold ix at h
  rw [List.findIdx?_eq_some_iff_getElem] at h
  obtain ⟨hi, e, _⟩ := h
  rw [List.getElem?_eq_getElem hi]
  have := beq_iff_eq.mp e
  rw [this]

/-! ### the promise of a def -/
def spOf (K : PySem.W.Frag) (w0 : Nat) (ds : List Def) (n i : Nat) : Sp := fun vs H Q _ => ∃ sp B k as d k', Wd sp B H ∧ SpotAt sp k H ∧ RepL K sp B vs as ∧ run w0 ds n i as k = some (d, k') ∧
  ∀ v B' H', Ge sp B H B' H' → SpotAt sp k' H' → Rep K sp B' v d → Q v H'
def biNames : List Str := ["isinstance", "len", "int", "sum", "max", "min", "abs", "all", "any", "tuple", "list", "sorted", "bool", "str", "range", "enumerate", "zip", "reversed"]
structure Facts (Γ : CT) (P : Program) (w : World) (K : PySem.W.Frag) (mg : Str → Option Value) (base : Heap) (n w0 : Nat) (ds : List Def) : Prop where
  fns : ∀ x i, Γ.fns.lookup x = some i → ∃ f fd ps, FnOk P w K mg base CX0 n f fd ps (spOf K w0 ds n i) ∧ mg x = some (.ref f) ∧ PySem.W.keepIn K (.ref f) = true ∧ Binds K fd ps []
  consts : ∀ x d, Γ.consts.lookup x = some d → ∃ v u, mg x = some u ∧ RelV v u ∧ ∀ sp H, Rep K sp H v d
  gcd : ∀ x, x ∈ Γ.gcd → mg x = some (.builtin "math.gcd")
  bi : ∀ x ∈ biNames, mg x = none
structure XF (Γ : CT) (w0 : Nat) (ds : List Def) (n : Nat) (sc : Scope) (N : List Str) (X : Cx) : Prop where
  F : Facts Γ X.prog X.w X.K X.mg X.base n w0 ds
  sc : X.env.scope = sc
  nn : X.N = N
  nd : N.Nodup
  calm : X.calm = true
  room : Room n X.A

def PED (X : Cx) (c : Call) (e : Expr) (il : E) : Prop := ∀ ρ mu k d k', evE c il ρ k = some (d, k') → avE mu il = true → PE X e (tD X.K ρ mu k d k')
def PTD (X : Cx) (c : Call) (e : Expr) (il : T) : Prop := ∀ ρ mu k b k', evT c il ρ k = some (b, k') → avT mu il = true → PT X e (tDT X.K ρ mu k b k')
def PAD (X : Cx) (c : Call) (es : List Expr) (il : Es) : Prop := ∀ ρ mu k ds k', evEs c il ρ k = some (ds, k') → avEs mu il = true → PA X es (tDs X.K ρ mu k ds k')

section
variable {X : Cx} {c : Call} {Γ : CT} {w0 n : Nat} {ds : List Def} {sc : Scope} {N : List Str}

theorem fin_d {K : PySem.W.Frag} {sp : Option Addr} {B H : Hp} {k : Ky} {v : V} {d : D} {Q : VK} (w : Wd sp B H) (s : SpotAt sp k H) (r : Rep K sp B v d) (q : ∀ v B' H', Ge sp B H B' H' → SpotAt sp k H' → Rep K sp B' v d → Q v H') : Q v H :=
  q v B H (Ge.refl w) s r
theorem fin_new {K : PySem.W.Frag} {sp : Option Addr} {B H : Hp} {k : Ky} {p : Addr} {o : HO} {d : D} {Q : VK} (w : Wd sp B H) (s : SpotAt sp k H) (hp : H p = none) (r : Rep K sp (upd B p o) (.ref p) d)
    (q : ∀ v B' H', Ge sp B H B' H' → SpotAt sp k H' → Rep K sp B' v d → Q v H') : Q (.ref p) (upd H p o) :=
  q _ _ _ (Ge.new w s hp) (s.ge hp) r
theorem B_none {sp : Option Addr} {B H : Hp} {p : Addr} (w : Wd sp B H) (hp : H p = none) : B p = none := by
  cases e : B p with
  | none => rfl
  | some u => have := w.sub p u e; rw [hp] at this; cases this
theorem rep_tup_new {K : PySem.W.Frag} {sp : Option Addr} {B : Hp} {p : Addr} {xs : List V} {ds : List D} (hb : B p = none) (r : RepL K sp B xs ds) : Rep K sp (upd B p (.tup xs)) (.ref p) (.tup ds) :=
  .tup (.inl (.inl upd_same)) (RepL.ext (Ext.upd hb) ds xs r)
theorem rep_lst_new {K : PySem.W.Frag} {sp : Option Addr} {B : Hp} {p : Addr} {xs : List V} {ds : List D} (hb : B p = none) (r : RepL K sp B xs ds) : Rep K sp (upd B p (.lst xs)) (.ref p) (.lst ds) :=
  .lst upd_same (RepL.ext (Ext.upd hb) ds xs r)

/-! ### names, constants -/
theorem d_var (hx : XF Γ w0 ds n sc N X) {x : Str} {pos : Pos} {i : Nat} (h : slot sc N x = some i) : PED X c (.Name x pos) (.var i) := by
  intro ρ mu k d k' he ha
  unfold slot at h
  split at h
  · rename_i hv
    simp only [okName, Bool.and_eq_true, Bool.not_eq_true'] at hv
    simp only [evE] at he
    split at he
    · rename_i d' hd
      cases he
      have hN : X.N[i]? = some x := by rw [hx.nn]; exact ix_get h
      have hvis : Vis X.env.scope x := by
        rw [hx.sc]
        have h1 := hv.1
        unfold isVis at h1
        unfold Vis
        split at h1
        · exact .inl (by assumption)
        · exact .inr (.inl (by assumption))
        · exact .inr (.inr (by assumption))
        · cases h1
      refine (pe_var hN hvis hv.2.1.1 hv.2.1.2).wk fun σ H Q ⟨sp, B, w, s, r, q⟩ => ?_
      have hm : i ∉ mu := by
        simp only [avE, Bool.not_eq_true'] at ha
        intro hm
        rw [List.contains_iff_mem.mpr hm] at ha
        cases ha
      obtain ⟨v, h1, h2⟩ := r.2 i _ hm hd
      exact ⟨v, h1, fin_d w s h2 q⟩
    · cases he
  · cases h
theorem d_cst (hx : XF Γ w0 ds n sc N X) {x : Str} {pos : Pos} {d0 : D} (hg : glob sc x = true) (h : Γ.consts.lookup x = some d0) : PED X c (.Name x pos) (.cst d0) := by
  intro ρ mu k d k' he ha
  simp only [evE, Option.some.injEq, Prod.mk.injEq] at he
  obtain ⟨rfl, rfl⟩ := he
  obtain ⟨v, u, hm, rv, hr⟩ := hx.F.consts x _ h
  unfold glob isGl okName at hg
  simp only [Bool.and_eq_true, Bool.not_eq_true'] at hg
  have hgl : Gl X x := by
    show X.env.scope.names.lookup x = _
    rw [hx.sc]
    have h1 := hg.1
    split at h1
    · assumption
    · cases h1
  exact (pe_glob hgl hm rv hg.2.1.1).wk fun σ H Q ⟨sp, B, w, s, r, q⟩ => fin_d w s (hr sp B) q
theorem d_int {i : Int} {j : Nat} {pos : Pos} : PED X c (.Constant (.int i) j pos) (.cst (.int i)) := by
  intro ρ mu k d k' he ha
  simp only [evE, Option.some.injEq, Prod.mk.injEq] at he
  obtain ⟨rfl, rfl⟩ := he
  exact pe_int.wk fun σ H Q ⟨sp, B, w, s, r, q⟩ => fin_d w s (.int i) q
theorem d_bl {i : Bool} {j : Nat} {pos : Pos} : PED X c (.Constant (.bool i) j pos) (.cst (.bl i)) := by
  intro ρ mu k d k' he ha
  simp only [evE, Option.some.injEq, Prod.mk.injEq] at he
  obtain ⟨rfl, rfl⟩ := he
  exact pe_bl.wk fun σ H Q ⟨sp, B, w, s, r, q⟩ => fin_d w s (.bl i) q
theorem d_non {j : Nat} {pos : Pos} : PED X c (.Constant .none j pos) (.cst .non) := by
  intro ρ mu k d k' he ha
  simp only [evE, Option.some.injEq, Prod.mk.injEq] at he
  obtain ⟨rfl, rfl⟩ := he
  exact pe_non.wk fun σ H Q ⟨sp, B, w, s, r, q⟩ => fin_d w s .non q
theorem d_str {i : Str} {j : Nat} {pos : Pos} : PED X c (.Constant (.str i) j pos) (.cst (.str i)) := by
  intro ρ mu k d k' he ha
  simp only [evE, Option.some.injEq, Prod.mk.injEq] at he
  obtain ⟨rfl, rfl⟩ := he
  exact pe_str.wk fun σ H Q ⟨sp, B, w, s, r, q⟩ => fin_d w s (.str i) q

/-! ### two operands -/
/-- what an operation by values gives -/
def RD (K : PySem.W.Frag) (r : R2) (x y z : D) : Prop := ∀ sp B H k vx vy Q, Wd sp B H → SpotAt sp k H → Rep K sp B vx x → Rep K sp B vy y → (∀ v B' H', Ge sp B H B' H' → SpotAt sp k H' → Rep K sp B' v z → Q v H') → r vx vy H Q
theorem bin2 {K : PySem.W.Frag} {r : R2} {ρ : Rho} {mu : List Nat} {k k1 k2 : Ky} {x y z : D} {σ : L2.St} {H : Hp} {Q : VK} (hr : RD K r x y z) (h : tD K ρ mu k z k2 σ H Q) : tOp r (tD K ρ mu k x k1) (tD K ρ mu k1 y k2) σ H Q := by
  obtain ⟨sp, B, w, s, ri, q⟩ := h
  exact ⟨sp, B, w, s, ri, fun v1 B1 H1 g1 s1 r1 => ⟨sp, B1, g1.wd, s1, ri.ext g1.bb, fun v2 B2 H2 g2 s2 r2 =>
    hr sp B2 H2 k2 v1 v2 Q g2.wd s2 (Rep.ext g2.bb _ _ r1) r2 fun v B' H' g s r => q v B' H' (g1.trans (g2.trans g)) s r⟩⟩
theorem rd_int {K : PySem.W.Frag} {g : Int → Int → V} {i j : Int} {z : D} (h : ∀ sp H, Rep K sp H (g i j) z) : RD K (rI0 g) (.int i) (.int j) z := by
  intro sp B H k vx vy Q w s rx ry q
  cases rx
  cases ry
  exact ⟨i, j, rfl, rfl, fin_d w s (h sp B) q⟩
theorem rd_intC {K : PySem.W.Frag} {C : Int → Int → Prop} {g : Int → Int → V} {i j : Int} {z : D} (hc : C i j) (h : ∀ sp H, Rep K sp H (g i j) z) : RD K (rI C g) (.int i) (.int j) z := by
  intro sp B H k vx vy Q w s rx ry q
  cases rx
  cases ry
  exact ⟨i, j, rfl, rfl, hc, fin_d w s (h sp B) q⟩
theorem small_log {j : Int} (h : small64 j = true) : j.natAbs.log2 < 64 := by
  simp only [small64, Bool.and_eq_true, decide_eq_true_eq] at h
  exact PySem.Flt.log2_lt_of (by decide) (show j.natAbs < 2 ^ 64 by omega)
/-- the operation's rule, by the data -/
theorem bo_ok {op : Operator} {o : BO} (ho : cBO op = some o) {x y z : D} (h : boSem o x y = some z) : ∃ r, OpR X (binaryOp op) r ∧ RD X.K r x y z := by
  cases op <;> simp [cBO] at ho <;> subst ho
  · -- add
    cases x <;> cases y <;> simp only [boSem] at h <;> first | (cases h; done) | skip
    · cases h; exact ⟨_, op_add, rd_int fun _ _ => .int _⟩
    · split at h <;> cases h
      rename_i a b hz
      refine ⟨_, op_add_str, fun sp B H k vx vy Q w s rx ry q => ?_⟩
      cases rx
      cases ry
      exact ⟨a, b, rfl, rfl, by simpa [lineOk, sizeLine] using hz, fin_d w s (.str _) q⟩
    · split at h <;> cases h
      rename_i a b hz
      refine ⟨_, op_catA, fun sp B H k vx vy Q w s rx ry q => ?_⟩
      cases rx with
      | @tup pa xs _ h1 h2 =>
      cases ry with
      | @tup pb ys _ h3 h4 =>
      have l1 := h2.len
      have l2 := h4.len
      refine ⟨pa, pb, xs, ys, rfl, rfl, ext_t w.sub h1, ext_t w.sub h3, ?_, fun e => ?_, fun e e2 => ?_, fun _ _ p hp => ?_⟩
      · have hz' : a.length + b.length ≤ 16777216 := by simpa [lineOk] using hz
        show _ ≤ 2 ^ 24
        omega
      · subst e
        cases h2
        exact fin_d w s (by simpa using Rep.tup h3 h4) q
      · subst e2
        cases h4
        exact fin_d w s (by simpa using Rep.tup h1 h2) q
      · exact fin_new w s hp (rep_tup_new (B_none w hp) (h2.append h4)) q
    · split at h <;> cases h
      rename_i a b hz
      refine ⟨_, op_cat, fun sp B H k vx vy Q w s rx ry q => ?_⟩
      cases rx with
      | @lst pa xs _ h1 h2 =>
      cases ry with
      | @lst pb ys _ h3 h4 =>
      have l1 := h2.len
      have l2 := h4.len
      refine ⟨pa, pb, xs, ys, rfl, rfl, w.sub _ _ h1, w.sub _ _ h3, ?_, fun p hp => ?_⟩
      · have hz' : a.length + b.length ≤ 16777216 := by simpa [lineOk] using hz
        show _ ≤ 2 ^ 24
        omega
      · exact fin_new w s hp (rep_lst_new (B_none w hp) (h2.append h4)) q
  · -- sub
    cases x <;> cases y <;> simp only [boSem] at h <;> first | (cases h; done) | skip
    cases h; exact ⟨_, op_sub, rd_int fun _ _ => .int _⟩
  · -- mul
    cases x <;> cases y <;> simp only [boSem] at h <;> first | (cases h; done) | skip
    rename_i i j
    split at h <;> cases h
    rename_i hm
    simp only [mulOk, Bool.or_eq_true, decide_eq_true_eq] at hm
    rcases hm with (hm | hm) | hm
    · simp only [small64, Bool.and_eq_true, decide_eq_true_eq] at hm
      exact ⟨_, op_mul, rd_intC (.inl ⟨by omega, by omega⟩) fun _ _ => .int _⟩
    · simp only [small64, Bool.and_eq_true, decide_eq_true_eq] at hm
      exact ⟨_, op_mul, rd_intC (.inr ⟨by omega, by omega⟩) fun _ _ => .int _⟩
    · exact ⟨_, op_mulW, rd_intC hm fun _ _ => .int _⟩
  · -- mod
    cases x <;> cases y <;> simp only [boSem] at h <;> first | (cases h; done) | skip
    split at h <;> cases h
    rename_i hm
    exact ⟨_, op_mod, rd_intC (of_decide_eq_true hm) fun _ _ => .int _⟩
  · -- pow
    cases x <;> cases y <;> simp only [boSem] at h <;> first | (cases h; done) | skip
    split at h <;> cases h
    rename_i hm
    simp only [Bool.and_eq_true, decide_eq_true_eq, small64] at hm
    exact ⟨_, op_pow, rd_intC ⟨hm.1.1, by omega, by omega⟩ fun _ _ => .int _⟩
  · -- floordiv
    cases x <;> cases y <;> simp only [boSem] at h <;> first | (cases h; done) | skip
    split at h <;> cases h
    rename_i hm
    simp only [divOk, Bool.and_eq_true, Bool.or_eq_true, decide_eq_true_eq] at hm
    refine ⟨_, op_fdivW, rd_intC ⟨hm.1, ?_⟩ fun _ _ => .int _⟩
    rcases hm.2 with h | h
    · exact Nat.lt_trans (small_log h) (by decide)
    · exact h
end
end Mini
namespace Mini
open PySem PySem.Spec PyProof.Rows L2
section
variable {X : Cx} {c : Call} {Γ : CT} {w0 n : Nat} {ds : List Def} {sc : Scope} {N : List Str}

/-! ### comparisons -/
theorem eqD_spec {x y : D} {b : Bool} (h : eqD x y = some b) : x.fine 60 = true ∧ y.fine 60 = true ∧ PyData.eqv x.py y.py = b := by
  have gen : (if x.fine 60 && y.fine 60 then some (PyData.eqv x.py y.py) else none) = some b → x.fine 60 = true ∧ y.fine 60 = true ∧ PyData.eqv x.py y.py = b := by
    intro h
    split at h
    · rename_i hf
      simp only [Bool.and_eq_true] at hf
      exact ⟨hf.1, hf.2, Option.some.inj h⟩
    · cases h
  unfold eqD at h
  split at h
  · cases h; exact ⟨rfl, rfl, by simp [D.py, PyData.eqv, Bool.beq_eq_decide_eq]⟩
  · cases h; exact ⟨rfl, rfl, by simp [D.py, PyData.eqv, Bool.beq_eq_decide_eq]⟩
  · cases h; exact ⟨rfl, rfl, by simp [D.py, PyData.eqv, Bool.beq_eq_decide_eq]⟩
  · cases h; exact ⟨rfl, rfl, rfl⟩
  · exact gen h
theorem anyEq_spec {x : D} : ∀ {ys : List D} {b : Bool}, anyEq x ys = some b → D.fines 60 ys = true ∧ ((D.pys ys).any fun y => PyData.eqv y x.py) = b
  | [], b, h => by simp only [anyEq, Option.some.injEq] at h; subst h; exact ⟨rfl, rfl⟩
  | y :: ys, b, h => by
    simp only [anyEq] at h
    split at h
    · rename_i e
      cases e2 : anyEq x ys with
      | none => rw [e2] at h; cases h
      | some b2 =>
        rw [e2] at h
        obtain ⟨f1, f2⟩ := anyEq_spec e2
        obtain ⟨g1, g2, g3⟩ := eqD_spec e
        simp only [Option.map_some, Option.some.injEq] at h
        subst h
        exact ⟨by simp [D.fines, g1, f1], by simp [D.pys, g3]⟩
    · rename_i e
      obtain ⟨f1, f2⟩ := anyEq_spec h
      obtain ⟨g1, g2, g3⟩ := eqD_spec e
      exact ⟨by simp [D.fines, g1, f1], by simp [D.pys, g3, f2]⟩
    · cases h
theorem rd_eqP {K : PySem.W.Frag} {x y : D} {b : Bool} (h : eqD x y = some b) : RD K (rEqP K) x y (.bl b) := by
  obtain ⟨f1, f2, f3⟩ := eqD_spec h
  intro sp B H k vx vy Q w s rx ry q
  have p1 := fine_plain 60 x f1
  have p2 := fine_plain 60 y f2
  refine ⟨x.py, y.py, fine_dp 60 x vx f1 (Rep.ext w.sub _ _ rx), fine_dp 60 y vy f2 (Rep.ext w.sub _ _ ry), p1.1, p2.1, by omega, ?_⟩
  rw [f3]
  exact fin_d w s (.bl b) q
theorem rd_neP {K : PySem.W.Frag} {x y : D} {b : Bool} (h : eqD x y = some b) : RD K (rNeP K) x y (.bl (!b)) := by
  obtain ⟨f1, f2, f3⟩ := eqD_spec h
  intro sp B H k vx vy Q w s rx ry q
  have p1 := fine_plain 60 x f1
  have p2 := fine_plain 60 y f2
  refine ⟨x.py, y.py, fine_dp 60 x vx f1 (Rep.ext w.sub _ _ rx), fine_dp 60 y vy f2 (Rep.ext w.sub _ _ ry), p1.1, p2.1, by omega, ?_⟩
  rw [f3]
  exact fin_d w s (.bl (!b)) q
def rInP (K : PySem.W.Frag) (neg : Bool) : R2 := fun x y H Q => ∃ d ds, Dp K H x d ∧ (Dp K H y (.list ds) ∨ Dp K H y (.tuple ds)) ∧ d.plain = true ∧ PyData.plainAll ds = true ∧ d.depth ≤ 62 ∧
  Q (.bl (if neg then !(ds.any fun z => PyData.eqv z d) else ds.any fun z => PyData.eqv z d)) H
theorem op_inP (hu : X.A.units + 64 < cLine) : OpR X (compareOp .In) (rInP X.K false) := by
  intro pins s σ H x y v u Q I rx ry h
  obtain ⟨d, es, hd, he, sd, se, dp, q⟩ := h
  obtain ⟨as, r1⟩ := Dp.reads I d x v hd rx
  rcases he with he | he
  · obtain ⟨bs, r2⟩ := Dp.reads I (.list es) y u he ry
    exact SeqAt.in_list_data r2 r1 se sd (by omega) ⟨.bl _, H, I, rfl, q⟩
  · obtain ⟨bs, r2⟩ := Dp.reads I (.tuple es) y u he ry
    exact SeqAt.in_tuple_data r2 r1 se sd (by omega) ⟨.bl _, H, I, rfl, q⟩
theorem op_notInP (hu : X.A.units + 64 < cLine) : OpR X (compareOp .NotIn) (rInP X.K true) := by
  intro pins s σ H x y v u Q I rx ry h
  obtain ⟨d, es, hd, he, sd, se, dp, q⟩ := h
  obtain ⟨as, r1⟩ := Dp.reads I d x v hd rx
  rcases he with he | he
  · obtain ⟨bs, r2⟩ := Dp.reads I (.list es) y u he ry
    exact SeqAt.notIn_list_data r2 r1 se sd (by omega) ⟨.bl _, H, I, rfl, q⟩
  · obtain ⟨bs, r2⟩ := Dp.reads I (.tuple es) y u he ry
    exact SeqAt.notIn_tuple_data r2 r1 se sd (by omega) ⟨.bl _, H, I, rfl, q⟩
theorem rd_inP {K : PySem.W.Frag} {neg : Bool} {x : D} {ys : List D} {b : Bool} (hf : x.fine 60 = true) (h : anyEq x ys = some b) (z : D) (hz : z = .lst ys ∨ z = .tup ys) : RD K (rInP K neg) x z (.bl (if neg then !b else b)) := by
  obtain ⟨f1, f2⟩ := anyEq_spec h
  intro sp B H k vx vy Q w s rx ry q
  have p1 := fine_plain 60 x hf
  have p2 := fines_plain 60 ys f1
  refine ⟨x.py, D.pys ys, fine_dp 60 x vx hf (Rep.ext w.sub _ _ rx), ?_, p1.1, p2.1, by omega, ?_⟩
  · have ry' := Rep.ext w.sub _ _ ry
    rcases hz with rfl | rfl
    · cases ry' with
      | lst h1 h2 => exact .inl (.lst (.inl (.inl h1)) (fines_dp 60 ys _ f1 h2))
    · cases ry' with
      | tup h1 h2 => exact .inr (.tup h1 (fines_dp 60 ys _ f1 h2))
  · rw [f2]
    exact fin_d w s (.bl _) q
theorem co_ok (hr : Room n X.A) {op : CmpOp} {o : CO} (ho : cCO op = some o) {x y : D} {b : Bool} (h : coSem o x y = some b) : ∃ r, OpR X (compareOp op) r ∧ RD X.K r x y (.bl b) := by
  have hu := hr.units
  cases op <;> simp [cCO] at ho <;> subst ho
  · exact ⟨_, op_eqP hu, rd_eqP h⟩
  · simp only [coSem] at h
    cases e : eqD x y with
    | none => rw [e] at h; cases h
    | some b' => rw [e] at h; cases h; exact ⟨_, op_neP hu, rd_neP e⟩
  · cases x <;> cases y <;> simp only [coSem] at h <;> first | (cases h; done) | skip
    cases h; exact ⟨_, op_lt, rd_int fun _ _ => .bl _⟩
  · cases x <;> cases y <;> simp only [coSem] at h <;> first | (cases h; done) | skip
    cases h; exact ⟨_, op_le, rd_int fun _ _ => .bl _⟩
  · cases x <;> cases y <;> simp only [coSem] at h <;> first | (cases h; done) | skip
    cases h; exact ⟨_, op_gt, rd_int fun _ _ => .bl _⟩
  · cases x <;> cases y <;> simp only [coSem] at h <;> first | (cases h; done) | skip
    cases h; exact ⟨_, op_ge, rd_int fun _ _ => .bl _⟩
  · cases y with
    | lst ys =>
      simp only [coSem] at h
      split at h
      · rename_i hf
        exact ⟨_, op_inP hu, rd_inP (neg := false) hf h _ (.inl rfl)⟩
      · cases h
    | tup ys =>
      simp only [coSem] at h
      split at h
      · rename_i hf
        exact ⟨_, op_inP hu, rd_inP (neg := false) hf h _ (.inr rfl)⟩
      · cases h
    | _ => simp [coSem] at h
  · cases y with
    | lst ys =>
      simp only [coSem] at h
      split at h
      · rename_i hf
        cases e : anyEq x ys with
        | none => rw [e] at h; cases h
        | some b' => rw [e] at h; cases h; exact ⟨_, op_notInP hu, rd_inP (neg := true) hf e _ (.inl rfl)⟩
      · cases h
    | tup ys =>
      simp only [coSem] at h
      split at h
      · rename_i hf
        cases e : anyEq x ys with
        | none => rw [e] at h; cases h
        | some b' => rw [e] at h; cases h; exact ⟨_, op_notInP hu, rd_inP (neg := true) hf e _ (.inr rfl)⟩
      · cases h
    | _ => simp [coSem] at h

variable {a b e t : Expr} {x y z : E} {pos : Pos}
theorem d_bin {op : Operator} {o : BO} (ho : cBO op = some o) (ha : PED X c a x) (hb : PED X c b y) : PED X c (.BinOp a op b pos) (.bin o x y) := by
  intro ρ mu k d k' he hav
  simp only [evE] at he
  simp only [avE, Bool.and_eq_true] at hav
  split at he
  · cases he
  · rename_i d1 k1 e1
    split at he
    · cases he
    · rename_i d2 k2 e2
      cases e3 : boSem o d1 d2 with
      | none => rw [e3] at he; cases he
      | some z =>
        rw [e3] at he
        simp only [Option.map_some, Option.some.injEq, Prod.mk.injEq] at he
        obtain ⟨rfl, rfl⟩ := he
        obtain ⟨r, hop, hr⟩ := bo_ok (X := X) ho e3
        exact (pe_op hop (ha ρ mu k d1 k1 e1 hav.1) (hb ρ mu k1 d2 _ e2 hav.2)).wk fun σ H Q h => bin2 hr h
theorem d_neg (ha : PED X c a x) : PED X c (.UnaryOp .USub a pos) (.neg x) := by
  intro ρ mu k d k' he hav
  simp only [evE] at he
  simp only [avE] at hav
  split at he
  · rename_i i k1 e1
    cases he
    refine (pe_un un_neg (ha ρ mu k _ _ e1 hav)).wk fun σ H Q ⟨sp, B, w, s, ri, q⟩ => ⟨sp, B, w, s, ri, fun v1 B1 H1 g1 s1 r1 => ?_⟩
    cases r1
    exact ⟨i, rfl, q _ _ _ g1 s1 (.int _)⟩
  · cases he
theorem d_cmp (hr : Room n X.A) {op : CmpOp} {o : CO} (ho : cCO op = some o) (hb0 : plainE b = true) (ha : PED X c a x) (hb : PED X c b y) : PED X c (.Compare a [op] [b] pos) (.cmp o x y) := by
  intro ρ mu k d k' he hav
  simp only [evE] at he
  simp only [avE, Bool.and_eq_true] at hav
  split at he
  · cases he
  · rename_i d1 k1 e1
    split at he
    · cases he
    · rename_i d2 k2 e2
      cases e3 : coSem o d1 d2 with
      | none => rw [e3] at he; cases he
      | some z =>
        rw [e3] at he
        simp only [Option.map_some, Option.some.injEq, Prod.mk.injEq] at he
        obtain ⟨rfl, rfl⟩ := he
        obtain ⟨r, hop, hr⟩ := co_ok (X := X) hr ho e3
        exact (pe_cmpR hop (ha ρ mu k d1 k1 e1 hav.1) (hb ρ mu k1 d2 _ e2 hav.2) (noMark_of hb0 op)).wk fun σ H Q h => bin2 hr h
/-- the test of a comparison -/
theorem t_cmp (hr : Room n X.A) {op : CmpOp} {o : CO} (ho : cCO op = some o) (hb0 : plainE b = true) (ha : PED X c a x) (hb : PED X c b y) : PTD X c (.Compare a [op] [b] pos) (.val (.cmp o x y)) := by
  intro ρ mu k d k' he hav
  simp only [evT, evE] at he
  simp only [avT, avE, Bool.and_eq_true] at hav
  split at he
  · cases he
  · rename_i dd kk ee
    split at ee
    · cases ee
    · rename_i d1 k1 e1
      split at ee
      · cases ee
      · rename_i d2 k2 e2
        cases e3 : coSem o d1 d2 with
        | none => rw [e3] at ee; cases ee
        | some z =>
          rw [e3] at ee
          simp only [Option.map_some, Option.some.injEq, Prod.mk.injEq] at ee
          obtain ⟨rfl, rfl⟩ := ee
          simp only [truth, Option.map_some, Option.some.injEq, Prod.mk.injEq] at he
          obtain ⟨rfl, rfl⟩ := he
          obtain ⟨r, hop, hr⟩ := co_ok (X := X) hr ho e3
          refine (pt_cmpR hop (ha ρ mu k d1 k1 e1 hav.1) (hb ρ mu k1 d2 _ e2 hav.2) (noMark_of hb0 op)).wk fun σ H Q ⟨sp, B, w, s, ri, q⟩ => ?_
          refine bin2 (k2 := k2) hr ⟨sp, B, w, s, ri, fun v B' H' g s' r' => ?_⟩
          cases r'
          exact ⟨_, rfl, q B' H' g s'⟩
theorem chain_rd (hr : Room n X.A) {op op' : CmpOp} {o o' : CO} (ho : cCO op = some o) (ho' : cCO op' = some o') (hb0 : plainE b = true) (he0 : plainE e = true) (ha : PED X c a x) (hb : PED X c b y) (hc : PED X c e z)
    {ρ : Rho} {mu : List Nat} {k k' : Ky} {d : D} (he : evE c (.chain o o' x y z) ρ k = some (d, k')) (hav : avE mu (.chain o o' x y z) = true) :
    ∃ r r' ta tb tc, OpR X (compareOp op) r ∧ OpR X (compareOp op') r' ∧ PE X a ta ∧ PE X b tb ∧ PE X e tc ∧ (∃ bb, d = .bl bb) ∧ ∀ σ H Q, tD X.K ρ mu k d k' σ H Q → tChain r r' ta tb tc σ H Q := by
  simp only [evE] at he
  simp only [avE, Bool.and_eq_true] at hav
  split at he
  · cases he
  rename_i d1 k1 e1
  split at he
  · cases he
  rename_i d2 k2 e2
  split at he
  · cases he
  · rename_i e3
    simp only [Option.some.injEq, Prod.mk.injEq] at he
    obtain ⟨rfl, rfl⟩ := he
    obtain ⟨r, hop, hrd⟩ := co_ok (X := X) hr ho e3
    -- the second comparison is not reached: any rule for it
    refine ⟨r, fun _ _ _ _ => False, _, _, fun _ _ _ => False, hop, fun _ _ _ _ _ _ _ _ _ _ _ _ h => h.elim, ha ρ mu k d1 k1 e1 hav.1.1, hb ρ mu k1 d2 _ e2 hav.1.2, ⟨fun _ _ _ _ _ _ h => h.elim⟩, ⟨_, rfl⟩, fun σ H Q ⟨sp, B, w, s, ri, q⟩ => ?_⟩
    refine ⟨sp, B, w, s, ri, fun v1 B1 H1 g1 s1 r1 => ⟨sp, B1, g1.wd, s1, ri.ext g1.bb, fun v2 B2 H2 g2 s2 r2 => ?_⟩⟩
    refine hrd sp B2 H2 _ v1 v2 _ g2.wd s2 (Rep.ext g2.bb _ _ r1) r2 fun v B' H' g s' r' => ?_
    cases r'
    refine ⟨false, rfl, ?_⟩
    rw [if_neg Bool.false_ne_true]
    exact q _ B' H' (g1.trans (g2.trans g)) s' (.bl false)
  · rename_i e3
    split at he
    · cases he
    rename_i d4 k4 e4
    cases e5 : coSem o' d2 d4 with
    | none => rw [e5] at he; cases he
    | some zb =>
      rw [e5] at he
      simp only [Option.map_some, Option.some.injEq, Prod.mk.injEq] at he
      obtain ⟨rfl, rfl⟩ := he
      obtain ⟨r, hop, hrd⟩ := co_ok (X := X) hr ho e3
      obtain ⟨r', hop', hrd'⟩ := co_ok (X := X) hr ho' e5
      refine ⟨r, r', _, _, _, hop, hop', ha ρ mu k d1 k1 e1 hav.1.1, hb ρ mu k1 d2 _ e2 hav.1.2, hc ρ mu _ d4 _ e4 hav.2, ⟨_, rfl⟩, fun σ H Q ⟨sp, B, w, s, ri, q⟩ => ?_⟩
      refine ⟨sp, B, w, s, ri, fun v1 B1 H1 g1 s1 r1 => ⟨sp, B1, g1.wd, s1, ri.ext g1.bb, fun v2 B2 H2 g2 s2 r2 => ?_⟩⟩
      refine hrd sp B2 H2 _ v1 v2 _ g2.wd s2 (Rep.ext g2.bb _ _ r1) r2 fun v B' H' g s' rb => ?_
      cases rb
      refine ⟨true, rfl, ?_⟩
      rw [if_pos rfl]
      refine ⟨sp, B', g.wd, s', (ri.ext g1.bb).ext (g2.bb.trans g.bb), fun v4 B4 H4 g4 s4 r4 => ?_⟩
      refine hrd' sp B4 H4 _ v2 v4 _ g4.wd s4 (Rep.ext (g.bb.trans g4.bb) _ _ r2) r4 fun v B5 H5 g5 s5 r5 => ?_
      exact q v B5 H5 (g1.trans (g2.trans (g.trans (g4.trans g5)))) s5 r5
theorem d_chain (hr : Room n X.A) {op op' : CmpOp} {o o' : CO} (ho : cCO op = some o) (ho' : cCO op' = some o') (hb0 : plainE b = true) (he0 : plainE e = true) (ha : PED X c a x) (hb : PED X c b y) (hc : PED X c e z) :
    PED X c (.Compare a [op, op'] [b, e] pos) (.chain o o' x y z) := by
  intro ρ mu k d k' he hav
  obtain ⟨r, r', ta, tb, tc, h1, h2, h3, h4, h5, _, h6⟩ := chain_rd hr ho ho' hb0 he0 ha hb hc he hav
  exact (pe_chain h1 h2 h3 h4 h5 (show behindInMarks op' e = false from noMark_of he0 op')).wk h6
theorem t_of {K : PySem.W.Frag} {te : TE} {ρ : Rho} {mu : List Nat} {k k' : Ky} {bb : Bool} {σ : L2.St} {H : Hp} {Q : Bool → Hp → Prop} (h : ∀ Q, tD K ρ mu k (.bl bb) k' σ H Q → te σ H Q) (q : tDT K ρ mu k bb k' σ H Q) : te σ H fun x H' => ∃ k, x = .bl k ∧ Q k H' := by
  obtain ⟨sp, B, w, s, ri, q⟩ := q
  refine h _ ⟨sp, B, w, s, ri, fun v B' H' g s' r' => ?_⟩
  cases r'
  exact ⟨_, rfl, q B' H' g s'⟩
theorem truth_bl {bb : Bool} {b' : Bool} (h : truth (.bl bb) = some b') : bb = b' := Option.some.inj h
theorem t_chain (hr : Room n X.A) {op op' : CmpOp} {o o' : CO} (ho : cCO op = some o) (ho' : cCO op' = some o') (hb0 : plainE b = true) (he0 : plainE e = true) (ha : PED X c a x) (hb : PED X c b y) (hc : PED X c e z) :
    PTD X c (.Compare a [op, op'] [b, e] pos) (.val (.chain o o' x y z)) := by
  intro ρ mu k d k' he hav
  simp only [evT] at he
  split at he
  · cases he
  rename_i dd kk ee
  obtain ⟨r, r', ta, tb, tc, h1, h2, h3, h4, h5, ⟨bb, rfl⟩, h6⟩ := chain_rd hr ho ho' hb0 he0 ha hb hc ee (by simpa [avT] using hav)
  simp only [truth, Option.map_some, Option.some.injEq, Prod.mk.injEq] at he
  obtain ⟨rfl, rfl⟩ := he
  exact (pt_chain h1 h2 h3 h4 h5 (show behindInMarks op' e = false from noMark_of he0 op')).wk fun σ H Q h => t_of (h6 σ H) h

/-! ### None -/
theorem rep_non {K : PySem.W.Frag} {sp : Option Addr} {H : Hp} {v : V} {d : D} (r : Rep K sp H v d) : decide (v = .non) = (match d with | .non => true | _ => false) := by
  cases r <;> rfl
theorem isN_rd (ha : PED X c a x) {ρ : Rho} {mu : List Nat} {k k' : Ky} {d : D} (he : evE c (.isN x) ρ k = some (d, k')) (hav : avE mu (.isN x) = true) :
    ∃ ta, PE X a ta ∧ (∃ bb, d = .bl bb) ∧ ∀ σ H Q, tD X.K ρ mu k d k' σ H Q → tIsN ta σ H Q := by
  simp only [evE] at he
  split at he
  · rename_i k1 e1
    cases he
    refine ⟨_, ha ρ mu k _ _ e1 hav, ⟨_, rfl⟩, fun σ H Q ⟨sp, B, w, s, ri, q⟩ => ⟨sp, B, w, s, ri, fun v B' H' g s' r' => ?_⟩⟩
    dsimp only
    rw [rep_non r']
    exact q _ B' H' g s' (.bl true)
  · rename_i d1 k1 hne e1
    cases he
    refine ⟨_, ha ρ mu k _ _ e1 hav, ⟨_, rfl⟩, fun σ H Q ⟨sp, B, w, s, ri, q⟩ => ⟨sp, B, w, s, ri, fun v B' H' g s' r' => ?_⟩⟩
    dsimp only
    rw [rep_non r']
    cases d1 <;> first | exact q _ B' H' g s' (.bl false) | exact (hne _ rfl).elim | exact (hne rfl).elim
  · cases he
theorem notN_rd (ha : PED X c a x) {ρ : Rho} {mu : List Nat} {k k' : Ky} {d : D} (he : evE c (.notN x) ρ k = some (d, k')) (hav : avE mu (.notN x) = true) :
    ∃ ta, PE X a ta ∧ (∃ bb, d = .bl bb) ∧ ∀ σ H Q, tD X.K ρ mu k d k' σ H Q → tNotN ta σ H Q := by
  simp only [evE] at he
  split at he
  · rename_i k1 e1
    cases he
    refine ⟨_, ha ρ mu k _ _ e1 hav, ⟨_, rfl⟩, fun σ H Q ⟨sp, B, w, s, ri, q⟩ => ⟨sp, B, w, s, ri, fun v B' H' g s' r' => ?_⟩⟩
    dsimp only
    rw [rep_non r']
    exact q _ B' H' g s' (.bl false)
  · rename_i d1 k1 hne e1
    cases he
    refine ⟨_, ha ρ mu k _ _ e1 hav, ⟨_, rfl⟩, fun σ H Q ⟨sp, B, w, s, ri, q⟩ => ⟨sp, B, w, s, ri, fun v B' H' g s' r' => ?_⟩⟩
    dsimp only
    rw [rep_non r']
    cases d1 <;> first | exact q _ B' H' g s' (.bl true) | exact (hne _ rfl).elim | exact (hne rfl).elim
  · cases he
theorem d_isN {j : Nat} {pos' : Pos} (ha : PED X c a x) : PED X c (.Compare a [.Is] [.Constant .none j pos'] pos) (.isN x) := by
  intro ρ mu k d k' he hav
  obtain ⟨ta, h1, _, h2⟩ := isN_rd ha he hav
  exact (pe_cmp (pc_isN h1) rfl).wk h2
theorem d_notN {j : Nat} {pos' : Pos} (ha : PED X c a x) : PED X c (.Compare a [.IsNot] [.Constant .none j pos'] pos) (.notN x) := by
  intro ρ mu k d k' he hav
  obtain ⟨ta, h1, _, h2⟩ := notN_rd ha he hav
  exact (pe_cmp (pc_notN h1) rfl).wk h2
theorem t_isN {j : Nat} {pos' : Pos} (ha : PED X c a x) : PTD X c (.Compare a [.Is] [.Constant .none j pos'] pos) (.val (.isN x)) := by
  intro ρ mu k d k' he hav
  simp only [evT] at he
  split at he
  · cases he
  rename_i dd kk ee
  obtain ⟨ta, h1, ⟨bb, rfl⟩, h2⟩ := isN_rd ha ee (by simpa [avT] using hav)
  simp only [truth, Option.map_some, Option.some.injEq, Prod.mk.injEq] at he
  obtain ⟨rfl, rfl⟩ := he
  exact (pt_cmp (pc_isN h1) rfl).wk fun σ H Q h => t_of (h2 σ H) h
theorem t_notN {j : Nat} {pos' : Pos} (ha : PED X c a x) : PTD X c (.Compare a [.IsNot] [.Constant .none j pos'] pos) (.val (.notN x)) := by
  intro ρ mu k d k' he hav
  simp only [evT] at he
  split at he
  · cases he
  rename_i dd kk ee
  obtain ⟨ta, h1, ⟨bb, rfl⟩, h2⟩ := notN_rd ha ee (by simpa [avT] using hav)
  simp only [truth, Option.map_some, Option.some.injEq, Prod.mk.injEq] at he
  obtain ⟨rfl, rfl⟩ := he
  exact (pt_cmp (pc_notN h1) rfl).wk fun σ H Q h => t_of (h2 σ H) h

/-! ### and, or, not, a if t else b -/
variable {rest : List Expr}
theorem d_and (ha : PED X c a x) (hb : PED X c (.BoolOp .And (b :: rest) pos) y) : PED X c (.BoolOp .And (a :: b :: rest) pos) (.and x y) := by
  intro ρ mu k d k' he hav
  simp only [evE] at he
  simp only [avE, Bool.and_eq_true] at hav
  split at he
  · rename_i k1 e1
    refine (pe_and (ha ρ mu k _ _ e1 hav.1) (hb ρ mu k1 _ _ he hav.2)).wk fun σ H Q ⟨sp, B, w, s, ri, q⟩ => ⟨sp, B, w, s, ri, fun v B' H' g s' r' => ?_⟩
    cases r'
    refine ⟨true, rfl, ?_⟩
    exact iteT (⟨sp, B', g.wd, s', ri.ext g.bb, fun v B2 H2 g2 s2 r2 => q v B2 H2 (g.trans g2) s2 r2⟩)
  · rename_i k1 e1
    cases he
    refine (pe_and (ha ρ mu k _ _ e1 hav.1) (tb := fun _ _ _ => False) ⟨fun _ _ _ _ _ _ h => h.elim⟩).wk fun σ H Q ⟨sp, B, w, s, ri, q⟩ => ⟨sp, B, w, s, ri, fun v B' H' g s' r' => ?_⟩
    cases r'
    refine ⟨false, rfl, ?_⟩
    exact iteF (q _ B' H' g s' (.bl false))
  · cases he
theorem d_or (ha : PED X c a x) (hb : PED X c (.BoolOp .Or (b :: rest) pos) y) : PED X c (.BoolOp .Or (a :: b :: rest) pos) (.or x y) := by
  intro ρ mu k d k' he hav
  simp only [evE] at he
  simp only [avE, Bool.and_eq_true] at hav
  split at he
  · rename_i k1 e1
    refine (pe_or (ha ρ mu k _ _ e1 hav.1) (hb ρ mu k1 _ _ he hav.2)).wk fun σ H Q ⟨sp, B, w, s, ri, q⟩ => ⟨sp, B, w, s, ri, fun v B' H' g s' r' => ?_⟩
    cases r'
    refine ⟨false, rfl, ?_⟩
    exact iteF (⟨sp, B', g.wd, s', ri.ext g.bb, fun v B2 H2 g2 s2 r2 => q v B2 H2 (g.trans g2) s2 r2⟩)
  · rename_i k1 e1
    cases he
    refine (pe_or (ha ρ mu k _ _ e1 hav.1) (tb := fun _ _ _ => False) ⟨fun _ _ _ _ _ _ h => h.elim⟩).wk fun σ H Q ⟨sp, B, w, s, ri, q⟩ => ⟨sp, B, w, s, ri, fun v B' H' g s' r' => ?_⟩
    cases r'
    refine ⟨true, rfl, ?_⟩
    exact iteT (q _ B' H' g s' (.bl true))
  · cases he
theorem d_one {op : BoolOp} (ha : PED X c a x) : PED X c (.BoolOp op [a] pos) x := fun ρ mu k d k' he hav => pe_one (ha ρ mu k d k' he hav)
theorem d_not (ha : PED X c a x) : PED X c (.UnaryOp .Not a pos) (.not x) := by
  intro ρ mu k d k' he hav
  simp only [evE] at he
  split at he
  · rename_i bb k1 e1
    cases he
    refine (pe_not (ha ρ mu k _ _ e1 hav)).wk fun σ H Q ⟨sp, B, w, s, ri, q⟩ => ⟨sp, B, w, s, ri, fun v B' H' g s' r' => ?_⟩
    cases r'
    exact ⟨bb, rfl, q _ B' H' g s' (.bl _)⟩
  · cases he
variable {tt uu vv : T}
theorem d_ite (ht : PTD X c t tt) (ha : PED X c a x) (hb : PED X c b y) : PED X c (.IfExp t a b pos) (.ite tt x y) := by
  intro ρ mu k d k' he hav
  simp only [evE] at he
  simp only [avE, Bool.and_eq_true] at hav
  split at he
  · cases he
  · rename_i k1 e1
    refine (pe_ifExp (ht ρ mu k _ _ e1 hav.1.1) (ha ρ mu k1 _ _ he hav.1.2) (tb := fun _ _ _ => False) ⟨fun _ _ _ _ _ _ h => h.elim⟩).wk fun σ H Q ⟨sp, B, w, s, ri, q⟩ => ⟨sp, B, w, s, ri, fun B' H' g s' => ?_⟩
    exact iteT (⟨sp, B', g.wd, s', ri.ext g.bb, fun v B2 H2 g2 s2 r2 => q v B2 H2 (g.trans g2) s2 r2⟩)
  · rename_i k1 e1
    refine (pe_ifExp (ht ρ mu k _ _ e1 hav.1.1) (ta := fun _ _ _ => False) ⟨fun _ _ _ _ _ _ h => h.elim⟩ (hb ρ mu k1 _ _ he hav.2)).wk fun σ H Q ⟨sp, B, w, s, ri, q⟩ => ⟨sp, B, w, s, ri, fun B' H' g s' => ?_⟩
    exact iteF (⟨sp, B', g.wd, s', ri.ext g.bb, fun v B2 H2 g2 s2 r2 => q v B2 H2 (g.trans g2) s2 r2⟩)

/-! ### tests -/
def PWD (X : Cx) (c : Call) (e : Expr) (il : T) : Prop := ∀ ρ mu k b k', evT c il ρ k = some (b, k') → avT mu il = true → PW X e (tDT X.K ρ mu k b k')
theorem w_and1 (ha : PTD X c a tt) : PWD X c (.BoolOp .And [a] pos) tt := fun ρ mu k d k' he hav => pw_and1 (ha ρ mu k d k' he hav)
theorem w_or1 (ha : PTD X c a tt) : PWD X c (.BoolOp .Or [a] pos) tt := fun ρ mu k d k' he hav => pw_or1 (ha ρ mu k d k' he hav)
theorem w_pt (h : PWD X c e tt) : PTD X c e tt := fun ρ mu k d k' he hav => (h ρ mu k d k' he hav).pt
theorem w_and (ha : PTD X c a tt) (hb : PWD X c (.BoolOp .And (b :: rest) pos) uu) : PWD X c (.BoolOp .And (a :: b :: rest) pos) (.and tt uu) := by
  intro ρ mu k d k' he hav
  simp only [evT] at he
  simp only [avT, Bool.and_eq_true] at hav
  split at he
  · cases he
  · rename_i k1 e1
    refine (pw_and (ha ρ mu k _ _ e1 hav.1) (hb ρ mu k1 _ _ he hav.2)).wk fun σ H Q ⟨sp, B, w, s, ri, q⟩ => ⟨sp, B, w, s, ri, fun B' H' g s' => ?_⟩
    exact iteT (⟨sp, B', g.wd, s', ri.ext g.bb, fun B2 H2 g2 s2 => q B2 H2 (g.trans g2) s2⟩)
  · rename_i k1 e1
    cases he
    refine (pw_and (ha ρ mu k _ _ e1 hav.1) (tB' := fun _ _ _ => False) ⟨fun _ _ _ _ _ _ _ h => h.elim⟩).wk fun σ H Q ⟨sp, B, w, s, ri, q⟩ => ⟨sp, B, w, s, ri, fun B' H' g s' => ?_⟩
    exact iteF (q B' H' g s')
theorem w_or (ha : PTD X c a tt) (hb : PWD X c (.BoolOp .Or (b :: rest) pos) uu) : PWD X c (.BoolOp .Or (a :: b :: rest) pos) (.or tt uu) := by
  intro ρ mu k d k' he hav
  simp only [evT] at he
  simp only [avT, Bool.and_eq_true] at hav
  split at he
  · cases he
  · rename_i k1 e1
    cases he
    refine (pw_or (ha ρ mu k _ _ e1 hav.1) (tB' := fun _ _ _ => False) ⟨fun _ _ _ _ _ _ _ h => h.elim⟩).wk fun σ H Q ⟨sp, B, w, s, ri, q⟩ => ⟨sp, B, w, s, ri, fun B' H' g s' => ?_⟩
    exact iteT (q B' H' g s')
  · rename_i k1 e1
    refine (pw_or (ha ρ mu k _ _ e1 hav.1) (hb ρ mu k1 _ _ he hav.2)).wk fun σ H Q ⟨sp, B, w, s, ri, q⟩ => ⟨sp, B, w, s, ri, fun B' H' g s' => ?_⟩
    exact iteF (⟨sp, B', g.wd, s', ri.ext g.bb, fun B2 H2 g2 s2 => q B2 H2 (g.trans g2) s2⟩)
theorem t_not (ha : PTD X c a tt) : PTD X c (.UnaryOp .Not a pos) (.not tt) := by
  intro ρ mu k d k' he hav
  simp only [evT] at he
  split at he
  · cases he
  · rename_i bb k1 e1
    cases he
    exact (pt_not (ha ρ mu k _ _ e1 hav)).wk fun σ H Q ⟨sp, B, w, s, ri, q⟩ => ⟨sp, B, w, s, ri, fun B' H' g s' => q B' H' g s'⟩
theorem tru_rep {K : PySem.W.Frag} {sp : Option Addr} {B H : Hp} {v : V} {d : D} {bb : Bool} (w : Wd sp B H) (r : Rep K sp B v d) (h : truth d = some bb) : TruV K v H bb := by
  cases r with
  | non => cases h; rfl
  | bl b => cases h; rfl
  | int i => cases h; rfl
  | str x =>
    simp only [truth] at h
    split at h
    · rename_i hz
      cases h
      exact ⟨by simpa [lineOk, sizeLine] using hz, rfl⟩
    · cases h
  | @tup a xs es h1 h2 =>
    cases h
    refine .inr (.inl ⟨xs, ext_t w.sub h1, ?_⟩)
    cases h2 <;> rfl
  | @lst a xs es h1 h2 =>
    cases h
    refine .inl ⟨xs, .inl (.inl (w.sub _ _ h1)), ?_⟩
    cases h2 <;> rfl
  | scr _ _ => cases h
  | spot _ => cases h
theorem t_truth (he0 : ∀ env whole, isTrue a env whole = (do let v ← whole; standAt a.pos; holding [v] (truthy v))) (ha : PED X c a x) : PTD X c a (.val x) := by
  intro ρ mu k d k' he hav
  simp only [evT] at he
  split at he
  · cases he
  rename_i dd kk ee
  cases e1 : truth dd with
  | none => rw [e1] at he; cases he
  | some bb =>
    rw [e1] at he
    simp only [Option.map_some, Option.some.injEq, Prod.mk.injEq] at he
    obtain ⟨rfl, rfl⟩ := he
    refine (pt_truth (ha ρ mu k _ _ ee (by simpa [avT] using hav)) (he0 _)).wk fun σ H Q ⟨sp, B, w, s, ri, q⟩ => ⟨sp, B, w, s, ri, fun v B' H' g s' r' => ⟨_, tru_rep g.wd r' e1, q B' H' g s'⟩⟩

/-! ### several expressions; displays -/
variable {es : List Expr} {xs : Es}
theorem a_nil : PAD X c [] .nil := by
  intro ρ mu k d k' he hav
  cases he
  exact pa_nil.wk fun σ H Q ⟨sp, B, w, s, ri, q⟩ => q [] B H (Ge.refl w) s .nil
theorem a_cons (ha0 : plainE a = true) (ha : PED X c a x) (hr : PAD X c es xs) : PAD X c (a :: es) (.cons x xs) := by
  intro ρ mu k d k' he hav
  simp only [evEs] at he
  simp only [avEs, Bool.and_eq_true] at hav
  split at he
  · cases he
  rename_i d1 k1 e1
  split at he
  · cases he
  rename_i d2 k2 e2
  cases he
  refine (pa_cons (ha ρ mu k _ _ e1 hav.1) (hr ρ mu k1 _ _ e2 hav.2) (star_of ha0 es X.env)).wk fun σ H Q ⟨sp, B, w, s, ri, q⟩ => ⟨sp, B, w, s, ri, fun v B1 H1 g1 s1 r1 => ⟨sp, B1, g1.wd, s1, ri.ext g1.bb, fun vs B2 H2 g2 s2 r2 => ?_⟩⟩
  exact q _ B2 H2 (g1.trans g2) s2 (.cons (Rep.ext g2.bb _ _ r1) r2)
theorem line_of {m : Nat} (h : lineOk m = true) : m ≤ sizeLine := by simpa [lineOk, sizeLine] using h
theorem d_tup {j : Nat} (ha : PAD X c es xs) : PED X c (.Tuple es j pos) (.tup xs) := by
  intro ρ mu k d k' he hav
  simp only [evE] at he
  cases e1 : evEs c xs ρ k with
  | none => rw [e1] at he; cases he
  | some p =>
    obtain ⟨d1, k1⟩ := p
    rw [e1] at he
    simp only [Option.bind_some] at he
    split at he
    · rename_i hz
      cases he
      refine (pe_tup (ha ρ mu k _ _ e1 (by simpa [avE] using hav))).wk fun σ H Q ⟨sp, B, w, s, ri, q⟩ => ⟨sp, B, w, s, ri, fun vs B1 H1 g1 s1 r1 => ⟨by rw [r1.len]; exact line_of hz, fun p hp => ?_⟩⟩
      exact fin_new g1.wd s1 hp (rep_tup_new (B_none g1.wd hp) r1) fun v B2 H2 g2 s2 r2 => q v B2 H2 (g1.trans g2) s2 r2
    · cases he
theorem d_lst (ha : PAD X c es xs) : PED X c (.List es pos) (.lst xs) := by
  intro ρ mu k d k' he hav
  simp only [evE] at he
  cases e1 : evEs c xs ρ k with
  | none => rw [e1] at he; cases he
  | some p =>
    obtain ⟨d1, k1⟩ := p
    rw [e1] at he
    simp only [Option.bind_some] at he
    split at he
    · rename_i hz
      cases he
      refine (pe_lst (ha ρ mu k _ _ e1 (by simpa [avE] using hav))).wk fun σ H Q ⟨sp, B, w, s, ri, q⟩ => ⟨sp, B, w, s, ri, fun vs B1 H1 g1 s1 r1 => ⟨by rw [r1.len]; exact line_of hz, fun p hp => ?_⟩⟩
      exact fin_new g1.wd s1 hp (rep_lst_new (B_none g1.wd hp) r1) fun v B2 H2 g2 s2 r2 => q v B2 H2 (g1.trans g2) s2 r2
    · cases he
end
end Mini
namespace Mini
open PySem PySem.Spec PyProof.Rows L2
section
variable {X : Cx} {c : Call} {Γ : CT} {w0 n : Nat} {ds : List Def} {sc : Scope} {N : List Str}
variable {a b e t : Expr} {x y z : E} {pos : Pos} {es : List Expr} {xs : Es}

/-! ### subscripts, slices -/
theorem ixN_len {m : Nat} {i : Int} {j : Nat} (h : ixN m i = some j) : j < m := (ixN_seq h).2.1
theorem atI_rep {K : PySem.W.Frag} {sp : Option Addr} {B : Hp} {vs : List V} {es : List D} {i : Int} {d : D} (r : RepL K sp B vs es) (h : atI es i = some d) : ∃ v, atI vs i = some v ∧ Rep K sp B v d := by
  unfold atI at h ⊢
  rw [r.len]
  cases e1 : ixN es.length i with
  | none => rw [e1] at h; cases h
  | some j =>
    rw [e1] at h
    exact r.get (i := j) h
def IxD (X : Cx) (k : Ky) (x y z : D) : Prop := ∃ r, IxR X r ∧ ∀ sp B H vx vy Q, Wd sp B H → SpotAt sp k H → Rep X.K sp B vx x → Rep X.K sp B vy y → (∀ v B' H', Ge sp B H B' H' → SpotAt sp k H' → Rep X.K sp B' v z → Q v H') → r vx vy H Q
theorem ix_ok {k : Ky} {x y z : D} (h : idxSem k x y = some z) : IxD X k x y z := by
  unfold idxSem at h
  split at h
  · rename_i es i
    refine ⟨_, ix_list, fun sp B H vx vy Q w s rx ry q => ?_⟩
    cases rx with
    | @lst p vs _ h1 h2 =>
    cases ry
    obtain ⟨v, h3, h4⟩ := atI_rep h2 h
    exact ⟨p, vs, i, v, rfl, rfl, .inl (.inl (w.sub _ _ h1)), h3, fin_d w s h4 q⟩
  · rename_i es i
    refine ⟨_, ix_list, fun sp B H vx vy Q w s rx ry q => ?_⟩
    cases rx with
    | @scr p vs _ h1 h2 =>
    cases ry
    obtain ⟨v, h3, h4⟩ := atI_rep h2 h
    exact ⟨p, vs, i, v, rfl, rfl, ext_l w.sub h1, h3, fin_d w s h4 q⟩
  · rename_i es i
    refine ⟨_, ix_tup, fun sp B H vx vy Q w s rx ry q => ?_⟩
    cases rx with
    | @tup p vs _ h1 h2 =>
    cases ry
    obtain ⟨v, h3, h4⟩ := atI_rep h2 h
    exact ⟨p, vs, i, v, rfl, rfl, ext_t w.sub h1, h3, fin_d w s h4 q⟩
  · rename_i st i
    split at h
    · rename_i hz
      cases e1 : atI st.cps.toList i with
      | none => rw [e1] at h; cases h
      | some ch =>
        rw [e1] at h
        cases h
        refine ⟨_, ix_str, fun sp B H vx vy Q w s rx ry q => ?_⟩
        cases rx
        cases ry
        exact ⟨st, i, ch, rfl, rfl, line_of hz, e1, fin_d w s (.str _) q⟩
    · cases h
  · cases k with
    | none => cases h
    | some m =>
      cases h
      refine ⟨_, ix_list, fun sp B H vx vy Q w s rx ry q => ?_⟩
      cases rx with
      | @spot p hp =>
      cases ry
      subst hp
      have s' : H p = some (.lst [.int m]) := s
      exact ⟨p, [.int m], 0, .int m, rfl, rfl, .inl (.inl s'), rfl, fin_d w s (.int m) q⟩
  · cases h
theorem d_idx (hb0 : plainE b = true) (ha : PED X c a x) (hb : PED X c b y) : PED X c (.Subscript a b pos) (.idx x y) := by
  intro ρ mu k d k' he hav
  simp only [evE] at he
  simp only [avE, Bool.and_eq_true] at hav
  split at he
  · cases he
  rename_i d1 k1 e1
  split at he
  · cases he
  rename_i d2 k2 e2
  cases e3 : idxSem k2 d1 d2 with
  | none => rw [e3] at he; cases he
  | some z =>
    rw [e3] at he
    simp only [Option.map_some, Option.some.injEq, Prod.mk.injEq] at he
    obtain ⟨rfl, rfl⟩ := he
    obtain ⟨r, hr, hq⟩ := ix_ok (X := X) e3
    refine (pe_ix hr (ha ρ mu k d1 k1 e1 hav.1) (hb ρ mu k1 d2 _ e2 hav.2) (plainIx_of hb0)).wk fun σ H Q ⟨sp, B, w, s, ri, q⟩ => ?_
    exact ⟨sp, B, w, s, ri, fun v1 B1 H1 g1 s1 r1 => ⟨sp, B1, g1.wd, s1, ri.ext g1.bb, fun v2 B2 H2 g2 s2 r2 =>
      hq sp B2 H2 v1 v2 Q g2.wd s2 (Rep.ext g2.bb _ _ r1) r2 fun v B' H' g s r => q v B' H' (g1.trans (g2.trans g)) s r⟩⟩
def SliD (X : Cx) (x : D) (lo hi : Option Int) (z : D) : Prop := ∃ r, SlR X r ∧ ∀ sp B H k vx Q, Wd sp B H → SpotAt sp k H → Rep X.K sp B vx x → (∀ v B' H', Ge sp B H B' H' → SpotAt sp k H' → Rep X.K sp B' v z → Q v H') → r vx lo hi H Q
theorem cut_rep {K : PySem.W.Frag} {sp : Option Addr} {B : Hp} {vs : List V} {es : List D} (r : RepL K sp B vs es) (lo hi : Option Int) : RepL K sp B (cutV vs lo hi) (cutD es lo hi) := by
  unfold cutV cutD
  rw [r.len]
  exact (r.drop _).take _
theorem sli_ok {x z : D} {lo hi : Option Int} (h : sliSem x lo hi = some z) : SliD X x lo hi z := by
  unfold sliSem at h
  split at h
  · rename_i es
    cases h
    refine ⟨_, sl_list, fun sp B H k vx Q w s rx q => ?_⟩
    cases rx with
    | @lst p vs _ h1 h2 =>
    exact ⟨p, vs, rfl, .inl (.inl (w.sub _ _ h1)), fun o ho => fin_new w s ho (rep_lst_new (B_none w ho) (cut_rep h2 lo hi)) q⟩
  · rename_i es
    cases h
    refine ⟨_, sl_list, fun sp B H k vx Q w s rx q => ?_⟩
    cases rx with
    | @scr p vs _ h1 h2 =>
    exact ⟨p, vs, rfl, ext_l w.sub h1, fun o ho => fin_new w s ho (rep_lst_new (B_none w ho) (cut_rep h2 lo hi)) q⟩
  · rename_i es
    cases h
    refine ⟨_, sl_tupA, fun sp B H k vx Q w s rx q => ?_⟩
    cases rx with
    | @tup p vs _ h1 h2 =>
    refine ⟨p, vs, rfl, ext_t w.sub h1, fun hw => ?_, fun _ o ho => fin_new w s ho (rep_tup_new (B_none w ho) (cut_rep h2 lo hi)) q⟩
    have e1 : cutD es lo hi = es := by
      unfold cutD
      rw [← h2.len, hw.1, hw.2]
      simp [h2.len]
    rw [e1] at q
    exact fin_d w s (.tup h1 h2) q
  · cases h
/-- a part of a slice -/
def tDO (K : PySem.W.Frag) (ρ : Rho) (mu : List Nat) (k : Ky) (o : Option Int) (k' : Ky) : TO := fun σ H Q =>
  ∃ sp B, Wd sp B H ∧ SpotAt sp k H ∧ RI K sp B mu ρ σ ∧ ∀ B' H', Ge sp B H B' H' → SpotAt sp k' H' → Q o H'
theorem _root_.L2.PO.wk {X : Cx} {e : Option Expr} {t t' : TO} (h : PO X e t) (w : ∀ σ H Q, t' σ H Q → t σ H Q) : PO X e t' := ⟨fun pins s σ H Q I hw => h.run pins s σ H Q I (w _ _ _ hw)⟩
theorem o_none {ρ : Rho} {mu : List Nat} {k : Ky} : PO X none (tDO X.K ρ mu k none k) := po_none.wk fun σ H Q ⟨sp, B, w, s, ri, q⟩ => q B H (Ge.refl w) s
theorem o_some {ρ : Rho} {mu : List Nat} {k k' : Ky} {i : Int} (h : PED X c a x) (he : evE c x ρ k = some (.int i, k')) (hav : avE mu x = true) : PO X (some a) (tDO X.K ρ mu k (some i) k') :=
  (po_some (h ρ mu k _ _ he hav)).wk fun σ H Q ⟨sp, B, w, s, ri, q⟩ => ⟨sp, B, w, s, ri, fun v B' H' g s' r' => by cases r'; exact ⟨i, rfl, q B' H' g s'⟩⟩
theorem d_sliG {lo hi : Option Expr} {ρ : Rho} {mu : List Nat} {k k1 k2 k3 : Ky} {d d' : D} {l h : Option Int} {p2 : Pos} (ha : PE X a (tD X.K ρ mu k d k1)) (hl : PO X lo (tDO X.K ρ mu k1 l k2)) (hh : PO X hi (tDO X.K ρ mu k2 h k3)) (hs : sliSem d l h = some d') :
    PE X (.Subscript a (.Slice lo hi none p2) pos) (tD X.K ρ mu k d' k3) := by
  obtain ⟨r, hr, hq⟩ := sli_ok (X := X) hs
  refine (pe_slice hr ha hl hh).wk fun σ H Q ⟨sp, B, w, s, ri, q⟩ => ?_
  refine ⟨sp, B, w, s, ri, fun v1 B1 H1 g1 s1 r1 => ⟨sp, B1, g1.wd, s1, ri.ext g1.bb, fun B2 H2 g2 s2 => ⟨sp, B2, g2.wd, s2, (ri.ext g1.bb).ext g2.bb, fun B3 H3 g3 s3 => ?_⟩⟩⟩
  exact hq sp B3 H3 k3 v1 Q g3.wd s3 (Rep.ext (g2.bb.trans g3.bb) _ _ r1) fun v B' H' g s r => q v B' H' (g1.trans (g2.trans (g3.trans g))) s r
theorem d_sli0 {p2 : Pos} {u v : E} (ha : PED X c a x) : PED X c (.Subscript a (.Slice none none none p2) pos) (.sli 0 x u v) := by
  intro ρ mu k d k' he hav
  simp only [avE, Bool.and_eq_true] at hav
  simp only [evE] at he
  split at he
  · cases he
  rename_i d1 k1 e1
  simp only [show (0 == 1 || 0 == 3 : Bool) = false from rfl, show (0 == 2 || 0 == 3 : Bool) = false from rfl, Bool.false_eq_true, if_false] at he
  cases e3 : sliSem d1 none none with
  | none => rw [e3] at he; cases he
  | some z =>
    rw [e3] at he
    simp only [Option.map_some, Option.some.injEq, Prod.mk.injEq] at he
    obtain ⟨rfl, rfl⟩ := he
    exact d_sliG (ha ρ mu k d1 _ e1 hav.1.1) o_none o_none e3
theorem d_sli1 {p2 : Pos} {u v : E} {lo : Expr} (ha : PED X c a x) (hl : PED X c lo u) : PED X c (.Subscript a (.Slice (some lo) none none p2) pos) (.sli 1 x u v) := by
  intro ρ mu k d k' he hav
  simp only [avE, Bool.and_eq_true] at hav
  simp only [evE] at he
  split at he
  · cases he
  rename_i d1 k1 e1
  simp only [show (1 == 1 || 1 == 3 : Bool) = true from rfl, show (1 == 2 || 1 == 3 : Bool) = false from rfl, Bool.false_eq_true, if_false, if_true] at he
  split at he
  · cases he
  rename_i l k2 e2
  split at e2
  · rename_i i k2' e2'
    cases e2
    cases e3 : sliSem d1 (some i) none with
    | none => rw [e3] at he; cases he
    | some z =>
      rw [e3] at he
      simp only [Option.map_some, Option.some.injEq, Prod.mk.injEq] at he
      obtain ⟨rfl, rfl⟩ := he
      exact d_sliG (ha ρ mu k d1 _ e1 hav.1.1) (o_some hl e2' hav.1.2) o_none e3
  · cases e2
theorem d_sli2 {p2 : Pos} {u v : E} {hi : Expr} (ha : PED X c a x) (hl : PED X c hi v) : PED X c (.Subscript a (.Slice none (some hi) none p2) pos) (.sli 2 x u v) := by
  intro ρ mu k d k' he hav
  simp only [avE, Bool.and_eq_true] at hav
  simp only [evE] at he
  split at he
  · cases he
  rename_i d1 k1 e1
  simp only [show (2 == 1 || 2 == 3 : Bool) = false from rfl, show (2 == 2 || 2 == 3 : Bool) = true from rfl, Bool.false_eq_true, if_false, if_true] at he
  split at he
  · cases he
  rename_i l k2 e2
  split at e2
  · rename_i i k2' e2'
    cases e2
    cases e3 : sliSem d1 none (some i) with
    | none => rw [e3] at he; cases he
    | some z =>
      rw [e3] at he
      simp only [Option.map_some, Option.some.injEq, Prod.mk.injEq] at he
      obtain ⟨rfl, rfl⟩ := he
      exact d_sliG (ha ρ mu k d1 _ e1 hav.1.1) o_none (o_some hl e2' hav.2) e3
  · cases e2
theorem d_sli3 {p2 : Pos} {u v : E} {lo hi : Expr} (ha : PED X c a x) (hl : PED X c lo u) (hh : PED X c hi v) : PED X c (.Subscript a (.Slice (some lo) (some hi) none p2) pos) (.sli 3 x u v) := by
  intro ρ mu k d k' he hav
  simp only [avE, Bool.and_eq_true] at hav
  simp only [evE] at he
  split at he
  · cases he
  rename_i d1 k1 e1
  simp only [show (3 == 1 || 3 == 3 : Bool) = true from rfl, show (3 == 2 || 3 == 3 : Bool) = true from rfl, if_true] at he
  split at he
  · cases he
  rename_i l k2 e2
  split at e2
  · rename_i i k2' e2'
    cases e2
    split at he
    · cases he
    rename_i h k3 e4
    split at e4
    · rename_i j k4' e4'
      cases e4
      cases e3 : sliSem d1 (some i) (some j) with
      | none => rw [e3] at he; cases he
      | some z =>
        rw [e3] at he
        simp only [Option.map_some, Option.some.injEq, Prod.mk.injEq] at he
        obtain ⟨rfl, rfl⟩ := he
        exact d_sliG (ha ρ mu k d1 _ e1 hav.1.1) (o_some hl e2' hav.1.2) (o_some hh e4' hav.2) e3
    · cases e4
  · cases e2

/-! ### calls -/
theorem glob_of (hx : XF Γ w0 ds n sc N X) {s : Str} (hg : glob sc s = true) : Gl X s ∧ (s == ("__debug__" : Str)) = false ∧ s ≠ ("__name__" : Str) := by
  unfold glob isGl okName at hg
  simp only [Bool.and_eq_true, Bool.not_eq_true'] at hg
  refine ⟨?_, hg.2.1.1, fun e => ?_⟩
  · show X.env.scope.names.lookup s = _
    rw [hx.sc]
    have h1 := hg.1
    split at h1
    · assumption
    · cases h1
  · have := hg.2.2
    subst e
    simp at this
theorem d_call (hx : XF Γ w0 ds n sc N X) (hc : c = run w0 ds n) {s : Str} {p : Pos} {i : Nat} (hg : glob sc s = true) (hf : Γ.fns.lookup s = some i) (hne : es ≠ []) (hes : ∀ e ∈ es, plainE e = true) (ha : PAD X c es xs) : PED X c (.Call (.Name s p) es [] pos) (.call i xs) := by
  intro ρ mu k d k' he hav
  simp only [avE] at hav
  simp only [evE] at he
  split at he
  · cases he
  rename_i d1 k1 e1
  obtain ⟨h1, h2, h3⟩ := glob_of hx hg
  obtain ⟨f, fd, ps, F, hm, hk, hb⟩ := hx.F.fns s i hf
  subst hc
  have rd : ∀ t σ H Q, (∀ σ H Q, tDs X.K ρ mu k d1 k1 σ H Q → t σ H Q) → tD X.K ρ mu k d k' σ H Q → tCall (spOf X.K w0 ds n i) [] E0 t σ H Q := by
    intro t σ H Q ht ⟨sp, B, w, s, ri, q⟩
    refine ht _ _ _ ⟨sp, B, w, s, ri, fun vs B1 H1 g1 s1 r1 => ?_⟩
    show spOf X.K w0 ds n i (vs ++ []) H1 Q E0
    rw [List.append_nil]
    exact ⟨sp, B1, k1, d1, d, k', g1.wd, s1, r1, he, fun v B2 H2 g2 s2 r2 => q v B2 H2 (g1.trans g2) s2 r2⟩
  cases es with
  | nil => exact absurd rfl hne
  | cons e es =>
    exact (pe_call F hx.room h1 hm hk hb .nil pass0 (ha ρ mu k d1 k1 e1 hav) h2 (star_of (hes e List.mem_cons_self) es X.env) (noStar_of fun u hu => hes u (List.mem_cons_of_mem _ hu))).wk fun σ H Q h => rd _ σ H Q (fun _ _ _ h => h) h
theorem d_call0 (hx : XF Γ w0 ds n sc N X) (hc : c = run w0 ds n) {s : Str} {p : Pos} {i : Nat} (hg : glob sc s = true) (hf : Γ.fns.lookup s = some i) : PED X c (.Call (.Name s p) [] [] pos) (.call i .nil) := by
  intro ρ mu k d k' he hav
  simp only [evE, evEs] at he
  obtain ⟨h1, h2, h3⟩ := glob_of hx hg
  obtain ⟨f, fd, ps, F, hm, hk, hb⟩ := hx.F.fns s i hf
  subst hc
  refine (pe_call0 F hx.room h1 hm hk hb .nil pass0 h2).wk fun σ H Q ⟨sp, B, w, s, ri, q⟩ => ?_
  exact ⟨sp, B, k, [], d, k', w, s, .nil, he, fun v B2 H2 g2 s2 r2 => q v B2 H2 g2 s2 r2⟩

/-! ### built-in functions -/
def CaD (X : Cx) (f : Value) (as : List D) (z : D) : Prop := ∃ r, CallR X f r ∧ ∀ sp B H k vs Q, Wd sp B H → SpotAt sp k H → RepL X.K sp B vs as → (∀ v B' H', Ge sp B H B' H' → SpotAt sp k H' → Rep X.K sp B' v z → Q v H') → r vs H Q
theorem toInts_map : ∀ {es : List D} {ns : List Int}, toInts es = some ns → es = ns.map D.int
  | [], ns, h => by cases h; rfl
  | .int i :: r, ns, h => by
    simp only [toInts] at h
    cases e : toInts r with
    | none => rw [e] at h; cases h
    | some ms => rw [e] at h; cases h; rw [toInts_map e]; rfl
  | .non :: _, _, h => by cases h
  | .bl _ :: _, _, h => by cases h
  | .str _ :: _, _, h => by cases h
  | .tup _ :: _, _, h => by cases h
  | .lst _ :: _, _, h => by cases h
  | .scr _ :: _, _, h => by cases h
  | .spot :: _, _, h => by cases h
theorem toBls_map : ∀ {es : List D} {ns : List Bool}, toBls es = some ns → es = ns.map D.bl
  | [], ns, h => by cases h; rfl
  | .bl i :: r, ns, h => by
    simp only [toBls] at h
    cases e : toBls r with
    | none => rw [e] at h; cases h
    | some ms => rw [e] at h; cases h; rw [toBls_map e]; rfl
  | .non :: _, _, h => by cases h
  | .int _ :: _, _, h => by cases h
  | .str _ :: _, _, h => by cases h
  | .tup _ :: _, _, h => by cases h
  | .lst _ :: _, _, h => by cases h
  | .scr _ :: _, _, h => by cases h
  | .spot :: _, _, h => by cases h
theorem RepL.bls {K : PySem.W.Frag} {sp : Option Addr} {H : Hp} : ∀ {vs : List V} (ns : List Bool), RepL K sp H vs (ns.map D.bl) → vs = ns.map V.bl
  | _, [], .nil => rfl
  | _, n :: ns, .cons r t => by cases r; rw [RepL.bls ns t]; rfl
theorem maxL_spec : ∀ (ns : List Int) (m : Int), (maxL m ns = m ∨ maxL m ns ∈ ns) ∧ m ≤ maxL m ns ∧ ∀ y ∈ ns, y ≤ maxL m ns
  | [], m => ⟨.inl rfl, Int.le_refl _, fun y h => by cases h⟩
  | x :: r, m => by
    obtain ⟨h1, h2, h3⟩ := maxL_spec r (if m < x then x else m)
    simp only [maxL]
    split at h1 <;> rename_i hlt <;> simp only [hlt, if_true, if_false] at h2 h3 ⊢
    · exact ⟨.inr (by rcases h1 with h | h; · rw [h]; exact List.mem_cons_self
                      · exact List.mem_cons_of_mem _ h), by omega, fun y hy => by
        rcases List.mem_cons.mp hy with rfl | hy
        · exact h2
        · exact h3 y hy⟩
    · exact ⟨by rcases h1 with h | h; · exact .inl h
                · exact .inr (List.mem_cons_of_mem _ h), h2, fun y hy => by
        rcases List.mem_cons.mp hy with rfl | hy
        · omega
        · exact h3 y hy⟩
theorem minL_spec : ∀ (ns : List Int) (m : Int), (minL m ns = m ∨ minL m ns ∈ ns) ∧ minL m ns ≤ m ∧ ∀ y ∈ ns, minL m ns ≤ y
  | [], m => ⟨.inl rfl, Int.le_refl _, fun y h => by cases h⟩
  | x :: r, m => by
    obtain ⟨h1, h2, h3⟩ := minL_spec r (if x < m then x else m)
    simp only [minL]
    split at h1 <;> rename_i hlt <;> simp only [hlt, if_true, if_false] at h2 h3 ⊢
    · exact ⟨.inr (by rcases h1 with h | h; · rw [h]; exact List.mem_cons_self
                      · exact List.mem_cons_of_mem _ h), by omega, fun y hy => by
        rcases List.mem_cons.mp hy with rfl | hy
        · exact h2
        · exact h3 y hy⟩
    · exact ⟨by rcases h1 with h | h; · exact .inl h
                · exact .inr (List.mem_cons_of_mem _ h), h2, fun y hy => by
        rcases List.mem_cons.mp hy with rfl | hy
        · omega
        · exact h3 y hy⟩
theorem max_uniq {n m : Int} {ns : List Int} (h1 : m ∈ n :: ns) (h2 : ∀ y, y ∈ n :: ns → y ≤ m) : m = maxL n ns := by
  obtain ⟨g1, g2, g3⟩ := maxL_spec ns n
  have a1 : m ≤ maxL n ns := by
    rcases List.mem_cons.mp h1 with rfl | h
    · exact g2
    · exact g3 m h
  have a2 : maxL n ns ≤ m := by
    rcases g1 with h | h
    · rw [h]; exact h2 n List.mem_cons_self
    · exact h2 _ (List.mem_cons_of_mem _ h)
  omega
theorem min_uniq {n m : Int} {ns : List Int} (h1 : m ∈ n :: ns) (h2 : ∀ y, y ∈ n :: ns → m ≤ y) : m = minL n ns := by
  obtain ⟨g1, g2, g3⟩ := minL_spec ns n
  have a1 : minL n ns ≤ m := by
    rcases List.mem_cons.mp h1 with rfl | h
    · exact g2
    · exact g3 m h
  have a2 : m ≤ minL n ns := by
    rcases g1 with h | h
    · rw [h]; exact h2 n List.mem_cons_self
    · exact h2 _ (List.mem_cons_of_mem _ h)
  omega
theorem insI_perm (x : Int) : ∀ l : List Int, (insI x l).Perm (x :: l)
  | [] => .refl _
  | y :: r => by
    unfold insI
    split
    · exact .refl _
    · exact (List.Perm.cons y (insI_perm x r)).trans (.swap x y r)
theorem sortI_perm : ∀ l : List Int, (sortI l).Perm l
  | [] => .refl _
  | x :: r => (insI_perm x (sortI r)).trans (List.Perm.cons x (sortI_perm r))
theorem insI_sorted (x : Int) : ∀ l : List Int, l.Pairwise (· ≤ ·) → (insI x l).Pairwise (· ≤ ·)
  | [], _ => by simp [insI]
  | y :: r, h => by
    unfold insI
    have h' := List.pairwise_cons.mp h
    split
    · rename_i hxy
      refine List.pairwise_cons.mpr ⟨fun z hz => ?_, h⟩
      rcases List.mem_cons.mp hz with rfl | hz
      · exact hxy
      · exact Int.le_trans hxy (h'.1 z hz)
    · rename_i hxy
      refine List.pairwise_cons.mpr ⟨fun z hz => ?_, insI_sorted x r h'.2⟩
      rcases List.mem_cons.mp ((insI_perm x r).mem_iff.mp hz) with rfl | hz
      · omega
      · exact h'.1 z hz
theorem sortI_sorted : ∀ l : List Int, (sortI l).Pairwise (· ≤ ·)
  | [] => .nil
  | x :: r => insI_sorted x _ (sortI_sorted r)
theorem repl_one {K : PySem.W.Frag} {sp : Option Addr} {B : Hp} {vs : List V} {d : D} (r : RepL K sp B vs [d]) : ∃ v, vs = [v] ∧ Rep K sp B v d := by
  cases r with
  | cons h1 h2 => cases h2; exact ⟨_, rfl, h1⟩
theorem repl_two {K : PySem.W.Frag} {sp : Option Addr} {B : Hp} {vs : List V} {d d' : D} (r : RepL K sp B vs [d, d']) : ∃ v v', vs = [v, v'] ∧ Rep K sp B v d ∧ Rep K sp B v' d' := by
  cases r with
  | cons h1 h2 =>
    cases h2 with
    | cons h3 h4 => cases h4; exact ⟨_, _, rfl, h1, h3⟩
/-- the built-in behind a name -/
def biV : BI → Value
  | .len => .builtin "len" | .int => .type "int" | .sum => .builtin "sum" | .max => .builtin "max" | .min => .builtin "min" | .abs => .builtin "abs"
  | .all => .builtin "all" | .any => .builtin "any" | .tuple => .type "tuple" | .list => .type "list" | .gcd => .builtin "math.gcd" | .sorted => .builtin "sorted"
theorem bi_ok (hc : X.calm = true) {f : BI} {as : List D} {z : D} (h : biSem f as = some z) : CaD X (biV f) as z := by
  unfold biSem at h
  split at h
  · rename_i es
    cases h
    refine ⟨_, call_len_seq, fun sp B H k vs Q w s r q => ?_⟩
    obtain ⟨v, rfl, rv⟩ := repl_one r
    cases rv with
    | @lst p ys _ h1 h2 => exact ⟨p, ys, rfl, .inl (.inl (.inl (w.sub _ _ h1))), by rw [h2.len]; exact fin_d w s (.int _) q⟩
  · rename_i es
    cases h
    refine ⟨_, call_len_seq, fun sp B H k vs Q w s r q => ?_⟩
    obtain ⟨v, rfl, rv⟩ := repl_one r
    cases rv with
    | @tup p ys _ h1 h2 => exact ⟨p, ys, rfl, .inr (ext_t w.sub h1), by rw [h2.len]; exact fin_d w s (.int _) q⟩
  · rename_i es
    cases h
    refine ⟨_, call_len_seq, fun sp B H k vs Q w s r q => ?_⟩
    obtain ⟨v, rfl, rv⟩ := repl_one r
    cases rv with
    | @scr p ys _ h1 h2 => exact ⟨p, ys, rfl, .inl (ext_l w.sub h1), by rw [h2.len]; exact fin_d w s (.int _) q⟩
  · rename_i st
    split at h <;> cases h
    rename_i hz
    refine ⟨_, call_len_str, fun sp B H k vs Q w s r q => ?_⟩
    obtain ⟨v, rfl, rv⟩ := repl_one r
    cases rv
    exact ⟨st, rfl, line_of hz, fin_d w s (.int _) q⟩
  · rename_i i
    cases h
    refine ⟨_, call_int1, fun sp B H k vs Q w s r q => ?_⟩
    obtain ⟨v, rfl, rv⟩ := repl_one r
    cases rv
    exact .inl ⟨i, rfl, fin_d w s (.int _) q⟩
  · rename_i i
    cases h
    refine ⟨_, call_int1, fun sp B H k vs Q w s r q => ?_⟩
    obtain ⟨v, rfl, rv⟩ := repl_one r
    cases rv
    exact .inr ⟨i, rfl, fin_d w s (.int _) q⟩
  · rename_i es
    cases e : toInts es with
    | none => rw [e] at h; cases h
    | some ns =>
      rw [e] at h
      cases h
      obtain rfl := toInts_map e
      refine ⟨_, cr_sum hc, fun sp B H k vs Q w s r q => ?_⟩
      obtain ⟨v, rfl, rv⟩ := repl_one r
      cases rv with
      | @lst p ys _ h1 h2 =>
        obtain rfl := h2.ints
        exact ⟨p, ns, rfl, .inl (.inl (w.sub _ _ h1)), fin_d w s (.int _) q⟩
  · rename_i i j
    cases h
    refine ⟨_, call_max2 hc, fun sp B H k vs Q w s r q => ?_⟩
    obtain ⟨v, v', rfl, rv, rv'⟩ := repl_two r
    cases rv
    cases rv'
    exact ⟨i, j, rfl, fin_d w s (.int _) q⟩
  · rename_i es
    split at h
    · rename_i m ns e
      cases h
      obtain rfl := toInts_map e
      refine ⟨_, cr_max hc, fun sp B H k vs Q w s r q => ?_⟩
      obtain ⟨v, rfl, rv⟩ := repl_one r
      cases rv with
      | @lst p ys _ h1 h2 =>
        obtain rfl := h2.ints
        refine ⟨p, m :: ns, rfl, .inl (.inl (w.sub _ _ h1)), Nat.succ_pos _, fun mm e1 e2 => ?_⟩
        rw [max_uniq e1 e2]
        exact fin_d w s (.int _) q
    · cases h
  · rename_i i j
    cases h
    refine ⟨_, call_min2 hc, fun sp B H k vs Q w s r q => ?_⟩
    obtain ⟨v, v', rfl, rv, rv'⟩ := repl_two r
    cases rv
    cases rv'
    exact ⟨i, j, rfl, fin_d w s (.int _) q⟩
  · rename_i es
    split at h
    · rename_i m ns e
      cases h
      obtain rfl := toInts_map e
      refine ⟨_, cr_min hc, fun sp B H k vs Q w s r q => ?_⟩
      obtain ⟨v, rfl, rv⟩ := repl_one r
      cases rv with
      | @lst p ys _ h1 h2 =>
        obtain rfl := h2.ints
        refine ⟨p, m :: ns, rfl, .inl (.inl (w.sub _ _ h1)), Nat.succ_pos _, fun mm e1 e2 => ?_⟩
        rw [min_uniq e1 e2]
        exact fin_d w s (.int _) q
    · cases h
  · rename_i i
    cases h
    refine ⟨_, call_abs, fun sp B H k vs Q w s r q => ?_⟩
    obtain ⟨v, rfl, rv⟩ := repl_one r
    cases rv
    exact ⟨i, rfl, fin_d w s (.int _) q⟩
  · rename_i es
    cases e : toBls es with
    | none => rw [e] at h; cases h
    | some ns =>
      rw [e] at h
      cases h
      obtain rfl := toBls_map e
      refine ⟨_, cr_all hc, fun sp B H k vs Q w s r q => ?_⟩
      obtain ⟨v, rfl, rv⟩ := repl_one r
      cases rv with
      | @lst p ys _ h1 h2 =>
        obtain rfl := h2.bls
        exact ⟨p, ns, rfl, .inl (.inl (w.sub _ _ h1)), fin_d w s (.bl _) q⟩
  · rename_i es
    cases e : toBls es with
    | none => rw [e] at h; cases h
    | some ns =>
      rw [e] at h
      cases h
      obtain rfl := toBls_map e
      refine ⟨_, cr_any hc, fun sp B H k vs Q w s r q => ?_⟩
      obtain ⟨v, rfl, rv⟩ := repl_one r
      cases rv with
      | @lst p ys _ h1 h2 =>
        obtain rfl := h2.bls
        exact ⟨p, ns, rfl, .inl (.inl (w.sub _ _ h1)), fin_d w s (.bl _) q⟩
  · rename_i es
    cases h
    refine ⟨_, call_tuple_of, fun sp B H k vs Q w s r q => ?_⟩
    obtain ⟨v, rfl, rv⟩ := repl_one r
    cases rv with
    | @lst p ys _ h1 h2 => exact ⟨p, ys, rfl, .inl ⟨.inl (.inl (w.sub _ _ h1)), fun o ho => fin_new w s ho (rep_tup_new (B_none w ho) h2) q⟩⟩
  · rename_i es
    cases h
    refine ⟨_, call_tuple_of, fun sp B H k vs Q w s r q => ?_⟩
    obtain ⟨v, rfl, rv⟩ := repl_one r
    cases rv with
    | @tup p ys _ h1 h2 => exact ⟨p, ys, rfl, .inr ⟨ext_t w.sub h1, fin_d w s (.tup h1 h2) q⟩⟩
  · rename_i es
    cases h
    refine ⟨_, call_list_of, fun sp B H k vs Q w s r q => ?_⟩
    obtain ⟨v, rfl, rv⟩ := repl_one r
    cases rv with
    | @lst p ys _ h1 h2 => exact ⟨p, ys, rfl, .inl (.inl (.inl (w.sub _ _ h1))), fun o ho => fin_new w s ho (rep_lst_new (B_none w ho) h2) q⟩
  · rename_i es
    cases h
    refine ⟨_, call_list_of, fun sp B H k vs Q w s r q => ?_⟩
    obtain ⟨v, rfl, rv⟩ := repl_one r
    cases rv with
    | @tup p ys _ h1 h2 => exact ⟨p, ys, rfl, .inr (ext_t w.sub h1), fun o ho => fin_new w s ho (rep_lst_new (B_none w ho) h2) q⟩
  · rename_i i j
    cases h
    refine ⟨_, cr_gcd, fun sp B H k vs Q w s r q => ?_⟩
    obtain ⟨v, v', rfl, rv, rv'⟩ := repl_two r
    cases rv
    cases rv'
    exact ⟨i, j, rfl, fin_d w s (.int _) q⟩
  · rename_i es
    split at h
    · rename_i ns e
      split at h
      · rename_i h64
        cases h
        obtain rfl := toInts_map e
        refine ⟨_, cr_sorted, fun sp B H k vs Q w s r q => ?_⟩
        obtain ⟨v, rfl, rv⟩ := repl_one r
        cases rv with
        | @lst p ys _ h1 h2 =>
          obtain rfl := h2.ints
          refine ⟨p, ns, rfl, .inl (.inl (w.sub _ _ h1)), of_decide_eq_true h64, fun ns' o hp hs ho => ?_⟩
          have e2 : ns' = sortI ns := PySem.W.ksm_same (hp.trans (sortI_perm ns).symm) hs (sortI_sorted ns)
          rw [e2]
          exact fin_new w s ho (rep_lst_new (B_none w ho) (repl_ints _)) q
      · cases h
    · cases h
  · cases h
theorem d_bi (hx : XF Γ w0 ds n sc N X) {s : Str} {p : Pos} {f : BI} (hg : glob sc s = true) (hf : cBI s = some f) (hne : es ≠ []) (hes : ∀ e ∈ es, plainE e = true) (ha : PAD X c es xs) : PED X c (.Call (.Name s p) es [] pos) (.bi f xs) := by
  intro ρ mu k d k' he hav
  simp only [avE] at hav
  simp only [evE] at he
  split at he
  · cases he
  rename_i d1 k1 e1
  cases e2 : biSem f d1 with
  | none => rw [e2] at he; cases he
  | some z =>
    rw [e2] at he
    simp only [Option.map_some, Option.some.injEq, Prod.mk.injEq] at he
    obtain ⟨rfl, rfl⟩ := he
    obtain ⟨h1, h2, h3⟩ := glob_of hx hg
    obtain ⟨r, hr, hq⟩ := bi_ok hx.calm e2
    have rd : ∀ σ H Q, tD X.K ρ mu k z k1 σ H Q → tCB r (tDs X.K ρ mu k d1 k1) σ H Q := fun σ H Q ⟨sp, B, w, s, ri, q⟩ =>
      ⟨sp, B, w, s, ri, fun vs B1 H1 g1 s1 r1 => hq sp B1 H1 k1 vs Q g1.wd s1 r1 fun v B2 H2 g2 s2 r2 => q v B2 H2 (g1.trans g2) s2 r2⟩
    have hm : s ∈ biNames → X.mg s = none := fun hm => hx.F.bi s hm
    cases es with
    | nil => exact absurd rfl hne
    | cons e es =>
      have st := star_of (hes e List.mem_cons_self) es X.env
      have ns : (backTo pos (starEach es X.env)).any (·.1) = false := noStar_of fun u hu => hes u (List.mem_cons_of_mem _ hu)
      have hA := ha ρ mu k d1 k1 e1 hav
      unfold cBI at hf
      repeat' split at hf
      all_goals first
        | (cases hf; done)
        | (rename_i hs; have hs' := beq_iff_eq.mp hs; subst hs'; cases hf; exact (pe_callB hr h1 (hm (by decide +kernel)) (by decide +kernel) hA h3 h2 st ns).wk rd)
        | (rename_i hs; have hs' := beq_iff_eq.mp hs; subst hs'; cases hf; exact (pe_callTy hr h1 (hm (by decide +kernel)) (by decide +kernel) hA h3 h2 st ns).wk rd)
theorem d_gcd (hx : XF Γ w0 ds n sc N X) {s : Str} {p : Pos} (hg : glob sc s = true) (hf : s ∈ Γ.gcd) (hne : es ≠ []) (hes : ∀ e ∈ es, plainE e = true) (ha : PAD X c es xs) : PED X c (.Call (.Name s p) es [] pos) (.bi .gcd xs) := by
  intro ρ mu k d k' he hav
  simp only [avE] at hav
  simp only [evE] at he
  split at he
  · cases he
  rename_i d1 k1 e1
  cases e2 : biSem .gcd d1 with
  | none => rw [e2] at he; cases he
  | some z =>
    rw [e2] at he
    simp only [Option.map_some, Option.some.injEq, Prod.mk.injEq] at he
    obtain ⟨rfl, rfl⟩ := he
    obtain ⟨h1, h2, h3⟩ := glob_of hx hg
    obtain ⟨r, hr, hq⟩ := bi_ok hx.calm e2
    cases es with
    | nil => exact absurd rfl hne
    | cons e es =>
      have st := star_of (hes e List.mem_cons_self) es X.env
      have ns : (backTo pos (starEach es X.env)).any (·.1) = false := noStar_of fun u hu => hes u (List.mem_cons_of_mem _ hu)
      exact (pe_callBfun hr h1 (hx.F.gcd s hf) (ha ρ mu k d1 k1 e1 hav) h2 st ns).wk fun σ H Q ⟨sp, B, w, s, ri, q⟩ =>
        ⟨sp, B, w, s, ri, fun vs B1 H1 g1 s1 r1 => hq sp B1 H1 k1 vs Q g1.wd s1 r1 fun v B2 H2 g2 s2 r2 => q v B2 H2 (g1.trans g2) s2 r2⟩

/-! ### isinstance -/
def tyS : Nat → String
  | 0 => "int" | 1 => "bool" | 2 => "str" | 3 => "list" | _ => "tuple"
def dTy : D → Option String
  | .non => some "NoneType" | .bl _ => some "bool" | .int _ => some "int" | .str _ => some "str" | .tup _ => some "tuple" | .lst _ => some "list" | _ => none
theorem ty_rep {K : PySem.W.Frag} {sp : Option Addr} {B H : Hp} {v : V} {d : D} {s : String} (w : Wd sp B H) (r : Rep K sp B v d) (h : dTy d = some s) : TyX K H v (.type s) := by
  cases r with
  | non => cases h; exact .base .non
  | bl b => cases h; exact .base (.bl b)
  | int i => cases h; exact .base (.int i)
  | str x => cases h; exact .base (.str x)
  | @tup a xs es h1 h2 =>
    cases h
    rcases ext_t w.sub h1 with (h1 | ⟨o, h1⟩) | ⟨o, its, m, h1, h3, _⟩
    · exact .base (.tup h1)
    · exact .fTuple h1
    · exact .kTuple h1 h3
  | @lst a xs es h1 h2 => cases h; exact .base (.lst (w.sub _ _ h1))
  | scr _ _ => cases h
  | spot _ => cases h
theorem isOf_ty {d : D} {t : Nat} {bb : Bool} (ht : t ≤ 4) (h : isOf d t = some bb) : ∃ s, dTy d = some s ∧ kitB s (tyS t) = some bb := by
  have ht' : t = 0 ∨ t = 1 ∨ t = 2 ∨ t = 3 ∨ t = 4 := by omega
  cases d <;> simp only [isOf] at h <;> first | (cases h; done) | skip
  all_goals
    refine ⟨_, rfl, ?_⟩
    rcases ht' with rfl | rfl | rfl | rfl | rfl <;> (cases h; decide +kernel)
theorem isOfs_kit {K : PySem.W.Frag} {d : D} {s : String} (hs : dTy d = some s) : ∀ {ts : List Nat} {bb : Bool}, (∀ t ∈ ts, t ≤ 4) → isOfs d ts = some bb → PySem.W.kitAny K (.type s) (ts.map fun t => Value.type (tyS t)) = some bb
  | [], bb, _, h => by cases h; exact kitAny_nil
  | t :: ts, bb, ht, h => by
    simp only [isOfs] at h
    split at h
    · rename_i e
      cases h
      obtain ⟨s', h1, h2⟩ := isOf_ty (ht t List.mem_cons_self) e
      rw [hs] at h1; cases h1
      have h3 : PySem.W.kitOne K (.type s) (.type (tyS t)) = some true := kit_ty h2
      show (match PySem.W.kitOne K (.type s) (.type (tyS t)) with
        | some true => some true
        | some false => PySem.W.kitAny K (.type s) (ts.map fun t => Value.type (tyS t))
        | none => none) = some true
      rw [h3]
    · rename_i e
      obtain ⟨s', h1, h2⟩ := isOf_ty (ht t List.mem_cons_self) e
      rw [hs] at h1; cases h1
      exact kitAny_cons (kit_ty h2) (fun _ => isOfs_kit hs (fun t h => ht t (List.mem_cons_of_mem _ h)) h) (fun z => nomatch z)
    · cases h
theorem isOfs_dTy {d : D} {t : Nat} {ts : List Nat} {bb : Bool} (h : isOfs d (t :: ts) = some bb) : ∃ s, dTy d = some s := by
  cases d <;> simp [isOfs, isOf] at h <;> exact ⟨_, rfl⟩
theorem cTy_of (hx : XF Γ w0 ds n sc N X) {e : Expr} {t : Nat} (h : cTy sc e = some t) : t ≤ 4 ∧ plainE e = true ∧ PE X e (tC (.ty (tyS t))) := by
  cases e <;> simp only [cTy] at h <;> first | (cases h; done) | skip
  rename_i s p
  split at h
  · rename_i hg
    obtain ⟨h1, h2, h3⟩ := glob_of hx hg
    repeat' split at h
    all_goals first
      | (cases h; done)
      | (rename_i hs; have hs' := beq_iff_eq.mp hs; subst hs'; cases h; exact ⟨by decide, rfl, pe_bltn h1 (hx.F.bi _ (by decide +kernel)) (by decide +kernel) rfl h3 h2⟩)
  · cases h
theorem d_isi1 (hx : XF Γ w0 ds n sc N X) {s : Str} {p : Pos} {t : Expr} {u : Nat} (hg : glob sc s = true) (hs : (s == ("isinstance" : Str)) = true) (ha0 : plainE a = true) (ht : cTy sc t = some u) (ha : PED X c a x) : PED X c (.Call (.Name s p) [a, t] [] pos) (.isi x [u]) := by
  intro ρ mu k d k' he hav
  simp only [avE] at hav
  simp only [evE] at he
  split at he
  · cases he
  rename_i d1 k1 e1
  cases e2 : isOfs d1 [u] with
  | none => rw [e2] at he; cases he
  | some bb =>
    rw [e2] at he
    simp only [Option.map_some, Option.some.injEq, Prod.mk.injEq] at he
    obtain ⟨rfl, rfl⟩ := he
    obtain ⟨h1, h2, h3⟩ := glob_of hx hg
    have hs' := beq_iff_eq.mp hs
    subst hs'
    obtain ⟨q1, q2, q3⟩ := cTy_of hx ht
    obtain ⟨sd, hsd⟩ := isOfs_dTy e2
    have hk : PySem.W.kitOne X.K (.type sd) (.type (tyS u)) = some bb := by
      have e3 : isOf d1 u = some bb := by
        simp only [isOfs] at e2
        split at e2
        · cases e2; assumption
        · cases e2; assumption
        · cases e2
      obtain ⟨s', g1, g2⟩ := isOf_ty q1 e3
      rw [hsd] at g1; cases g1
      exact kit_ty g2
    refine (pe_callB call_isi h1 (hx.F.bi _ (by decide +kernel)) (by decide +kernel) (pa_cons (ha ρ mu k d1 k1 e1 hav) (pa_cons q3 pa_nil (star_of q2 [] X.env)) (star_of ha0 _ X.env)) h3 h2 (star_of ha0 _ X.env) (noStar_of fun z hz => by
      rcases List.mem_cons.mp hz with rfl | hz
      · exact q2
      · cases hz)).wk fun σ H Q ⟨sp, B, w, s, ri, q⟩ => ⟨sp, B, w, s, ri, fun v B1 H1 g1 s1 r1 => ?_⟩
    exact ⟨v, .ty (tyS u), .type sd, .type (tyS u), bb, rfl, .ty _, ty_rep g1.wd r1 hsd, hk, q _ B1 H1 g1 s1 (.bl bb)⟩
theorem tys_pa (hx : XF Γ w0 ds n sc N X) : ∀ {ts : List Expr} {us : List Nat}, mapO (cTy sc) ts = some us → (∀ u ∈ us, u ≤ 4) ∧ (∀ e ∈ ts, plainE e = true) ∧ PA X ts (fun σ H Q => Q (us.map fun t => V.ty (tyS t)) H)
  | [], us, h => by cases h; exact ⟨(fun _ z => nomatch z), (fun _ z => nomatch z), pa_nil⟩
  | t :: ts, us, h => by
    obtain ⟨u, vs, h1, h2, rfl⟩ := mapO_cons h
    obtain ⟨q1, q2, q3⟩ := cTy_of hx h1
    obtain ⟨g1, g2, g3⟩ := tys_pa hx h2
    refine ⟨fun z hz => ?_, fun z hz => ?_, (pa_cons q3 g3 (star_of q2 ts X.env)).wk fun σ H Q h => h⟩
    · rcases List.mem_cons.mp hz with rfl | hz
      · exact q1
      · exact g1 z hz
    · rcases List.mem_cons.mp hz with rfl | hz
      · exact q2
      · exact g2 z hz
theorem clsv_all : ∀ us : List Nat, Paired ClsV (us.map fun t => V.ty (tyS t)) (us.map fun t => Value.type (tyS t))
  | [] => .nil
  | u :: us => .cons (.ty _) (clsv_all us)
theorem d_isiT (hx : XF Γ w0 ds n sc N X) {s : Str} {p : Pos} {ts : List Expr} {j : Nat} {p2 : Pos} {us : List Nat} (hg : glob sc s = true) (hs : (s == ("isinstance" : Str)) = true) (ha0 : plainE a = true) (hne : us ≠ []) (hlen : us.length ≤ sizeLine) (ht : mapO (cTy sc) ts = some us) (ha : PED X c a x) :
    PED X c (.Call (.Name s p) [a, .Tuple ts j p2] [] pos) (.isi x us) := by
  intro ρ mu k d k' he hav
  simp only [avE] at hav
  simp only [evE] at he
  split at he
  · cases he
  rename_i d1 k1 e1
  cases e2 : isOfs d1 us with
  | none => rw [e2] at he; cases he
  | some bb =>
    rw [e2] at he
    simp only [Option.map_some, Option.some.injEq, Prod.mk.injEq] at he
    obtain ⟨rfl, rfl⟩ := he
    obtain ⟨h1, h2, h3⟩ := glob_of hx hg
    have hs' := beq_iff_eq.mp hs
    subst hs'
    obtain ⟨q1, q2, q3⟩ := tys_pa hx ht
    cases us with
    | nil =>
      -- isinstance(x, ()): the empty tuple
      simp only [isOfs, Option.some.injEq] at e2
      subst e2
      exact absurd rfl hne
    | cons u us =>
    obtain ⟨sd, hsd⟩ := isOfs_dTy e2
    refine (pe_callB call_isiT h1 (hx.F.bi _ (by decide +kernel)) (by decide +kernel) (pa_cons (ha ρ mu k d1 k1 e1 hav) (pa_cons (pe_tup q3) pa_nil rfl) (star_of ha0 _ X.env)) h3 h2 (star_of ha0 _ X.env) rfl).wk fun σ H Q ⟨sp, B, w, s, ri, q⟩ => ⟨sp, B, w, s, ri, fun v B1 H1 g1 s1 r1 => ?_⟩
    refine ⟨by rw [List.length_map]; exact hlen, fun o ho => ?_⟩
    refine ⟨v, o, (u :: us).map (fun t => V.ty (tyS t)), .type sd, _, bb, rfl, upd_same, clsv_all (u :: us), ty_rep (Ge.newOut g1.wd s1 ho).wd r1 hsd, isOfs_kit hsd q1 e2, ?_⟩
    exact q _ B1 _ (g1.trans (Ge.newOut g1.wd s1 ho)) (s1.ge ho) (.bl bb)
end
end Mini
namespace Mini
open PySem PySem.Spec PyProof.Rows L2
section
variable {X : Cx} {c : Call} {Γ : CT} {w0 n : Nat} {ds : List Def} {sc : Scope} {N : List Str}
variable {a b e t : Expr} {x y z : E} {pos : Pos} {es : List Expr} {xs : Es}

/-! ### targets -/
def TOk (X : Cx) (sc : Scope) : Prop := ∀ s, isLoc sc s = true → Loc X.env.scope s ∧ (X.fn s = true ∨ X.env.scope.names.lookup s = some .local)
/-- the slots at ts are stored, the others stay -/
structure Upd' (K : PySem.W.Frag) (sp : Option Addr) (B : Hp) (ts : List Nat) (ρ ρ' : Rho) (σ σ' : L2.St) : Prop where
  l1 : σ'.length = σ.length
  l2 : ρ'.length = ρ.length
  old : ∀ i, i ∉ ts → σ'[i]? = σ[i]? ∧ ρ'[i]? = ρ[i]?
  new : ∀ i d, i ∈ ts → ρ'[i]? = some (some d) → (∃ v, σ'[i]? = some (some v) ∧ Rep K sp B v d)
theorem Upd'.refl {K : PySem.W.Frag} {sp : Option Addr} {B : Hp} {ρ : Rho} {σ : L2.St} : Upd' K sp B [] ρ ρ σ σ := ⟨rfl, rfl, fun _ _ => ⟨rfl, rfl⟩, fun _ _ h => by cases h⟩
theorem Upd'.trans {K : PySem.W.Frag} {sp : Option Addr} {B : Hp} {ts us : List Nat} {ρ ρ1 ρ2 : Rho} {σ σ1 σ2 : L2.St} (a : Upd' K sp B ts ρ ρ1 σ σ1) (b : Upd' K sp B us ρ1 ρ2 σ1 σ2) : Upd' K sp B (ts ++ us) ρ ρ2 σ σ2 := by
  refine ⟨b.l1.trans a.l1, b.l2.trans a.l2, fun i hi => ?_, fun i d hi h => ?_⟩
  · simp only [List.mem_append, not_or] at hi
    exact ⟨(b.old i hi.2).1.trans (a.old i hi.1).1, (b.old i hi.2).2.trans (a.old i hi.1).2⟩
  · by_cases hu : i ∈ us
    · exact b.new i d hu h
    · have ho := b.old i hu
      rw [ho.2] at h
      rw [ho.1]
      exact a.new i d ((List.mem_append.mp hi).resolve_right hu) h
def PGD (X : Cx) (e : Expr) (tg : Tg) : Prop := ∃ g, PG X e g ∧ ∀ sp B v d ρ ρ' σ H (Q : L2.St → Hp → Prop), Ext B H → σ.length = ρ.length → Rep X.K sp B v d → asg tg d ρ = some ρ' → (∀ σ', Upd' X.K sp B (tgSlots tg) ρ ρ' σ σ' → Q σ' H) → g v σ H Q
def PGDs (X : Cx) (es : List Expr) (tg : Tgs) : Prop := ∃ g, PGs X es g ∧ ∀ sp B vs ds ρ ρ' σ H (Q : L2.St → Hp → Prop), Ext B H → σ.length = ρ.length → RepL X.K sp B vs ds → asgs tg ds ρ = some ρ' → (∀ σ', Upd' X.K sp B (tgsSlots tg) ρ ρ' σ σ' → Q σ' H) → g vs σ H Q
theorem slotL_of {s : Str} {i : Nat} (h : slotL sc N s = some i) : isLoc sc s = true ∧ N[i]? = some s := by
  unfold slotL at h
  split at h
  · rename_i hv
    simp only [Bool.and_eq_true] at hv
    exact ⟨hv.1, ix_get h⟩
  · cases h
theorem g_name (hn : X.N = N) (nd : N.Nodup) (ht : TOk X sc) {s : Str} {p : Pos} {i : Nat} (h : slotL sc N s = some i) : PGD X (.Name s p) (.name i) := by
  obtain ⟨h1, h2⟩ := slotL_of h
  obtain ⟨h3, h4⟩ := ht s h1
  refine ⟨gName i, pg_name (by rw [hn]; exact nd) (by rw [hn]; exact h2) h3 h4, fun sp B v d ρ ρ' σ H Q w hl r he q => ?_⟩
  simp only [asg, Option.some.injEq] at he
  subst he
  refine q _ ⟨by simp, by simp, fun j hj => ?_, fun j d' hj h => ?_⟩
  · simp only [tgSlots, List.mem_singleton] at hj
    exact ⟨List.getElem?_set_ne (Ne.symm hj), List.getElem?_set_ne (Ne.symm hj)⟩
  · simp only [tgSlots, List.mem_singleton] at hj
    subst hj
    by_cases hj : j < ρ.length
    · rw [List.getElem?_set_self hj] at h
      cases h
      exact ⟨v, List.getElem?_set_self (by omega), r⟩
    · rw [List.getElem?_eq_none (by simpa using hj)] at h
      cases h
theorem plainTg_assign {e : Expr} {tg : Tg} {m : Nat} (h : cTg sc N m e = some tg) (es : List Expr) (env : Env) : assignEach (e :: es) env = (false, assign e env) :: assignEach es env := by
  cases m with
  | zero => simp [cTg] at h
  | succ m => cases e <;> first | rfl | (simp [cTg] at h)
theorem cTg_ok (hn : X.N = N) (nd : N.Nodup) (hc : X.calm = true) (ht : TOk X sc) : ∀ (m : Nat) (e : Expr) (tg : Tg), cTg sc N m e = some tg → PGD X e tg := by
  intro m
  induction m with
  | zero => intro e tg h; simp [cTg] at h
  | succ m ih =>
    intro e tg h
    cases e <;> simp only [cTg] at h <;> first | (cases h; done) | skip
    · rename_i s p
      cases e1 : slotL sc N s with
      | none => rw [e1] at h; cases h
      | some i =>
        rw [e1] at h
        simp only [Option.map_some, Option.some.injEq] at h
        subst h
        exact g_name hn nd ht e1
    · rename_i es j p
      cases e1 : mapO (cTg sc N m) es with
      | none => rw [e1] at h; cases h
      | some ts =>
        rw [e1] at h
        simp only [Option.map_some, Option.some.injEq] at h
        subst h
        have all : ∀ (es : List Expr) (ts : List Tg), mapO (cTg sc N m) es = some ts → PGDs X es (ts.foldr Tgs.cons .nil) ∧ (assignEach es X.env).length = es.length ∧ (assignEach es X.env).findIdx? (·.1) = none ∧ ts.length = es.length ∧
            ∀ (ds : List D) (ρ ρ' : Rho), asgs (ts.foldr Tgs.cons .nil) ds ρ = some ρ' → ds.length = es.length := by
          intro es
          induction es with
          | nil =>
            intro ts h
            cases h
            refine ⟨⟨gNil, pgs_nil, fun sp B vs ds ρ ρ' σ H Q w hl r he q => ?_⟩, rfl, rfl, rfl, fun ds ρ ρ' he => ?_⟩
            · cases ds with
              | nil => cases he; cases r; exact ⟨rfl, q σ Upd'.refl⟩
              | cons d ds => cases he
            · cases ds with
              | nil => rfl
              | cons d ds => cases he
          | cons e es ihe =>
            intro ts h
            obtain ⟨u, us, h1, h2, rfl⟩ := mapO_cons h
            obtain ⟨⟨g2, hg2, hq2⟩, hl2, hf2, hl3, hd3⟩ := ihe us h2
            obtain ⟨g1, hg1, hq1⟩ := ih e u h1
            have ha := plainTg_assign h1 es X.env
            refine ⟨⟨gCons g1 g2, pgs_cons hg1 hg2 (by rw [ha]; rfl), fun sp B vs ds ρ ρ' σ H Q w hl r he q => ?_⟩, by rw [ha]; simp [hl2], by rw [ha]; simp [List.findIdx?_cons, hf2], by simp [hl3], fun ds ρ ρ' he => ?_⟩
            · cases ds with
              | nil => cases he
              | cons d ds =>
                cases r with
                | cons r1 r2 =>
                  simp only [List.foldr_cons, asgs] at he
                  cases e5 : asg u d ρ with
                  | none => rw [e5] at he; cases he
                  | some ρ1 =>
                    rw [e5] at he
                    simp only [Option.bind_some] at he
                    refine ⟨_, _, rfl, hq1 sp B _ d ρ ρ1 σ H _ w hl r1 e5 fun σ1 u1 => ?_⟩
                    refine hq2 sp B _ ds ρ1 ρ' σ1 H _ w (by rw [u1.l1, u1.l2]; exact hl) r2 he fun σ2 u2 => ?_
                    exact q σ2 (u1.trans u2)
            · cases ds with
              | nil => cases he
              | cons d ds =>
                simp only [List.foldr_cons, asgs] at he
                cases e5 : asg u d ρ with
                | none => rw [e5] at he; cases he
                | some ρ1 =>
                  rw [e5] at he
                  simp only [Option.bind_some] at he
                  simp [hd3 ds ρ1 ρ' he]
        obtain ⟨⟨g, hg, hq⟩, hl, hf, hl3, hd3⟩ := all es ts e1
        refine ⟨gTup X.K es.length g, pg_tup hc hg hl hf, fun sp B v d ρ ρ' σ H Q w hlen r he q => ?_⟩
        cases d <;> simp only [asg] at he <;> first | (cases he; done) | skip
        rename_i ds
        cases r with
        | @tup a vs _ h1 h2 =>
          refine ⟨a, vs, rfl, ext_t w h1, by rw [h2.len]; exact hd3 ds ρ ρ' he, hq sp B vs ds ρ ρ' σ H Q w hlen h2 he q⟩

mutual
theorem Rep.sp {K : PySem.W.Frag} {sp : Option Addr} {H : Hp} : ∀ (d : D) (v : V), Rep K none H v d → Rep K sp H v d
  | .non, _, h => by cases h; exact .non
  | .bl b, _, h => by cases h; exact .bl b
  | .int i, _, h => by cases h; exact .int i
  | .str x, _, h => by cases h; exact .str x
  | .tup ds, _, h => by
    cases h with
    | tup h1 h2 => exact .tup h1 (RepL.sp ds _ h2)
  | .lst ds, _, h => by
    cases h with
    | lst h1 h2 => exact .lst h1 (RepL.sp ds _ h2)
  | .scr ds, _, h => by
    cases h with
    | scr h1 h2 => exact .scr h1 (RepL.sp ds _ h2)
  | .spot, _, h => by
    cases h with
    | spot h => cases h
theorem RepL.sp {K : PySem.W.Frag} {sp : Option Addr} {H : Hp} : ∀ (ds : List D) (vs : List V), RepL K none H vs ds → RepL K sp H vs ds
  | [], _, h => by cases h; exact .nil
  | d :: ds, _, h => by
    cases h with
    | cons h1 h2 => exact .cons (Rep.sp d _ h1) (RepL.sp ds _ h2)
end
def SpLe (a b : Option Addr) : Prop := a = b ∨ a = none
theorem SpLe.refl (a : Option Addr) : SpLe a a := .inl rfl
theorem SpLe.trans {a b c : Option Addr} (h : SpLe a b) (g : SpLe b c) : SpLe a c := by
  rcases h with rfl | rfl
  · exact g
  · exact .inr rfl
theorem Rep.le {K : PySem.W.Frag} {a b : Option Addr} {H : Hp} {v : V} {d : D} (h : SpLe a b) (r : Rep K a H v d) : Rep K b H v d := by
  rcases h with rfl | rfl
  · exact r
  · exact Rep.sp d v r
theorem RepL.le {K : PySem.W.Frag} {a b : Option Addr} {H : Hp} {v : List V} {d : List D} (h : SpLe a b) (r : RepL K a H v d) : RepL K b H v d := by
  rcases h with rfl | rfl
  · exact r
  · exact RepL.sp d v r


structure Lt (sp : Option Addr) (B : Hp) (sp1 : Option Addr) (B1 H1 : Hp) : Prop where
  sp : SpLe sp sp1
  bb : Ext B B1
  wd : Wd sp1 B1 H1
theorem Lt.refl {sp : Option Addr} {B H : Hp} (w : Wd sp B H) : Lt sp B sp B H := ⟨.refl _, Ext.refl _, w⟩
theorem Ge.lt {sp : Option Addr} {B H B' H' : Hp} (g : Ge sp B H B' H') : Lt sp B sp B' H' := ⟨.refl _, g.bb, g.wd⟩
/-! ### what is walked -/
def ItD (K : PySem.W.Frag) (sp : Option Addr) (J : It) (B H : Hp) (es : List D) : Prop :=
  ∀ sp1 B1 H1 k, Lt sp B sp1 B1 H1 → SpotAt sp1 k H1 → (∀ i d, es[i]? = some d → J.go i H1 ∧ ∀ v H2, J.yld i H1 v H2 → ∃ B2, Ge sp1 B1 H1 B2 H2 ∧ SpotAt sp1 k H2 ∧ Rep K sp1 B2 v d) ∧ J.stop es.length H1
def tI (K : PySem.W.Frag) (ρ : Rho) (mu : List Nat) (k : Ky) (es : List D) (k' : Ky) : TI := fun σ H R =>
  ∃ sp B, Wd sp B H ∧ SpotAt sp k H ∧ RI K sp B mu ρ σ ∧ ∀ J B' H', Ge sp B H B' H' → SpotAt sp k' H' → ItD K sp J B' H' es → R J H'
theorem _root_.L2.PI.wk {X : Cx} {tg e : Expr} {t t' : TI} (h : PI X tg e t) (w : ∀ σ H Q, t' σ H Q → t σ H Q) : PI X tg e t' := ⟨fun pins s σ H Q I hw => h.run pins s σ H Q I (w _ _ _ hw)⟩
def PID (X : Cx) (c : Call) (tg e : Expr) (il : I) : Prop := ∀ ρ mu k es k', evI c il ρ k = some (es, k') → avI mu il = true → PI X tg e (tI X.K ρ mu k es k')
theorem itd_l {K : PySem.W.Frag} {sp : Option Addr} {B H : Hp} {p : Addr} {vs : List V} {es : List D} (w : Wd sp B H) (h : SqL K B p vs) (r : RepL K sp B vs es) : ItD K sp (Itl K p) B H es := by
  intro sp1 B1 H1 k g s
  have h1 : SqL K H1 p vs := ext_l g.wd.sub (ext_l g.bb h)
  refine ⟨fun i d hi => ?_, ⟨vs, h1, by rw [r.len]; exact Nat.le_refl _⟩⟩
  obtain ⟨v, hv, rv⟩ := r.get hi
  refine ⟨⟨vs, v, h1, hv⟩, fun v' H2 ⟨e1, e2⟩ => ?_⟩
  subst e1
  have := e2 vs h1
  rw [hv] at this
  cases this
  exact ⟨B1, Ge.refl g.wd, s, Rep.le g.sp (Rep.ext g.bb _ _ rv)⟩
theorem itd_t {K : PySem.W.Frag} {sp : Option Addr} {B H : Hp} {p : Addr} {vs : List V} {es : List D} (w : Wd sp B H) (h : SqT K B p vs) (r : RepL K sp B vs es) : ItD K sp (Itt K p) B H es := by
  intro sp1 B1 H1 k g s
  have h1 : SqT K H1 p vs := ext_t g.wd.sub (ext_t g.bb h)
  refine ⟨fun i d hi => ?_, ⟨vs, h1, by rw [r.len]; exact Nat.le_refl _⟩⟩
  obtain ⟨v, hv, rv⟩ := r.get hi
  refine ⟨⟨vs, v, h1, hv⟩, fun v' H2 ⟨e1, e2⟩ => ?_⟩
  subst e1
  have := e2 vs h1
  rw [hv] at this
  cases this
  exact ⟨B1, Ge.refl g.wd, s, Rep.le g.sp (Rep.ext g.bb _ _ rv)⟩
theorem i_seq (ha : PED X c a x) : PID X c t a (.seq x) := by
  intro ρ mu k es k' he hav
  simp only [avI] at hav
  simp only [evI] at he
  split at he
  · cases he
  rename_i d1 k1 e1
  have hA := ha ρ mu k d1 k1 e1 hav
  cases d1 <;> simp only [items, Option.map_some, Option.map_none, Option.some.injEq, Prod.mk.injEq] at he <;> first | (cases he; done) | skip
  · rename_i st
    obtain ⟨rfl, rfl⟩ := he
    refine (pi_str hA).wk fun σ H R ⟨sp, B, w, s, ri, q⟩ => ⟨sp, B, w, s, ri, fun v B1 H1 g1 s1 r1 => ?_⟩
    cases r1
    refine ⟨st, rfl, q _ B1 H1 g1 s1 fun sp2 B2 H2 k g s => ⟨fun i d hi => ?_, ?_⟩⟩
    · rw [List.getElem?_map] at hi
      cases e2 : st.cps.toList[i]? with
      | none => rw [e2] at hi; cases hi
      | some ch =>
        rw [e2] at hi
        cases hi
        have e3 : st.cps[i]? = some ch := by simpa using e2
        refine ⟨?_, fun v' H3 ⟨e4, ch', e5, e6⟩ => ?_⟩
        · have := (Array.getElem?_eq_some_iff.mp e3).1
          exact this
        · subst e4
          rw [e3] at e5
          cases e5
          subst e6
          exact ⟨B2, Ge.refl g.wd, s, .str _⟩
    · show st.cps.size ≤ _
      simp
  · obtain ⟨rfl, rfl⟩ := he
    refine (pi_tup hA).wk fun σ H R ⟨sp, B, w, s, ri, q⟩ => ⟨sp, B, w, s, ri, fun v B1 H1 g1 s1 r1 => ?_⟩
    cases r1 with
    | @tup p vs _ h1 h2 => exact ⟨p, rfl, ⟨vs, ext_t g1.wd.sub h1⟩, q _ B1 H1 g1 s1 (itd_t g1.wd h1 h2)⟩
  · obtain ⟨rfl, rfl⟩ := he
    refine (pi_list hA).wk fun σ H R ⟨sp, B, w, s, ri, q⟩ => ⟨sp, B, w, s, ri, fun v B1 H1 g1 s1 r1 => ?_⟩
    cases r1 with
    | @lst p vs _ h1 h2 => exact ⟨p, rfl, ⟨vs, .inl (.inl (g1.wd.sub _ _ h1))⟩, q _ B1 H1 g1 s1 (itd_l g1.wd (.inl (.inl h1)) h2)⟩
  · obtain ⟨rfl, rfl⟩ := he
    refine (pi_list hA).wk fun σ H R ⟨sp, B, w, s, ri, q⟩ => ⟨sp, B, w, s, ri, fun v B1 H1 g1 s1 r1 => ?_⟩
    cases r1 with
    | @scr p vs _ h1 h2 => exact ⟨p, rfl, ⟨vs, ext_l g1.wd.sub h1⟩, q _ B1 H1 g1 s1 (itd_l g1.wd h1 h2)⟩
theorem itd_r {K : PySem.W.Frag} {sp : Option Addr} {B H : Hp} {lo : Int} {m : Nat} : ItD K sp (Itr lo m) B H (rngL lo 1 m) := by
  intro sp1 B1 H1 k g s
  refine ⟨fun i d hi => ?_, by show m ≤ _; simp [rngL]⟩
  unfold rngL at hi
  rw [List.getElem?_map] at hi
  by_cases h : i < m
  · rw [List.getElem?_range h] at hi
    cases hi
    refine ⟨h, fun v H2 ⟨e1, e2⟩ => ?_⟩
    subst e1 e2
    exact ⟨B1, Ge.refl g.wd, s, by dsimp only; rw [Int.mul_one]; exact .int _⟩
  · rw [List.getElem?_eq_none (by simpa using h)] at hi
    cases hi
theorem itd_rc {K : PySem.W.Frag} {sp : Option Addr} {B H : Hp} {lo st : Int} {m : Nat} : ItD K sp (Itc lo st m) B H (rngL lo st m) := by
  intro sp1 B1 H1 k g s
  refine ⟨fun i d hi => ?_, by show m ≤ _; simp [rngL]⟩
  unfold rngL at hi
  rw [List.getElem?_map] at hi
  by_cases h : i < m
  · rw [List.getElem?_range h] at hi
    cases hi
    refine ⟨h, fun v H2 ⟨e1, e2⟩ => ?_⟩
    subst e1 e2
    exact ⟨B1, Ge.refl g.wd, s, .int _⟩
  · rw [List.getElem?_eq_none (by simpa using h)] at hi
    cases hi
theorem i_rng1 (hx : XF Γ w0 ds n sc N X) {p : Pos} (hg : glob sc ("range" : Str) = true) (h1 : plainE a = true) (ha : PED X c a x) : PID X c t (.Call (.Name ("range" : Str) p) [a] [] pos) (.rng (.cons x .nil)) := by
  intro ρ mu k es k' he hav
  simp only [avI] at hav
  simp only [evI] at he
  split at he
  · cases he
  rename_i d1 k1 e1
  have hA := (a_cons h1 ha a_nil) ρ mu k d1 k1 e1 hav
  obtain ⟨g1, g2, g3⟩ := glob_of hx hg
  simp only [evEs] at e1
  split at e1
  · cases e1
  rename_i d2 k2 e2
  cases e1
  cases d2 <;> simp only [rngSem, Option.map_none] at he <;> first | (cases he; done) | skip
  rename_i j
  split at he <;> simp only [Option.map_some, Option.map_none, Option.some.injEq, Prod.mk.injEq] at he <;> first | (cases he; done) | skip
  rename_i hj
  obtain ⟨rfl, rfl⟩ := he
  simp only [rng62, Bool.and_eq_true, decide_eq_true_eq] at hj
  refine (pi_range1 g1 (hx.F.bi _ (by decide +kernel)) hA (star_of h1 [] X.env)).wk fun σ H R ⟨sp, B, w, s, ri, q⟩ => ⟨sp, B, w, s, ri, fun vs B1 H1 g1 s1 r1 => ?_⟩
  obtain ⟨v, rfl, rv⟩ := repl_one r1
  cases rv
  exact ⟨j, rfl, by omega, by omega, q _ B1 H1 g1 s1 itd_r⟩
theorem i_rng2 (hx : XF Γ w0 ds n sc N X) {p : Pos} (hg : glob sc ("range" : Str) = true) (h1 : plainE a = true) (h2 : plainE b = true) (ha : PED X c a x) (hb : PED X c b y) : PID X c t (.Call (.Name ("range" : Str) p) [a, b] [] pos) (.rng (.cons x (.cons y .nil))) := by
  intro ρ mu k es k' he hav
  simp only [avI] at hav
  simp only [evI] at he
  split at he
  · cases he
  rename_i d1 k1 e1
  have hA := (a_cons h1 ha (a_cons h2 hb a_nil)) ρ mu k d1 k1 e1 hav
  obtain ⟨g1, g2, g3⟩ := glob_of hx hg
  simp only [evEs] at e1
  split at e1
  · cases e1
  rename_i d2 k2 e2
  split at e1
  · cases e1
  rename_i d3 k3 e3
  split at e3
  · cases e3
  rename_i d4 k4 e4
  cases e3
  cases e1
  cases d2 <;> cases d4 <;> simp only [rngSem, Option.map_none] at he <;> first | (cases he; done) | skip
  rename_i i j
  split at he <;> simp only [Option.map_some, Option.map_none, Option.some.injEq, Prod.mk.injEq] at he <;> first | (cases he; done) | skip
  rename_i hj
  obtain ⟨rfl, rfl⟩ := he
  simp only [rng62, Bool.and_eq_true, decide_eq_true_eq] at hj
  refine (pi_range2 g1 (hx.F.bi _ (by decide +kernel)) hA (by rw [star_of h1, star_of h2]; rfl) (by rw [star_of h2]; rfl)).wk fun σ H R ⟨sp, B, w, s, ri, q⟩ => ⟨sp, B, w, s, ri, fun vs B1 H1 g1 s1 r1 => ?_⟩
  obtain ⟨v, v', rfl, rv, rv'⟩ := repl_two r1
  cases rv
  cases rv'
  exact ⟨i, j, rfl, by omega, q _ B1 H1 g1 s1 itd_r⟩
theorem i_rng3 (hx : XF Γ w0 ds n sc N X) {p : Pos} (hg : glob sc ("range" : Str) = true) (h1 : plainE a = true) (h2 : plainE b = true) (h3 : plainE e = true) (ha : PED X c a x) (hb : PED X c b y) (hc : PED X c e z) :
    PID X c t (.Call (.Name ("range" : Str) p) [a, b, e] [] pos) (.rng (.cons x (.cons y (.cons z .nil)))) := by
  intro ρ mu k es k' he hav
  simp only [avI] at hav
  simp only [evI] at he
  split at he
  · cases he
  rename_i d1 k1 e1
  have hA := (a_cons h1 ha (a_cons h2 hb (a_cons h3 hc a_nil))) ρ mu k d1 k1 e1 hav
  obtain ⟨g1, g2, g3⟩ := glob_of hx hg
  simp only [evEs] at e1
  split at e1
  · cases e1
  rename_i d2 k2 e2
  split at e1
  · cases e1
  rename_i d3 k3 e3
  split at e3
  · cases e3
  rename_i d4 k4 e4
  split at e3
  · cases e3
  rename_i d5 k5 e5
  split at e5
  · cases e5
  rename_i d6 k6 e6
  cases e5
  cases e3
  cases e1
  cases d2 <;> cases d4 <;> cases d6 <;> simp only [rngSem, Option.map_none] at he <;> first | (cases he; done) | skip
  rename_i i j st
  split at he <;> simp only [Option.map_some, Option.map_none, Option.some.injEq, Prod.mk.injEq] at he <;> first | (cases he; done) | skip
  rename_i hj
  obtain ⟨rfl, rfl⟩ := he
  simp only [Bool.and_eq_true, decide_eq_true_eq] at hj
  refine (pi_range3 g1 (hx.F.bi _ (by decide +kernel)) hA (star_of h1 _ X.env) (noStar_of fun u hu => by
    rcases List.mem_cons.mp hu with rfl | hu
    · exact h2
    · rcases List.mem_cons.mp hu with rfl | hu
      · exact h3
      · cases hu)).wk fun σ H R ⟨sp, B, w, s, ri, q⟩ => ⟨sp, B, w, s, ri, fun vs B1 H1 g1 s1 r1 => ?_⟩
  cases r1 with
  | cons q1 r1 =>
    obtain ⟨v, v', rfl, rv, rv'⟩ := repl_two r1
    cases q1
    cases rv
    cases rv'
    exact ⟨i, j, st, _, rfl, ⟨hj.1.1.1, hj.1.1.2, hj.1.2, by omega⟩, q _ B1 H1 g1 s1 itd_rc⟩
theorem enumL_get : ∀ {es : List D} {i : Nat} {m : Nat} {d : D}, (enumL m es)[i]? = some d → ∃ d', es[i]? = some d' ∧ d = .tup [.int ((m + i : Nat) : Int), d']
  | [], i, m, d, h => by simp [enumL] at h
  | d0 :: es, 0, m, d, h => by simp [enumL] at h; exact ⟨d0, rfl, h.symm⟩
  | d0 :: es, i + 1, m, d, h => by
    simp only [enumL, List.getElem?_cons_succ] at h
    obtain ⟨d', h1, h2⟩ := enumL_get h
    exact ⟨d', by simpa using h1, by rw [h2, show m + 1 + i = m + (i + 1) by omega]⟩
theorem enumL_len : ∀ (es : List D) (m : Nat), (enumL m es).length = es.length
  | [], _ => rfl
  | _ :: es, m => by simp [enumL, enumL_len es (m + 1)]
theorem i_enum (hx : XF Γ w0 ds n sc N X) {p tpos : Pos} {elts : List Expr} {kk : Nat} (hg : glob sc ("enumerate" : Str) = true) (h1 : plainE a = true) (ha : PED X c a x) : PID X c (.Tuple elts kk tpos) (.Call (.Name ("enumerate" : Str) p) [a] [] pos) (.enum x) := by
  intro ρ mu k es k' he hav
  simp only [avI] at hav
  simp only [evI] at he
  obtain ⟨g1, g2, g3⟩ := glob_of hx hg
  split at he <;> first | (cases he; done) | skip
  rename_i ls k1 e1
  cases he
  have hA := (a_cons h1 ha a_nil) ρ mu k [.lst ls] _ (by simp only [evEs]; rw [e1]) (by simp only [avEs, hav]; rfl)
  refine (pi_enum g1 (hx.F.bi _ (by decide +kernel)) hA (star_of h1 [] X.env)).wk fun σ H R ⟨sp, B, w, s, ri, q⟩ => ⟨sp, B, w, s, ri, fun vs B1 H1 g1 s1 r1 => ?_⟩
  obtain ⟨v, rfl, rv⟩ := repl_one r1
  cases rv with
  | @lst p vs _ h1 h2 =>
    refine ⟨p, vs, rfl, .inl (.inl (g1.wd.sub _ _ h1)), q _ B1 H1 g1 s1 fun sp2 B2 H2 k g s => ⟨fun i d hi => ?_, ?_⟩⟩
    · have hq : SqL X.K H2 p vs := .inl (.inl (g.wd.sub _ _ (g.bb _ _ h1)))
      obtain ⟨d', hd, rfl⟩ := enumL_get hi
      obtain ⟨v, hv, rv⟩ := h2.get hd
      refine ⟨⟨vs, v, hq, hv⟩, fun v' H3 ⟨T, u, e2, hT, e3, e4⟩ => ?_⟩
      subst e2 e3
      have := e4 vs hq
      rw [hv] at this
      cases this
      refine ⟨_, Ge.new g.wd s hT, s.ge hT, ?_⟩
      rw [Nat.zero_add]
      exact rep_tup_new (B_none g.wd hT) (.cons (.int _) (.cons (Rep.le g.sp (Rep.ext g.bb _ _ rv)) .nil))
    · exact ⟨vs, .inl (.inl (g.wd.sub _ _ (g.bb _ _ h1))), by rw [h2.len, enumL_len]; exact Nat.le_refl _⟩
theorem zipL_get : ∀ {es fs : List D} {i : Nat} {d : D}, (zipL es fs)[i]? = some d → ∃ d1 d2, es[i]? = some d1 ∧ fs[i]? = some d2 ∧ d = .tup [d1, d2]
  | [], _, i, d, h => by simp [zipL] at h
  | _ :: _, [], i, d, h => by simp [zipL] at h
  | d1 :: es, d2 :: fs, 0, d, h => by simp [zipL] at h; exact ⟨d1, d2, rfl, rfl, h.symm⟩
  | d1 :: es, d2 :: fs, i + 1, d, h => by
    simp only [zipL, List.getElem?_cons_succ] at h
    obtain ⟨a, b, h1, h2, h3⟩ := zipL_get h
    exact ⟨a, b, by simpa using h1, by simpa using h2, h3⟩
theorem zipL_len : ∀ (es fs : List D), es.length ≤ (zipL es fs).length ∨ fs.length ≤ (zipL es fs).length
  | [], _ => .inl (Nat.zero_le _)
  | _ :: _, [] => .inr (Nat.zero_le _)
  | _ :: es, _ :: fs => by
    rcases zipL_len es fs with h | h
    · exact .inl (by simp [zipL, h])
    · exact .inr (by simp [zipL, h])
theorem i_zip (hx : XF Γ w0 ds n sc N X) {p tpos : Pos} {elts : List Expr} {kk : Nat} (hg : glob sc ("zip" : Str) = true) (h1 : plainE a = true) (h2 : plainE b = true) (ha : PED X c a x) (hb : PED X c b y) :
    PID X c (.Tuple elts kk tpos) (.Call (.Name ("zip" : Str) p) [a, b] [] pos) (.zip x y) := by
  intro ρ mu k es k' he hav
  simp only [avI, Bool.and_eq_true] at hav
  simp only [evI] at he
  obtain ⟨g1, g2, g3⟩ := glob_of hx hg
  split at he
  · cases he
  rename_i d1 k1 e1
  split at he
  · cases he
  rename_i d2 k2 e2
  have hA := (a_cons h1 ha (a_cons h2 hb a_nil)) ρ mu k [d1, d2] k2 (by simp only [evEs]; rw [e1]; simp only; rw [e2]) (by simp only [avEs, hav.1, hav.2]; rfl)
  have hP := RZ.pi_zipA (p := p) (pos := pos) (elts := elts) (kk := kk) (tpos := tpos) g1 (hx.F.bi _ (by decide +kernel)) hA (star_of h1 _ X.env) (noStar_of fun u hu => by
    rcases List.mem_cons.mp hu with rfl | hu
    · exact h2
    · cases hu)
  split at he <;> first | (cases he; done) | skip
  · rename_i xs1 ys1
    cases he
    refine hP.wk fun σ H R ⟨sp, B, w, s, ri, q⟩ => ⟨sp, B, w, s, ri, fun vs B1 H1 g1 s1 r1 => ?_⟩
    obtain ⟨v, v', rfl, rv, rv'⟩ := repl_two r1
    cases rv with
    | @lst p vs _ h1 h2 =>
    cases rv' with
    | @lst p' vs' _ h3 h4 =>
    have m1 : ∀ sp2 B2 H2, Lt sp B1 sp2 B2 H2 → SqL X.K H2 p vs := fun sp2 B2 H2 g => .inl (.inl (g.wd.sub _ _ (g.bb _ _ h1)))
    have m2 : ∀ sp2 B2 H2, Lt sp B1 sp2 B2 H2 → SqL X.K H2 p' vs' := fun sp2 B2 H2 g => .inl (.inl (g.wd.sub _ _ (g.bb _ _ h3)))
    refine ⟨p, p', vs, vs', rfl, .inl ⟨m1 _ _ _ (Lt.refl g1.wd), m2 _ _ _ (Lt.refl g1.wd), q _ B1 H1 g1 s1 fun sp2 B2 H2 k g s => ⟨fun i d hi => ?_, ?_⟩⟩⟩
    · obtain ⟨da, db, hd1, hd2, rfl⟩ := zipL_get hi
      obtain ⟨v, hv, rv⟩ := h2.get hd1
      obtain ⟨v', hv', rv'⟩ := h4.get hd2
      refine ⟨⟨vs, vs', v, v', m1 _ _ _ g, m2 _ _ _ g, hv, hv'⟩, fun u H3 ⟨T, u1, u2, e2, hT, e3, e4, e5⟩ => ?_⟩
      subst e2 e3
      have t1 := e4 vs (m1 _ _ _ g)
      have t2 := e5 vs' (m2 _ _ _ g)
      rw [hv] at t1
      rw [hv'] at t2
      cases t1
      cases t2
      exact ⟨_, Ge.new g.wd s hT, s.ge hT, rep_tup_new (B_none g.wd hT) (.cons (Rep.le g.sp (Rep.ext g.bb _ _ rv)) (.cons (Rep.le g.sp (Rep.ext g.bb _ _ rv')) .nil))⟩
    · exact ⟨vs, vs', m1 _ _ _ g, m2 _ _ _ g, by rw [h2.len, h4.len]; exact zipL_len _ _⟩
  · rename_i xs1 ys1
    cases he
    refine hP.wk fun σ H R ⟨sp, B, w, s, ri, q⟩ => ⟨sp, B, w, s, ri, fun vs B1 H1 g1 s1 r1 => ?_⟩
    obtain ⟨v, v', rfl, rv, rv'⟩ := repl_two r1
    cases rv with
    | @tup p vs _ h1 h2 =>
    cases rv' with
    | @tup p' vs' _ h3 h4 =>
    have m1 : ∀ sp2 B2 H2, Lt sp B1 sp2 B2 H2 → SqT X.K H2 p vs := fun sp2 B2 H2 g => ext_t g.wd.sub (ext_t g.bb h1)
    have m2 : ∀ sp2 B2 H2, Lt sp B1 sp2 B2 H2 → SqT X.K H2 p' vs' := fun sp2 B2 H2 g => ext_t g.wd.sub (ext_t g.bb h3)
    refine ⟨p, p', vs, vs', rfl, .inr ⟨m1 _ _ _ (Lt.refl g1.wd), m2 _ _ _ (Lt.refl g1.wd), q _ B1 H1 g1 s1 fun sp2 B2 H2 k g s => ⟨fun i d hi => ?_, ?_⟩⟩⟩
    · obtain ⟨da, db, hd1, hd2, rfl⟩ := zipL_get hi
      obtain ⟨v, hv, rv⟩ := h2.get hd1
      obtain ⟨v', hv', rv'⟩ := h4.get hd2
      refine ⟨⟨vs, vs', v, v', m1 _ _ _ g, m2 _ _ _ g, hv, hv'⟩, fun u H3 ⟨T, u1, u2, e2, hT, e3, e4, e5⟩ => ?_⟩
      subst e2 e3
      have t1 := e4 vs (m1 _ _ _ g)
      have t2 := e5 vs' (m2 _ _ _ g)
      rw [hv] at t1
      rw [hv'] at t2
      cases t1
      cases t2
      exact ⟨_, Ge.new g.wd s hT, s.ge hT, rep_tup_new (B_none g.wd hT) (.cons (Rep.le g.sp (Rep.ext g.bb _ _ rv)) (.cons (Rep.le g.sp (Rep.ext g.bb _ _ rv')) .nil))⟩
    · exact ⟨vs, vs', m1 _ _ _ g, m2 _ _ _ g, by rw [h2.len, h4.len]; exact zipL_len _ _⟩
theorem i_rev (hx : XF Γ w0 ds n sc N X) {p : Pos} (hg : glob sc ("reversed" : Str) = true) (h1 : plainE a = true) (ha : PED X c a x) : PID X c t (.Call (.Name ("reversed" : Str) p) [a] [] pos) (.rev x) := by
  intro ρ mu k es k' he hav
  simp only [avI] at hav
  simp only [evI] at he
  obtain ⟨g1, g2, g3⟩ := glob_of hx hg
  have key : ∀ (vs : List V) (ls : List D) (sp : Option Addr) (B : Hp) (i : Nat) (d : D), RepL X.K sp B vs ls → ls.reverse[i]? = some d → i < vs.length ∧ ∃ v, vs[vs.length - 1 - i]? = some v ∧ Rep X.K sp B v d := by
    intro vs ls sp B i d r hi
    have hlt : i < ls.length := by
      have := (List.getElem?_eq_some_iff.mp hi).1
      simpa using this
    rw [List.getElem?_reverse hlt] at hi
    obtain ⟨v, hv, rv⟩ := r.get hi
    rw [r.len]
    exact ⟨hlt, v, hv, rv⟩
  split at he <;> first | (cases he; done) | skip
  · rename_i ls k1 e1
    cases he
    refine (RT.pi_revA g1 (hx.F.bi _ (by decide +kernel)) (ha ρ mu k _ _ e1 hav) (star_of h1 [] X.env)).wk fun σ H R ⟨sp, B, w, s, ri, q⟩ => ⟨sp, B, w, s, ri, fun v B1 H1 g1 s1 rv => ?_⟩
    cases rv with
    | @lst p vs _ h1 h2 =>
      have m1 : ∀ sp2 B2 H2, Lt sp B1 sp2 B2 H2 → SqL X.K H2 p vs := fun sp2 B2 H2 g => .inl (.inl (g.wd.sub _ _ (g.bb _ _ h1)))
      refine ⟨p, vs, rfl, .inl ⟨m1 _ _ _ (Lt.refl g1.wd), q _ B1 H1 g1 s1 fun sp2 B2 H2 k g s => ⟨fun i d hi => ?_, ?_⟩⟩⟩
      · obtain ⟨hlt, v, hv, rv⟩ := key vs ls sp B1 i d h2 hi
        refine ⟨⟨hlt, vs, v, m1 _ _ _ g, hv⟩, fun u H3 ⟨e2, e3⟩ => ?_⟩
        subst e2
        have t1 := e3 vs (m1 _ _ _ g)
        rw [hv] at t1
        cases t1
        exact ⟨B2, Ge.refl g.wd, s, Rep.le g.sp (Rep.ext g.bb _ _ rv)⟩
      · show vs.length ≤ _
        rw [List.length_reverse, h2.len]
        exact Nat.le_refl _
  · rename_i ls k1 e1
    cases he
    refine (RT.pi_revA g1 (hx.F.bi _ (by decide +kernel)) (ha ρ mu k _ _ e1 hav) (star_of h1 [] X.env)).wk fun σ H R ⟨sp, B, w, s, ri, q⟩ => ⟨sp, B, w, s, ri, fun v B1 H1 g1 s1 rv => ?_⟩
    cases rv with
    | @tup p vs _ h1 h2 =>
      have m1 : ∀ sp2 B2 H2, Lt sp B1 sp2 B2 H2 → SqT X.K H2 p vs := fun sp2 B2 H2 g => ext_t g.wd.sub (ext_t g.bb h1)
      refine ⟨p, vs, rfl, .inr ⟨m1 _ _ _ (Lt.refl g1.wd), q _ B1 H1 g1 s1 fun sp2 B2 H2 k g s => ⟨fun i d hi => ?_, ?_⟩⟩⟩
      · obtain ⟨hlt, v, hv, rv⟩ := key vs ls sp B1 i d h2 hi
        refine ⟨⟨hlt, vs, v, m1 _ _ _ g, hv⟩, fun u H3 ⟨e2, e3⟩ => ?_⟩
        subst e2
        have t1 := e3 vs (m1 _ _ _ g)
        rw [hv] at t1
        cases t1
        exact ⟨B2, Ge.refl g.wd, s, Rep.le g.sp (Rep.ext g.bb _ _ rv)⟩
      · show vs.length ≤ _
        rw [List.length_reverse, h2.len]
        exact Nat.le_refl _
end
end Mini
namespace Mini
open PySem PySem.Spec PyProof.Rows L2
section
variable {X : Cx} {c : Call} {Γ : CT} {w0 n : Nat} {ds : List Def} {sc : Scope} {N : List Str}
variable {a b e t : Expr} {x y z : E} {pos : Pos} {es : List Expr} {xs : Es}

/-! ### comprehensions -/
theorem wipe_get {σ : L2.St} : ∀ {vs : List Nat} {i : Nat}, (wipe σ vs)[i]? = if i ∈ vs then (if i < σ.length then some none else none) else σ[i]?
  | [], i => by simp [wipe]
  | v :: vs, i => by
    unfold wipe
    by_cases h : v = i
    · subst h
      simp only [List.mem_cons, true_or, if_true]
      by_cases hl : v < σ.length
      · rw [List.getElem?_set_self (by rw [wipe_length]; exact hl), if_pos hl]
      · rw [List.getElem?_eq_none (by simp [wipe_length]; omega), if_neg hl]
    · rw [List.getElem?_set_ne h, wipe_get]
      have : (i ∈ v :: vs) = (i ∈ vs) := by simp [Ne.symm h]
      simp only [this]
theorem wipeR_get {ρ : Rho} : ∀ {vs : List Nat} {i : Nat}, (wipeR ρ vs)[i]? = if i ∈ vs then (if i < ρ.length then some none else none) else ρ[i]?
  | [], i => by simp [wipeR]
  | v :: vs, i => by
    have hl : ∀ us : List Nat, (wipeR ρ us).length = ρ.length := fun us => by
      induction us with
      | nil => rfl
      | cons u us ih => unfold wipeR; rw [List.length_set, ih]
    unfold wipeR
    by_cases h : v = i
    · subst h
      simp only [List.mem_cons, true_or, if_true]
      by_cases hl' : v < ρ.length
      · rw [List.getElem?_set_self (by rw [hl]; exact hl'), if_pos hl']
      · rw [List.getElem?_eq_none (by simp [hl]; omega), if_neg hl']
    · rw [List.getElem?_set_ne h, wipeR_get]
      have : (i ∈ v :: vs) = (i ∈ vs) := by simp [Ne.symm h]
      simp only [this]
theorem wipeR_length {ρ : Rho} : ∀ {vs : List Nat}, (wipeR ρ vs).length = ρ.length
  | [] => rfl
  | v :: vs => by unfold wipeR; rw [List.length_set, wipeR_length]
theorem ri_wipe {K : PySem.W.Frag} {sp : Option Addr} {B : Hp} {mu : List Nat} {ρ : Rho} {σ : L2.St} {vs : List Nat} (h : RI K sp B mu ρ σ) : RI K sp B mu (wipeR ρ vs) (wipe σ vs) := by
  refine ⟨by rw [wipe_length, wipeR_length]; exact h.1, fun i d hi hd => ?_⟩
  rw [wipeR_get] at hd
  rw [wipe_get]
  by_cases hv : i ∈ vs
  · rw [if_pos hv] at hd
    split at hd <;> cases hd
  · rw [if_neg hv] at hd ⊢
    exact h.2 i d hi hd
theorem ri_upd {K : PySem.W.Frag} {sp : Option Addr} {B : Hp} {mu ts : List Nat} {ρ ρ' : Rho} {σ σ' : L2.St} (h : RI K sp B mu ρ σ) (u : Upd' K sp B ts ρ ρ' σ σ') : RI K sp B mu ρ' σ' := by
  refine ⟨by rw [u.l1, u.l2]; exact h.1, fun i d hi hd => ?_⟩
  by_cases ht : i ∈ ts
  · exact u.new i d ht hd
  · have := u.old i ht
    rw [this.2] at hd
    rw [this.1]
    exact h.2 i d hi hd
theorem wipe_back {K : PySem.W.Frag} {sp : Option Addr} {B : Hp} {ts vs : List Nat} {ρ ρ' : Rho} {σ σ' : L2.St} (u : Upd' K sp B ts ρ ρ' (wipe σ vs) σ') (hs : ∀ i ∈ ts, i ∈ vs) : wipe σ' vs = wipe σ vs := by
  refine List.ext_getElem? fun i => ?_
  rw [wipe_get, wipe_get]
  by_cases hv : i ∈ vs
  · rw [if_pos hv, if_pos hv, u.l1, wipe_length]
  · rw [if_neg hv, if_neg hv, (u.old i fun h => hv (hs i h)).1, wipe_get, if_neg hv]

/-- a new list, apart from all that stood -/
def tFr (K : PySem.W.Frag) (ρ : Rho) (mu : List Nat) (k : Ky) (ds : List D) (k' : Ky) : TE := fun σ H Q =>
  ∃ sp B, Wd sp B H ∧ SpotAt sp k H ∧ RI K sp B mu ρ σ ∧ ∀ p vs B' H', H p = none → Ge sp B H B' H' → SpotAt sp k' H' → H' p = some (.lst vs) → B' p = none → RepL K sp B' vs ds → Q (.ref p) H'
theorem none_back {sp : Option Addr} {B H B' H' : Hp} {k : Ky} {p : Addr} (g : Ge sp B H B' H') (s : SpotAt sp k H') (hp : H' p = none) : H p = none := by
  cases e : H p with
  | none => rfl
  | some o =>
    have := g.hh p o (s.ne hp) e
    rw [hp] at this
    cases this
theorem tFr_of {K : PySem.W.Frag} {ρ : Rho} {mu : List Nat} {k k' : Ky} {ds : List D} {σ : L2.St} {H : Hp} {Q : VK} (h : tD K ρ mu k (.lst ds) k' σ H Q) : tFr K ρ mu k ds k' σ H Q := by
  obtain ⟨sp, B, w, s, ri, q⟩ := h
  refine ⟨sp, B, w, s, ri, fun p vs B' H' hp g s' hl hb r => ?_⟩
  have hsp := s.ne hp
  refine q (.ref p) (upd B' p (.lst vs)) H' ⟨g.hh, g.bb.trans (Ext.upd hb), ⟨fun x o ho => ?_, fun x hx => ?_⟩, fun x o ho hn => ?_⟩ s' (rep_lst_new hb r)
  · by_cases hx : x = p
    · subst hx; rw [upd_same] at ho; cases ho; exact hl
    · rw [upd_ne hx] at ho; exact g.wd.sub x o ho
  · rw [upd_ne (fun e => hsp (by rw [hx, e]))]; exact g.wd.spn x hx
  · rw [upd_ne (ne_of_none ho hp)]; exact g.old x o ho hn
/-- the reading of a comprehension, from those of its parts -/
theorem comp_rd {K : PySem.W.Frag} {tg : Tg} {g : TG} {tt : TT} {te : TE} {wi : TI} {vs : List Nat} {f : Rho → Ky → Option (D × Ky)} {q : Rho → Ky → Option (Bool × Ky)} {ρ : Rho} {mu : List Nat} {k k1 k2 : Ky} {es ys : List D} {σ : L2.St} {H : Hp} {Q : VK}
    (hg : ∀ sp B v d ρ ρ' σ H (Q : L2.St → Hp → Prop), Ext B H → σ.length = ρ.length → Rep K sp B v d → asg tg d ρ = some ρ' → (∀ σ', Upd' K sp B (tgSlots tg) ρ ρ' σ σ' → Q σ' H) → g v σ H Q)
    (hs : ∀ i ∈ tgSlots tg, i ∈ vs)
    (hi : ∀ σ H R, tI K ρ mu k es k1 σ H R → wi σ H R)
    (hcond : ∀ d ρ' k b k', asg tg d (wipeR ρ vs) = some ρ' → q ρ' k = some (b, k') → ∀ σ H Q, tDT K ρ' mu k b k' σ H Q → tt σ H Q)
    (helt : ∀ d ρ' k' k'' y, asg tg d (wipeR ρ vs) = some ρ' → f ρ' k' = some (y, k'') → ∀ σ H Q, tD K ρ' mu k' y k'' σ H Q → te σ H Q)
    (hl : lineOk es.length = true) (hc : compD f q tg (wipeR ρ vs) es k1 = some (ys, k2)) (h : tFr K ρ mu k ys k2 σ H Q) : tLc wi g tt te vs σ H Q := by
  obtain ⟨sp, B, w, s, ri, hQ⟩ := h
  refine hi σ H _ ⟨sp, B, w, s, ri, fun J B1 H1 g1 s1 hJ => ?_⟩
  intro D hD
  have hsp := s1.ne hD
  have hB1D := B_none g1.wd hD
  -- what stands at a turn
  let Inv' : Nat → Hp → Prop := fun i H2 => i ≤ es.length ∧ ∃ B2 ki rest accv accd, Ge sp B1 H1 B2 H2 ∧ B2 D = none ∧ SpotAt sp ki H2 ∧ H2 D = some (.lst accv) ∧ RepL K sp B2 accv accd ∧ accd.length ≤ i ∧
    compD f q tg (wipeR ρ vs) (es.drop i) ki = some (rest, k2) ∧ accd ++ rest = ys
  refine ⟨fun i m H2 => m = es.length - i ∧ Inv' i H2, ⟨es.length, by simp, Nat.zero_le _, B1, k1, ys, [], [], Ge.newOut g1.wd s1 hD, hB1D, s1.ge hD, upd_same, .nil, Nat.zero_le _, by simpa using hc, rfl⟩, ?_⟩
  rintro i m H2 ⟨rfl, hile, B2, ki, rest, accv, accd, g2, hb2, s2, hd2, ra, hlen, hcomp, happ⟩
  by_cases hlt : i < es.length
  · refine .inr ?_
    have hdi : es[i]? = some es[i] := List.getElem?_eq_getElem hlt
    obtain ⟨hgo, hy⟩ := (hJ sp B2 H2 ki g2.lt s2).1 i _ hdi
    refine ⟨hgo, Inv' (i + 1), fun H' hH' => ⟨es.length - (i + 1), by omega, rfl, hH'⟩, fun v H3 hyld => ?_⟩
    obtain ⟨B3, g3, s3, r3⟩ := hy v H3 hyld
    have hdrop : es.drop i = es[i] :: es.drop (i + 1) := List.drop_eq_getElem_cons hlt
    rw [hdrop] at hcomp
    simp only [compD] at hcomp
    split at hcomp
    · cases hcomp
    rename_i ρ1 easg
    have hd3 : H3 D = some (.lst accv) := g3.hh D _ hsp hd2
    have hb3 : B3 D = none := g3.old D _ hd2 hb2
    have g13 := g2.trans g3
    refine hg sp B3 v _ _ ρ1 _ H3 _ g3.wd.sub (by rw [wipe_length, wipeR_length]; exact ri.1) r3 easg fun σ3 u3 => ?_
    refine ⟨wipe_back u3 hs, ?_⟩
    have ri3 : RI K sp B3 mu ρ1 σ3 := ri_upd (ri_wipe (ri.ext (g1.bb.trans g13.bb))) u3
    split at hcomp
    · cases hcomp
    · rename_i ka eq
      -- left out
      refine hcond _ ρ1 _ _ _ easg eq _ _ _ ⟨sp, B3, g3.wd, s3, ri3, fun B4 H4 g4 s4 => ?_⟩
      refine iteF ?_
      exact ⟨hlt, B4, ka, rest, accv, accd, g13.trans g4, g4.old D _ hd3 hb3, s4, g4.hh D _ hsp hd3, RepL.ext (g3.bb.trans g4.bb) _ _ ra, by omega, hcomp, happ⟩
    · rename_i ka eq
      split at hcomp
      · cases hcomp
      rename_i yv kb ef
      split at hcomp
      · cases hcomp
      rename_i zs kc ec
      cases hcomp
      refine hcond _ ρ1 _ _ _ easg eq _ _ _ ⟨sp, B3, g3.wd, s3, ri3, fun B4 H4 g4 s4 => ?_⟩
      refine iteT ?_
      refine helt _ ρ1 ka _ _ easg ef _ _ _ ⟨sp, B4, g4.wd, s4, ri3.ext g4.bb, fun v5 B5 H5 g5 s5 r5 => ?_⟩
      have hd5 : H5 D = some (.lst accv) := g5.hh D _ hsp (g4.hh D _ hsp hd3)
      have hb5 : B5 D = none := g5.old D _ (g4.hh D _ hsp hd3) (g4.old D _ hd3 hb3)
      have g15 := g13.trans (g4.trans g5)
      have hz : accv.length < sizeLine := by
        rw [ra.len]
        have : es.length ≤ 16777216 := by simpa [lineOk] using hl
        show _ < 2 ^ 24
        omega
      refine ⟨accv, hd5, hz, hlt, B5, kb, zs, accv ++ [v5], accd ++ [yv], ⟨fun p o hne ho => ?_, g15.bb, ⟨fun p o ho => ?_, g15.wd.spn⟩, g15.old⟩, hb5, ?_, upd_same, (RepL.ext (g3.bb.trans (g4.bb.trans g5.bb)) _ _ ra).append (.cons r5 .nil), by simp; omega, ec, by simpa using happ⟩
      · rw [upd_ne (ne_of_none ho hD)]; exact g15.hh p o hne ho
      · rw [upd_ne (ne_of_none ho hb5)]; exact g15.wd.sub p o ho
      · have hne : ∀ p, sp = some p → p ≠ D := fun p hp e => hsp (by rw [hp, e])
        cases sp with
        | none => cases kb <;> exact s5
        | some p =>
          cases kb with
          | none => exact s5
          | some m =>
            show upd H5 D _ p = _
            rw [upd_ne (hne p rfl)]
            exact s5
  · refine .inl ?_
    have hi : i = es.length := by omega
    subst hi
    refine ⟨(hJ sp B2 H2 ki g2.lt s2).2, ?_⟩
    rw [List.drop_length] at hcomp
    simp only [compD, Option.some.injEq, Prod.mk.injEq] at hcomp
    obtain ⟨rfl, rfl⟩ := hcomp
    rw [List.append_nil] at happ
    subst happ
    exact hQ D accv B2 H2 (none_back g1 s1 hD) (g1.trans g2) s2 hd2 hb2 ra

theorem lookup_relS_keep' {scope sc : Scope} {s : Str} {k : NameKind} (hk : k ≠ .free) (h : scope.names.lookup s = some k) : (relS scope sc).names.lookup s = some k := lookup_relS_keep hk h
theorem xf_blk (hx : XF Γ w0 ds n sc N X) {scope : Scope} (s : Shared) (H : Hp) (C : Addr) (cl : List (Str × Addr)) (fp : List Addr) : XF Γ w0 ds n (relS scope sc) N (X.blk s H scope (compEnvC scope cl C X.env) fp) := by
  refine ⟨hx.F, ?_, hx.nn, hx.nd, hx.calm, hx.room⟩
  show (compEnvC scope cl C X.env).scope = _
  rw [← hx.sc]
  rfl
theorem tok_blk (hx : XF Γ w0 ds n sc N X) {scope : Scope} (s : Shared) (H : Hp) (C : Addr) (cl : List (Str × Addr)) (fp : List Addr) : TOk (X.blk s H scope (compEnvC scope cl C X.env) fp) scope := by
  intro u hu
  have hsc : (X.blk s H scope (compEnvC scope cl C X.env) fp).env.scope = relS scope X.env.scope := rfl
  unfold isLoc at hu
  split at hu
  · rename_i hk
    have := lookup_relS_keep' (sc := X.env.scope) (by decide) hk
    exact ⟨.inl (by rw [hsc]; exact this), .inr (by rw [hsc]; exact this)⟩
  · rename_i hk
    have := lookup_relS_keep' (sc := X.env.scope) (by decide) hk
    refine ⟨.inr (by rw [hsc]; exact this), .inl ?_⟩
    show (scope.names.lookup u == some .cell) = true
    rw [hk]; rfl
  · cases hu
theorem cTgIn_of {scope : Scope} {own : List Nat} {e : Expr} {tg : Tg} (h : cTgIn scope N own e = some tg) : cTg scope N 8 e = some tg ∧ ∀ i ∈ tgSlots tg, i ∈ own := by
  unfold cTgIn at h
  split at h
  · cases h
  · rename_i t ht
    split at h
    · rename_i ha
      cases h
      refine ⟨ht, fun i hi => ?_⟩
      have := List.all_eq_true.mp ha i hi
      simpa using this
    · cases h
/-- one reading for all states -/
def tDU (K : PySem.W.Frag) (c : Call) (il : E) : TE := fun σ H Q => ∃ ρ mu k d k', evE c il ρ k = some (d, k') ∧ avE mu il = true ∧ tD K ρ mu k d k' σ H Q
def tTU (K : PySem.W.Frag) (c : Call) (il : T) : TT := fun σ H Q => ∃ ρ mu k d k', evT c il ρ k = some (d, k') ∧ avT mu il = true ∧ tDT K ρ mu k d k' σ H Q
theorem peU (h : PED X c e x) : PE X e (tDU X.K c x) := ⟨fun pins s σ H Q I ⟨ρ, mu, k, d, k', h1, h2, h3⟩ => (h ρ mu k d k' h1 h2).run pins s σ H Q I h3⟩
theorem ptU {x : T} (h : PTD X c e x) : PT X e (tTU X.K c x) := ⟨fun pins s σ H Q I ⟨ρ, mu, k, d, k', h1, h2, h3⟩ => (h ρ mu k d k' h1 h2).run pins s σ H Q I h3⟩
/-- a target's reading, the same in every context over K -/
def gU (K : PySem.W.Frag) (tg : Tg) : TG := fun v σ H Q => ∃ sp B d ρ ρ', Ext B H ∧ σ.length = ρ.length ∧ Rep K sp B v d ∧ asg tg d ρ = some ρ' ∧ ∀ σ', Upd' K sp B (tgSlots tg) ρ ρ' σ σ' → Q σ' H
theorem pgU {tg : Tg} (h : PGD X e tg) : PG X e (gU X.K tg) := by
  obtain ⟨g, h1, h2⟩ := h
  exact ⟨fun pins s σ H v u Q I r ⟨sp, B, d, ρ, ρ', q1, q2, q3, q4, q5⟩ => h1.run pins s σ H v u Q I r (h2 sp B v d ρ ρ' σ H Q q1 q2 q3 q4 q5)⟩
theorem gU_ok {K : PySem.W.Frag} {tg : Tg} : ∀ sp B v d ρ ρ' σ H (Q : L2.St → Hp → Prop), Ext B H → σ.length = ρ.length → Rep K sp B v d → asg tg d ρ = some ρ' → (∀ σ', Upd' K sp B (tgSlots tg) ρ ρ' σ σ' → Q σ' H) → gU K tg v σ H Q :=
  fun sp B v d ρ ρ' σ H Q q1 q2 q3 q4 q5 => ⟨sp, B, d, ρ, ρ', q1, q2, q3, q4, q5⟩
def tIU (K : PySem.W.Frag) (c : Call) (il : I) : TI := fun σ H R => ∃ ρ mu k es k', evI c il ρ k = some (es, k') ∧ avI mu il = true ∧ tI K ρ mu k es k' σ H R
theorem piU {il : I} (h : PID X c t e il) : PI X t e (tIU X.K c il) := ⟨fun pins s σ H Q I ⟨ρ, mu, k, d, k', h1, h2, h3⟩ => (h ρ mu k d k' h1 h2).run pins s σ H Q I h3⟩
/-- all that is asked of a comprehension's parts -/
structure CParts (X : Cx) (c : Call) (N : List Str) (scope : Scope) (tg it elt : Expr) (tgd : Tg) (itd : I) (eltd : E) : Prop where
  ok : BlkOk X.N X.env.scope scope (ownOf N scope.names)
  tgt : ∀ (s : Shared) (H : Hp) (C : Addr) (cl : List (Str × Addr)) (fp : List Addr), PGD (X.blk s H scope (compEnvC scope cl C X.env) fp) tg tgd
  own : ∀ i ∈ tgSlots tgd, i ∈ (ownOf N scope.names).map (·.2)
  itr : PID X c tg it itd
  elt : ∀ (s : Shared) (H : Hp) (C : Addr) (cl : List (Str × Addr)) (fp : List Addr), PED (X.blk s H scope (compEnvC scope cl C X.env) fp) c elt eltd
theorem comp0_rd {scope : Scope} {tg it elt : Expr} {tgd : Tg} {itd : I} {eltd : E} (P : CParts X c N scope tg it elt tgd itd eltd) {ρ : Rho} {mu : List Nat} {k k' : Ky} {d : D} (he : evE c (.comp0 eltd tgd itd ((ownOf N scope.names).map (·.2))) ρ k = some (d, k')) (hav : avE mu (.comp0 eltd tgd itd ((ownOf N scope.names).map (·.2))) = true) :
    ∃ ys, d = .lst ys ∧ ∀ σ H Q, tFr X.K ρ mu k ys k' σ H Q → tLc (tIU X.K c itd) (gU X.K tgd) tYes (tDU X.K c eltd) ((ownOf N scope.names).map (·.2)) σ H Q := by
  simp only [evE] at he
  simp only [avE, Bool.and_eq_true] at hav
  split at he
  · cases he
  rename_i es k1 e1
  split at he
  · rename_i hl
    split at he
    · cases he
    rename_i ys k2 e2
    cases he
    refine ⟨ys, rfl, fun σ H Q h => ?_⟩
    exact comp_rd gU_ok P.own (fun _ _ _ h => ⟨ρ, mu, k, es, k1, e1, hav.2, h⟩) (fun d ρ' k b k' _ e σ H Q ⟨sp, B, w, s, ri, q⟩ => by
      simp only [Option.some.injEq, Prod.mk.injEq] at e
      obtain ⟨rfl, rfl⟩ := e
      exact q B H (Ge.refl w) s) (fun d ρ' k' k'' y _ e σ H Q h => ⟨ρ', mu, k', y, k'', e, hav.1, h⟩) hl e2 h
  · cases he
theorem comp1_rd {scope : Scope} {tg it elt : Expr} {tgd : Tg} {itd : I} {eltd : E} {qd : T} (P : CParts X c N scope tg it elt tgd itd eltd) {ρ : Rho} {mu : List Nat} {k k' : Ky} {d : D} (he : evE c (.comp1 eltd tgd itd qd ((ownOf N scope.names).map (·.2))) ρ k = some (d, k')) (hav : avE mu (.comp1 eltd tgd itd qd ((ownOf N scope.names).map (·.2))) = true) :
    ∃ ys, d = .lst ys ∧ ∀ σ H Q, tFr X.K ρ mu k ys k' σ H Q → tLc (tIU X.K c itd) (gU X.K tgd) (tTU X.K c qd) (tDU X.K c eltd) ((ownOf N scope.names).map (·.2)) σ H Q := by
  simp only [evE] at he
  simp only [avE, Bool.and_eq_true] at hav
  split at he
  · cases he
  rename_i es k1 e1
  split at he
  · rename_i hl
    split at he
    · cases he
    rename_i ys k2 e2
    cases he
    refine ⟨ys, rfl, fun σ H Q h => ?_⟩
    exact comp_rd gU_ok P.own (fun _ _ _ h => ⟨ρ, mu, k, es, k1, e1, hav.1.2, h⟩) (fun d ρ' k b k' _ e σ H Q h => ⟨ρ', mu, k, b, k', e, hav.2, h⟩) (fun d ρ' k' k'' y _ e σ H Q h => ⟨ρ', mu, k', y, k'', e, hav.1.1, h⟩) hl e2 h
  · cases he
theorem d_comp0 (hx : XF Γ w0 ds n sc N X) {scope : Scope} {tg it elt : Expr} {tgd : Tg} {itd : I} {eltd : E} (hit : plainE it = true) (P : CParts X c N scope tg it elt tgd itd eltd) :
    PED X c (.ListComp elt [⟨tg, it, [], 0⟩] scope pos) (.comp0 eltd tgd itd ((ownOf N scope.names).map (·.2))) := by
  intro ρ mu k d k' he hav
  obtain ⟨ys, rfl, h2⟩ := comp0_rd P he hav
  exact (pe_lc hx.calm (by rw [hx.nn]; exact hx.nd) (piU P.itr) P.ok (fun s H C cl fp => pgU (P.tgt s H C cl fp)) (fun s H C cl fp => pts_nil) (fun s H C cl fp => peU (P.elt s H C cl fp)) (noSet_of hit X.env)).wk fun σ H Q h => h2 σ H Q (tFr_of h)
theorem d_comp1 (hx : XF Γ w0 ds n sc N X) {scope : Scope} {tg it elt q : Expr} {tgd : Tg} {itd : I} {eltd : E} {qd : T} (hit : plainE it = true) (P : CParts X c N scope tg it elt tgd itd eltd)
    (hq : ∀ (s : Shared) (H : Hp) (C : Addr) (cl : List (Str × Addr)) (fp : List Addr), PTD (X.blk s H scope (compEnvC scope cl C X.env) fp) c q qd) :
    PED X c (.ListComp elt [⟨tg, it, [q], 0⟩] scope pos) (.comp1 eltd tgd itd qd ((ownOf N scope.names).map (·.2))) := by
  intro ρ mu k d k' he hav
  obtain ⟨ys, rfl, h2⟩ := comp1_rd P he hav
  exact (pe_lc hx.calm (by rw [hx.nn]; exact hx.nd) (piU P.itr) P.ok (fun s H C cl fp => pgU (P.tgt s H C cl fp)) (fun s H C cl fp => pts_one (ptU (hq s H C cl fp))) (fun s H C cl fp => peU (P.elt s H C cl fp)) (noSet_of hit X.env)).wk fun σ H Q h => h2 σ H Q (tFr_of h)
end
end Mini
namespace Mini
open PySem PySem.Spec PyProof.Rows L2
section
variable {c : Call} {Γ : CT} {w0 n : Nat} {ds : List Def}

theorem mapO_plain {m : Nat} {sc : Scope} {N : List Str} : ∀ {es : List Expr} {xs : List E}, mapO (cE Γ m sc N) es = some xs → ∀ e ∈ es, plainE e = true
  | [], _, _ => fun e h => by cases h
  | e :: es, xs, h => by
    obtain ⟨y, zs, h1, h2, _⟩ := mapO_cons h
    intro e' he
    rcases List.mem_cons.mp he with rfl | he
    · exact cE_shape h1
    · exact mapO_plain h2 e' he
theorem mapO_pad {m : Nat} {sc : Scope} {N : List Str} {X : Cx} (ih : ∀ e il, cE Γ m sc N e = some il → PED X c e il) : ∀ {es : List Expr} {xs : List E}, mapO (cE Γ m sc N) es = some xs → PAD X c es (toEs xs)
  | [], _, h => by cases h; exact a_nil
  | e :: es, xs, h => by
    obtain ⟨y, zs, h1, h2, rfl⟩ := mapO_cons h
    exact a_cons (cE_shape h1) (ih e y h1) (mapO_pad ih h2)
theorem mapO_ne {α β : Type} {f : α → Option β} {xs : List α} {ys : List β} (h : mapO f xs = some ys) : ys.length = xs.length := by
  induction xs generalizing ys with
  | nil => cases h; rfl
  | cons x xs ih =>
    obtain ⟨y, zs, h1, h2, rfl⟩ := mapO_cons h
    simp [ih h2]

structure IH (Γ : CT) (w0 : Nat) (ds : List Def) (n : Nat) (m : Nat) : Prop where
  e : ∀ {sc : Scope} {N : List Str} {X : Cx} {e : Expr} {il : E}, XF Γ w0 ds n sc N X → cE Γ m sc N e = some il → PED X (run w0 ds n) e il
  t : ∀ {sc : Scope} {N : List Str} {X : Cx} {e : Expr} {il : T}, XF Γ w0 ds n sc N X → cT Γ m sc N e = some il → PTD X (run w0 ds n) e il
  i : ∀ {sc : Scope} {N : List Str} {X : Cx} {tg e : Expr} {il : I}, XF Γ w0 ds n sc N X → cI Γ m sc N tg e = some il → PID X (run w0 ds n) tg e il ∧ plainE e = true

theorem parts_of {m : Nat} (ih : IH Γ w0 ds n m) {sc : Scope} {N : List Str} {X : Cx} (hx : XF Γ w0 ds n sc N X) {scope : Scope} {tg it elt : Expr} {tgd : Tg} {itd : I} {eltd : E}
    (hb : blkC N sc scope (ownOf N scope.names) = true) (h1 : cTgIn scope N ((ownOf N scope.names).map (·.2)) tg = some tgd) (h2 : cI Γ m sc N tg it = some itd) (h3 : cE Γ m (relS scope sc) N elt = some eltd) :
    CParts X (run w0 ds n) N scope tg it elt tgd itd eltd := by
  obtain ⟨q1, q2⟩ := cTgIn_of h1
  refine ⟨?_, fun s H C cl fp => ?_, q2, (ih.i hx h2).1, fun s H C cl fp => ih.e (xf_blk hx s H C cl fp) h3⟩
  · rw [hx.nn, hx.sc]; exact blkOk_by hb
  · exact cTg_ok (X := X.blk s H scope (compEnvC scope cl C X.env) fp) hx.nn hx.nd hx.calm (tok_blk hx s H C cl fp) 8 tg tgd q1

theorem step_e {m : Nat} (ih : IH Γ w0 ds n m) {sc : Scope} {N : List Str} {X : Cx} {e : Expr} {il : E} (hx : XF Γ w0 ds n sc N X) (h : cE Γ (m + 1) sc N e = some il) : PED X (run w0 ds n) e il := by
  cases e <;> simp only [cE] at h <;> first | (cases h; done) | skip
  · -- BoolOp
    rename_i op vs pos
    split at h
    · rename_i a b
      split at h <;> first | (cases h; done) | skip
      · rename_i x y _ h1 h2; cases h; exact d_and (ih.e hx h1) (d_one (ih.e hx h2))
      · rename_i x y _ h1 h2; cases h; exact d_or (ih.e hx h1) (d_one (ih.e hx h2))
    · rename_i a b e
      split at h <;> first | (cases h; done) | skip
      · rename_i x y z _ h1 h2 h3; cases h; exact d_and (ih.e hx h1) (d_and (ih.e hx h2) (d_one (ih.e hx h3)))
      · rename_i x y z _ h1 h2 h3; cases h; exact d_or (ih.e hx h1) (d_or (ih.e hx h2) (d_one (ih.e hx h3)))
    · rename_i a b e f
      split at h <;> first | (cases h; done) | skip
      · rename_i x y z u _ h1 h2 h3 h4; cases h; exact d_and (ih.e hx h1) (d_and (ih.e hx h2) (d_and (ih.e hx h3) (d_one (ih.e hx h4))))
      · rename_i x y z u _ h1 h2 h3 h4; cases h; exact d_or (ih.e hx h1) (d_or (ih.e hx h2) (d_or (ih.e hx h3) (d_one (ih.e hx h4))))
    · cases h
  · -- BinOp
    rename_i a op b pos
    split at h <;> first | (cases h; done) | skip
    rename_i o x y h1 h2 h3
    cases h
    exact d_bin h1 (ih.e hx h2) (ih.e hx h3)
  · -- UnaryOp
    rename_i op a pos
    split at h <;> first | (cases h; done) | skip
    · rename_i x _ h1; cases h; exact d_neg (ih.e hx h1)
    · rename_i x _ h1; cases h; exact d_not (ih.e hx h1)
  · -- IfExp
    rename_i t a b pos
    split at h <;> first | (cases h; done) | skip
    rename_i x y z h1 h2 h3
    cases h
    exact d_ite (ih.t hx h1) (ih.e hx h2) (ih.e hx h3)
  · -- ListComp
    rename_i elt gens scope pos
    split at h <;> first | (cases h; done) | skip
    rename_i tg it ifs asy
    split at h <;> first | (cases h; done) | skip
    rename_i hb
    simp only [Bool.and_eq_true] at hb
    have ha : asy = 0 := by simpa using hb.1
    subst ha
    split at h <;> first | (cases h; done) | skip
    rename_i tgd itd eltd h1 h2 h3
    have P := parts_of ih hx hb.2 h1 h2 h3
    have hit := (ih.i hx h2).2
    split at h <;> first | (cases h; done) | skip
    · cases h
      exact d_comp0 hx hit P
    · rename_i q
      cases e1 : cT Γ m (relS scope sc) N q with
      | none => rw [e1] at h; cases h
      | some qd =>
        rw [e1] at h
        cases h
        exact d_comp1 hx hit P fun s H C cl fp => ih.t (xf_blk hx s H C cl fp) e1
  · -- Compare
    rename_i a ops bs pos
    split at h
    · rename_i op b
      split at h
      · split at h <;> first | (cases h; done) | skip
        rename_i j p
        cases e1 : cE Γ m sc N a with
        | none => rw [e1] at h; cases h
        | some x => rw [e1] at h; cases h; exact d_isN (ih.e hx e1)
      · split at h <;> first | (cases h; done) | skip
        rename_i j p
        cases e1 : cE Γ m sc N a with
        | none => rw [e1] at h; cases h
        | some x => rw [e1] at h; cases h; exact d_notN (ih.e hx e1)
      · split at h <;> first | (cases h; done) | skip
        rename_i o x y h1 h2 h3
        cases h
        exact d_cmp hx.room h1 (cE_shape h3) (ih.e hx h2) (ih.e hx h3)
    · rename_i op op' b e
      split at h <;> first | (cases h; done) | skip
      rename_i o o' x y z h1 h2 h3 h4 h5
      cases h
      exact d_chain hx.room h1 h2 (cE_shape h4) (cE_shape h5) (ih.e hx h3) (ih.e hx h4) (ih.e hx h5)
    · cases h
  · -- Call
    rename_i f args kw pos
    split at h <;> first | (cases h; done) | skip
    rename_i s p
    split at h <;> first | (cases h; done) | skip
    rename_i hg
    split at h
    · rename_i i hi
      cases e1 : mapO (cE Γ m sc N) args with
      | none => rw [e1] at h; cases h
      | some xs =>
        rw [e1] at h
        cases h
        cases args with
        | nil => cases e1; exact d_call0 hx rfl hg hi
        | cons a as => exact d_call hx rfl hg hi (by simp) (mapO_plain e1) (mapO_pad (fun e il => ih.e hx) e1)
    · split at h
      · rename_i hs
        split at h <;> first | (cases h; done) | skip
        rename_i a t
        split at h
        · cases h
        rename_i y hy
        split at h <;> first | (cases h; done) | skip
        · rename_i ts j p2
          split at h <;> first | (cases h; done) | skip
          rename_i hlen
          cases e1 : mapO (cTy sc) ts with
          | none => rw [e1] at h; cases h
          | some us =>
            rw [e1] at h
            cases h
            have hl := mapO_ne e1
            exact d_isiT hx hg hs (cE_shape hy) (by intro e; rw [e] at hl; simp at hl; omega) (by show _ ≤ 2 ^ 24; omega) e1 (ih.e hx hy)
        · rename_i z pz
          cases e1 : cTy sc (.Name z pz) with
          | none => rw [e1] at h; cases h
          | some u =>
            rw [e1] at h
            cases h
            exact d_isi1 hx hg hs (cE_shape hy) e1 (ih.e hx hy)
      · split at h
        · rename_i hgcd
          split at h <;> first | (cases h; done) | skip
          rename_i a b
          cases e1 : mapO (cE Γ m sc N) [a, b] with
          | none => rw [e1] at h; cases h
          | some xs =>
            rw [e1] at h
            cases h
            exact d_gcd hx hg (by simpa using hgcd) (by simp) (mapO_plain e1) (mapO_pad (fun e il => ih.e hx) e1)
        · split at h <;> first | (cases h; done) | skip
          rename_i b a as hb
          cases e1 : mapO (cE Γ m sc N) (a :: as) with
          | none => rw [e1] at h; cases h
          | some xs =>
            rw [e1] at h
            cases h
            exact d_bi hx hg hb (by simp) (mapO_plain e1) (mapO_pad (fun e il => ih.e hx) e1)
  · -- Constant
    rename_i cst j pos
    split at h <;> first | (cases h; done) | skip
    · cases h; exact d_int
    · cases h; exact d_bl
    · cases h; exact d_non
    · cases h; exact d_str
  · -- Subscript
    rename_i a i pos
    split at h
    · rename_i lo hi st p2
      split at h <;> first | (cases h; done) | skip
      rename_i x h1
      split at h
      · cases h; exact d_sli0 (ih.e hx h1)
      · rename_i l
        cases e1 : cE Γ m sc N l with
        | none => rw [e1] at h; cases h
        | some u => rw [e1] at h; cases h; exact d_sli1 (ih.e hx h1) (ih.e hx e1)
      · rename_i l
        cases e1 : cE Γ m sc N l with
        | none => rw [e1] at h; cases h
        | some u => rw [e1] at h; cases h; exact d_sli2 (ih.e hx h1) (ih.e hx e1)
      · split at h <;> first | (cases h; done) | skip
        rename_i l' h' u v h2 h3
        cases h
        exact d_sli3 (ih.e hx h1) (ih.e hx h2) (ih.e hx h3)
    · split at h <;> first | (cases h; done) | skip
      rename_i x y h1 h2
      cases h
      exact d_idx (cE_shape h2) (ih.e hx h1) (ih.e hx h2)
  · -- Name
    rename_i s p
    split at h
    · rename_i hg
      cases e1 : Γ.consts.lookup s with
      | none => rw [e1] at h; cases h
      | some d => rw [e1] at h; cases h; exact d_cst hx hg e1
    · cases e1 : slot sc N s with
      | none => rw [e1] at h; cases h
      | some i => rw [e1] at h; cases h; exact d_var hx e1
  · -- List
    rename_i es pos
    cases e1 : mapO (cE Γ m sc N) es with
    | none => rw [e1] at h; cases h
    | some xs => rw [e1] at h; cases h; exact d_lst (mapO_pad (fun e il => ih.e hx) e1)
  · -- Tuple
    rename_i es j pos
    cases e1 : mapO (cE Γ m sc N) es with
    | none => rw [e1] at h; cases h
    | some xs => rw [e1] at h; cases h; exact d_tup (mapO_pad (fun e il => ih.e hx) e1)

theorem step_t {m : Nat} (ihs : ∀ m', m' ≤ m → IH Γ w0 ds n m') {sc : Scope} {N : List Str} {X : Cx} {e : Expr} {il : T} (hx : XF Γ w0 ds n sc N X) (h : cT Γ (m + 1) sc N e = some il) : PTD X (run w0 ds n) e il := by
  have ih := ihs m (Nat.le_refl _)
  have dflt : ∀ e il, (∀ env whole, isTrue e env whole = (do let v ← whole; standAt e.pos; holding [v] (truthy v))) → (cE Γ m sc N e).map T.val = some il → PTD X (run w0 ds n) e il := by
    intro e il he h
    cases e1 : cE Γ m sc N e with
    | none => rw [e1] at h; cases h
    | some x => rw [e1] at h; cases h; exact t_truth he (ih.e hx e1)
  cases e <;> simp only [cT] at h <;> first | (exact dflt _ _ (fun _ _ => rfl) h) | (cases h; done) | skip
  · rename_i op vs pos
    split at h
    · rename_i a b
      split at h <;> first | (cases h; done) | skip
      · rename_i x y _ h1 h2; cases h; exact w_pt (w_and (ih.t hx h1) (w_and1 (ih.t hx h2)))
      · rename_i x y _ h1 h2; cases h; exact w_pt (w_or (ih.t hx h1) (w_or1 (ih.t hx h2)))
    · rename_i a b e
      split at h <;> first | (cases h; done) | skip
      · rename_i x y z _ h1 h2 h3; cases h; exact w_pt (w_and (ih.t hx h1) (w_and (ih.t hx h2) (w_and1 (ih.t hx h3))))
      · rename_i x y z _ h1 h2 h3; cases h; exact w_pt (w_or (ih.t hx h1) (w_or (ih.t hx h2) (w_or1 (ih.t hx h3))))
    · rename_i a b e f
      split at h <;> first | (cases h; done) | skip
      · rename_i x y z u _ h1 h2 h3 h4; cases h; exact w_pt (w_and (ih.t hx h1) (w_and (ih.t hx h2) (w_and (ih.t hx h3) (w_and1 (ih.t hx h4)))))
      · rename_i x y z u _ h1 h2 h3 h4; cases h; exact w_pt (w_or (ih.t hx h1) (w_or (ih.t hx h2) (w_or (ih.t hx h3) (w_or1 (ih.t hx h4)))))
    · cases h
  · -- UnaryOp
    rename_i op a pos
    cases op <;> simp only [cT] at h
    · exact dflt _ _ (fun _ _ => rfl) h
    · cases e1 : cT Γ m sc N a with
      | none => rw [e1] at h; cases h
      | some x => rw [e1] at h; cases h; exact t_not (ih.t hx e1)
    · exact dflt _ _ (fun _ _ => rfl) h
    · exact dflt _ _ (fun _ _ => rfl) h
  · -- Compare: by its own rules
    rename_i a ops bs pos
    cases m with
    | zero => simp [cE] at h
    | succ m =>
      have ih2 := ihs m (Nat.le_succ _)
      simp only [cE] at h
      split at h
      · rename_i op b
        split at h
        · split at h <;> first | (simp at h; done) | skip
          rename_i j p
          cases e1 : cE Γ m sc N a with
          | none => rw [e1] at h; simp at h
          | some x => rw [e1] at h; cases h; exact t_isN (ih2.e hx e1)
        · split at h <;> first | (simp at h; done) | skip
          rename_i j p
          cases e1 : cE Γ m sc N a with
          | none => rw [e1] at h; simp at h
          | some x => rw [e1] at h; cases h; exact t_notN (ih2.e hx e1)
        · split at h <;> first | (simp at h; done) | skip
          rename_i o x y h1 h2 h3
          cases h
          exact t_cmp hx.room h1 (cE_shape h3) (ih2.e hx h2) (ih2.e hx h3)
      · rename_i op op' b e
        split at h <;> first | (simp at h; done) | skip
        rename_i o o' x y z h1 h2 h3 h4 h5
        cases h
        exact t_chain hx.room h1 h2 (cE_shape h4) (cE_shape h5) (ih2.e hx h3) (ih2.e hx h4) (ih2.e hx h5)
      · simp at h
theorem step_i {m : Nat} (ih : IH Γ w0 ds n m) {sc : Scope} {N : List Str} {X : Cx} {tg e : Expr} {il : I} (hx : XF Γ w0 ds n sc N X) (h : cI Γ (m + 1) sc N tg e = some il) : PID X (run w0 ds n) tg e il ∧ plainE e = true := by
  have dflt : ∀ e il, (cE Γ m sc N e).map I.seq = some il → PID X (run w0 ds n) tg e il ∧ plainE e = true := by
    intro e il h
    cases e1 : cE Γ m sc N e with
    | none => rw [e1] at h; cases h
    | some x => rw [e1] at h; cases h; exact ⟨i_seq (ih.e hx e1), cE_shape e1⟩
  simp only [cI] at h
  split at h
  · rename_i s px args kw po
    split at h
    · rename_i hs
      have hs' := beq_iff_eq.mp hs
      subst hs'
      split at h <;> first | (cases h; done) | skip
      rename_i hg
      simp only [Bool.and_eq_true, List.isEmpty_iff] at hg
      obtain ⟨hg, rfl⟩ := hg
      split at h <;> first | (cases h; done) | skip
      · rename_i a
        cases e1 : mapO (cE Γ m sc N) [a] with
        | none => rw [e1] at h; cases h
        | some xs =>
          rw [e1] at h
          cases h
          obtain ⟨x, zs, h1, h2, rfl⟩ := mapO_cons e1
          cases h2
          exact ⟨i_rng1 hx hg (cE_shape h1) (ih.e hx h1), rfl⟩
      · rename_i a b
        cases e1 : mapO (cE Γ m sc N) [a, b] with
        | none => rw [e1] at h; cases h
        | some xs =>
          rw [e1] at h
          cases h
          obtain ⟨x, zs, h1, h2, rfl⟩ := mapO_cons e1
          obtain ⟨y, zs, h3, h4, rfl⟩ := mapO_cons h2
          cases h4
          exact ⟨i_rng2 hx hg (cE_shape h1) (cE_shape h3) (ih.e hx h1) (ih.e hx h3), rfl⟩
      · rename_i a b e
        cases e1 : mapO (cE Γ m sc N) [a, b, e] with
        | none => rw [e1] at h; cases h
        | some xs =>
          rw [e1] at h
          cases h
          obtain ⟨x, zs, h1, h2, rfl⟩ := mapO_cons e1
          obtain ⟨y, zs, h3, h4, rfl⟩ := mapO_cons h2
          obtain ⟨z, zs, h5, h6, rfl⟩ := mapO_cons h4
          cases h6
          exact ⟨i_rng3 hx hg (cE_shape h1) (cE_shape h3) (cE_shape h5) (ih.e hx h1) (ih.e hx h3) (ih.e hx h5), rfl⟩
    · split at h
      · rename_i hs
        have hs' := beq_iff_eq.mp hs
        subst hs'
        split at h <;> first | (cases h; done) | skip
        rename_i hg
        simp only [Bool.and_eq_true, List.isEmpty_iff] at hg
        obtain ⟨⟨hg, rfl⟩, ht⟩ := hg
        split at h <;> first | (cases h; done) | skip
        rename_i a
        cases tg <;> simp only [isTupE, Bool.false_eq_true] at ht
        cases e1 : cE Γ m sc N a with
        | none => rw [e1] at h; cases h
        | some x => rw [e1] at h; cases h; exact ⟨i_enum hx hg (cE_shape e1) (ih.e hx e1), rfl⟩
      · split at h
        · rename_i hs
          have hs' := beq_iff_eq.mp hs
          subst hs'
          split at h <;> first | (cases h; done) | skip
          rename_i hg
          simp only [Bool.and_eq_true, List.isEmpty_iff] at hg
          obtain ⟨⟨hg, rfl⟩, ht⟩ := hg
          split at h <;> first | (cases h; done) | skip
          rename_i a b
          cases tg <;> simp only [isTupE, Bool.false_eq_true] at ht
          split at h <;> first | (cases h; done) | skip
          rename_i x y h1 h2
          cases h
          exact ⟨i_zip hx hg (cE_shape h1) (cE_shape h2) (ih.e hx h1) (ih.e hx h2), rfl⟩
        · split at h
          · rename_i hs
            have hs' := beq_iff_eq.mp hs
            subst hs'
            split at h <;> first | (cases h; done) | skip
            rename_i hg
            simp only [Bool.and_eq_true, List.isEmpty_iff] at hg
            obtain ⟨hg, rfl⟩ := hg
            split at h <;> first | (cases h; done) | skip
            rename_i a
            cases e1 : cE Γ m sc N a with
            | none => rw [e1] at h; cases h
            | some x => rw [e1] at h; cases h; exact ⟨i_rev hx hg (cE_shape e1) (ih.e hx e1), rfl⟩
          · exact dflt _ _ h
  · exact dflt _ _ h
theorem all_ih : ∀ m, ∀ m', m' ≤ m → IH Γ w0 ds n m' := by
  intro m
  induction m with
  | zero =>
    intro m' hm
    obtain rfl : m' = 0 := by omega
    exact ⟨fun _ h => by simp [cE] at h, fun _ h => by simp [cT] at h, fun _ h => by simp [cI] at h⟩
  | succ m ih =>
    intro m' hm
    by_cases h : m' = m + 1
    · subst h
      exact ⟨fun hx h => step_e (ih m (Nat.le_refl _)) hx h, fun hx h => step_t ih hx h, fun hx h => step_i (ih m (Nat.le_refl _)) hx h⟩
    · exact ih m' (by omega)
theorem ih_at (m : Nat) : IH Γ w0 ds n m := all_ih m m (Nat.le_refl _)
end
end Mini
namespace Mini
open PySem PySem.Spec PyProof.Rows L2

/-- from a def's entry -/
def GeS (sp0 sp : Option Addr) (B0 H0 B H : Hp) : Prop := (sp = sp0 ∨ (sp0 = none ∧ ∃ a, sp = some a ∧ H0 a = none)) ∧ Ge sp B0 H0 B H
theorem GeS.drop {sp0 sp : Option Addr} {B0 H0 B H : Hp} (g : GeS sp0 sp B0 H0 B H) (w : Wd sp0 B0 H0) : sp = sp0 ∧ Ge sp0 B0 H0 B H ∨ sp0 = none ∧ Ge none B0 H0 B H := by
  obtain ⟨h | ⟨h, a, rfl, ha⟩, g⟩ := g
  · subst h; exact .inl ⟨rfl, g⟩
  · subst h
    refine .inr ⟨rfl, fun x o _ hx => g.hh x o (fun e => by cases e; rw [ha] at hx; cases hx) hx, g.bb, ⟨g.wd.sub, fun _ e => by cases e⟩, g.old⟩
theorem GeS.trans {sp0 sp : Option Addr} {B0 H0 B H B' H' : Hp} (g : GeS sp0 sp B0 H0 B H) (h : Ge sp B H B' H') : GeS sp0 sp B0 H0 B' H' := ⟨g.1, g.2.trans h⟩
/-- the state at a statement -/
structure RS (K : PySem.W.Frag) (sp0 : Option Addr) (B0 H0 : Hp) (s : Sta) (sp : Option Addr) (B : Hp) (σ : L2.St) (H : Hp) : Prop where
  ge : GeS sp0 sp B0 H0 B H
  spot : SpotAt sp s.k H
  ri : RI K sp B s.mu s.ρ σ
  own : ∀ i, i ∈ s.mu → ∃ a vs ds, σ[i]? = some (some (.ref a)) ∧ s.ρ[i]? = some (some (.lst ds)) ∧ H a = some (.lst vs) ∧ RepL K sp B vs ds ∧ B a = none ∧ H0 a = none ∧ sp ≠ some a
  apart : ∀ i j a, i ∈ s.mu → j ∈ s.mu → σ[i]? = some (some (.ref a)) → σ[j]? = some (some (.ref a)) → i = j
section
variable {K : PySem.W.Frag} {sp0 sp : Option Addr} {B0 H0 B H : Hp} {s : Sta} {σ : L2.St}
theorem RS.wd (r : RS K sp0 B0 H0 s sp B σ H) : Wd sp B H := r.ge.2.wd
theorem RS.step {B' H' : Hp} {k : Ky} (r : RS K sp0 B0 H0 s sp B σ H) (g : Ge sp B H B' H') (hs : SpotAt sp k H') : RS K sp0 B0 H0 { s with k := k } sp B' σ H' := by
  refine ⟨r.ge.trans g, hs, r.ri.ext g.bb, fun i hi => ?_, r.apart⟩
  obtain ⟨a, vs, ds, h1, h2, h3, h4, h5, h6, h7⟩ := r.own i hi
  exact ⟨a, vs, ds, h1, h2, g.hh a _ h7 h3, RepL.ext g.bb _ _ h4, g.old a _ h3 h5, h6, h7⟩
/-- some of the mutable lists stand for good -/
theorem RS.freeze (r : RS K sp0 B0 H0 s sp B σ H) (mu' : List Nat) (hm : ∀ i ∈ mu', i ∈ s.mu) :
    ∃ B1, RS K sp0 B0 H0 { s with mu := mu' } sp B1 σ H ∧ Ext B B1 ∧ (∀ i a, i ∈ s.mu → i ∉ mu' → σ[i]? = some (some (.ref a)) → B1 a = H a) ∧ ∀ a, B a = none → B1 a = none ∨ ∃ i, i ∈ s.mu ∧ i ∉ mu' ∧ σ[i]? = some (some (.ref a)) := by
  classical
  let M : Addr → Prop := fun a => ∃ i, i ∈ s.mu ∧ i ∉ mu' ∧ σ[i]? = some (some (.ref a))
  let B1 : Hp := fun a => if M a then H a else B a
  have hM : ∀ a, M a → B1 a = H a := fun a h => if_pos h
  have hN : ∀ a, ¬ M a → B1 a = B a := fun a h => if_neg h
  have hMB : ∀ a, M a → B a = none ∧ H0 a = none ∧ sp ≠ some a := fun a ⟨i, h1, h2, h3⟩ => by
    obtain ⟨a', vs, ds, g1, g2, g3, g4, g5, g6, g7⟩ := r.own i h1
    rw [h3] at g1
    cases g1
    exact ⟨g5, g6, g7⟩
  have ext : Ext B B1 := fun a o h => by
    rw [hN a fun hm => by rw [(hMB a hm).1] at h; cases h]
    exact h
  have w1 : Wd sp B1 H := ⟨fun a o h => by
    by_cases hm : M a
    · rw [hM a hm] at h; exact h
    · rw [hN a hm] at h; exact r.wd.sub a o h, fun a h => by
    rw [hN a fun hm => (hMB a hm).2.2 h]
    exact r.wd.spn a h⟩
  refine ⟨B1, ⟨⟨r.ge.1, r.ge.2.hh, r.ge.2.bb.trans ext, w1, fun a o h hb => ?_⟩, r.spot, ⟨r.ri.1, fun i d hi hd => ?_⟩, fun i hi => ?_, fun i j a hi hj => r.apart i j a (hm i hi) (hm j hj)⟩, ext, fun i a h1 h2 h3 => hM a ⟨i, h1, h2, h3⟩, fun a hb => ?_⟩
  · rw [hN a fun hm => by rw [(hMB a hm).2.1] at h; cases h]
    exact r.ge.2.old a o h hb
  · by_cases hmu : i ∈ s.mu
    · obtain ⟨a', vs, ds, g1, g2, g3, g4, g5, g6, g7⟩ := r.own i hmu
      have hd' : s.ρ[i]? = some (some d) := hd
      rw [g2] at hd'
      cases hd'
      refine ⟨.ref a', g1, .lst ?_ (RepL.ext ext _ _ g4)⟩
      rw [hM a' ⟨i, hmu, hi, g1⟩]
      exact g3
    · obtain ⟨v, h1, h2⟩ := r.ri.2 i d hmu hd
      exact ⟨v, h1, Rep.ext ext _ _ h2⟩
  · obtain ⟨a', vs, ds, g1, g2, g3, g4, g5, g6, g7⟩ := r.own i (hm i hi)
    refine ⟨a', vs, ds, g1, g2, g3, RepL.ext ext _ _ g4, ?_, g6, g7⟩
    rw [hN a' fun ⟨j, h1, h2, h3⟩ => h2 (by rw [← r.apart i j a' (hm i hi) h1 g1 h3]; exact hi)]
    exact g5
  · by_cases hm : M a
    · exact .inr hm
    · exact .inl (by rw [hN a hm]; exact hb)
mutual
theorem rep_mask {B B' : Hp} (h : ∀ a o, B a = some o → (∀ xs, o ≠ .lst xs) → B' a = some o) : ∀ (d : D) (v : V), noL d = true → Rep K sp B v d → Rep K sp B' v d
  | .non, _, _, r => by cases r; exact .non
  | .bl b, _, _, r => by cases r; exact .bl b
  | .int i, _, _, r => by cases r; exact .int i
  | .str x, _, _, r => by cases r; exact .str x
  | .tup ds, _, n, r => by
    cases r with
    | tup h1 h2 =>
      refine .tup ?_ (repl_mask h ds _ (by simpa [noL] using n) h2)
      rcases h1 with (h1 | ⟨o, h1⟩) | h1
      · exact .inl (.inl (h _ _ h1 fun xs e => by cases e))
      · exact .inl (.inr ⟨o, h _ _ h1 fun xs e => by cases e⟩)
      · exact .inr h1
  | .lst ds, _, n, _ => by simp [noL] at n
  | .scr ds, _, n, _ => by simp [noL] at n
  | .spot, _, _, r => by
    cases r with
    | spot h => exact .spot h
theorem repl_mask {B B' : Hp} (h : ∀ a o, B a = some o → (∀ xs, o ≠ .lst xs) → B' a = some o) : ∀ (ds : List D) (vs : List V), noLs ds = true → RepL K sp B vs ds → RepL K sp B' vs ds
  | [], _, _, r => by cases r; exact .nil
  | d :: ds, _, n, r => by
    simp only [noLs, Bool.and_eq_true] at n
    cases r with
    | cons h1 h2 => exact .cons (rep_mask h d _ n.1 h1) (repl_mask h ds _ n.2 h2)
end
/-- the mutable lists come back -/
theorem RS.thaw {B1 B2 H2 : Hp} {k : Ky} (r : RS K sp0 B0 H0 s sp B σ H) (hfix : ∀ i a, i ∈ s.mu → σ[i]? = some (some (.ref a)) → B1 a = H a) (hB1 : ∀ a, B a = none → B1 a = none ∨ ∃ i, i ∈ s.mu ∧ σ[i]? = some (some (.ref a))) (hx : Ext B B1)
    (g : Ge sp B1 H B2 H2) (hs : SpotAt sp k H2) :
    ∃ B3, RS K sp0 B0 H0 { s with k := k } sp B3 σ H2 ∧ Ext B B3 ∧ Ge sp B H B3 H2 ∧ (∀ p, H p = none → B3 p = B2 p) ∧ ∀ a o, B2 a = some o → (∀ xs, o ≠ .lst xs) → B3 a = some o := by
  classical
  let M : Addr → Prop := fun a => ∃ i, i ∈ s.mu ∧ σ[i]? = some (some (.ref a))
  let B3 : Hp := fun a => if M a then none else B2 a
  have hM : ∀ a, M a → B3 a = none := fun a h => if_pos h
  have hN : ∀ a, ¬ M a → B3 a = B2 a := fun a h => if_neg h
  have own' : ∀ a, M a → ∃ vs, H a = some (.lst vs) ∧ B a = none ∧ sp ≠ some a := fun a ⟨i, h1, h3⟩ => by
    obtain ⟨a', vs, ds, g1, g2, g3, g4, g5, g6, g7⟩ := r.own i h1
    rw [h3] at g1
    cases g1
    exact ⟨vs, g3, g5, g7⟩
  have ext : Ext B B3 := fun a o h => by
    rw [hN a fun hm => by obtain ⟨_, _, e, _⟩ := own' a hm; rw [e] at h; cases h]
    exact g.bb a o (hx a o h)
  have g3 : Ge sp B H B3 H2 := by
    refine ⟨g.hh, ext, ⟨fun a o h => ?_, fun a h => ?_⟩, fun a o h hb => ?_⟩
    · by_cases hm : M a
      · rw [hM a hm] at h; cases h
      · rw [hN a hm] at h; exact g.wd.sub a o h
    · by_cases hm : M a
      · exact hM a hm
      · rw [hN a hm]; exact g.wd.spn a h
    · by_cases hm : M a
      · exact hM a hm
      · rw [hN a hm]
        rcases hB1 a hb with h1 | h1
        · exact g.old a o h h1
        · exact (hm h1).elim
  refine ⟨B3, r.step g3 hs, ext, g3, fun p hp => hN p fun hm => ?_, fun a o h hl => ?_⟩
  · obtain ⟨vs, e, _⟩ := own' p hm
    rw [hp] at e
    cases e
  · rw [hN a fun hm => ?_]
    · exact h
    · obtain ⟨vs, e, _, e3⟩ := own' a hm
      obtain ⟨i, h1, h3⟩ := hm
      have e1 := hfix i a h1 h3
      have e2 := g.bb a _ (e1.trans e)
      rw [h] at e2
      cases e2
      exact hl vs rfl
end
mutual
theorem avE_all (mu : List Nat) : ∀ (e : E), (∀ i ∈ mu, avE [i] e = true) → avE mu e = true
  | .var i, h => by
    simp only [avE, Bool.not_eq_true']
    cases hc : mu.contains i with
    | false => rfl
    | true =>
      have hm : i ∈ mu := by simpa using hc
      have := h i hm
      simp [avE] at this
  | .cst _, _ => rfl
  | .bin _ a b, h => by
    simp only [avE, Bool.and_eq_true] at h ⊢
    exact ⟨avE_all mu a fun i hi => (h i hi).1, avE_all mu b fun i hi => (h i hi).2⟩
  | .neg a, h => by
    simp only [avE] at h ⊢
    exact avE_all mu a h
  | .cmp _ a b, h => by
    simp only [avE, Bool.and_eq_true] at h ⊢
    exact ⟨avE_all mu a fun i hi => (h i hi).1, avE_all mu b fun i hi => (h i hi).2⟩
  | .chain _ _ a b c, h => by
    simp only [avE, Bool.and_eq_true] at h ⊢
    exact ⟨⟨avE_all mu a fun i hi => (h i hi).1.1, avE_all mu b fun i hi => (h i hi).1.2⟩, avE_all mu c fun i hi => (h i hi).2⟩
  | .isN a, h => by
    simp only [avE] at h ⊢
    exact avE_all mu a h
  | .notN a, h => by
    simp only [avE] at h ⊢
    exact avE_all mu a h
  | .and a b, h => by
    simp only [avE, Bool.and_eq_true] at h ⊢
    exact ⟨avE_all mu a fun i hi => (h i hi).1, avE_all mu b fun i hi => (h i hi).2⟩
  | .or a b, h => by
    simp only [avE, Bool.and_eq_true] at h ⊢
    exact ⟨avE_all mu a fun i hi => (h i hi).1, avE_all mu b fun i hi => (h i hi).2⟩
  | .not a, h => by
    simp only [avE] at h ⊢
    exact avE_all mu a h
  | .ite t a b, h => by
    simp only [avE, Bool.and_eq_true] at h ⊢
    exact ⟨⟨avT_all mu t fun i hi => (h i hi).1.1, avE_all mu a fun i hi => (h i hi).1.2⟩, avE_all mu b fun i hi => (h i hi).2⟩
  | .tup es, h => by
    simp only [avE] at h ⊢
    exact avEs_all mu es h
  | .lst es, h => by
    simp only [avE] at h ⊢
    exact avEs_all mu es h
  | .idx a b, h => by
    simp only [avE, Bool.and_eq_true] at h ⊢
    exact ⟨avE_all mu a fun i hi => (h i hi).1, avE_all mu b fun i hi => (h i hi).2⟩
  | .sli _ a b c, h => by
    simp only [avE, Bool.and_eq_true] at h ⊢
    exact ⟨⟨avE_all mu a fun i hi => (h i hi).1.1, avE_all mu b fun i hi => (h i hi).1.2⟩, avE_all mu c fun i hi => (h i hi).2⟩
  | .call _ es, h => by
    simp only [avE] at h ⊢
    exact avEs_all mu es h
  | .bi _ es, h => by
    simp only [avE] at h ⊢
    exact avEs_all mu es h
  | .isi a _, h => by
    simp only [avE] at h ⊢
    exact avE_all mu a h
  | .comp0 a _ it _, h => by
    simp only [avE, Bool.and_eq_true] at h ⊢
    exact ⟨avE_all mu a fun i hi => (h i hi).1, avI_all mu it fun i hi => (h i hi).2⟩
  | .comp1 a _ it t _, h => by
    simp only [avE, Bool.and_eq_true] at h ⊢
    exact ⟨⟨avE_all mu a fun i hi => (h i hi).1.1, avI_all mu it fun i hi => (h i hi).1.2⟩, avT_all mu t fun i hi => (h i hi).2⟩
theorem avT_all (mu : List Nat) : ∀ (e : T), (∀ i ∈ mu, avT [i] e = true) → avT mu e = true
  | .val e, h => by
    simp only [avT] at h ⊢
    exact avE_all mu e h
  | .not t, h => by
    simp only [avT] at h ⊢
    exact avT_all mu t h
  | .and a b, h => by
    simp only [avT, Bool.and_eq_true] at h ⊢
    exact ⟨avT_all mu a fun i hi => (h i hi).1, avT_all mu b fun i hi => (h i hi).2⟩
  | .or a b, h => by
    simp only [avT, Bool.and_eq_true] at h ⊢
    exact ⟨avT_all mu a fun i hi => (h i hi).1, avT_all mu b fun i hi => (h i hi).2⟩
  | .ite a b c, h => by
    simp only [avT, Bool.and_eq_true] at h ⊢
    exact ⟨⟨avT_all mu a fun i hi => (h i hi).1.1, avT_all mu b fun i hi => (h i hi).1.2⟩, avT_all mu c fun i hi => (h i hi).2⟩
theorem avEs_all (mu : List Nat) : ∀ (e : Es), (∀ i ∈ mu, avEs [i] e = true) → avEs mu e = true
  | .nil, _ => rfl
  | .cons e es, h => by
    simp only [avEs, Bool.and_eq_true] at h ⊢
    exact ⟨avE_all mu e fun i hi => (h i hi).1, avEs_all mu es fun i hi => (h i hi).2⟩
theorem avI_all (mu : List Nat) : ∀ (e : I), (∀ i ∈ mu, avI [i] e = true) → avI mu e = true
  | .seq e, h => by
    simp only [avI] at h ⊢
    exact avE_all mu e h
  | .rng es, h => by
    simp only [avI] at h ⊢
    exact avEs_all mu es h
  | .enum e, h => by
    simp only [avI] at h ⊢
    exact avE_all mu e h
  | .zip a b, h => by
    simp only [avI, Bool.and_eq_true] at h ⊢
    exact ⟨avE_all mu a fun i hi => (h i hi).1, avE_all mu b fun i hi => (h i hi).2⟩
  | .rev e, h => by
    simp only [avI] at h ⊢
    exact avE_all mu e h
end
section
variable {K : PySem.W.Frag} {c : Call} {sp0 sp : Option Addr} {B0 H0 B H : Hp} {s : Sta} {σ : L2.St} {il : E} {d : D} {k : Ky}
/-- an expression whose value holds no list: every slot may be named -/
theorem ev_pure {Q : VK} (r : RS K sp0 B0 H0 s sp B σ H) (he : evE c il s.ρ s.k = some (d, k)) (hn : noL d = true) (q : ∀ v B' H', RS K sp0 B0 H0 { s with k := k } sp B' σ H' → Ext B B' → Ge sp B H B' H' → Rep K sp B' v d → Q v H') : tDU K c il σ H Q := by
  obtain ⟨B1, r1, x1, f1, f2⟩ := r.freeze [] (fun _ h => by cases h)
  refine ⟨s.ρ, [], s.k, d, k, he, avE_all [] il (fun _ h => (by cases h)), sp, B1, r1.wd, r.spot, r1.ri, fun v B2 H2 g2 s2 r2 => ?_⟩
  obtain ⟨B3, r3, x3, g3, _, h3⟩ := r.thaw (fun i a h1 h2 => f1 i a h1 (by simp) h2) (fun a hb => (f2 a hb).imp id fun ⟨i, h1, _, h2⟩ => ⟨i, h1, h2⟩) x1 g2 s2
  exact q v B3 H2 r3 x3 g3 (rep_mask h3 d v hn r2)
/-- the value is dropped -/
theorem ev_drop {Q : VK} (r : RS K sp0 B0 H0 s sp B σ H) (he : evE c il s.ρ s.k = some (d, k)) (q : ∀ v B' H', RS K sp0 B0 H0 { s with k := k } sp B' σ H' → Ext B B' → Q v H') : tDU K c il σ H Q := by
  obtain ⟨B1, r1, x1, f1, f2⟩ := r.freeze [] (fun _ h => by cases h)
  refine ⟨s.ρ, [], s.k, d, k, he, avE_all [] il (fun _ h => (by cases h)), sp, B1, r1.wd, r.spot, r1.ri, fun v B2 H2 g2 s2 r2 => ?_⟩
  obtain ⟨B3, r3, x3, g3, _, h3⟩ := r.thaw (fun i a h1 h2 => f1 i a h1 (by simp) h2) (fun a hb => (f2 a hb).imp id fun ⟨i, h1, _, h2⟩ => ⟨i, h1, h2⟩) x1 g2 s2
  exact q v B3 H2 r3 x3
theorem ev_test {tt : T} {b : Bool} {Q : Bool → Hp → Prop} (r : RS K sp0 B0 H0 s sp B σ H) (he : evT c tt s.ρ s.k = some (b, k)) (q : ∀ B' H', RS K sp0 B0 H0 { s with k := k } sp B' σ H' → Ext B B' → Q b H') : tTU K c tt σ H Q := by
  obtain ⟨B1, r1, x1, f1, f2⟩ := r.freeze [] (fun _ h => by cases h)
  refine ⟨s.ρ, [], s.k, b, k, he, avT_all [] tt (fun _ h => (by cases h)), sp, B1, r1.wd, r.spot, r1.ri, fun B2 H2 g2 s2 => ?_⟩
  obtain ⟨B3, r3, x3, g3, _, h3⟩ := r.thaw (fun i a h1 h2 => f1 i a h1 (by simp) h2) (fun a hb => (f2 a hb).imp id fun ⟨i, h1, _, h2⟩ => ⟨i, h1, h2⟩) x1 g2 s2
  exact q B3 H2 r3 x3
/-- any value: the mutable lists that are named stand for good from here on -/
theorem ev_any {Q : VK} (r : RS K sp0 B0 H0 s sp B σ H) (he : evE c il s.ρ s.k = some (d, k)) (q : ∀ v B' H', RS K sp0 B0 H0 (s.keep (fun m => avE m il) k) sp B' σ H' → Ext B B' → Rep K sp B' v d → Q v H') : tDU K c il σ H Q := by
  obtain ⟨B1, r1, x1, f1, f2⟩ := r.freeze (s.mu.filter fun i => avE [i] il) (fun i h => (List.mem_filter.mp h).1)
  refine ⟨s.ρ, _, s.k, d, k, he, avE_all (s.mu.filter fun i => avE [i] il) il fun i h => (List.mem_filter.mp h).2, sp, B1, r1.wd, r.spot, r1.ri, fun v B2 H2 g2 s2 r2 => ?_⟩
  exact q v B2 H2 (r1.step g2 s2) (x1.trans g2.bb) r2
theorem ev_st {s1 : Sta} {Q : VK} (r : RS K sp0 B0 H0 s sp B σ H) (he : stE c il s = some (d, s1)) (q : ∀ v B' H', RS K sp0 B0 H0 s1 sp B' σ H' → Ext B B' → Rep K sp B' v d → Q v H') : tDU K c il σ H Q := by
  unfold stE at he
  split at he
  · cases he
  rename_i d' k' e1
  simp only [Option.some.injEq, Prod.mk.injEq] at he
  obtain ⟨rfl, rfl⟩ := he
  by_cases hn : noL d' = true
  · rw [if_pos hn] at q
    exact ev_pure r e1 hn fun v B' H' r' x g rv => q v B' H' r' x rv
  · rw [if_neg hn] at q
    exact ev_any r e1 q
end
end Mini
namespace Mini
open PySem PySem.Spec PyProof.Rows L2
section
variable {X : Cx} {c : Call} {Γ : CT} {w0 n : Nat} {ds : List Def} {sc : Scope} {N : List Str}
variable {a b e t : Expr} {x y z : E} {pos : Pos} {es : List Expr} {xs : Es}

/-! ### new lists -/
def tFU (K : PySem.W.Frag) (c : Call) (il : E) : TE := fun σ H Q => ∃ ρ mu k ds k', evE c il ρ k = some (.lst ds, k') ∧ avE mu il = true ∧ tFr K ρ mu k ds k' σ H Q
theorem f_lst (ha : PAD X c es xs) : PE X (.List es pos) (tFU X.K c (.lst xs)) := by
  refine ⟨fun pins s σ H Q I ⟨ρ, mu, k, ds, k', he, hav, h⟩ => ?_⟩
  simp only [evE] at he
  cases e1 : evEs c xs ρ k with
  | none => rw [e1] at he; cases he
  | some p =>
    obtain ⟨d1, k1⟩ := p
    rw [e1] at he
    simp only [Option.bind_some] at he
    split at he
    · rename_i hz
      cases he
      refine (pe_lst (ha ρ mu k _ _ e1 (by simpa [avE] using hav))).run pins s σ H Q I ?_
      obtain ⟨sp, B, w, s', ri, q⟩ := h
      refine ⟨sp, B, w, s', ri, fun vs B1 H1 g1 s1 r1 => ⟨by rw [r1.len]; exact line_of hz, fun p hp => ?_⟩⟩
      exact q p vs B1 _ (none_back g1 s1 hp) (g1.trans (Ge.newOut g1.wd s1 hp)) (s1.ge hp) upd_same (B_none g1.wd hp) r1
    · cases he
theorem f_comp0 (hx : XF Γ w0 ds n sc N X) {scope : Scope} {tg it elt : Expr} {tgd : Tg} {itd : I} {eltd : E} (hit : plainE it = true) (P : CParts X c N scope tg it elt tgd itd eltd) :
    PE X (.ListComp elt [⟨tg, it, [], 0⟩] scope pos) (tFU X.K c (.comp0 eltd tgd itd ((ownOf N scope.names).map (·.2)))) := by
  refine ⟨fun pins s σ H Q I ⟨ρ, mu, k, ds, k', he, hav, h⟩ => ?_⟩
  obtain ⟨ys, e1, h2⟩ := comp0_rd P he hav
  cases e1
  exact (pe_lc hx.calm (by rw [hx.nn]; exact hx.nd) (piU P.itr) P.ok (fun s H C cl fp => pgU (P.tgt s H C cl fp)) (fun s H C cl fp => pts_nil) (fun s H C cl fp => peU (P.elt s H C cl fp)) (noSet_of hit X.env)).run pins s σ H Q I (h2 σ H Q h)
theorem f_comp1 (hx : XF Γ w0 ds n sc N X) {scope : Scope} {tg it elt q : Expr} {tgd : Tg} {itd : I} {eltd : E} {qd : T} (hit : plainE it = true) (P : CParts X c N scope tg it elt tgd itd eltd)
    (hq : ∀ (s : Shared) (H : Hp) (C : Addr) (cl : List (Str × Addr)) (fp : List Addr), PTD (X.blk s H scope (compEnvC scope cl C X.env) fp) c q qd) :
    PE X (.ListComp elt [⟨tg, it, [q], 0⟩] scope pos) (tFU X.K c (.comp1 eltd tgd itd qd ((ownOf N scope.names).map (·.2)))) := by
  refine ⟨fun pins s σ H Q I ⟨ρ, mu, k, ds, k', he, hav, h⟩ => ?_⟩
  obtain ⟨ys, e1, h2⟩ := comp1_rd P he hav
  cases e1
  exact (pe_lc hx.calm (by rw [hx.nn]; exact hx.nd) (piU P.itr) P.ok (fun s H C cl fp => pgU (P.tgt s H C cl fp)) (fun s H C cl fp => pts_one (ptU (hq s H C cl fp))) (fun s H C cl fp => peU (P.elt s H C cl fp)) (noSet_of hit X.env)).run pins s σ H Q I (h2 σ H Q h)
theorem biSem_list {as dl : List D} (h : biSem .list as = some (.lst dl)) : as = [.lst dl] ∨ as = [.tup dl] := by
  cases as with
  | nil => simp [biSem] at h
  | cons u us =>
    cases us with
    | nil => cases u <;> simp [biSem] at h <;> subst h <;> simp
    | cons _ _ => simp [biSem] at h
theorem biSem_sorted {as dl : List D} (h : biSem .sorted as = some (.lst dl)) : ∃ ns : List Int, as = [.lst (ns.map .int)] ∧ ns.length < 64 ∧ dl = (sortI ns).map .int := by
  cases as with
  | nil => simp [biSem] at h
  | cons u us =>
    cases us with
    | nil =>
      cases u <;> simp only [biSem] at h <;> first | (cases h; done) | skip
      split at h
      · rename_i ns e
        split at h
        · rename_i h64
          cases h
          exact ⟨ns, by rw [toInts_map e], of_decide_eq_true h64, rfl⟩
        · cases h
      · cases h
    | cons _ _ => simp [biSem] at h
theorem f_list (hx : XF Γ w0 ds n sc N X) {p : Pos} (hg : glob sc ("list" : Str) = true) (hne : es ≠ []) (hes : ∀ e ∈ es, plainE e = true) (ha : PAD X c es xs) :
    PE X (.Call (.Name ("list" : Str) p) es [] pos) (tFU X.K c (.bi .list xs)) := by
  refine ⟨fun pins sh σ H Q I ⟨ρ, mu, k, dl, k', he, hav, h⟩ => ?_⟩
  simp only [avE] at hav
  simp only [evE] at he
  split at he
  · cases he
  rename_i d1 k1 e1
  cases e2 : biSem .list d1 with
  | none => rw [e2] at he; cases he
  | some z =>
    rw [e2] at he
    simp only [Option.map_some, Option.some.injEq, Prod.mk.injEq] at he
    obtain ⟨rfl, rfl⟩ := he
    obtain ⟨h1, h2, h3⟩ := glob_of hx hg
    cases es with
    | nil => exact absurd rfl hne
    | cons e es =>
      have st := star_of (hes e List.mem_cons_self) es X.env
      have ns : (backTo pos (starEach es X.env)).any (·.1) = false := noStar_of fun u hu => hes u (List.mem_cons_of_mem _ hu)
      have hA := ha ρ mu k d1 k1 e1 hav
      obtain ⟨sp, B, w, s', ri, q⟩ := h
      refine (pe_callTy call_list_of h1 (hx.F.bi _ (by decide +kernel)) (by decide +kernel) hA h3 h2 st ns).run pins sh σ H Q I ⟨sp, B, w, s', ri, fun vs B1 H1 g1 s1 r1 => ?_⟩
      rcases biSem_list e2 with rfl | rfl
      · obtain ⟨v, rfl, rv⟩ := repl_one r1
        cases rv with
        | @lst pa ys _ h4 h5 =>
          exact ⟨pa, ys, rfl, .inl (.inl (.inl (g1.wd.sub _ _ h4))), fun l hl => q l ys B1 _ (none_back g1 s1 hl) (g1.trans (Ge.newOut g1.wd s1 hl)) (s1.ge hl) upd_same (B_none g1.wd hl) h5⟩
      · obtain ⟨v, rfl, rv⟩ := repl_one r1
        cases rv with
        | @tup pa ys _ h4 h5 =>
          exact ⟨pa, ys, rfl, .inr (ext_t g1.wd.sub h4), fun l hl => q l ys B1 _ (none_back g1 s1 hl) (g1.trans (Ge.newOut g1.wd s1 hl)) (s1.ge hl) upd_same (B_none g1.wd hl) h5⟩
theorem f_sorted (hx : XF Γ w0 ds n sc N X) {p : Pos} (hg : glob sc ("sorted" : Str) = true) (hne : es ≠ []) (hes : ∀ e ∈ es, plainE e = true) (ha : PAD X c es xs) :
    PE X (.Call (.Name ("sorted" : Str) p) es [] pos) (tFU X.K c (.bi .sorted xs)) := by
  refine ⟨fun pins sh σ H Q I ⟨ρ, mu, k, dl, k', he, hav, h⟩ => ?_⟩
  simp only [avE] at hav
  simp only [evE] at he
  split at he
  · cases he
  rename_i d1 k1 e1
  cases e2 : biSem .sorted d1 with
  | none => rw [e2] at he; cases he
  | some z =>
    rw [e2] at he
    simp only [Option.map_some, Option.some.injEq, Prod.mk.injEq] at he
    obtain ⟨rfl, rfl⟩ := he
    obtain ⟨h1, h2, h3⟩ := glob_of hx hg
    cases es with
    | nil => exact absurd rfl hne
    | cons e es =>
      have st := star_of (hes e List.mem_cons_self) es X.env
      have ns : (backTo pos (starEach es X.env)).any (·.1) = false := noStar_of fun u hu => hes u (List.mem_cons_of_mem _ hu)
      have hA := ha ρ mu k d1 k1 e1 hav
      obtain ⟨sp, B, w, s', ri, q⟩ := h
      refine (pe_callB cr_sorted h1 (hx.F.bi _ (by decide +kernel)) (by decide +kernel) hA h3 h2 st ns).run pins sh σ H Q I ⟨sp, B, w, s', ri, fun vs B1 H1 g1 s1 r1 => ?_⟩
      obtain ⟨ms, rfl, h64, rfl⟩ := biSem_sorted e2
      obtain ⟨v, rfl, rv⟩ := repl_one r1
      cases rv with
      | @lst pa ys _ h4 h5 =>
        obtain rfl := h5.ints
        refine ⟨pa, ms, rfl, .inl (.inl (g1.wd.sub _ _ h4)), h64, fun ns' o hp hs ho => ?_⟩
        have e2 : ns' = sortI ms := PySem.W.ksm_same (hp.trans (sortI_perm ms).symm) hs (sortI_sorted ms)
        rw [e2]
        exact q o _ B1 _ (none_back g1 s1 ho) (g1.trans (Ge.newOut g1.wd s1 ho)) (s1.ge ho) upd_same (B_none g1.wd ho) (repl_ints _)
/-- the shapes of new lists -/
theorem fresh_e {m : Nat} {il : E} (hx : XF Γ w0 ds n sc N X) (hc : c = run w0 ds n) (h : cE Γ (m + 1) sc N e = some il) (hf : freshShape e = true) : PE X e (tFU X.K c il) ∨ isComp e = true := by
  have ih := ih_at (Γ := Γ) (w0 := w0) (ds := ds) (n := n) m
  subst hc
  cases e <;> simp only [freshShape, Bool.false_eq_true] at hf
  · exact .inr rfl
  · rename_i f args kw q
    cases f <;> simp only [Bool.false_eq_true] at hf
    rename_i s p
    simp only [cE] at h
    split at h <;> first | (cases h; done) | skip
    rename_i heq
    cases heq
    split at h <;> first | (cases h; done) | skip
    rename_i hg
    split at h
    · rename_i i hi
      obtain ⟨_, _, _, _, hm, _⟩ := hx.F.fns s i hi
      have h2 : X.mg s = none := by
        simp only [Bool.or_eq_true] at hf
        rcases hf with hf | hf <;> (have hs' := beq_iff_eq.mp hf; subst hs'; exact hx.F.bi _ (by decide +kernel))
      rw [hm] at h2
      cases h2
    · simp only [Bool.or_eq_true] at hf
      rcases hf with hf | hf
      · have hs' := beq_iff_eq.mp hf
        subst hs'
        have n1 : (("list" : Str) == ("isinstance" : Str)) = false := by decide +kernel
        rw [n1] at h
        simp only [Bool.false_eq_true, if_false] at h
        split at h
        · rename_i hgc
          have h1 := hx.F.gcd _ (List.contains_iff_mem.mp hgc)
          have h2 := hx.F.bi ("list" : Str) (by decide +kernel)
          rw [h2] at h1
          cases h1
        · split at h <;> first | (cases h; done) | skip
          rename_i bb a as hb
          have e3 : cBI ("list" : Str) = some .list := rfl
          rw [e3] at hb
          cases hb
          cases e1 : mapO (cE Γ m sc N) (a :: as) with
          | none => rw [e1] at h; cases h
          | some xs =>
            rw [e1] at h
            cases h
            exact .inl (f_list hx hg (by simp) (mapO_plain e1) (mapO_pad (fun e il => ih.e hx) e1))
      · have hs' := beq_iff_eq.mp hf
        subst hs'
        have n1 : (("sorted" : Str) == ("isinstance" : Str)) = false := by decide +kernel
        rw [n1] at h
        simp only [Bool.false_eq_true, if_false] at h
        split at h
        · rename_i hgc
          have h1 := hx.F.gcd _ (List.contains_iff_mem.mp hgc)
          have h2 := hx.F.bi ("sorted" : Str) (by decide +kernel)
          rw [h2] at h1
          cases h1
        · split at h <;> first | (cases h; done) | skip
          rename_i bb a as hb
          have e3 : cBI ("sorted" : Str) = some .sorted := rfl
          rw [e3] at hb
          cases hb
          cases e1 : mapO (cE Γ m sc N) (a :: as) with
          | none => rw [e1] at h; cases h
          | some xs =>
            rw [e1] at h
            cases h
            exact .inl (f_sorted hx hg (by simp) (mapO_plain e1) (mapO_pad (fun e il => ih.e hx) e1))
  · rename_i es p
    simp only [cE] at h
    cases e1 : mapO (cE Γ m sc N) es with
    | none => rw [e1] at h; cases h
    | some xs => rw [e1] at h; cases h; exact .inl (f_lst (mapO_pad (fun e il => ih.e hx) e1))

/-! ### the state, changed -/
variable {K : PySem.W.Frag} {sp0 sp : Option Addr} {B0 H0 B H : Hp} {s : Sta} {σ : L2.St} {il : E} {d : D} {k : Ky}
theorem mem_filter_ne {i j : Nat} {mu : List Nat} : j ∈ mu.filter (· != i) ↔ j ∈ mu ∧ j ≠ i := by
  rw [List.mem_filter]
  simp
theorem RS.put {v : V} (r : RS K sp0 B0 H0 s sp B σ H) (i : Nat) (rv : Rep K sp B v d) : RS K sp0 B0 H0 (s.put i d) sp B (σ.set i (some v)) H := by
  refine ⟨r.ge, r.spot, ⟨by simp [Sta.put, r.ri.1], fun j d' hj hd => ?_⟩, fun j hj => ?_, fun j j' a hj hj' h1 h2 => ?_⟩
  · by_cases hji : j = i
    · subst hji
      have hl : j < s.ρ.length := by
        by_cases hl : j < s.ρ.length
        · exact hl
        · have hd' : (s.ρ.set j (some d))[j]? = some (some d') := hd
          rw [List.getElem?_eq_none (by simpa using hl)] at hd'
          cases hd'
      have hd' : (s.ρ.set j (some d))[j]? = some (some d') := hd
      rw [List.getElem?_set_self hl] at hd'
      cases hd'
      exact ⟨v, List.getElem?_set_self (by rw [r.ri.1]; exact hl), rv⟩
    · have hd' : (s.ρ.set i (some d))[j]? = some (some d') := hd
      rw [List.getElem?_set_ne (Ne.symm hji)] at hd'
      rw [List.getElem?_set_ne (Ne.symm hji)]
      exact r.ri.2 j d' (fun hm => hj (mem_filter_ne.mpr ⟨hm, hji⟩)) hd'
  · obtain ⟨hm, hji⟩ := mem_filter_ne.mp hj
    obtain ⟨a, vs, ds, h1, h2, h3⟩ := r.own j hm
    exact ⟨a, vs, ds, by rw [List.getElem?_set_ne (Ne.symm hji)]; exact h1, by show (s.ρ.set i _)[j]? = _; rw [List.getElem?_set_ne (Ne.symm hji)]; exact h2, h3⟩
  · obtain ⟨hm, hji⟩ := mem_filter_ne.mp hj
    obtain ⟨hm', hji'⟩ := mem_filter_ne.mp hj'
    rw [List.getElem?_set_ne (Ne.symm hji)] at h1
    rw [List.getElem?_set_ne (Ne.symm hji')] at h2
    exact r.apart j j' a hm hm' h1 h2
/-- a new list in a slot -/
theorem RS.putNew {p : Addr} {vs : List V} {dl : List D} (r : RS K sp0 B0 H0 s sp B σ H) (i : Nat) (hi : i < s.ρ.length) (hl : H p = some (.lst vs)) (hb : B p = none) (h0 : H0 p = none) (hsp : sp ≠ some p) (rv : RepL K sp B vs dl)
    (hn : ∀ j a, j ∈ s.mu → σ[j]? = some (some (.ref a)) → a ≠ p) : RS K sp0 B0 H0 { ρ := s.ρ.set i (some (.lst dl)), mu := i :: s.mu.filter (· != i), k := s.k } sp B (σ.set i (some (.ref p))) H := by
  have hiσ : i < σ.length := by rw [r.ri.1]; exact hi
  refine ⟨r.ge, r.spot, ⟨by simp [r.ri.1], fun j d' hj hd => ?_⟩, fun j hj => ?_, fun j j' a hj hj' h1 h2 => ?_⟩
  · simp only [List.mem_cons, not_or] at hj
    have hd' : (s.ρ.set i (some (.lst dl)))[j]? = some (some d') := hd
    rw [List.getElem?_set_ne (Ne.symm hj.1)] at hd' ⊢
    exact r.ri.2 j d' (fun hm => hj.2 (mem_filter_ne.mpr ⟨hm, hj.1⟩)) hd'
  · rcases List.mem_cons.mp hj with rfl | hj
    · exact ⟨p, vs, dl, List.getElem?_set_self hiσ, List.getElem?_set_self hi, hl, rv, hb, h0, hsp⟩
    · obtain ⟨hm, hji⟩ := mem_filter_ne.mp hj
      obtain ⟨a, vs, ds, h1, h2, h3⟩ := r.own j hm
      exact ⟨a, vs, ds, by rw [List.getElem?_set_ne (Ne.symm hji)]; exact h1, by show (s.ρ.set i _)[j]? = _; rw [List.getElem?_set_ne (Ne.symm hji)]; exact h2, h3⟩
  · rcases List.mem_cons.mp hj with rfl | hj
    · rcases List.mem_cons.mp hj' with rfl | hj'
      · rfl
      · obtain ⟨hm', hji'⟩ := mem_filter_ne.mp hj'
        rw [List.getElem?_set_self hiσ] at h1
        rw [List.getElem?_set_ne (Ne.symm hji')] at h2
        cases h1
        exact (hn j' _ hm' h2 rfl).elim
    · obtain ⟨hm, hji⟩ := mem_filter_ne.mp hj
      rw [List.getElem?_set_ne (Ne.symm hji)] at h1
      rcases List.mem_cons.mp hj' with rfl | hj'
      · rw [List.getElem?_set_self hiσ] at h2
        cases h2
        exact (hn j _ hm h1 rfl).elim
      · obtain ⟨hm', hji'⟩ := mem_filter_ne.mp hj'
        rw [List.getElem?_set_ne (Ne.symm hji')] at h2
        exact r.apart j j' a hm hm' h1 h2
/-- a mutable list changed -/
theorem RS.wr {a : Addr} {vs vs' : List V} {dl dl' : List D} {i : Nat} (r : RS K sp0 B0 H0 s sp B σ H) (hi : i ∈ s.mu) (ha : σ[i]? = some (some (.ref a))) (hd : s.ρ[i]? = some (some (.lst dl))) (rv : RepL K sp B vs' dl') : RS K sp0 B0 H0 { s with ρ := s.ρ.set i (some (.lst dl')) } sp B σ (upd H a (.lst vs')) := by
  obtain ⟨a', vs0, ds0, g1, g2, g3, g4, g5, g6, g7⟩ := r.own i hi
  rw [ha] at g1
  cases g1
  have hil : i < s.ρ.length := (List.getElem?_eq_some_iff.mp hd).1
  have ge' : Ge sp B0 H0 B (upd H a (.lst vs')) := by
    refine ⟨fun x o hne hx => ?_, r.ge.2.bb, ⟨fun x o hx => ?_, r.wd.spn⟩, r.ge.2.old⟩
    · rw [upd_ne (ne_of_none hx g6)]; exact r.ge.2.hh x o hne hx
    · rw [upd_ne (ne_of_none hx g5)]; exact r.wd.sub x o hx
  refine ⟨⟨r.ge.1, ge'⟩, ?_, ⟨by simp [r.ri.1], fun j d' hj hd' => ?_⟩, fun j hj => ?_, r.apart⟩
  · have hs := r.spot
    cases sp with
    | none => cases hk : s.k with
      | none => trivial
      | some m => rw [hk] at hs; exact hs
    | some p => cases hk : s.k with
      | none => rw [hk] at hs; exact hs
      | some m =>
        rw [hk] at hs
        show upd H a _ p = _
        rw [upd_ne (fun e => g7 (by rw [e]))]
        exact hs
  · have hji : j ≠ i := fun e => hj (by rw [e]; exact hi)
    have hd'' : (s.ρ.set i (some (.lst dl')))[j]? = some (some d') := hd'
    rw [List.getElem?_set_ne (Ne.symm hji)] at hd''
    exact r.ri.2 j d' hj hd''
  · by_cases hji : j = i
    · subst hji
      exact ⟨a, vs', dl', ha, List.getElem?_set_self hil, upd_same, rv, g5, g6, g7⟩
    · obtain ⟨b, ws, es, h1, h2, h3, h4, h5, h6, h7⟩ := r.own j hj
      have hne : b ≠ a := fun e => hji (r.apart j i a hj hi (by rw [h1, e]) ha)
      exact ⟨b, ws, es, h1, by show (s.ρ.set i _)[j]? = _; rw [List.getElem?_set_ne (Ne.symm hji)]; exact h2, by rw [upd_ne hne]; exact h3, h4, h5, h6, h7⟩
/-- a new flat list comes -/
theorem ev_fresh {dl : List D} {Q : VK} (r : RS K sp0 B0 H0 s sp B σ H) (he : evE c il s.ρ s.k = some (.lst dl, k)) (hn : noLs dl = true) (q : ∀ p vs B' H', RS K sp0 B0 H0 { s with k := k } sp B' σ H' → Ext B B' → H p = none → H' p = some (.lst vs) → B' p = none → H0 p = none → sp ≠ some p → (∀ j a, j ∈ s.mu → σ[j]? = some (some (.ref a)) → a ≠ p) → RepL K sp B' vs dl → Q (.ref p) H') : tFU K c il σ H Q := by
  obtain ⟨B1, r1, x1, f1, f2⟩ := r.freeze [] (fun _ h => by cases h)
  refine ⟨s.ρ, [], s.k, dl, k, he, avE_all [] il (fun _ h => (by cases h)), sp, B1, r1.wd, r.spot, r1.ri, fun p vs B2 H2 hp g2 s2 hl hb r2 => ?_⟩
  obtain ⟨B3, r3, x3, g3, h4, h3⟩ := r.thaw (fun i a h1 h2 => f1 i a h1 (by simp) h2) (fun a hb => (f2 a hb).imp id fun ⟨i, h1, _, h2⟩ => ⟨i, h1, h2⟩) x1 g2 s2
  have hsp : sp ≠ some p := r.spot.ne hp
  refine q p vs B3 H2 r3 x3 hp hl (by rw [h4 p hp]; exact hb) ?_ hsp (fun j a hj ha e => ?_) (repl_mask h3 dl vs hn r2)
  · cases e : H0 p with
    | none => rfl
    | some o =>
      have := r.ge.2.hh p o hsp e
      rw [hp] at this
      cases this
  · subst e
    obtain ⟨a', vs', ds', g1, g2', g3', _⟩ := r.own j hj
    rw [ha] at g1
    cases g1
    rw [hp] at g3'
    cases g3'
theorem ev_freshAny {dl : List D} {Q : VK} (r : RS K sp0 B0 H0 s sp B σ H) (he : evE c il s.ρ s.k = some (.lst dl, k)) (q : ∀ v B' H', RS K sp0 B0 H0 (s.keep (fun m => avE m il) k) sp B' σ H' → Ext B B' → Rep K sp B' v (.lst dl) → Q v H') : tFU K c il σ H Q := by
  obtain ⟨ρ, mu, k0, d0, k1, h1, h2, h3⟩ := ev_any (K := K) (Q := Q) r he q
  obtain ⟨B1, r1, x1, f1, f2⟩ := r.freeze (s.mu.filter fun i => avE [i] il) (fun i h => (List.mem_filter.mp h).1)
  exact ⟨s.ρ, _, s.k, dl, k, he, avE_all (s.mu.filter fun i => avE [i] il) il fun i h => (List.mem_filter.mp h).2, tFr_of ⟨sp, B1, r1.wd, r.spot, r1.ri, fun v B2 H2 g2 s2 r2 => q v B2 H2 (r1.step g2 s2) (x1.trans g2.bb) r2⟩⟩
end
end Mini
namespace Mini
open PySem PySem.Spec PyProof.Rows L2

def Fin' (K : PySem.W.Frag) (sp0 : Option Addr) (B0 H0 : Hp) (sp : Option Addr) (B : Hp) (o : O) (D : Ends) : Prop :=
  match o with
  | .nx s' => ∀ sp' B' σ' H', SpLe sp sp' → Ext B B' → RS K sp0 B0 H0 s' sp' B' σ' H' → D.nx σ' H'
  | .bk s' => ∀ sp' B' σ' H', SpLe sp sp' → Ext B B' → RS K sp0 B0 H0 s' sp' B' σ' H' → D.bk σ' H'
  | .ct s' => ∀ sp' B' σ' H', SpLe sp sp' → Ext B B' → RS K sp0 B0 H0 s' sp' B' σ' H' → D.ct σ' H'
  | .rt d k => ∀ sp' v B' H', GeS sp0 sp' B0 H0 B' H' → SpotAt sp' k H' → Rep K sp' B' v d → D.rt v H'
theorem Fin'.mono {K : PySem.W.Frag} {sp0 sp sp1 : Option Addr} {B0 H0 B B1 : Hp} {o : O} {D : Ends} (f : Fin' K sp0 B0 H0 sp B o D) (h : SpLe sp sp1) (e : Ext B B1) : Fin' K sp0 B0 H0 sp1 B1 o D := by
  cases o with
  | nx s => exact fun sp' B' σ' H' h' e' r => f sp' B' σ' H' (h.trans h') (e.trans e') r
  | bk s => exact fun sp' B' σ' H' h' e' r => f sp' B' σ' H' (h.trans h') (e.trans e') r
  | ct s => exact fun sp' B' σ' H' h' e' r => f sp' B' σ' H' (h.trans h') (e.trans e') r
  | rt d k => exact f
def tSU (K : PySem.W.Frag) (c : Call) (w : Nat) (il : S) : TS := fun D σ H => ∃ sp0 B0 H0 s o sp B, evS c w il s = some o ∧ RS K sp0 B0 H0 s sp B σ H ∧ Fin' K sp0 B0 H0 sp B o D
def tSsU (K : PySem.W.Frag) (c : Call) (w : Nat) (il : Ss) : TS := fun D σ H => ∃ sp0 B0 H0 s o sp B, evSs c w il s = some o ∧ RS K sp0 B0 H0 s sp B σ H ∧ Fin' K sp0 B0 H0 sp B o D
theorem _root_.L2.PS.wk {X : Cx} {st : Stmt} {t t' : TS} (h : PS X st t) (w : ∀ D σ H, t' D σ H → t D σ H) : PS X st t' := ⟨fun pins s σ H D I hw => h.run pins s σ H D I (w _ _ _ hw)⟩
theorem _root_.L2.PSs.wk {X : Cx} {st : List Stmt} {t t' : TS} (h : PSs X st t) (w : ∀ D σ H, t' D σ H → t D σ H) : PSs X st t' := ⟨fun pins s σ H D I hw => h.run pins s σ H D I (w _ _ _ hw)⟩

structure XS (Γ : CT) (w0 : Nat) (ds : List Def) (n : Nat) (sc : Scope) (N : List Str) (X : Cx) : Prop where
  x : XF Γ w0 ds n sc N X
  fn : ∀ s, X.fn s = true
  po : PassesOwn (model X.prog X.w) X.A X.env X.xe
section
variable {X : Cx} {c : Call} {w : Nat} {Γ : CT} {w0 n : Nat} {ds : List Def} {sc : Scope} {N : List Str}
variable {a b e t : Expr} {x y z : E} {pos : Pos} {es : List Expr} {xs : Es}
theorem tok_of (hx : XS Γ w0 ds n sc N X) : TOk X sc := by
  intro s hs
  refine ⟨?_, .inl (hx.fn s)⟩
  unfold L2.Loc
  rw [hx.x.sc]
  unfold isLoc at hs
  split at hs
  · exact .inl (by assumption)
  · exact .inr (by assumption)
  · cases hs
theorem loc_of (hx : XS Γ w0 ds n sc N X) {s : Str} {i : Nat} (h : slotL sc N s = some i) : X.N.Nodup ∧ X.N[i]? = some s ∧ Loc X.env.scope s ∧ (X.fn s = true ∨ X.env.scope.names.lookup s = some .local) := by
  obtain ⟨h1, h2⟩ := slotL_of h
  exact ⟨by rw [hx.x.nn]; exact hx.x.nd, by rw [hx.x.nn]; exact h2, (tok_of hx s h1).1, (tok_of hx s h1).2⟩
theorem noSw {e : Expr} (h : isComp e = false) (h0 : plainE e = true) (tg : Option Expr) (l : Nat) (env : Env) : swapsWith e tg l env = pure false := by
  cases e <;> first | rfl | (simp [plainE] at h0; done) | (simp [isComp] at h; done)

theorem tgMu_mem : ∀ (tg : Tg) (mu : List Nat) (j : Nat), j ∈ tgMu tg mu ↔ j ∈ mu ∧ j ∉ tgSlots tg := by
  intro tg
  exact Tg.rec (motive_1 := fun tg => ∀ (mu : List Nat) (j : Nat), j ∈ tgMu tg mu ↔ j ∈ mu ∧ j ∉ tgSlots tg) (motive_2 := fun ts => ∀ (mu : List Nat) (j : Nat), j ∈ tgsMu ts mu ↔ j ∈ mu ∧ j ∉ tgsSlots ts)
    (fun i mu j => by simp only [tgMu, tgSlots, mem_filter_ne, List.mem_singleton])
    (fun ts ih mu j => by simp only [tgMu, tgSlots]; exact ih mu j)
    (fun mu j => by simp [tgsMu, tgsSlots])
    (fun t ts ih1 ih2 mu j => by simp only [tgsMu, tgsSlots, ih2, ih1, List.mem_append, not_or, and_assoc]) tg
theorem RS.updT {K : PySem.W.Frag} {sp0 sp : Option Addr} {B0 H0 B H : Hp} {s : Sta} {σ σ' : L2.St} {tg : Tg} {ρ' : Rho} (r : RS K sp0 B0 H0 s sp B σ H) (u : Upd' K sp B (tgSlots tg) s.ρ ρ' σ σ') : RS K sp0 B0 H0 { ρ := ρ', mu := tgMu tg s.mu, k := s.k } sp B σ' H := by
  refine ⟨r.ge, r.spot, ⟨by rw [u.l1, u.l2]; exact r.ri.1, fun j d hj hd => ?_⟩, fun j hj => ?_, fun j j' a hj hj' h1 h2 => ?_⟩
  · by_cases ht : j ∈ tgSlots tg
    · exact u.new j d ht hd
    · have o := u.old j ht
      have hd' : ρ'[j]? = some (some d) := hd
      rw [o.2] at hd'
      rw [o.1]
      exact r.ri.2 j d (fun hm => hj ((tgMu_mem tg s.mu j).mpr ⟨hm, ht⟩)) hd'
  · obtain ⟨hm, ht⟩ := (tgMu_mem tg s.mu j).mp hj
    obtain ⟨a, vs, dl, g1, g2, g3⟩ := r.own j hm
    have o := u.old j ht
    exact ⟨a, vs, dl, o.1.trans g1, o.2.trans g2, g3⟩
  · obtain ⟨hm, ht⟩ := (tgMu_mem tg s.mu j).mp hj
    obtain ⟨hm', ht'⟩ := (tgMu_mem tg s.mu j').mp hj'
    rw [(u.old j ht).1] at h1
    rw [(u.old j' ht').1] at h2
    exact r.apart j j' a hm hm' h1 h2
theorem s_set (hx : XS Γ w0 ds n sc N X) {s : Str} {p : Pos} {i : Nat} (hi : slotL sc N s = some i) (hc : isComp e = false) (h0 : plainE e = true) (he : PED X c e x) : PS X (.Assign [.Name s p] e pos) (tSU X.K c w (.set i x)) := by
  obtain ⟨h1, h2, h3, h4⟩ := loc_of hx hi
  refine (ps_set h1 h2 h3 (peU he) (noSw hc h0 _ _ _) h4).wk fun D σ H ⟨sp0, B0, H0, s, o, sp, B, ev, r, f⟩ => ?_
  simp only [evS] at ev
  split at ev
  · cases ev
  rename_i d s1 e1
  cases ev
  show tDU X.K c x σ H fun v H1 => D.nx (σ.set i (some v)) H1
  exact ev_st r e1 fun v B' H' r' x' rv => f sp B' _ H' (.refl _) x' (r'.put i rv)
/-- name = a new flat list -/
theorem new_rd {K : PySem.W.Frag} {i : Nat} {il : E} {D : Ends} {σ : L2.St} {H : Hp} (h : tSU K c w (.new i il) D σ H) : tFU K c il σ H fun v H1 => D.nx (σ.set i (some v)) H1 := by
  obtain ⟨sp0, B0, H0, s, o, sp, B, ev, r, f⟩ := h
  simp only [evS] at ev
  split at ev <;> first | (cases ev; done) | skip
  rename_i dl k e1
  split at ev
  · rename_i hn
    cases ev
    simp only [Bool.and_eq_true, decide_eq_true_eq] at hn
    refine ev_fresh r e1 hn.1 fun p vs B' H' r' x' hp hl hb h0 hsp hne rv => ?_
    exact f sp B' _ H' (.refl _) x' (r'.putNew i hn.2 hl hb h0 hsp rv hne)
  · cases ev
    exact ev_freshAny r e1 fun v B' H' r' x' rv => f sp B' _ H' (.refl _) x' (r'.put i rv)
theorem s_new (hx : XS Γ w0 ds n sc N X) {s : Str} {p : Pos} {i : Nat} (hi : slotL sc N s = some i) (hc : isComp e = false) (h0 : plainE e = true) (he : PE X e (tFU X.K c x)) : PS X (.Assign [.Name s p] e pos) (tSU X.K c w (.new i x)) := by
  obtain ⟨h1, h2, h3, h4⟩ := loc_of hx hi
  exact (ps_set h1 h2 h3 he (noSw hc h0 _ _ _) h4).wk fun D σ H h => new_rd h
theorem sw_of (hx : XS Γ w0 ds n sc N X) {s : Str} {p : Pos} {elt : Expr} {gs : List Comprehension} {scope : Scope} {pc : Pos} (h : swOk sc s p (.ListComp elt gs scope pc) = true) (l : Nat) : X.env.scope.names.lookup s = some .local ∧ swapsWith (.ListComp elt gs scope pc) (some (.Name s p)) l X.env = pure true := by
  simp only [swOk, Bool.and_eq_true, Bool.not_eq_true'] at h
  obtain ⟨⟨⟨h1, h2⟩, h3⟩, h4⟩ := h
  have h1' : sc.kind = .function := by
    cases hk : sc.kind <;> rw [hk] at h1 <;> first | rfl | (exact absurd h1 (by decide))
  have h2' : sc.names.lookup s = some .local := by simpa using h2
  refine ⟨by rw [hx.x.sc]; exact h2', sw_true (by rw [hx.x.sc]; exact h1') (by rw [hx.x.sc]; exact h2') h3 h4⟩
theorem s_newc0 (hx : XS Γ w0 ds n sc N X) {s : Str} {p pc : Pos} {i : Nat} {scope : Scope} {tg it elt : Expr} {tgd : Tg} {itd : I} {eltd : E} (hi : slotL sc N s = some i) (hs : swOk sc s p (.ListComp elt [⟨tg, it, [], 0⟩] scope pc) = true) (hit : plainE it = true) (P : CParts X c N scope tg it elt tgd itd eltd) :
    PS X (.Assign [.Name s p] (.ListComp elt [⟨tg, it, [], 0⟩] scope pc) pos) (tSU X.K c w (.new i (.comp0 eltd tgd itd ((ownOf N scope.names).map (·.2))))) := by
  obtain ⟨h1, h2, h3, h4⟩ := loc_of hx hi
  obtain ⟨h5, h6⟩ := sw_of hx hs pos.line
  refine (ps_setLc (g := gU X.K tgd) (tt := tYes) (te := tDU X.K c eltd) hx.x.calm h1 h2 h5 h6 (piU P.itr) P.ok (fun s H C cl fp => pgU (P.tgt s H C cl fp)) (fun s H C cl fp => pts_nil) (fun s H C cl fp => peU (P.elt s H C cl fp)) (noSet_of hit X.env)).wk fun D σ H h => ?_
  obtain ⟨ρ, mu, k, dl, k', he, hav, h⟩ := new_rd h
  obtain ⟨ys, e1, hr⟩ := comp0_rd P he hav
  cases e1
  exact hr σ H _ h
theorem s_newc1 (hx : XS Γ w0 ds n sc N X) {s : Str} {p pc : Pos} {i : Nat} {scope : Scope} {tg it elt q : Expr} {tgd : Tg} {itd : I} {eltd : E} {qd : T} (hi : slotL sc N s = some i) (hs : swOk sc s p (.ListComp elt [⟨tg, it, [q], 0⟩] scope pc) = true) (hit : plainE it = true) (P : CParts X c N scope tg it elt tgd itd eltd)
    (hq : ∀ (s : Shared) (H : Hp) (C : Addr) (cl : List (Str × Addr)) (fp : List Addr), PTD (X.blk s H scope (compEnvC scope cl C X.env) fp) c q qd) :
    PS X (.Assign [.Name s p] (.ListComp elt [⟨tg, it, [q], 0⟩] scope pc) pos) (tSU X.K c w (.new i (.comp1 eltd tgd itd qd ((ownOf N scope.names).map (·.2))))) := by
  obtain ⟨h1, h2, h3, h4⟩ := loc_of hx hi
  obtain ⟨h5, h6⟩ := sw_of hx hs pos.line
  refine (ps_setLc (g := gU X.K tgd) (tt := tTU X.K c qd) (te := tDU X.K c eltd) hx.x.calm h1 h2 h5 h6 (piU P.itr) P.ok (fun s H C cl fp => pgU (P.tgt s H C cl fp)) (fun s H C cl fp => pts_one (ptU (hq s H C cl fp))) (fun s H C cl fp => peU (P.elt s H C cl fp)) (noSet_of hit X.env)).wk fun D σ H h => ?_
  obtain ⟨ρ, mu, k, dl, k', he, hav, h⟩ := new_rd h
  obtain ⟨ys, e1, hr⟩ := comp1_rd P he hav
  cases e1
  exact hr σ H _ h
/-- the counter is made -/
theorem s_spot (hx : XS Γ w0 ds n sc N X) {s : Str} {p p1 p2 : Pos} {j i : Nat} (hi : slotL sc N s = some i) : PS X (.Assign [.Name s p] (.List [.Constant (.int 0) j p1] p2) pos) (tSU X.K c w (.spot i)) := by
  obtain ⟨h1, h2, h3, h4⟩ := loc_of hx hi
  refine (ps_set h1 h2 h3 (pe_lst (pa_cons pe_int pa_nil rfl)) rfl h4).wk fun D σ H ⟨sp0, B0, H0, s, o, sp, B, ev, r, f⟩ => ?_
  simp only [evS] at ev
  split at ev <;> first | (cases ev; done) | skip
  rename_i hk
  cases ev
  refine ⟨by show 1 ≤ 2 ^ 24; decide, fun q hq => ?_⟩
  have hsp : sp = none := by
    have := r.spot
    rw [hk] at this
    cases sp with
    | none => rfl
    | some a => exact this.elim
  subst hsp
  have hb : B q = none := B_none r.wd hq
  have h0 : H0 q = none := by
    cases e : H0 q with
    | none => rfl
    | some o =>
      have := r.ge.2.hh q o (by simp) e
      rw [hq] at this
      cases this
  have hsp0 : sp0 = none := by
    rcases r.ge.1 with h | ⟨h, _⟩
    · exact h.symm
    · exact h
  subst hsp0
  refine f (some q) B _ _ (.inr rfl) (Ext.refl _) ?_
  have r' := r.put (d := .spot) (v := .ref q) (K := X.K) i
  -- the state over the new list
  have key : RS X.K none B0 H0 { s with k := some 0 } (some q) B σ (upd H q (.lst [.int 0])) := by
    refine ⟨⟨.inr ⟨rfl, q, rfl, h0⟩, ⟨fun x o _ hx => ?_, r.ge.2.bb, ⟨fun x o hx => ?_, fun x hx => by cases hx; exact hb⟩, r.ge.2.old⟩⟩, upd_same, ⟨r.ri.1, fun j d hj hd => ?_⟩, fun j hj => ?_, r.apart⟩
    · rw [upd_ne (ne_of_none hx h0)]; exact r.ge.2.hh x o (by simp) hx
    · rw [upd_ne (ne_of_none (r.wd.sub x o hx) hq)]; exact r.wd.sub x o hx
    · obtain ⟨v, g1, g2⟩ := r.ri.2 j d hj hd
      exact ⟨v, g1, Rep.sp d v g2⟩
    · obtain ⟨a, vs, dl, g1, g2, g3, g4, g5, g6, g7⟩ := r.own j hj
      exact ⟨a, vs, dl, g1, g2, by rw [upd_ne (ne_of_none g3 hq)]; exact g3, RepL.sp dl vs g4, g5, g6, fun e => by cases e; rw [hq] at g3; cases g3⟩
  exact key.put i (.spot rfl)
theorem s_asg (hx : XS Γ w0 ds n sc N X) {ts : List Expr} {j : Nat} {p : Pos} {tg : Tg} (hg : cTg sc N 9 (.Tuple ts j p) = some tg) (h0 : plainE e = true) (hne : isTupE e = false) (he : PED X c e x) : PS X (.Assign [.Tuple ts j p] e pos) (tSU X.K c w (.asg tg x)) := by
  have G := cTg_ok hx.x.nn hx.x.nd hx.x.calm (tok_of hx) 9 _ _ hg
  refine (ps_asg (peU he) (pgU G) (by cases e <;> first | rfl | (simp [plainE] at h0; done)) (by cases e <;> first | rfl | (simp [plainE] at h0; done) | (simp [isTupE] at hne; done)) rfl).wk fun D σ H ⟨sp0, B0, H0, s, o, sp, B, ev, r, f⟩ => ?_
  simp only [evS] at ev
  split at ev
  · cases ev
  rename_i d s1 e1
  cases e2 : asg tg d s1.ρ with
  | none => rw [e2] at ev; cases ev
  | some ρ' =>
    rw [e2] at ev
    cases ev
    refine ev_st r e1 fun v B' H' r' x' rv => ⟨sp, B', d, s1.ρ, ρ', r'.wd.sub, r'.ri.1, rv, e2, fun σ' u => f sp B' σ' H' (.refl _) x' ?_⟩
    exact r'.updT u
/-- name op= e -/
theorem aug_ok {op : Operator} {o : BO} (ho : cBO op = some o) {x y z : D} (h : augSem o x y = some z) : ∃ r, OpR X (inplaceOp op) r ∧ RD X.K r x y z := by
  cases op <;> simp [cBO] at ho <;> subst ho
  · cases x <;> cases y <;> simp only [augSem] at h <;> first | (cases h; done) | skip
    · cases h; exact ⟨_, iop_add, rd_int fun _ _ => .int _⟩
    · split at h <;> cases h
      rename_i a b hz
      refine ⟨_, iop_add_str, fun sp B H k vx vy Q w s rx ry q => ?_⟩
      cases rx
      cases ry
      exact ⟨a, b, rfl, rfl, line_of hz, fin_d w s (.str _) q⟩
  · cases x <;> cases y <;> simp only [augSem] at h <;> first | (cases h; done) | skip
    cases h; exact ⟨_, iop_sub, rd_int fun _ _ => .int _⟩
  · cases x <;> cases y <;> simp only [augSem] at h <;> first | (cases h; done) | skip
    split at h <;> cases h
    rename_i hm
    simp only [small64, Bool.or_eq_true, Bool.and_eq_true, decide_eq_true_eq] at hm
    refine ⟨_, iop_mul, rd_intC ?_ fun _ _ => .int _⟩
    rcases hm with hm | hm
    · exact .inl ⟨by omega, by omega⟩
    · exact .inr ⟨by omega, by omega⟩
  · cases x <;> cases y <;> simp only [augSem] at h <;> cases h
  · cases x <;> cases y <;> simp only [augSem] at h <;> cases h
  · cases x <;> cases y <;> simp only [augSem] at h <;> cases h
theorem augSem_noL {o : BO} {x y z : D} (h : augSem o x y = some z) : noL x = true ∧ noL y = true := by
  cases o <;> cases x <;> cases y <;> simp only [augSem] at h <;> first | (cases h; done) | exact ⟨rfl, rfl⟩
theorem s_aug (hx : XS Γ w0 ds n sc N X) {s : Str} {p : Pos} {i : Nat} {op : Operator} {o : BO} (hi : slotL sc N s = some i) (ho : cBO op = some o) (he : PED X c e x) : PS X (.AugAssign (.Name s p) op e pos) (tSU X.K c w (.aug i o x)) := by
  obtain ⟨h1, h2, h3, h4⟩ := loc_of hx hi
  refine ⟨fun pins sh σ H D I h => ?_⟩
  obtain ⟨sp0, B0, H0, s, o', sp, B, ev, r, f⟩ := h
  simp only [evS] at ev
  split at ev <;> first | (cases ev; done) | skip
  rename_i d0 hd0
  split at ev
  · cases ev
  rename_i d1 k1 e1
  cases e2 : augSem o d0 d1 with
  | none => rw [e2] at ev; cases ev
  | some z =>
    rw [e2] at ev
    cases ev
    obtain ⟨rr, hop, hrd⟩ := aug_ok (X := X) ho e2
    obtain ⟨n0, n1⟩ := augSem_noL e2
    have hmu : i ∉ s.mu := fun hm => by
      obtain ⟨a, vs, dl, g1, g2, _⟩ := r.own i hm
      rw [hd0] at g2
      cases g2
      simp [noL] at n0
    obtain ⟨v0, hv0, rv0⟩ := r.ri.2 i d0 hmu hd0
    refine (ps_aug h1 h2 h3 (peU he) (ti := rr) hop h4).run pins sh σ H D I ⟨v0, hv0, ?_⟩
    refine ev_pure r e1 n1 fun v B' H' r' x' g rv => ?_
    refine hrd sp B' H' _ v0 v _ r'.wd r'.spot (Rep.ext x' _ _ rv0) rv fun v2 B2 H2 g2 s2 r2 => ?_
    exact f sp B2 _ H2 (.refl _) (x'.trans g2.bb) ((r'.step g2 s2).put i r2)
end
end Mini
namespace Mini
open PySem PySem.Spec PyProof.Rows L2
section
variable {K : PySem.W.Frag} {sp0 sp : Option Addr} {B0 H0 B H : Hp} {s : Sta} {σ : L2.St}
/-- the counter is set -/
theorem RS.wrSpot {p : Addr} {m : Int} (r : RS K sp0 B0 H0 s (some p) B σ H) (hk : s.k.isSome = true) : RS K sp0 B0 H0 { s with k := some m } (some p) B σ (upd H p (.lst [.int m])) := by
  have hbp : B p = none := r.wd.spn p rfl
  have ge' : Ge (some p) B0 H0 B (upd H p (.lst [.int m])) := by
    refine ⟨fun x o hne hx => ?_, r.ge.2.bb, ⟨fun x o hx => ?_, r.wd.spn⟩, r.ge.2.old⟩
    · rw [upd_ne (fun e => hne (by rw [e]))]; exact r.ge.2.hh x o hne hx
    · rw [upd_ne (ne_of_none hx hbp)]; exact r.wd.sub x o hx
  refine ⟨⟨r.ge.1, ge'⟩, upd_same, r.ri, fun j hj => ?_, r.apart⟩
  obtain ⟨b, ws, es, h1, h2, h3, h4, h5, h6, h7⟩ := r.own j hj
  exact ⟨b, ws, es, h1, h2, by rw [upd_ne (fun e => h7 (by rw [e]))]; exact h3, h4, h5, h6, h7⟩
end
section
variable {X : Cx} {c : Call} {w : Nat} {Γ : CT} {w0 n : Nat} {ds : List Def} {sc : Scope} {N : List Str}
variable {a b e t : Expr} {x y z : E} {pos : Pos} {es : List Expr} {xs : Es}
theorem slot_of {s : Str} {i : Nat} (hx : XS Γ w0 ds n sc N X) (h : slot sc N s = some i) (p : Pos) : PE X (.Name s p) (tVar i) := by
  unfold slot at h
  split at h
  · rename_i hv
    simp only [okName, Bool.and_eq_true, Bool.not_eq_true'] at hv
    have hN : X.N[i]? = some s := by rw [hx.x.nn]; exact ix_get h
    have hvis : Vis X.env.scope s := by
      rw [hx.x.sc]
      have h1 := hv.1
      unfold isVis at h1
      unfold Vis
      split at h1
      · exact .inl (by assumption)
      · exact .inr (.inl (by assumption))
      · exact .inr (.inr (by assumption))
      · cases h1
    exact pe_var hN hvis hv.2.1.1 hv.2.1.2
  · cases h
theorem s_app (hx : XS Γ w0 ds n sc N X) {s : Str} {p ap cp : Pos} {i : Nat} (hi : slot sc N s = some i) (h0 : plainE e = true) (hl : (ap.endLine == cp.line) = true) (he : PED X c e x) :
    PS X (.Expr (.Call (.Attribute (.Name s p) ("append" : Str) ap) [e] [] cp) pos) (tSU X.K c w (.app i x)) := by
  have hs : ∀ es', starEach (e :: es') X.env = (false, eval e X.env) :: starEach es' X.env := fun es' => star_of h0 es' X.env
  refine (ps_expr (pe_bm PySem.F.plainAttrs_list PySem.F.slot_list_append PySem.F.type_list_append mt_append (slot_of hx hi p) (pa_cons (peU he) pa_nil (hs [])) rfl (by rw [hs]; rfl) hl (hs []) rfl)).wk fun D σ H ⟨sp0, B0, H0, s, o, sp, B, ev, r, f⟩ => ?_
  simp only [evS] at ev
  split at ev <;> first | (cases ev; done) | skip
  rename_i dl hd
  split at ev
  · cases ev
  rename_i d k e1
  split at ev
  · rename_i hc
    cases ev
    simp only [Bool.and_eq_true, decide_eq_true_eq, List.contains_iff_mem] at hc
    obtain ⟨⟨hm, hn⟩, hz⟩ := hc
    obtain ⟨q, vs, dl', g1, g2, g3, g4, g5, g6, g7⟩ := r.own i hm
    rw [hd] at g2
    cases g2
    refine ⟨_, g1, .inl ⟨rfl, vs, .inl (.inl g3)⟩, ?_⟩
    refine ev_pure r e1 hn fun v B' H' r' x' g rv => ?_
    refine ⟨q, vs, v, rfl, rfl, g.hh q _ g7 g3, by rw [g4.len]; exact hz, ?_⟩
    exact f sp B' _ _ (.refl _) x' (r'.wr (vs := vs) (dl := dl) hm g1 hd ((RepL.ext x' _ _ g4).append (.cons rv .nil)))
  · cases ev
theorem s_pop (hx : XS Γ w0 ds n sc N X) {s : Str} {p ap cp : Pos} {i : Nat} (hi : slot sc N s = some i) (hl : (ap.endLine == cp.line) = true) :
    PS X (.Expr (.Call (.Attribute (.Name s p) ("pop" : Str) ap) [] [] cp) pos) (tSU X.K c w (.pop i)) := by
  refine (ps_expr (pe_bm0 PySem.F.plainAttrs_list PySem.F.slot_list_pop PySem.F.type_list_pop mt_pop (slot_of hx hi p) rfl hl)).wk fun D σ H ⟨sp0, B0, H0, s, o, sp, B, ev, r, f⟩ => ?_
  simp only [evS] at ev
  split at ev <;> first | (cases ev; done) | skip
  rename_i dl hd
  split at ev
  · rename_i hc
    cases ev
    simp only [Bool.and_eq_true, List.contains_iff_mem, Bool.not_eq_true', List.isEmpty_eq_false_iff] at hc
    obtain ⟨hm, hne⟩ := hc
    obtain ⟨q, vs, dl', g1, g2, g3, g4, g5, g6, g7⟩ := r.own i hm
    rw [hd] at g2
    cases g2
    have hne' : vs ≠ [] := fun e => by subst e; cases g4; exact hne rfl
    refine ⟨_, g1, .inl ⟨rfl, vs, .inl (.inl g3)⟩, ⟨q, vs, vs.getLast hne', rfl, rfl, g3, ?_, ?_⟩⟩
    · rw [List.getLast_eq_getElem]; exact List.getElem?_eq_getElem _
    · refine f sp B _ _ (.refl _) (Ext.refl _) (r.wr (vs := vs) (dl := dl) hm g1 hd ?_)
      rw [List.dropLast_eq_take, List.dropLast_eq_take, g4.len]
      exact g4.take _
  · cases ev
theorem s_setI (hx : XS Γ w0 ds n sc N X) {s : Str} {p p2 : Pos} {i : Nat} {ie : Expr} (hi : slot sc N s = some i) (h0 : plainE e = true) (h1 : plainE ie = true) (he : PED X c e x) (hie : PED X c ie y) (hc0 : isComp e = false) :
    PS X (.Assign [.Subscript (.Name s p) ie p2] e pos) (tSU X.K c w (.setI i y x)) := by
  refine (ps_asg (peU he) (pg_sub (slot_of hx hi p) (peU hie) set_list (by intro v; cases ie <;> first | rfl | (simp [plainE] at h1; done))) (by cases e <;> first | rfl | (simp [plainE] at h0; done) | (simp [isComp] at hc0; done)) (by cases e <;> first | rfl | (simp [plainE] at h0; done)) rfl).wk fun D σ H ⟨sp0, B0, H0, s, o, sp, B, ev, r, f⟩ => ?_
  simp only [evS] at ev
  split at ev
  · cases ev
  rename_i d k1 e1
  split at ev <;> first | (cases ev; done) | skip
  rename_i j k2 e2
  split at ev <;> first | (cases ev; done) | skip
  · rename_i m hd
    split at ev
    · rename_i hj
      cases ev
      simp only [Bool.and_eq_true, decide_eq_true_eq] at hj
      obtain ⟨rfl, hk⟩ := hj
      refine ev_pure r e1 rfl fun v B1 H1 r1 x1 g1 rv => ?_
      cases rv
      have hmu : i ∉ s.mu := fun hm => by
        obtain ⟨_, _, _, _, q, _⟩ := r.own i hm
        rw [hd] at q
        cases q
      obtain ⟨v0, hv0, rv0⟩ := r1.ri.2 i .spot hmu hd
      cases rv0 with
      | spot hsp =>
      rename_i q
      subst hsp
      refine ⟨_, hv0, ?_⟩
      refine ev_pure r1 e2 rfl fun v2 B2 H2 r2 x2 g2 rv2 => ?_
      cases rv2
      have hs2 := r2.spot
      cases k2 with
      | none => cases hk
      | some m0 =>
        exact ⟨q, [.int m0], 0, 0, rfl, rfl, hs2, rfl, f (some q) B2 _ _ (.refl _) (x1.trans x2) (r2.wrSpot rfl)⟩
    · cases ev
  · rename_i dl hd
    split at ev
    · rename_i hc
      simp only [Bool.and_eq_true, List.contains_iff_mem] at hc
      obtain ⟨hm, hn⟩ := hc
      cases e3 : ixN dl.length j with
      | none => rw [e3] at ev; cases ev
      | some jj =>
        rw [e3] at ev
        cases ev
        refine ev_pure r e1 hn fun v B1 H1 r1 x1 g1 rv => ?_
        obtain ⟨q, vs, dl', q1, q2, q3, q4, q5, q6, q7⟩ := r.own i hm
        rw [hd] at q2
        cases q2
        refine ⟨_, q1, ?_⟩
        refine ev_pure r1 e2 rfl fun v2 B2 H2 r2 x2 g2 rv2 => ?_
        cases rv2
        refine ⟨q, vs, j, jj, rfl, rfl, g2.hh q _ q7 (g1.hh q _ q7 q3), by rw [q4.len]; exact e3, ?_⟩
        refine f sp B2 _ _ (.refl _) (x1.trans x2) (r2.wr (vs := vs) (dl := dl) hm q1 hd ?_)
        exact (RepL.ext (x1.trans x2) _ _ q4).set jj (Rep.ext x2 _ _ rv)
    · cases ev
theorem s_par (hx : XS Γ w0 ds n sc N X) {s1 s2 : Str} {px py pt pt2 : Pos} {kt k2 : Nat} {i j : Nat} (hi : slotL sc N s1 = some i) (hj : slotL sc N s2 = some j) (hp : parOk sc s1 s2 px py a b = true) (ha0 : plainE a = true) (hb0 : plainE b = true) (ha : PED X c a x) (hb : PED X c b y) :
    PS X (.Assign [.Tuple [.Name s1 px, .Name s2 py] kt pt] (.Tuple [a, b] k2 pt2) pos) (tSU X.K c w (.par i j x y)) := by
  simp only [parOk, Bool.and_eq_true, Bool.not_eq_true', beq_eq_false_iff_ne] at hp
  obtain ⟨⟨⟨⟨⟨⟨p0, p1⟩, p2⟩, p3⟩, p4⟩, p5⟩, p6⟩ := hp
  have p1' : X.env.scope.names.lookup s1 = some .local := by rw [hx.x.sc]; simpa using p1
  have p2' : X.env.scope.names.lookup s2 = some .local := by rw [hx.x.sc]; simpa using p2
  have p0' : X.env.scope.kind = .function := by
    rw [hx.x.sc]
    cases hk : sc.kind <;> rw [hk] at p0 <;> first | rfl | (exact absurd p0 (by decide))
  obtain ⟨n1, n2, _, _⟩ := loc_of hx hi
  obtain ⟨_, n3, _, _⟩ := loc_of hx hj
  have hij : i ≠ j := fun e => by subst e; rw [n2] at n3; cases n3; exact p4 rfl
  have hsw : swappedStores [.Tuple [.Name s1 px, .Name s2 py] kt pt] (.Tuple [a, b] k2 pt2) X.env = pure (some [s1, s2]) := by
    have hst : ([a, b].any fun | .Starred .. => true | _ => false) = false := by
      cases a <;> cases b <;> first | rfl | (simp [plainE] at ha0 hb0; done)
    have hk1 : X.env.kindOf s1 = some .local := p1'
    have hk2 : X.env.kindOf s2 = some .local := p2'
    have hbk : X.env.blockKind = .function := by unfold Env.blockKind; rw [p0']; rfl
    have hne : s2 ≠ s1 := fun e => p4 e.symm
    have hf : ([a, b].all (foldedForSure 8)) = false := by simpa using p5
    have hc : ([a, b].all (constantsAlone 8)) = false := by simpa using p6
    have p3' : py.line = px.line := by have := beq_iff_eq.mp p3; exact this.symm
    unfold swappedStores
    simp [hk1, hk2, hbk, hst, hf, hc, Expr.pos, p3', List.eraseDups_cons, hne]
    intro h
    rcases h with h | h
    · cases a <;> first | (cases h; done) | (simp [plainE] at ha0; done)
    · cases b <;> first | (cases h; done) | (simp [plainE] at hb0; done)
  refine (ps_par hx.x.calm n1 n2 n3 hij p1' p2' (pa_cons (peU ha) (pa_cons (peU hb) pa_nil (star_of hb0 [] X.env)) (star_of ha0 _ X.env)) hsw rfl).wk fun D σ H ⟨sp0, B0, H0, s, o, sp, B, ev, r, f⟩ => ?_
  simp only [evS] at ev
  split at ev
  · cases ev
  rename_i d1 k1 e1
  split at ev
  · cases ev
  rename_i d2 k2 e2
  split at ev
  · rename_i hn
    cases ev
    simp only [Bool.and_eq_true] at hn
    refine ev_pure r e1 hn.1 fun v B1 H1 r1 x1 g1 rv => ?_
    refine ev_pure r1 e2 hn.2 fun v2 B2 H2 r2 x2 g2 rv2 => ?_
    exact ⟨v, v2, rfl, f sp B2 _ _ (.refl _) (x1.trans x2) ((r2.put i (Rep.ext x2 _ _ rv)).put j rv2)⟩
  · cases ev
end
end Mini
namespace Mini
open PySem PySem.Spec PyProof.Rows L2
section
variable {X : Cx} {c : Call} {w : Nat} {Γ : CT} {w0 n : Nat} {ds : List Def} {sc : Scope} {N : List Str}
variable {a b e t : Expr} {x y z : E} {pos : Pos} {es : List Expr} {xs : Es}
theorem s_ret (he : PED X c e x) : PS X (.Return (some e) pos) (tSU X.K c w (.ret x)) := by
  refine (ps_ret (peU he)).wk fun D σ H ⟨sp0, B0, H0, s, o, sp, B, ev, r, f⟩ => ?_
  simp only [evS] at ev
  split at ev
  · cases ev
  rename_i d k e1
  cases ev
  exact ev_any r e1 fun v B' H' r' x' rv => f sp v B' H' r'.ge r'.spot rv
theorem s_retN : PS X (.Return none pos) (tSU X.K c w .retN) := by
  refine ps_retN.wk fun D σ H ⟨sp0, B0, H0, s, o, sp, B, ev, r, f⟩ => ?_
  simp only [evS, Option.some.injEq] at ev
  subst ev
  exact f sp .non B H r.ge r.spot .non
theorem s_pass : PS X (.Pass pos) (tSU X.K c w .pass) := by
  refine ps_pass.wk fun D σ H ⟨sp0, B0, H0, s, o, sp, B, ev, r, f⟩ => ?_
  simp only [evS, Option.some.injEq] at ev
  subst ev
  exact f sp B σ H (.refl _) (Ext.refl _) r
theorem s_doc {x : Str} {j : Nat} {p1 : Pos} : PS X (.Expr (.Constant (.str x) j p1) pos) (tSU X.K c w .pass) := by
  refine ps_doc.wk fun D σ H ⟨sp0, B0, H0, s, o, sp, B, ev, r, f⟩ => ?_
  simp only [evS, Option.some.injEq] at ev
  subst ev
  exact f sp B σ H (.refl _) (Ext.refl _) r
theorem s_brk : PS X (.Break pos) (tSU X.K c w .brk) := by
  refine ps_break.wk fun D σ H ⟨sp0, B0, H0, s, o, sp, B, ev, r, f⟩ => ?_
  simp only [evS, Option.some.injEq] at ev
  subst ev
  exact f sp B σ H (.refl _) (Ext.refl _) r
theorem s_cnt : PS X (.Continue pos) (tSU X.K c w .cnt) := by
  refine ps_continue.wk fun D σ H ⟨sp0, B0, H0, s, o, sp, B, ev, r, f⟩ => ?_
  simp only [evS, Option.some.injEq] at ev
  subst ev
  exact f sp B σ H (.refl _) (Ext.refl _) r
theorem s_never {st : Stmt} : PS X st (tSU X.K c w .never) := by
  refine ps_never.wk fun D σ H ⟨sp0, B0, H0, s, o, sp, B, ev, r, f⟩ => ?_
  simp only [evS] at ev
  cases ev
theorem s_expr (h0 : plainE e = true) (hc : isComp e = false) (he : PED X c e x) : PS X (.Expr e pos) (tSU X.K c w (.expr x)) := by
  refine (ps_expr (peU he) (noSw hc h0 _ _ _)).wk fun D σ H ⟨sp0, B0, H0, s, o, sp, B, ev, r, f⟩ => ?_
  simp only [evS] at ev
  split at ev
  · cases ev
  rename_i d k e1
  cases ev
  exact ev_drop r e1 fun v B' H' r' x' => f sp B' σ H' (.refl _) x' r'
theorem s_ite {tt : T} {a b : List Stmt} {u v : Ss} (ht : PTD X c t tt) (ha : PSs X a (tSsU X.K c w u)) (hb : PSs X b (tSsU X.K c w v)) : PS X (.If t a b pos) (tSU X.K c w (.ite tt u v)) := by
  refine (ps_if (ptU ht) ha hb).wk fun D σ H ⟨sp0, B0, H0, s, o, sp, B, ev, r, f⟩ => ?_
  simp only [evS] at ev
  split at ev
  · cases ev
  · rename_i k e1
    refine ev_test r e1 fun B' H' r' x' => ?_
    exact iteT ⟨sp0, B0, H0, _, o, sp, B', ev, r', f.mono (.refl _) x'⟩
  · rename_i k e1
    refine ev_test r e1 fun B' H' r' x' => ?_
    exact iteF ⟨sp0, B0, H0, _, o, sp, B', ev, r', f.mono (.refl _) x'⟩
theorem s_nil : PSs X [] (tSsU X.K c w .nil) := by
  refine pss_nil.wk fun D σ H ⟨sp0, B0, H0, s, o, sp, B, ev, r, f⟩ => ?_
  simp only [evSs, Option.some.injEq] at ev
  subst ev
  exact f sp B σ H (.refl _) (Ext.refl _) r
theorem s_cons {st : Stmt} {rest : List Stmt} {u : S} {v : Ss} (h1 : PS X st (tSU X.K c w u)) (h2 : PSs X rest (tSsU X.K c w v)) : PSs X (st :: rest) (tSsU X.K c w (.cons u v)) := by
  refine (pss_cons h1 h2).wk fun D σ H ⟨sp0, B0, H0, s, o, sp, B, ev, r, f⟩ => ?_
  simp only [evSs] at ev
  cases e1 : evS c w u s with
  | none => rw [e1] at ev; cases ev
  | some o1 =>
    rw [e1] at ev
    refine ⟨sp0, B0, H0, s, o1, sp, B, e1, r, ?_⟩
    cases o1 with
    | nx s1 => exact fun sp' B' σ' H' h' x' r' => ⟨sp0, B0, H0, s1, o, sp', B', ev, r', f.mono h' x'⟩
    | rt d k => cases ev; exact f
    | bk s1 => cases ev; exact f
    | ct s1 => cases ev; exact f
theorem s_while (hx : XS Γ w0 ds n sc N X) {tt : T} {a : List Stmt} {u : Ss} (ht : PTD X c t tt) (ha : PSs X a (tSsU X.K c w u)) : PS X (.While t a [] pos) (tSU X.K c w (.while tt u)) := by
  refine (ps_while hx.po (ptU ht) ha).wk fun D σ H ⟨sp0, B0, H0, s, o, sp, B, ev, r, f⟩ => ?_
  simp only [evS] at ev
  refine ⟨fun m σ' H' => ∃ s' sp' B', SpLe sp sp' ∧ Ext B B' ∧ RS X.K sp0 B0 H0 s' sp' B' σ' H' ∧ whileD (fun s => evT c tt s.ρ s.k) (fun s => evSs c w u s) m s' = some o, ⟨w, s, sp, B, .refl _, Ext.refl _, r, ev⟩, ?_⟩
  rintro m σ1 H1 ⟨s1, sp1, B1, l1, x1, r1, ev1⟩
  cases m with
  | zero => simp [whileD] at ev1
  | succ m =>
    simp only [whileD] at ev1
    split at ev1
    · cases ev1
    · rename_i k e1
      cases ev1
      refine ev_test r1 e1 fun B' H' r' x' => ?_
      exact iteF (f sp1 B' σ1 H' l1 (x1.trans x') r')
    · rename_i k e1
      refine ev_test r1 e1 fun B' H' r' x' => ?_
      refine iteT ?_
      cases e2 : evSs c w u { s1 with k := k } with
      | none => rw [e2] at ev1; cases ev1
      | some o1 =>
        rw [e2] at ev1
        refine ⟨_, fun σ' H' h => ⟨m, Nat.lt_succ_self m, h⟩, ⟨sp0, B0, H0, _, o1, sp1, B', e2, r', ?_⟩⟩
        cases o1 with
        | nx s2 => exact fun sp' B2 σ' H2 h' x2 r2 => ⟨s2, sp', B2, l1.trans h', (x1.trans x').trans x2, r2, ev1⟩
        | ct s2 => exact fun sp' B2 σ' H2 h' x2 r2 => ⟨s2, sp', B2, l1.trans h', (x1.trans x').trans x2, r2, ev1⟩
        | bk s2 => cases ev1; exact fun sp' B2 σ' H2 h' x2 r2 => f sp' B2 σ' H2 (l1.trans h') ((x1.trans x').trans x2) r2
        | rt d k => cases ev1; exact f
theorem s_for (hx : XS Γ w0 ds n sc N X) {tge ite : Expr} {tg : Tg} {it : I} {a : List Stmt} {u : Ss} (hg : PGD X tge tg) (h0 : plainE ite = true) (hi : PID X c tge ite it) (ha : PSs X a (tSsU X.K c w u)) : PS X (.For tge ite a [] pos) (tSU X.K c w (.for tg it u)) := by
  refine (ps_for hx.po hx.x.calm (piU hi) (pgU hg) ha (noSet_of h0 X.env)).wk fun D σ H ⟨sp0, B0, H0, s, o, sp, B, ev, r, f⟩ => ?_
  simp only [evS] at ev
  split at ev
  · cases ev
  rename_i es k e1
  obtain ⟨B1, r1, x1, f1, f2⟩ := r.freeze (s.mu.filter fun i => avI [i] it) (fun i h => (List.mem_filter.mp h).1)
  refine ⟨s.ρ, _, s.k, es, k, e1, avI_all (s.mu.filter fun i => avI [i] it) it fun i h => (List.mem_filter.mp h).2, sp, B1, r1.wd, r.spot, r1.ri, fun J B2 H2 g2 s2 hJ => ?_⟩
  have r2 : RS X.K sp0 B0 H0 (s.keep (fun m => avI m it) k) sp B2 σ H2 := r1.step g2 s2
  have x2 : Ext B B2 := x1.trans g2.bb
  refine ⟨fun i m σ' H' => m = es.length - i ∧ i ≤ es.length ∧ ∃ si spi Bi, SpLe sp spi ∧ Ext B2 Bi ∧ RS X.K sp0 B0 H0 si spi Bi σ' H' ∧ forD tg (fun s => evSs c w u s) (es.drop i) si = some o, ⟨es.length, rfl, Nat.zero_le _, _, sp, B2, .refl _, Ext.refl _, r2, ev⟩, ?_⟩
  rintro i m σ3 H3 ⟨rfl, hile, si, spi, Bi, li, xi, ri, ei⟩
  by_cases hlt : i < es.length
  · refine .inr ?_
    have hdi : es[i]? = some es[i] := List.getElem?_eq_getElem hlt
    obtain ⟨hgo, hy⟩ := (hJ spi Bi H3 si.k ⟨li, xi, ri.wd⟩ ri.spot).1 i _ hdi
    have hdrop : es.drop i = es[i] :: es.drop (i + 1) := List.drop_eq_getElem_cons hlt
    rw [hdrop] at ei
    simp only [forD] at ei
    split at ei
    · cases ei
    rename_i ρ1 easg
    refine ⟨hgo, fun σ' H' => i + 1 ≤ es.length ∧ ∃ sj spj Bj, SpLe sp spj ∧ Ext B2 Bj ∧ RS X.K sp0 B0 H0 sj spj Bj σ' H' ∧ forD tg (fun s => evSs c w u s) (es.drop (i + 1)) sj = some o, fun σ' H' hH' => ⟨es.length - (i + 1), by omega, rfl, hH'⟩, fun v H4 hyld => ?_⟩
    obtain ⟨B4, g4, s4, r4⟩ := hy v H4 hyld
    have r5 : RS X.K sp0 B0 H0 si spi B4 σ3 H4 := ri.step g4 s4
    cases e2 : evSs c w u { ρ := ρ1, mu := tgMu tg si.mu, k := si.k } with
    | none => rw [e2] at ei; cases ei
    | some o1 =>
      rw [e2] at ei
      refine ⟨spi, B4, _, si.ρ, ρ1, g4.wd.sub, r5.ri.1, r4, easg, fun σ5 u5 => ⟨sp0, B0, H0, _, o1, spi, B4, e2, r5.updT u5, ?_⟩⟩
      cases o1 with
      | nx s6 => exact fun sp' B6 σ' H6 h' x6 r6 => ⟨hlt, s6, sp', B6, li.trans h', (xi.trans g4.bb).trans x6, r6, ei⟩
      | ct s6 => exact fun sp' B6 σ' H6 h' x6 r6 => ⟨hlt, s6, sp', B6, li.trans h', (xi.trans g4.bb).trans x6, r6, ei⟩
      | bk s6 => cases ei; exact fun sp' B6 σ' H6 h' x6 r6 => f sp' B6 σ' H6 (li.trans h') (x2.trans ((xi.trans g4.bb).trans x6)) r6
      | rt d k => cases ei; exact f
  · refine .inl ?_
    have hi : i = es.length := by omega
    subst hi
    refine ⟨(hJ spi Bi H3 si.k ⟨li, xi, ri.wd⟩ ri.spot).2, ?_⟩
    rw [List.drop_length] at ei
    simp only [forD, Option.some.injEq] at ei
    subst ei
    exact f spi Bi σ3 H3 li (x2.trans xi) ri
end
end Mini
namespace Mini
open PySem PySem.Spec PyProof.Rows L2
section
variable {X : Cx} {w : Nat} {Γ : CT} {w0 n : Nat} {ds : List Def} {sc : Scope} {N : List Str}
theorem swOk_pos {sc : Scope} {s : Str} {p : Pos} {e : Expr} (h : swOk sc s p e = true) : isComp e = true := by
  cases e <;> first | rfl | (simp [swOk] at h; done)
theorem comp_noset (hx : XS Γ w0 ds n sc N X) {m : Nat} {s : Str} {p pos : Pos} {i : Nat} {e : Expr} {y : E} (hi : slotL sc N s = some i) (hs : swOk sc s p e = true) (h : cE Γ m sc N e = some y) : PS X (.Assign [.Name s p] e pos) (tSU X.K (run w0 ds n) w (.new i y)) := by
  have hc := swOk_pos hs
  cases e <;> simp only [isComp, Bool.false_eq_true] at hc
  rename_i elt gens scope pc
  cases m with
  | zero => simp [cE] at h
  | succ m =>
    simp only [cE] at h
    split at h <;> first | (cases h; done) | skip
    rename_i tg it ifs asy
    split at h <;> first | (cases h; done) | skip
    rename_i hb
    simp only [Bool.and_eq_true, beq_iff_eq] at hb
    obtain ⟨ha, hb⟩ := hb
    subst ha
    split at h <;> first | (cases h; done) | skip
    rename_i tgd itd eltd h1 h2 h3
    have P := parts_of (ih_at m) hx.x hb h1 h2 h3
    have hpl := ((ih_at m).i hx.x h2).2
    split at h <;> first | (cases h; done) | skip
    · cases h
      exact s_newc0 hx hi hs hpl P
    · rename_i q
      cases h4 : cT Γ m (relS scope sc) N q with
      | none => rw [h4] at h; cases h
      | some qd =>
        rw [h4] at h
        cases h
        exact s_newc1 hx hi hs hpl P (fun s H C cl fp => (ih_at m).t (xf_blk hx.x s H C cl fp) h4)
theorem fresh_not {e : Expr} (h : isComp e = false) (m : Nat) {X : Cx} {y : E} (hx : XS Γ w0 ds n sc N X) (hf : freshShape e = true) (he : cE Γ m sc N e = some y) : PE X e (tFU X.K (run w0 ds n) y) := by
  cases m with
  | zero => simp [cE] at he
  | succ m =>
    rcases fresh_e hx.x rfl he hf with h1 | h1
    · exact h1
    · rw [h] at h1; cases h1
theorem cS_ok (hx : XS Γ w0 ds n sc N X) : ∀ m, (∀ st il, cS Γ sc N m st = some il → PS X st (tSU X.K (run w0 ds n) w il)) := by
  intro m
  induction m with
  | zero => intro st il h; simp [cS] at h
  | succ m ih =>
    have ihs : ∀ l ys, mapO (cS Γ sc N m) l = some ys → PSs X l (tSsU X.K (run w0 ds n) w (toSs ys)) := by
      intro l
      induction l with
      | nil => intro ys h; cases h; exact s_nil
      | cons st l ihl =>
        intro ys h
        obtain ⟨y, zs, h1, h2, rfl⟩ := mapO_cons h
        exact s_cons (ih st y h1) (ihl zs h2)
    have E : ∀ {e : Expr} {y : E}, cE Γ m sc N e = some y → PED X (run w0 ds n) e y := fun h => (ih_at m).e hx.x h
    intro st il h
    cases st <;> try (simp only [cS] at h; first | (cases h; done) | skip)
    case Assign tgs e pos =>
      split at h
      · rename_i s py
        split at h
        · cases h
        rename_i i hi
        split at h
        · rename_i hsp
          cases h
          simp only [Bool.and_eq_true] at hsp
          obtain ⟨_, h2⟩ := hsp
          unfold isSpotE at h2
          split at h2
          · exact s_spot hx hi
          · cases h2
        · split at h
          · cases h
          · rename_i hcs
            cases e1 : cE Γ m sc N e with
            | none => rw [e1] at h; cases h
            | some y =>
              rw [e1] at h
              simp only [Option.map_some, Option.some.injEq] at h
              by_cases hc : isComp e = true
              · have hs : swOk sc s py e = true := by
                  cases hq : swOk sc s py e with
                  | true => rfl
                  | false => simp [hc, hq] at hcs
                have hf : freshShape e = true := by
                  cases e <;> simp [isComp] at hc <;> rfl
                rw [if_pos hf] at h
                subst h
                exact comp_noset hx hi hs e1
              · have hc' : isComp e = false := by simpa using hc
                by_cases hf : freshShape e = true
                · rw [if_pos hf] at h
                  subst h
                  exact s_new hx hi hc' (cE_shape e1) (fresh_not hc' m hx hf e1)
                · rw [if_neg hf] at h
                  subst h
                  exact s_set hx hi hc' (cE_shape e1) (E e1)
      · rename_i ts tk tp
        split at h
        · rename_i vs k2 tp2
          split at h
          · rename_i s1 px s2 py a b
            split at h
            · rename_i hp
              split at h
              · rename_i i j u v hi hj h1 h2
                cases h
                exact s_par hx hi hj hp (cE_shape h1) (cE_shape h2) (E h1) (E h2)
              · cases h
            · cases h
          · cases h
        · rename_i hnt
          split at h
          · rename_i u y h1 h2
            cases h
            refine s_asg hx h1 (cE_shape h2) ?_ (E h2)
            cases e <;> first | rfl | exact (hnt _ _ _ rfl).elim
          · cases h
      · rename_i s p ie p2
        split at h
        · cases h
        rename_i hc
        split at h
        · rename_i i u y hi h1 h2
          cases h
          exact s_setI hx hi (cE_shape h2) (cE_shape h1) (E h2) (E h1) (by simpa using hc)
        · cases h
      · cases h
    case AugAssign tg op e pos =>
      cases tg <;> simp only [cS] at h <;> first | (cases h; done) | skip
      split at h
      · rename_i i o y hi ho h1
        cases h
        exact s_aug hx hi ho (E h1)
      · cases h
    case Return o pos =>
      split at h
      · cases h; exact s_retN
      · rename_i e
        cases e1 : cE Γ m sc N e with
        | none => rw [e1] at h; cases h
        | some y => rw [e1] at h; cases h; exact s_ret (E e1)
    case If t a b pos =>
      split at h
      · rename_i u y z h1 h2 h3
        cases h
        exact s_ite ((ih_at m).t hx.x h1) (ihs _ _ h2) (ihs _ _ h3)
      · cases h
    case For tg it body els pos =>
      cases els with
      | cons _ _ => simp [cS] at h
      | nil =>
        simp only [cS] at h
        split at h
        · rename_i u y z h1 h2 h3
          cases h
          obtain ⟨q1, q2⟩ := (ih_at m).i hx.x h2
          exact s_for hx (cTg_ok hx.x.nn hx.x.nd hx.x.calm (tok_of hx) 8 _ _ h1) q2 q1 (ihs _ _ h3)
        · cases h
    case While t body els pos =>
      cases els with
      | cons _ _ => simp [cS] at h
      | nil =>
        simp only [cS] at h
        split at h
        · rename_i u y h1 h2
          cases h
          exact s_while hx ((ih_at m).t hx.x h1) (ihs _ _ h2)
        · cases h
    case Expr e pos =>
      split at h
      · cases h; exact s_doc
      · rename_i s p mm ap args cp
        split at h
        · cases h
        · rename_i hl
          have hl' : (ap.endLine == cp.line) = true := by simpa using hl
          split at h
          · rename_i hm
            have hm' := beq_iff_eq.mp hm
            subst hm'
            split at h <;> first | (cases h; done) | skip
            split at h <;> first | (cases h; done) | skip
            rename_i i y hi h1
            cases h
            exact s_app hx hi (cE_shape h1) hl' (E h1)
          · split at h
            · rename_i hm
              have hm' := beq_iff_eq.mp hm
              subst hm'
              split at h <;> first | (cases h; done) | skip
              cases e1 : slot sc N s with
              | none => rw [e1] at h; cases h
              | some i => rw [e1] at h; cases h; exact s_pop hx e1 hl'
            · cases h
      · rename_i s p args kw q
        cases e1 : cE Γ m sc N (.Call (.Name s p) args kw q) with
        | none => rw [e1] at h; cases h
        | some y => rw [e1] at h; cases h; exact s_expr rfl rfl (E e1)
      · cases h
    case Pass pos => cases h; exact s_pass
    case Break pos => cases h; exact s_brk
    case Continue pos => cases h; exact s_cnt
    case Raise => cases h; exact s_never
theorem cSs_ok (hx : XS Γ w0 ds n sc N X) {m : Nat} {l : List Stmt} {il : Ss} (h : cSs Γ sc N m l = some il) : PSs X l (tSsU X.K (run w0 ds n) w il) := by
  unfold cSs at h
  cases e : mapO (cS Γ sc N m) l with
  | none => rw [e] at h; cases h
  | some ys =>
    rw [e] at h
    cases h

    induction l generalizing ys with
    | nil => cases e; exact s_nil
    | cons st l ihl =>
      obtain ⟨y, zs, h1, h2, rfl⟩ := mapO_cons e
      exact s_cons (cS_ok hx m st y h1) (ihl zs h2)
end
end Mini
namespace Mini
open PySem PySem.Spec PyProof.Rows L2
section
variable {P : Program} {wd : World} {K : PySem.W.Frag} {mg : Str → Option Value} {base : Heap} {Γ : CT} {ds : List Def} {w0 n : Nat}
theorem repl_start {sp : Option Addr} {H : Hp} {ps ns : Nat} {vs : List V} {as : List D} (r : RepL K sp H vs as) (N : List Str) (hl : as.length = ps) : RI K sp H [] (as.map some ++ List.replicate (N.length - ps) none) (L2.start N vs) := by
  refine ⟨by simp [L2.start, r.len, hl], fun i d hi hd => ?_⟩
  unfold L2.start
  rw [List.getElem?_append] at hd ⊢
  rw [List.length_map] at hd ⊢
  rw [r.len]
  by_cases h : i < as.length
  · rw [if_pos h] at hd ⊢
    rw [List.getElem?_map] at hd ⊢
    cases e : as[i]? with
    | none => rw [e] at hd; cases hd
    | some d' =>
      rw [e] at hd
      cases hd
      obtain ⟨v, h1, h2⟩ := r.get e
      exact ⟨v, by rw [h1]; rfl, h2⟩
  · rw [if_neg h] at hd
    rw [List.getElem?_replicate] at hd
    split at hd <;> cases hd
theorem endK_ok {sp sp' : Option Addr} {B H B' H' : Hp} {k k1 k' : Ky} {x d : D} {v : V} {Q : VK} (w : Wd sp B H) (s : SpotAt sp k H) (g : GeS sp sp' B H B' H') (s' : SpotAt sp' k1 H') (r : Rep K sp' B' v x) (h : endK k x k1 = some (d, k'))
    (q : ∀ v B' H', Ge sp B H B' H' → SpotAt sp k' H' → Rep K sp B' v d → Q v H') : Q v H' := by
  obtain ⟨h1 | ⟨h1, a, h2, h3⟩, g1⟩ := g
  · subst h1
    have : d = x ∧ k' = k1 := by
      cases sp' with
      | none =>
        cases k <;> cases k1 <;> first | exact s.elim | exact s'.elim | skip
        simp [endK] at h
        exact ⟨h.1.symm, h.2.symm⟩
      | some b =>
        cases k <;> cases k1 <;> first | exact s.elim | exact s'.elim | skip
        cases x <;> simp [endK] at h <;> exact ⟨h.1.symm, h.2.symm⟩
    obtain ⟨rfl, rfl⟩ := this
    exact q v B' H' g1 s' r
  · subst h1
    subst h2
    cases k with
    | some _ => exact s.elim
    | none =>
      cases k1 with
      | none => exact s'.elim
      | some m =>
        have g2 : Ge none B H B' H' := ⟨fun x o _ hx => g1.hh x o (fun e => by cases e; rw [h3] at hx; cases hx) hx, g1.bb, ⟨g1.wd.sub, fun _ e => by cases e⟩, g1.old⟩
        cases x <;> simp only [endK, Option.some.injEq, Prod.mk.injEq] at h <;> first | (cases h; done) | skip
        obtain ⟨rfl, rfl⟩ := h
        cases r
        exact q _ B' H' g2 trivial (.bl _)
theorem fn_ok {x qual : Str} {st : Stmt} {f : Addr} {fd : FuncData} {N ps : List Str} {m i : Nat} {body : Ss} (Fc : Facts Γ P wd K mg base n w0 ds) (F : Fun K x qual st f fd) (S : FnScope N ps (defScope st)) (hc : cSs Γ (defScope st) N m (defBody st) = some body)
    (hi : ds[i]? = some ⟨ps.length, N.length, body⟩) : FnOk P wd K mg base CX0 (n + 1) f fd ps (spOf K w0 ds (n + 1) i) := by
  have shape : ∀ {as : List D} {k k' : Ky} {d : D}, run w0 ds (n + 1) i as k = some (d, k') → as.length = ps.length ∧ (match evSs (run w0 ds n) w0 body { ρ := as.map some ++ List.replicate (N.length - ps.length) none, mu := [], k := k } with
        | some (.nx s) => endK k .non s.k
        | some (.rt x k') => endK k x k'
        | _ => none) = some (d, k') := by
    intro as k k' d h
    simp only [run, hi] at h
    split at h
    · rename_i hl
      exact ⟨beq_iff_eq.mp hl, h⟩
    · cases h
  refine F.ok S (fun vs H Q E h => ?_) (fun cdv A outer s H vs Q E hr h => ?_)
  · obtain ⟨sp, B, k, as, d, k', _, _, r, hrun, _⟩ := h
    rw [r.len]
    exact (shape hrun).1
  · obtain ⟨sp, B, k, as, d, k', w, s', r, hrun, q⟩ := h
    obtain ⟨hl, hrun⟩ := shape hrun
    have hx : XS Γ w0 ds n (defScope st) N (cxOf CX0 P wd K mg base N qual (defScope st) f cdv A outer s H E).nox := ⟨⟨Fc, rfl, rfl, S.nd, rfl, hr⟩, fun _ => rfl, PassesOwn.never⟩
    refine ⟨_, cSs_ok (w := w0) hx hc, ?_⟩
    cases e : evSs (run w0 ds n) w0 body { ρ := as.map some ++ List.replicate (N.length - ps.length) none, mu := [], k := k } with
    | none => rw [e] at hrun; cases hrun
    | some o =>
      rw [e] at hrun
      refine ⟨sp, B, H, _, o, sp, B, e, ⟨⟨.inl rfl, Ge.refl w⟩, s', repl_start (ns := 0) r N hl, fun j hj => (by cases hj), fun j j' a hj => (by cases hj)⟩, ?_⟩
      cases o with
      | nx s1 => exact fun sp' B' σ' H' h' x' r' => endK_ok (K := K) w s' r'.ge r'.spot (x := .non) .non hrun q
      | rt d1 k1 => exact fun sp' v B' H' g s1 r1 => endK_ok w s' g s1 r1 hrun q
      | bk s1 => cases hrun
      | ct s1 => cases hrun
theorem run_zero {i : Nat} {as : List D} {k : Ky} : run w0 ds 0 i as k = none := rfl
structure DefFact (Γ : CT) (K : PySem.W.Frag) (mg : Str → Option Value) (ds : List Def) (x : Str) (i : Nat) : Prop where
  ex : ∃ (qual : Str) (st : Stmt) (f : Addr) (fd : FuncData) (N ps : List Str) (m : Nat) (body : Ss), Fun K x qual st f fd ∧ FnScope N ps (defScope st) ∧ cSs Γ (defScope st) N m (defBody st) = some body ∧ ds[i]? = some ⟨ps.length, N.length, body⟩ ∧ mg x = some (.ref f) ∧ Binds K fd ps []
structure Base (Γ : CT) (K : PySem.W.Frag) (mg : Str → Option Value) (ds : List Def) : Prop where
  fns : ∀ p ∈ Γ.fns, DefFact Γ K mg ds p.1 p.2
  consts : ∀ p ∈ Γ.consts, ∃ v u, mg p.1 = some u ∧ RelV v u ∧ ∀ sp H, Rep K sp H v p.2
  gcd : ∀ x ∈ Γ.gcd, mg x = some (.builtin "math.gcd")
  bi : ∀ x ∈ biNames, mg x = none
theorem lookup_in {α : Type} {x : Str} {i : α} : ∀ {l : List (Str × α)}, l.lookup x = some i → (x, i) ∈ l
  | [], h => by cases h
  | (y, j) :: l, h => by
    unfold List.lookup at h
    split at h
    · rename_i e
      cases h
      rw [beq_iff_eq.mp e]
      exact List.mem_cons_self
    · exact List.mem_cons_of_mem _ (lookup_in h)
theorem facts (b : Base Γ K mg ds) : ∀ n, Facts Γ P wd K mg base n w0 ds := by
  intro n
  induction n with
  | zero =>
    refine ⟨fun x i h => ?_, fun x d h => b.consts _ (lookup_in h), b.gcd, b.bi⟩
    obtain ⟨qual, st, f, fd, N, ps, m, body, F, S, hc, hi, hm, hb⟩ := (b.fns _ (lookup_in h)).ex
    refine ⟨f, fd, ps, ⟨fun vs H Q E h => ?_, fun A outer s H args us vs Q E hr he hb' hv h => ?_⟩, hm, F.kp, hb⟩
    · obtain ⟨_, _, _, _, _, _, _, _, _, h, _⟩ := h
      cases h
    · obtain ⟨_, _, _, _, _, _, _, _, _, h, _⟩ := h
      cases h
  | succ n ih =>
    refine ⟨fun x i h => ?_, fun x d h => b.consts _ (lookup_in h), b.gcd, b.bi⟩
    obtain ⟨qual, st, f, fd, N, ps, m, body, F, S, hc, hi, hm, hb⟩ := (b.fns _ (lookup_in h)).ex
    exact ⟨f, fd, ps, fn_ok ih F S hc hi, hm, F.kp, hb⟩
/-- the law's own promise -/
def spLaw (w0 : Nat) (ds : List Def) (n i : Nat) (K : PySem.W.Frag) : Sp := spOf K w0 ds n i
theorem law_end {w0 : Nat} {ds : List Def} {n i m : Nat} (h : ∀ ns : List Int, ns.length ≤ m → ∃ k, run w0 ds n i [.scr (ns.map .int)] none = some (.bl true, k)) (K : PySem.W.Frag) (H : Hp) (a : Addr) (ns : List Int) (hl : ns.length ≤ m) (_ : Only H) (hS : SqL K H a (ns.map V.int)) :
    spLaw w0 ds n i K [.ref a] H (fun v _ => v = .bl true) fun _ _ _ => False := by
  obtain ⟨k, hk⟩ := h ns hl
  exact ⟨none, H, none, _, _, _, ⟨Ext.refl _, fun _ e => by cases e⟩, trivial, .cons (.scr hS (repl_ints ns)) .nil, hk, fun v B' H' _ _ r => by cases r; rfl⟩
end
end Mini
namespace Mini
open PySem PySem.Spec PyProof.Rows L2
/-! ### how the evaluator answers -/
def fin (k : Ky) : Option O → Option (D × Ky)
  | some (.nx s) => endK k .non s.k
  | some (.rt x k') => endK k x k'
  | _ => none
theorem run_eq {w : Nat} {ds : List Def} {n f : Nat} {as : List D} {k : Ky} {d : Def} (h : ds[f]? = some d) (hl : as.length = d.ps) : run w ds (n + 1) f as k = fin k (evSs (run w ds n) w d.body { ρ := as.map some ++ List.replicate (d.ns - d.ps) none, mu := [], k := k }) := by
  simp only [run, h, hl, beq_self_eq_true, if_true]
  rfl
theorem endK_same (k : Ky) (d : D) : endK k d k = some (d, k) := by
  cases k <;> cases d <;> rfl
theorem fin_rt (k : Ky) (d : D) : fin k (some (.rt d k)) = some (d, k) := endK_same k d
theorem fin_nx (k : Ky) (s : Sta) (h : s.k = k) : fin k (some (.nx s)) = some (.non, k) := by subst h; exact endK_same _ _
theorem forD_inv {tg : Tg} {body : Sta → Option O} {I : Nat → Sta → Prop} {J : Sta → Prop} : ∀ (ds : List D) (m : Nat) (s : Sta),
    (∀ i d s, ds[i]? = some d → I (m + i) s → ∃ ρ o, asg tg d s.ρ = some ρ ∧ body { ρ := ρ, mu := tgMu tg s.mu, k := s.k } = some o ∧ (match o with | .nx s' => I (m + i + 1) s' | .ct s' => I (m + i + 1) s' | .bk s' => J s' | .rt _ _ => False)) →
    (∀ s, I (m + ds.length) s → J s) → I m s → ∃ s', forD tg body ds s = some (.nx s') ∧ J s'
  | [], m, s, _, h2, h3 => ⟨s, rfl, h2 s h3⟩
  | d :: ds, m, s, h1, h2, h3 => by
    obtain ⟨ρ, o, e1, e2, h⟩ := h1 0 d s rfl h3
    have next : ∀ s', I (m + 1) s' → ∃ s'', forD tg body ds s' = some (.nx s'') ∧ J s'' := fun s' hs' =>
      forD_inv ds (m + 1) s' (fun i d s hd hs => by
        have := h1 (i + 1) d s (by simpa using hd) (by rw [show m + (i + 1) = m + 1 + i by omega]; exact hs)
        rw [show m + (i + 1) = m + 1 + i by omega] at this
        exact this) (fun s hs => h2 s (by rw [List.length_cons, show m + (ds.length + 1) = m + 1 + ds.length by omega]; exact hs)) hs'
    simp only [forD, e1, e2]
    cases o with
    | nx s' => exact next s' h
    | ct s' => exact next s' h
    | bk s' => exact ⟨s', rfl, h⟩
    | rt d k => exact h.elim
theorem compD_pure {f : Rho → Ky → Option (D × Ky)} {g : Rho → Ky → Option (Bool × Ky)} {tg : Tg} {ρ : Rho} {k : Ky} (r : D → Rho) (p : D → Bool) (h : D → D) : ∀ (xs : List D),
    (∀ x ∈ xs, asg tg x ρ = some (r x) ∧ g (r x) k = some (p x, k) ∧ (p x = true → f (r x) k = some (h x, k))) → compD f g tg ρ xs k = some ((xs.filter p).map h, k)
  | [], _ => rfl
  | x :: xs, hh => by
    obtain ⟨h1, h2, h3⟩ := hh x List.mem_cons_self
    have ih := compD_pure r p h xs fun y hy => hh y (List.mem_cons_of_mem _ hy)
    simp only [compD, h1, h2]
    cases hp : p x with
    | false => simp only [ih, List.filter_cons, hp]; rfl
    | true => simp only [h3 hp, ih, List.filter_cons, hp]; rfl
/-! ### the draws -/
def bDraw : Ss := (.cons (.ite (.val (.cmp .lt (.var 1) (.bi .len (.cons (.var 0) .nil)))) (.cons (.ret (.bin .mod (.bi .int (.cons (.idx (.var 0) (.var 1)) .nil)) (.var 2))) .nil) .nil) (.cons (.set 3 (.bin .mod (.bi .int (.cons (.bin .add (.bin .add (.bin .mul (.idx (.var 0) (.bin .mod (.bi .int (.cons (.var 1) .nil)) (.bi .len (.cons (.var 0) .nil)))) (.cst (.int 40692))) (.bin .mul (.var 1) (.cst (.int 7919)))) (.cst (.int 3))) .nil)) (.cst (.int 2147483399)))) (.cons (.ret (.bin .mod (.bi .int (.cons (.bin .mod (.bi .int (.cons (.bin .add (.bin .mul (.var 3) (.cst (.int 48271))) (.var 1)) .nil)) (.cst (.int 2147483647))) .nil)) (.var 2))) .nil)))
def bTake (dr : Nat) : Ss := (.cons (.setI 1 (.cst (.int 0)) (.bin .add (.idx (.var 1) (.cst (.int 0))) (.cst (.int 1)))) (.cons (.ret (.call dr (.cons (.var 0) (.cons (.bin .sub (.idx (.var 1) (.cst (.int 0))) (.cst (.int 1))) (.cons (.var 2) .nil))))) .nil))
def body1 : Ss := (.cons (.ite (.val (.cmp .eq (.var 3) (.cst (.int 0)))) (.cons .brk .nil) .nil) (.cons (.app 1 (.bin .mod (.bi .int (.cons (.var 3) .nil)) (.cst (.int 997)))) (.cons (.set 3 (.bin .fdiv (.var 3) (.cst (.int 997)))) .nil)))
def body2 : Ss := (.cons (.set 5 (.bin .mod (.bi .int (.cons (.bin .add (.bin .add (.bin .mul (.var 2) (.cst (.int 48271))) (.bin .mul (.var 4) (.cst (.int 69621)))) (.cst (.int 11))) .nil)) (.cst (.int 2147483647)))) (.cons (.app 1 (.bin .mod (.bi .int (.cons (.bin .add (.bin .mul (.var 5) (.cst (.int 16807))) (.var 4)) .nil)) (.cst (.int 2147483629)))) .nil))
def bodyO : Ss := (.cons (.ite (.val (.cmp .ge (.var 2) (.bin .pow (.cst (.int 10)) (.cst (.int 18))))) (.cons (.set 3 (.var 2)) (.cons (.for (.name 4) (.rng (.cons (.cst (.int 60)) .nil)) body1) .nil)) (.cons (.for (.name 4) (.rng (.cons (.cst (.int 4)) .nil)) body2) .nil)) .nil)
def bNumbers : Ss := (.cons (.new 1 (.lst .nil)) (.cons (.for (.name 2) (.seq (.sli 2 (.var 0) (.cst .non) (.cst (.int 63)))) bodyO) (.cons (.ite (.val (.cmp .eq (.bi .len (.cons (.var 1) .nil)) (.cst (.int 0)))) (.cons (.app 1 (.cst (.int 0))) .nil) .nil) (.cons (.ret (.var 1)) .nil))))
section
variable {w : Nat} {ds : List Def} {n : Nat} {k : Ky}
theorem atI_map {α β : Type} (f : α → β) (xs : List α) (i : Int) : atI (xs.map f) i = (atI xs i).map f := by
  unfold atI
  rw [List.length_map]
  cases ixN xs.length i <;> simp
theorem atI_in {α : Type} {xs : List α} {i : Int} (h0 : 0 ≤ i) (h1 : i < xs.length) : ∃ x, atI xs i = some x ∧ x ∈ xs := by
  unfold atI ixN
  rw [if_pos h0, if_pos h1]
  have : i.toNat < xs.length := by omega
  exact ⟨xs[i.toNat], by simp [List.getElem?_eq_getElem this], List.getElem_mem this⟩
theorem draw_ok {f : Nat} (hf : ds[f]? = some ⟨3, 4, bDraw⟩) (row : List Int) (hr : row ≠ []) (a lim : Int) (ha : 0 ≤ a) (hl : 0 < lim) : ∃ v : Int, run w ds (n + 1) f [.lst (row.map .int), .int a, .int lim] k = some (.int v, k) ∧ 0 ≤ v ∧ v < lim := by
  rw [run_eq hf rfl]
  have hlen : 0 < row.length := List.length_pos_iff.mpr hr
  by_cases hlt : a < row.length
  · obtain ⟨x, hx, _⟩ := atI_in (xs := row) ha hlt
    refine ⟨x % lim, ?_, Int.emod_nonneg _ (by omega), Int.emod_lt_of_pos _ hl⟩
    simp [bDraw, evSs, evS, evE, evT, evEs, biSem, boSem, coSem, truth, idxSem, atI_map, hx, hlt, hl, fin_rt]
  · have hm0 : 0 ≤ a % (row.length : Int) := Int.emod_nonneg _ (by omega)
    have hm1 : a % (row.length : Int) < row.length := Int.emod_lt_of_pos _ (by omega)
    obtain ⟨x, hx, _⟩ := atI_in (xs := row) hm0 hm1
    have hlen' : (0 : Int) < row.length := by omega
    refine ⟨((x * 40692 + a * 7919 + 3) % 2147483399 * 48271 + a) % 2147483647 % lim, ?_, Int.emod_nonneg _ (by omega), Int.emod_lt_of_pos _ hl⟩
    simp [bDraw, evSs, evS, evE, evT, evEs, biSem, boSem, coSem, truth, idxSem, atI_map, hx, hlt, hl, fin_rt, hlen', stE, noL, Sta.put, mulOk, small64, hlen]
theorem take_ok {f dr : Nat} (hf : ds[f]? = some ⟨3, 3, bTake dr⟩) (hd : ds[dr]? = some ⟨3, 4, bDraw⟩) (row : List Int) (hr : row ≠ []) (m lim : Int) (hm : 0 ≤ m) (hl : 0 < lim) : ∃ v : Int, run w ds (n + 2) f [.lst (row.map .int), .spot, .int lim] (some m) = some (.int v, some (m + 1)) ∧ 0 ≤ v ∧ v < lim := by
  obtain ⟨v, hv, h1, h2⟩ := draw_ok (w := w) (n := n) (k := some (m + 1)) hd row hr m lim hm hl
  refine ⟨v, ?_, h1, h2⟩
  rw [run_eq hf rfl]
  simp [bTake, evSs, evS, evE, evT, evEs, biSem, boSem, idxSem, fin_rt, hv]
  rfl
end
end Mini
namespace Mini
open PySem PySem.Spec PyProof.Rows L2
section
variable {w : Nat} {ds : List Def} {n : Nat} {k : Ky} {c : Call}
theorem body1_ok (a x4 x5 : Option D) (row : List Int) (x l : Int) (hl : row.length < 16777216) : evSs c w body1 ⟨[a, some (.lst (row.map .int)), some (.int x), some (.int l), x4, x5], [1], k⟩ = if l = 0 then some (.bk ⟨[a, some (.lst (row.map .int)), some (.int x), some (.int l), x4, x5], [1], k⟩) else some (.nx ⟨[a, some (.lst ((row ++ [l % 997]).map .int)), some (.int x), some (.int (l / 997)), x4, x5], [1], k⟩) := by
  by_cases h : l = 0
  · subst h
    simp [body1, evSs, evS, evE, evT, evEs, coSem, eqD, truth]
  · simp [body1, evSs, evS, evE, evT, evEs, coSem, eqD, truth, h, biSem, boSem, noL, hl, divOk, small64, stE, Sta.put]
theorem body2_ok (a x3 x5 : Option D) (row : List Int) (x l : Int) (hl : row.length < 16777216) : ∃ y z : Int, evSs c w body2 ⟨[a, some (.lst (row.map .int)), some (.int x), x3, some (.int l), x5], [1], k⟩ = some (.nx ⟨[a, some (.lst ((row ++ [y]).map .int)), some (.int x), x3, some (.int l), some (.int z)], [1], k⟩) := by
  refine ⟨((x * 48271 + l * 69621 + 11) % 2147483647 * 16807 + l) % 2147483629, (x * 48271 + l * 69621 + 11) % 2147483647, ?_⟩
  simp [body2, evSs, evS, evE, evT, evEs, coSem, eqD, truth, biSem, boSem, noL, hl, mulOk, small64, stE, Sta.put]
theorem numbers_ok {f : Nat} (hf : ds[f]? = some ⟨1, 6, bNumbers⟩) (ns : List Int) : ∃ row : List Int, row ≠ [] ∧ run w ds (n + 1) f [.scr (ns.map .int)] k = some (.lst (row.map .int), k) := by
  rw [run_eq hf rfl]
  let J : Sta → Prop := fun s => ∃ (row : List Int) (x2 x3 x4 x5 : Option D), s = ⟨[some (.scr (ns.map .int)), some (.lst (row.map .int)), x2, x3, x4, x5], [1], k⟩ ∧ row.length ≤ 10000
  let I : Nat → Sta → Prop := fun i s => ∃ (row : List Int) (x2 x3 x4 x5 : Option D), s = ⟨[some (.scr (ns.map .int)), some (.lst (row.map .int)), x2, x3, x4, x5], [1], k⟩ ∧ row.length ≤ 60 * i
  have hcut : ∃ ms : List Int, cutD (ns.map .int) none (some 63) = ms.map .int ∧ ms.length ≤ 63 := by
    refine ⟨(ns.drop (HT.sIx ns.length 0 none)).take (HT.sIx ns.length ns.length (some 63) - HT.sIx ns.length 0 none), ?_, ?_⟩
    · unfold cutD
      rw [List.map_take, List.map_drop, List.length_map]
    · rw [List.length_take, HT.sIx_none, show HT.sIx ns.length ns.length (some 63) = min 63 ns.length from HT.sIx_nat ns.length ns.length 63]
      omega
  obtain ⟨ms, hms, hml⟩ := hcut
  have loop := forD_inv (tg := .name 2) (I := I) (J := J) (body := fun s => evSs (run w ds n) w bodyO s) (ms.map .int) 0 ⟨[some (.scr (ns.map .int)), some (.lst []), none, none, none, none], [1], k⟩
    (fun i d s hd hI => ?_) (fun s hs => ?_) ⟨[], none, none, none, none, rfl, by simp⟩
  · obtain ⟨s1, e1, row, x2, x3, x4, x5, rfl, hrl⟩ := loop
    refine ⟨if row = [] then [0] else row, by split <;> simp_all, ?_⟩
    have e0 : evSs (run w ds n) w bNumbers ⟨[some (.scr (ns.map .int)), none, none, none, none, none], [], k⟩ = some (.rt (.lst ((if row = [] then [0] else row).map .int)) k) := by
      have e1' := e1
      by_cases h0 : row = []
      · subst h0
        simp only [bNumbers]
        simp [evSs, evS, evE, evT, evEs, evI, sliSem, items, hms, noLs, Sta.keep, avI, avE, avEs, lineOk, e1', coSem, eqD, truth, biSem, noL]
      · have h1 : ¬ (row.length : Int) = 0 := by
          cases row with
          | nil => exact (h0 rfl).elim
          | cons _ _ => simp; omega
        simp only [bNumbers]
        simp [evSs, evS, evE, evT, evEs, evI, sliSem, items, hms, noLs, Sta.keep, avI, avE, avEs, lineOk, e1', coSem, eqD, truth, biSem, noL, h0, h1]
    show fin k (evSs _ _ bNumbers ⟨[some (.scr (ns.map .int)), none, none, none, none, none], [], k⟩) = _
    rw [e0, fin_rt]
  · obtain ⟨row, x2, x3, x4, x5, rfl, hrl⟩ := hI
    rw [List.getElem?_map] at hd
    cases hx : ms[i]? with
    | none => rw [hx] at hd; cases hd
    | some x =>
      rw [hx] at hd
      cases hd
      have hi : i < 63 := by
        have := (List.getElem?_eq_some_iff.mp hx).1
        omega
      by_cases hbig : (1000000000000000000 : Int) ≤ x
      · have l1 := forD_inv (tg := .name 4) (body := fun s => evSs (run w ds n) w body1 s) (I := fun j s => ∃ (row' : List Int) (x3 : Int) (x4 x5 : Option D), s = ⟨[some (.scr (ns.map .int)), some (.lst (row'.map .int)), some (.int x), some (.int x3), x4, x5], [1], k⟩ ∧ row'.length ≤ 60 * i + j)
          (J := fun s => ∃ (row' : List Int) (x3 : Int) (x4 x5 : Option D), s = ⟨[some (.scr (ns.map .int)), some (.lst (row'.map .int)), some (.int x), some (.int x3), x4, x5], [1], k⟩ ∧ row'.length ≤ 60 * (i + 1)) (rngL 0 1 60) 0 ⟨[some (.scr (ns.map .int)), some (.lst (row.map .int)), some (.int x), some (.int x), x4, x5], [1], k⟩
          (fun j d s hd' hI' => ?_) (fun s hs => ?_) ⟨row, x, x4, x5, rfl, by omega⟩
        · obtain ⟨s2, e2, row', x3', x4', x5', rfl, hr'⟩ := l1
          refine ⟨_, .nx ⟨[some (.scr (ns.map .int)), some (.lst (row'.map .int)), some (.int x), some (.int x3'), x4', x5'], [1], k⟩, rfl, ?_, ⟨row', _, _, _, _, rfl, by omega⟩⟩
          have e2' : forD (.name 4) (fun s => evSs (run w ds n) w body1 s) (rngL 0 1 60) ⟨[some (.scr (ns.map .int)), some (.lst (row.map .int)), some (.int x), some (.int x), x4, x5], [1], k⟩ = _ := e2
          simp [bodyO, evSs, evS, evE, evT, evEs, evI, boSem, coSem, truth, hbig, tgMu, small64, stE, noL, Sta.put, rngSem, rng62, Sta.keep, avI, avE, avEs, e2']
        · obtain ⟨row', l', x4', x5', rfl, hr'⟩ := hI'
          have hj : j < 60 := by
            have := (List.getElem?_eq_some_iff.mp hd').1
            simpa [rngL] using this
          have hb := body1_ok (w := w) (c := run w ds n) (k := k) (some (.scr (ns.map .int))) (some d) x5' row' x l' (by omega)
          by_cases h0 : l' = 0
          · rw [if_pos h0] at hb
            exact ⟨_, _, rfl, hb, ⟨row', l', _, _, rfl, by omega⟩⟩
          · rw [if_neg h0] at hb
            exact ⟨_, _, rfl, hb, ⟨_, _, _, _, rfl, by simp; omega⟩⟩
        · obtain ⟨row', l', x4', x5', rfl, hr'⟩ := hs
          exact ⟨row', l', x4', x5', rfl, by simpa [rngL, Nat.mul_add] using hr'⟩
      · have l1 := forD_inv (tg := .name 4) (body := fun s => evSs (run w ds n) w body2 s) (I := fun j s => ∃ (row' : List Int) (x4 x5 : Option D), s = ⟨[some (.scr (ns.map .int)), some (.lst (row'.map .int)), some (.int x), x3, x4, x5], [1], k⟩ ∧ row'.length ≤ 60 * i + j)
          (J := fun s => ∃ (row' : List Int) (x4 x5 : Option D), s = ⟨[some (.scr (ns.map .int)), some (.lst (row'.map .int)), some (.int x), x3, x4, x5], [1], k⟩ ∧ row'.length ≤ 60 * (i + 1)) (rngL 0 1 4) 0 ⟨[some (.scr (ns.map .int)), some (.lst (row.map .int)), some (.int x), x3, x4, x5], [1], k⟩
          (fun j d s hd' hI' => ?_) (fun s hs => ?_) ⟨row, x4, x5, rfl, by omega⟩
        · obtain ⟨s2, e2, row', x4', x5', rfl, hr'⟩ := l1
          refine ⟨_, .nx ⟨[some (.scr (ns.map .int)), some (.lst (row'.map .int)), some (.int x), x3, x4', x5'], [1], k⟩, rfl, ?_, ⟨row', _, _, _, _, rfl, by omega⟩⟩
          have e2' : forD (.name 4) (fun s => evSs (run w ds n) w body2 s) (rngL 0 1 4) ⟨[some (.scr (ns.map .int)), some (.lst (row.map .int)), some (.int x), x3, x4, x5], [1], k⟩ = _ := e2
          simp [bodyO, evSs, evS, evE, evT, evEs, evI, boSem, coSem, truth, hbig, tgMu, small64, stE, noL, Sta.put, rngSem, rng62, Sta.keep, avI, avE, avEs, e2']
        · obtain ⟨row', x4', x5', rfl, hr'⟩ := hI'
          have hj : j < 4 := by
            have := (List.getElem?_eq_some_iff.mp hd').1
            simpa [rngL] using this
          unfold rngL at hd'
          rw [List.getElem?_map] at hd'
          cases hq : (List.range 4)[j]? with
          | none => rw [hq] at hd'; cases hd'
          | some q =>
            rw [hq] at hd'
            cases hd'
            obtain ⟨y, z, hb⟩ := body2_ok (w := w) (c := run w ds n) (k := k) (some (.scr (ns.map .int))) x3 x5' row' x (0 + (q : Int) * 1) (by omega)
            exact ⟨_, _, rfl, hb, ⟨_, _, _, rfl, by simp; omega⟩⟩
        · obtain ⟨row', x4', x5', rfl, hr'⟩ := hs
          exact ⟨row', x4', x5', rfl, by have : row'.length ≤ 60 * i + (0 + 4) := by simpa [rngL] using hr'
                                         omega⟩
  · obtain ⟨row, x2, x3, x4, x5, rfl, hrl⟩ := hs
    refine ⟨row, x2, x3, x4, x5, rfl, ?_⟩
    rw [List.length_map] at hrl
    omega

theorem seq_nx {a : S} {b : Ss} {s s' : Sta} (h : evS c w a s = some (.nx s')) : evSs c w (.cons a b) s = evSs c w b s' := by simp only [evSs, h]
theorem mulOk_l {i j : Int} (h1 : -18446744073709551616 < i) (h2 : i < 18446744073709551616) : mulOk i j = true := by
  simp only [mulOk, small64, decide_eq_true h1, decide_eq_true h2]; rfl
theorem mulOk_r {i j : Int} (h1 : -18446744073709551616 < j) (h2 : j < 18446744073709551616) : mulOk i j = true := by
  simp only [mulOk, small64, decide_eq_true h1, decide_eq_true h2]
  simp
theorem divOk_of {j : Int} (h1 : 0 < j) (h2 : j < 18446744073709551616) : divOk j = true := by
  have h3 : (-18446744073709551616 : Int) < j := by omega
  simp only [divOk, small64, decide_eq_true h1, decide_eq_true h2, decide_eq_true h3]; rfl
theorem rng62_of {j : Int} (h1 : -4611686018427387904 ≤ j) (h2 : j < 4611686018427387904) : rng62 j = true := by
  simp only [rng62, decide_eq_true h1, decide_eq_true h2]; rfl
theorem lineOk_of {n : Nat} (h : n ≤ 16777216) : lineOk n = true := decide_eq_true h
theorem compD_int {f : Rho → Ky → Option (D × Ky)} {g : Rho → Ky → Option (Bool × Ky)} {tg : Tg} {ρ : Rho} {k : Ky} (r : Int → Rho) (p : Int → Bool) (h : Int → D) : ∀ (xs : List Int),
    (∀ x ∈ xs, asg tg (.int x) ρ = some (r x) ∧ g (r x) k = some (p x, k) ∧ (p x = true → f (r x) k = some (h x, k))) → compD f g tg ρ (xs.map .int) k = some ((xs.filter p).map h, k)
  | [], _ => rfl
  | x :: xs, hh => by
    obtain ⟨h1, h2, h3⟩ := hh x List.mem_cons_self
    have ih := compD_int r p h xs fun y hy => hh y (List.mem_cons_of_mem _ hy)
    simp only [List.map_cons, compD, h1, h2]
    cases hp : p x with
    | false => simp only [ih, List.filter_cons, hp]; rfl
    | true => simp only [h3 hp, ih, List.filter_cons, hp]; rfl
def R (n : Nat) : List Int := (List.range n).map fun (t : Nat) => (t : Int)
theorem rngL_R (n : Nat) : rngL 0 1 n = (R n).map .int := by
  simp only [rngL, R, List.map_map]
  congr 1
  funext t
  simp
theorem mem_R {n : Nat} {x : Int} (h : x ∈ R n) : 0 ≤ x ∧ x < n := by
  simp only [R, List.mem_map, List.mem_range] at h
  obtain ⟨t, h1, rfl⟩ := h
  omega
theorem anyEq_int (x : Int) : ∀ ys : List Int, anyEq (.int x) (ys.map .int) = some (decide (x ∈ ys))
  | [] => by simp [anyEq]
  | y :: ys => by
    simp only [List.map_cons, anyEq, eqD]
    by_cases h : y = x
    · subst h
      simp [anyEq_int y ys]
    · simp [h, anyEq_int x ys, Ne.symm h, fun e : x = y => h e.symm]
theorem fine_int (x : Int) : (D.int x).fine 60 = true := rfl
/-! ### _law_so -/
def bSoL (f : Nat) : Ss := (.cons (.ite (.not (.val (.call f (.cons (.idx (.var 0) (.var 2)) (.cons (.idx (.var 1) (.var 2)) .nil))))) (.cons (.ret (.cst (.bl false))) .nil) .nil) .nil)
def bSo (f : Nat) : Ss := (.cons (.ite (.val (.isN (.var 1))) (.cons (.ret (.isN (.var 0))) .nil) .nil) (.cons (.ite (.val (.isi (.var 1) [4])) (.cons (.ite (.or (.not (.val (.isi (.var 0) [4]))) (.val (.cmp .ne (.bi .len (.cons (.var 0) .nil)) (.bi .len (.cons (.var 1) .nil))))) (.cons (.ret (.cst (.bl false))) .nil) .nil) (.cons (.for (.name 2) (.rng (.cons (.bi .len (.cons (.var 1) .nil)) .nil)) (bSoL f)) (.cons (.ret (.cst (.bl true))) .nil))) .nil) (.cons (.ite (.or (.val (.isi (.var 1) [1])) (.val (.isi (.var 0) [1]))) (.cons (.ret (.and (.isi (.var 1) [1]) (.and (.isi (.var 0) [1]) (.cmp .eq (.var 0) (.var 1))))) .nil) .nil) (.cons (.ite (.val (.isi (.var 1) [0])) (.cons (.ret (.and (.isi (.var 0) [0]) (.cmp .eq (.var 0) (.var 1)))) .nil) .nil) (.cons (.ret (.and (.isi (.var 1) [2]) (.and (.isi (.var 0) [2]) (.cmp .eq (.var 0) (.var 1))))) .nil)))))
theorem rngL_get {lo st : Int} {m i : Nat} {d : D} (h : (rngL lo st m)[i]? = some d) : i < m ∧ d = .int (lo + i * st) := by
  unfold rngL at h
  rw [List.getElem?_map] at h
  by_cases hi : i < m
  · rw [List.getElem?_range hi] at h
    cases h
    exact ⟨hi, rfl⟩
  · rw [List.getElem?_eq_none (by simpa using hi)] at h
    cases h
theorem atI_get {α : Type} {xs : List α} {i : Nat} {x : α} (h : xs[i]? = some x) : atI xs (i : Int) = some x := by
  have hl := (List.getElem?_eq_some_iff.mp h).1
  unfold atI ixN
  rw [if_pos (by omega), if_pos (by omega)]
  simpa using h
theorem so_int {f : Nat} (hf : ds[f]? = some ⟨2, 3, bSo f⟩) (a : Int) : run w ds (n + 1) f [.int a, .int a] k = some (.bl true, k) := by
  rw [run_eq hf rfl]
  simp [bSo, evSs, evS, evE, evT, evEs, isOfs, isOf, truth, coSem, eqD, fin_rt]
theorem so_pair {f : Nat} (hf : ds[f]? = some ⟨2, 3, bSo f⟩) (a b : Int) : run w ds (n + 2) f [.tup [.int a, .int b], .tup [.int a, .int b]] k = some (.bl true, k) := by
  rw [run_eq hf rfl]
  have h1 : ∀ x, evSs (run w ds (n + 1)) w (bSoL f) ⟨[some (.tup [.int a, .int b]), some (.tup [.int a, .int b]), some (.int 0)], x, k⟩ = some (.nx ⟨[some (.tup [.int a, .int b]), some (.tup [.int a, .int b]), some (.int 0)], x, k⟩) := by
    intro x
    simp [bSoL, evSs, evS, evE, evT, evEs, idxSem, atI, ixN, so_int hf, truth]
  have h2 : ∀ x, evSs (run w ds (n + 1)) w (bSoL f) ⟨[some (.tup [.int a, .int b]), some (.tup [.int a, .int b]), some (.int 1)], x, k⟩ = some (.nx ⟨[some (.tup [.int a, .int b]), some (.tup [.int a, .int b]), some (.int 1)], x, k⟩) := by
    intro x
    simp [bSoL, evSs, evS, evE, evT, evEs, idxSem, atI, ixN, so_int hf, truth]
  have hr : rngL 0 1 2 = [.int 0, .int 1] := rfl
  simp [bSo, evSs, evS, evE, evT, evEs, evI, isOfs, isOf, truth, coSem, eqD, fin_rt, biSem, rngSem, rng62, hr, forD, asg, h1, h2, Sta.keep, tgMu]
end
end Mini
namespace K66
open PySem PySem.Spec PyProof.Rows L2 Mini
def topS (i : Nat) : Stmt := PySem.Challenge.pw_cheesestead_k66_weights_one_by_one.main.body.getD i (.Pass ⟨0, 0, 0, 0⟩)
def ct : CT := ⟨[(("need" : Str), 0), (("is_integer" : Str), 1), (("is_whole" : Str), 2), (("is_sequence" : Str), 3), (("nearest_multiple" : Str), 4), (("weights_for" : Str), 5), (("together" : Str), 6), (("have_common" : Str), 7), (("are_multiples" : Str), 8), (("shown" : Str), 9), (("could_be" : Str), 10), (("whole_between" : Str), 11), (("honest" : Str), 12), (("is_step" : Str), 13), (("is_show" : Str), 14), (("is_shows" : Str), 15), (("weights_of_all" : Str), 16), (("_law_so" : Str), 17), (("_law_numbers" : Str), 18), (("_law_draw" : Str), 19), (("_law_take" : Str), 20), (("law" : Str), 21)], [(("MOST_WEIGHT" : Str), .int 1000000), (("MOST_STEP" : Str), .int 1000), (("MOST_SHOW" : Str), .int 1001000), (("MOST_WHOLE" : Str), .int 10000000), (("MOST_SHOWS" : Str), .int 8)], []⟩
abbrev stneed : Stmt := topS 4
def nneed : List Str := ["ok", "at"]
abbrev stis_integer : Stmt := topS 5
def nis_integer : List Str := ["value"]
abbrev stis_whole : Stmt := topS 6
def nis_whole : List Str := ["value", "low", "high"]
abbrev stis_sequence : Stmt := topS 7
def nis_sequence : List Str := ["value", "fewest", "most"]
abbrev stnearest_multiple : Stmt := topS 9
def nnearest_multiple : List Str := ["weight", "step"]
abbrev stweights_for : Stmt := topS 10
def nweights_for : List Str := ["show", "step", "low", "high"]
abbrev sttogether : Stmt := topS 11
def ntogether : List Str := ["spans", "span"]
abbrev sthave_common : Stmt := topS 12
def nhave_common : List Str := ["one", "other"]
abbrev stare_multiples : Stmt := topS 13
def nare_multiples : List Str := ["values", "step", "value"]
abbrev stshown : Stmt := topS 20
def nshown : List Str := ["weight", "step"]
abbrev stcould_be : Stmt := topS 21
def ncould_be : List Str := ["show", "step"]
abbrev stwhole_between : Stmt := topS 22
def nwhole_between : List Str := ["shows", "step"]
abbrev sthonest : Stmt := topS 23
def nhonest : List Str := ["shows", "step", "whole", "coarse"]
abbrev stis_step : Stmt := topS 24
def nis_step : List Str := ["value"]
abbrev stis_show : Stmt := topS 25
def nis_show : List Str := ["value"]
abbrev stis_shows : Stmt := topS 26
def nis_shows : List Str := ["value", "show"]
abbrev stweights_of_all : Stmt := topS 27
def nweights_of_all : List Str := ["shows", "step", "show"]
abbrev st_law_so : Stmt := topS 29
def n_law_so : List Str := ["found", "meant", "k"]
abbrev st_law_numbers : Stmt := topS 30
def n_law_numbers : List Str := ["script", "row", "single", "left", "k", "stirred"]
abbrev st_law_draw : Stmt := topS 31
def n_law_draw : List Str := ["row", "at", "limit", "stirred"]
abbrev st_law_take : Stmt := topS 32
def n_law_take : List Str := ["row", "spot", "limit"]
abbrev stlaw : Stmt := topS 33
def nlaw : List Str := ["script", "row", "spot", "step", "show", "good", "weight", "coarse", "turn", "one", "other", "firsts", "seconds", "wholes", "a", "b", "whole"]
def bneed : Ss := (.cons (.ite (.not (.val (.var 0))) (.cons .never .nil) .nil) .nil)
def bis_integer : Ss := (.cons (.ret (.and (.isi (.var 0) [0]) (.not (.isi (.var 0) [1])))) .nil)
def bis_whole : Ss := (.cons (.ret (.and (.call 1 (.cons (.var 0) .nil)) (.chain .le .le (.var 1) (.var 0) (.var 2)))) .nil)
def bis_sequence : Ss := (.cons (.ret (.and (.isi (.var 0) [3, 4]) (.chain .le .le (.var 1) (.bi .len (.cons (.var 0) .nil)) (.var 2)))) .nil)
def bnearest_multiple : Ss := (.cons (.ret (.bin .mul (.bin .fdiv (.bin .add (.bin .mul (.cst (.int 2)) (.var 0)) (.var 1)) (.bin .mul (.cst (.int 2)) (.var 1))) (.var 1))) .nil)
def bweights_for : Ss := (.cons (.set 2 (.bin .sub (.var 0) (.bin .fdiv (.var 1) (.cst (.int 2))))) (.cons (.set 3 (.bin .add (.var 0) (.bin .fdiv (.bin .sub (.var 1) (.cst (.int 1))) (.cst (.int 2))))) (.cons (.ret (.tup (.cons (.bi .max (.cons (.cst (.int 0)) (.cons (.var 2) .nil))) (.cons (.var 3) .nil)))) .nil)))
def etogether_0 : E := (.idx (.var 1) (.cst (.int 0)))
def etogether_1 : E := (.idx (.var 1) (.cst (.int 1)))
def btogether : Ss := (.cons (.ret (.tup (.cons (.bi .sum (.cons (.comp0 etogether_0 (.name 1) (.seq (.var 0)) [1]) .nil)) (.cons (.bi .sum (.cons (.comp0 etogether_1 (.name 1) (.seq (.var 0)) [1]) .nil)) .nil)))) .nil)
def bhave_common : Ss := (.cons (.ret (.cmp .le (.bi .max (.cons (.idx (.var 0) (.cst (.int 0))) (.cons (.idx (.var 1) (.cst (.int 0))) .nil))) (.bi .min (.cons (.idx (.var 0) (.cst (.int 1))) (.cons (.idx (.var 1) (.cst (.int 1))) .nil))))) .nil)
def eare_multiples_0 : E := (.cmp .eq (.bin .mod (.var 2) (.var 1)) (.cst (.int 0)))
def bare_multiples : Ss := (.cons (.ret (.bi .all (.cons (.comp0 eare_multiples_0 (.name 2) (.seq (.var 0)) [2]) .nil))) .nil)
def bshown : Ss := (.cons (.expr (.call 0 (.cons (.call 2 (.cons (.var 0) (.cons (.cst (.int 0)) (.cons (.cst (.int 1000000)) .nil)))) (.cons (.cst (.int 0)) .nil)))) (.cons (.expr (.call 0 (.cons (.call 13 (.cons (.var 1) .nil)) (.cons (.cst (.int 1)) .nil)))) (.cons (.ret (.call 4 (.cons (.var 0) (.cons (.var 1) .nil)))) .nil)))
def bcould_be : Ss := (.cons (.expr (.call 0 (.cons (.call 14 (.cons (.var 0) .nil)) (.cons (.cst (.int 0)) .nil)))) (.cons (.expr (.call 0 (.cons (.call 13 (.cons (.var 1) .nil)) (.cons (.cst (.int 1)) .nil)))) (.cons (.expr (.call 0 (.cons (.call 8 (.cons (.tup (.cons (.var 0) .nil)) (.cons (.var 1) .nil))) (.cons (.cst (.int 1)) .nil)))) (.cons (.ret (.call 5 (.cons (.var 0) (.cons (.var 1) .nil)))) .nil))))
def bwhole_between : Ss := (.cons (.expr (.call 0 (.cons (.call 15 (.cons (.var 0) .nil)) (.cons (.cst (.int 0)) .nil)))) (.cons (.expr (.call 0 (.cons (.call 13 (.cons (.var 1) .nil)) (.cons (.cst (.int 1)) .nil)))) (.cons (.expr (.call 0 (.cons (.call 8 (.cons (.var 0) (.cons (.var 1) .nil))) (.cons (.cst (.int 1)) .nil)))) (.cons (.ret (.call 16 (.cons (.var 0) (.cons (.var 1) .nil)))) .nil))))
def bhonest : Ss := (.cons (.expr (.call 0 (.cons (.call 15 (.cons (.var 0) .nil)) (.cons (.cst (.int 0)) .nil)))) (.cons (.expr (.call 0 (.cons (.call 13 (.cons (.var 1) .nil)) (.cons (.cst (.int 1)) .nil)))) (.cons (.expr (.call 0 (.cons (.call 2 (.cons (.var 2) (.cons (.cst (.int 0)) (.cons (.cst (.int 10000000)) .nil)))) (.cons (.cst (.int 2)) .nil)))) (.cons (.expr (.call 0 (.cons (.call 13 (.cons (.var 3) .nil)) (.cons (.cst (.int 3)) .nil)))) (.cons (.expr (.call 0 (.cons (.call 8 (.cons (.var 0) (.cons (.var 1) .nil))) (.cons (.cst (.int 1)) .nil)))) (.cons (.expr (.call 0 (.cons (.call 8 (.cons (.tup (.cons (.var 2) .nil)) (.cons (.var 3) .nil))) (.cons (.cst (.int 3)) .nil)))) (.cons (.ret (.call 7 (.cons (.call 16 (.cons (.var 0) (.cons (.var 1) .nil))) (.cons (.call 5 (.cons (.var 2) (.cons (.var 3) .nil))) .nil)))) .nil)))))))
def bis_step : Ss := (.cons (.ret (.call 2 (.cons (.var 0) (.cons (.cst (.int 1)) (.cons (.cst (.int 1000)) .nil))))) .nil)
def bis_show : Ss := (.cons (.ret (.call 2 (.cons (.var 0) (.cons (.cst (.int 0)) (.cons (.cst (.int 1001000)) .nil))))) .nil)
def eis_shows_0 : E := (.call 14 (.cons (.var 1) .nil))
def bis_shows : Ss := (.cons (.ret (.and (.call 3 (.cons (.var 0) (.cons (.cst (.int 0)) (.cons (.cst (.int 8)) .nil)))) (.bi .all (.cons (.comp0 eis_shows_0 (.name 1) (.seq (.var 0)) [1]) .nil)))) .nil)
def eweights_of_all_0 : E := (.call 5 (.cons (.var 2) (.cons (.var 1) .nil)))
def bweights_of_all : Ss := (.cons (.ret (.call 6 (.cons (.comp0 eweights_of_all_0 (.name 2) (.seq (.var 0)) [2]) .nil))) .nil)
def b_law_so_0 : Ss := (.cons (.ite (.not (.val (.call 17 (.cons (.idx (.var 0) (.var 2)) (.cons (.idx (.var 1) (.var 2)) .nil))))) (.cons (.ret (.cst (.bl false))) .nil) .nil) .nil)
def b_law_so : Ss := (.cons (.ite (.val (.isN (.var 1))) (.cons (.ret (.isN (.var 0))) .nil) .nil) (.cons (.ite (.val (.isi (.var 1) [4])) (.cons (.ite (.or (.not (.val (.isi (.var 0) [4]))) (.val (.cmp .ne (.bi .len (.cons (.var 0) .nil)) (.bi .len (.cons (.var 1) .nil))))) (.cons (.ret (.cst (.bl false))) .nil) .nil) (.cons (.for (.name 2) (.rng (.cons (.bi .len (.cons (.var 1) .nil)) .nil)) b_law_so_0) (.cons (.ret (.cst (.bl true))) .nil))) .nil) (.cons (.ite (.or (.val (.isi (.var 1) [1])) (.val (.isi (.var 0) [1]))) (.cons (.ret (.and (.isi (.var 1) [1]) (.and (.isi (.var 0) [1]) (.cmp .eq (.var 0) (.var 1))))) .nil) .nil) (.cons (.ite (.val (.isi (.var 1) [0])) (.cons (.ret (.and (.isi (.var 0) [0]) (.cmp .eq (.var 0) (.var 1)))) .nil) .nil) (.cons (.ret (.and (.isi (.var 1) [2]) (.and (.isi (.var 0) [2]) (.cmp .eq (.var 0) (.var 1))))) .nil)))))
def b_law_numbers_0 : Ss := (.cons (.ite (.val (.cmp .eq (.var 3) (.cst (.int 0)))) (.cons .brk .nil) .nil) (.cons (.app 1 (.bin .mod (.bi .int (.cons (.var 3) .nil)) (.cst (.int 997)))) (.cons (.set 3 (.bin .fdiv (.var 3) (.cst (.int 997)))) .nil)))
def b_law_numbers_1 : Ss := (.cons (.set 5 (.bin .mod (.bi .int (.cons (.bin .add (.bin .add (.bin .mul (.var 2) (.cst (.int 48271))) (.bin .mul (.var 4) (.cst (.int 69621)))) (.cst (.int 11))) .nil)) (.cst (.int 2147483647)))) (.cons (.app 1 (.bin .mod (.bi .int (.cons (.bin .add (.bin .mul (.var 5) (.cst (.int 16807))) (.var 4)) .nil)) (.cst (.int 2147483629)))) .nil))
def b_law_numbers_2 : Ss := (.cons (.ite (.val (.cmp .ge (.var 2) (.bin .pow (.cst (.int 10)) (.cst (.int 18))))) (.cons (.set 3 (.var 2)) (.cons (.for (.name 4) (.rng (.cons (.cst (.int 60)) .nil)) b_law_numbers_0) .nil)) (.cons (.for (.name 4) (.rng (.cons (.cst (.int 4)) .nil)) b_law_numbers_1) .nil)) .nil)
def b_law_numbers : Ss := (.cons (.new 1 (.lst .nil)) (.cons (.for (.name 2) (.seq (.sli 2 (.var 0) (.cst .non) (.cst (.int 63)))) b_law_numbers_2) (.cons (.ite (.val (.cmp .eq (.bi .len (.cons (.var 1) .nil)) (.cst (.int 0)))) (.cons (.app 1 (.cst (.int 0))) .nil) .nil) (.cons (.ret (.var 1)) .nil))))
def b_law_draw : Ss := (.cons (.ite (.val (.cmp .lt (.var 1) (.bi .len (.cons (.var 0) .nil)))) (.cons (.ret (.bin .mod (.bi .int (.cons (.idx (.var 0) (.var 1)) .nil)) (.var 2))) .nil) .nil) (.cons (.set 3 (.bin .mod (.bi .int (.cons (.bin .add (.bin .add (.bin .mul (.idx (.var 0) (.bin .mod (.bi .int (.cons (.var 1) .nil)) (.bi .len (.cons (.var 0) .nil)))) (.cst (.int 40692))) (.bin .mul (.var 1) (.cst (.int 7919)))) (.cst (.int 3))) .nil)) (.cst (.int 2147483399)))) (.cons (.ret (.bin .mod (.bi .int (.cons (.bin .mod (.bi .int (.cons (.bin .add (.bin .mul (.var 3) (.cst (.int 48271))) (.var 1)) .nil)) (.cst (.int 2147483647))) .nil)) (.var 2))) .nil)))
def b_law_take : Ss := (.cons (.setI 1 (.cst (.int 0)) (.bin .add (.idx (.var 1) (.cst (.int 0))) (.cst (.int 1)))) (.cons (.ret (.call 19 (.cons (.var 0) (.cons (.bin .sub (.idx (.var 1) (.cst (.int 0))) (.cst (.int 1))) (.cons (.var 2) .nil))))) .nil))
def elaw_0 : E := (.var 6)
def tlaw_1 : T := (.val (.cmp .eq (.call 9 (.cons (.var 6) (.cons (.var 3) .nil))) (.var 4)))
def blaw_2 : Ss := (.cons (.new 5 (.comp1 elaw_0 (.name 6) (.rng (.cons (.cst (.int 0)) (.cons (.bin .add (.bin .mul (.cst (.int 6)) (.var 3)) (.cst (.int 1))) .nil))) tlaw_1 [6])) (.cons (.ite (.or (.not (.val (.call 17 (.cons (.call 10 (.cons (.var 4) (.cons (.var 3) .nil))) (.cons (.tup (.cons (.idx (.var 5) (.cst (.int 0))) (.cons (.idx (.var 5) (.bin .sub (.bi .len (.cons (.var 5) .nil)) (.cst (.int 1)))) .nil))) .nil))))) (.val (.cmp .ne (.bi .len (.cons (.var 5) .nil)) (.bin .add (.bin .sub (.idx (.var 5) (.bin .sub (.bi .len (.cons (.var 5) .nil)) (.cst (.int 1)))) (.idx (.var 5) (.cst (.int 0)))) (.cst (.int 1)))))) (.cons (.ret (.cst (.bl false))) .nil) .nil) .nil))
def blaw_3 : Ss := (.cons (.set 4 (.call 9 (.cons (.var 6) (.cons (.var 3) .nil)))) (.cons (.ite (.or (.val (.cmp .gt (.bin .mul (.bi .max (.cons (.bin .sub (.var 4) (.var 6)) (.cons (.bin .sub (.var 6) (.var 4)) .nil))) (.cst (.int 2))) (.var 3))) (.or (.val (.cmp .ne (.bin .mod (.bi .int (.cons (.var 4) .nil)) (.var 3)) (.cst (.int 0)))) (.val (.cmp .eq (.bin .mul (.cst (.int 2)) (.bin .sub (.var 4) (.var 6))) (.neg (.var 3)))))) (.cons (.ret (.cst (.bl false))) .nil) .nil) .nil))
def elaw_4 : E := (.var 6)
def tlaw_5 : T := (.val (.cmp .eq (.call 9 (.cons (.var 6) (.cons (.var 3) .nil))) (.var 9)))
def elaw_6 : E := (.var 6)
def tlaw_7 : T := (.val (.cmp .eq (.call 9 (.cons (.var 6) (.cons (.var 3) .nil))) (.var 10)))
def elaw_8 : E := (.call 9 (.cons (.bin .add (.var 14) (.var 15)) (.cons (.var 7) .nil)))
def blaw_9 : Ss := (.cons (.set 13 (.bin .add (.var 13) (.comp0 elaw_8 (.name 15) (.seq (.var 12)) [15]))) .nil)
def blaw_10 : Ss := (.cons (.ite (.val (.cmp .ne (.call 12 (.cons (.tup (.cons (.var 9) (.cons (.var 10) .nil))) (.cons (.var 3) (.cons (.var 16) (.cons (.var 7) .nil))))) (.cmp .isin (.var 16) (.var 13)))) (.cons (.ret (.cst (.bl false))) .nil) .nil) .nil)
def blaw_11 : Ss := (.cons (.set 9 (.bin .mul (.var 3) (.call 20 (.cons (.var 1) (.cons (.var 2) (.cons (.cst (.int 4)) .nil)))))) (.cons (.set 10 (.bin .mul (.var 3) (.call 20 (.cons (.var 1) (.cons (.var 2) (.cons (.cst (.int 4)) .nil)))))) (.cons (.new 11 (.comp1 elaw_4 (.name 6) (.rng (.cons (.cst (.int 0)) (.cons (.cst (.int 60)) .nil))) tlaw_5 [6])) (.cons (.new 12 (.comp1 elaw_6 (.name 6) (.rng (.cons (.cst (.int 0)) (.cons (.cst (.int 60)) .nil))) tlaw_7 [6])) (.cons (.new 13 (.lst .nil)) (.cons (.for (.name 14) (.seq (.var 11)) blaw_9) (.cons (.for (.name 16) (.rng (.cons (.cst (.int 0)) (.cons (.bin .mul (.cst (.int 6)) (.var 7)) (.cons (.var 7) .nil)))) blaw_10) (.cons (.ite (.not (.val (.call 17 (.cons (.call 11 (.cons (.tup (.cons (.var 9) (.cons (.var 10) .nil))) (.cons (.var 3) .nil))) (.cons (.tup (.cons (.bin .add (.idx (.var 11) (.cst (.int 0))) (.idx (.var 12) (.cst (.int 0)))) (.cons (.bin .add (.idx (.var 11) (.bin .sub (.bi .len (.cons (.var 11) .nil)) (.cst (.int 1)))) (.idx (.var 12) (.bin .sub (.bi .len (.cons (.var 12) .nil)) (.cst (.int 1))))) .nil))) .nil))))) (.cons (.ret (.cst (.bl false))) .nil) .nil) .nil))))))))
def blaw : Ss := (.cons (.set 1 (.call 18 (.cons (.var 0) .nil))) (.cons (.spot 2) (.cons (.set 3 (.bin .add (.cst (.int 1)) (.call 20 (.cons (.var 1) (.cons (.var 2) (.cons (.cst (.int 12)) .nil)))))) (.cons (.for (.name 4) (.rng (.cons (.cst (.int 0)) (.cons (.bin .mul (.cst (.int 5)) (.var 3)) (.cons (.var 3) .nil)))) blaw_2) (.cons (.for (.name 6) (.rng (.cons (.cst (.int 0)) (.cons (.cst (.int 40)) .nil))) blaw_3) (.cons (.set 7 (.bin .add (.cst (.int 1)) (.call 20 (.cons (.var 1) (.cons (.var 2) (.cons (.cst (.int 20)) .nil)))))) (.cons (.for (.name 8) (.rng (.cons (.cst (.int 3)) .nil)) blaw_11) (.cons (.ret (.cst (.bl true))) .nil))))))))
def ds : List Def := [⟨2, 2, bneed⟩, ⟨1, 1, bis_integer⟩, ⟨3, 3, bis_whole⟩, ⟨3, 3, bis_sequence⟩, ⟨2, 2, bnearest_multiple⟩, ⟨2, 4, bweights_for⟩, ⟨1, 2, btogether⟩, ⟨2, 2, bhave_common⟩, ⟨2, 3, bare_multiples⟩, ⟨2, 2, bshown⟩, ⟨2, 2, bcould_be⟩, ⟨2, 2, bwhole_between⟩, ⟨4, 4, bhonest⟩, ⟨1, 1, bis_step⟩, ⟨1, 1, bis_show⟩, ⟨1, 2, bis_shows⟩, ⟨2, 3, bweights_of_all⟩, ⟨2, 3, b_law_so⟩, ⟨1, 6, b_law_numbers⟩, ⟨3, 4, b_law_draw⟩, ⟨3, 3, b_law_take⟩, ⟨1, 17, blaw⟩]
theorem cneed : cSs ct (defScope stneed) nneed 60 (defBody stneed) = some bneed := by first | rfl | decide +kernel
theorem sneed : FnScope nneed ["ok", "at"] (defScope stneed) := ⟨rfl, rfl, rfl, by decide +kernel, rfl, by decide +kernel, by decide +kernel⟩
theorem cis_integer : cSs ct (defScope stis_integer) nis_integer 60 (defBody stis_integer) = some bis_integer := by first | rfl | decide +kernel
theorem sis_integer : FnScope nis_integer ["value"] (defScope stis_integer) := ⟨rfl, rfl, rfl, by decide +kernel, rfl, by decide +kernel, by decide +kernel⟩
theorem cis_whole : cSs ct (defScope stis_whole) nis_whole 60 (defBody stis_whole) = some bis_whole := by first | rfl | decide +kernel
theorem sis_whole : FnScope nis_whole ["value", "low", "high"] (defScope stis_whole) := ⟨rfl, rfl, rfl, by decide +kernel, rfl, by decide +kernel, by decide +kernel⟩
theorem cis_sequence : cSs ct (defScope stis_sequence) nis_sequence 60 (defBody stis_sequence) = some bis_sequence := by first | rfl | decide +kernel
theorem sis_sequence : FnScope nis_sequence ["value", "fewest", "most"] (defScope stis_sequence) := ⟨rfl, rfl, rfl, by decide +kernel, rfl, by decide +kernel, by decide +kernel⟩
theorem cnearest_multiple : cSs ct (defScope stnearest_multiple) nnearest_multiple 60 (defBody stnearest_multiple) = some bnearest_multiple := by first | rfl | decide +kernel
theorem snearest_multiple : FnScope nnearest_multiple ["weight", "step"] (defScope stnearest_multiple) := ⟨rfl, rfl, rfl, by decide +kernel, rfl, by decide +kernel, by decide +kernel⟩
theorem cweights_for : cSs ct (defScope stweights_for) nweights_for 60 (defBody stweights_for) = some bweights_for := by first | rfl | decide +kernel
theorem sweights_for : FnScope nweights_for ["show", "step"] (defScope stweights_for) := ⟨rfl, rfl, rfl, by decide +kernel, rfl, by decide +kernel, by decide +kernel⟩
theorem ctogether : cSs ct (defScope sttogether) ntogether 60 (defBody sttogether) = some btogether := by first | rfl | decide +kernel
theorem stogether : FnScope ntogether ["spans"] (defScope sttogether) := ⟨rfl, rfl, rfl, by decide +kernel, rfl, by decide +kernel, by decide +kernel⟩
theorem chave_common : cSs ct (defScope sthave_common) nhave_common 60 (defBody sthave_common) = some bhave_common := by first | rfl | decide +kernel
theorem shave_common : FnScope nhave_common ["one", "other"] (defScope sthave_common) := ⟨rfl, rfl, rfl, by decide +kernel, rfl, by decide +kernel, by decide +kernel⟩
theorem care_multiples : cSs ct (defScope stare_multiples) nare_multiples 60 (defBody stare_multiples) = some bare_multiples := by first | rfl | decide +kernel
theorem sare_multiples : FnScope nare_multiples ["values", "step"] (defScope stare_multiples) := ⟨rfl, rfl, rfl, by decide +kernel, rfl, by decide +kernel, by decide +kernel⟩
theorem cshown : cSs ct (defScope stshown) nshown 60 (defBody stshown) = some bshown := by first | rfl | decide +kernel
theorem sshown : FnScope nshown ["weight", "step"] (defScope stshown) := ⟨rfl, rfl, rfl, by decide +kernel, rfl, by decide +kernel, by decide +kernel⟩
theorem ccould_be : cSs ct (defScope stcould_be) ncould_be 60 (defBody stcould_be) = some bcould_be := by first | rfl | decide +kernel
theorem scould_be : FnScope ncould_be ["show", "step"] (defScope stcould_be) := ⟨rfl, rfl, rfl, by decide +kernel, rfl, by decide +kernel, by decide +kernel⟩
theorem cwhole_between : cSs ct (defScope stwhole_between) nwhole_between 60 (defBody stwhole_between) = some bwhole_between := by first | rfl | decide +kernel
theorem swhole_between : FnScope nwhole_between ["shows", "step"] (defScope stwhole_between) := ⟨rfl, rfl, rfl, by decide +kernel, rfl, by decide +kernel, by decide +kernel⟩
theorem chonest : cSs ct (defScope sthonest) nhonest 60 (defBody sthonest) = some bhonest := by first | rfl | decide +kernel
theorem shonest : FnScope nhonest ["shows", "step", "whole", "coarse"] (defScope sthonest) := ⟨rfl, rfl, rfl, by decide +kernel, rfl, by decide +kernel, by decide +kernel⟩
theorem cis_step : cSs ct (defScope stis_step) nis_step 60 (defBody stis_step) = some bis_step := by first | rfl | decide +kernel
theorem sis_step : FnScope nis_step ["value"] (defScope stis_step) := ⟨rfl, rfl, rfl, by decide +kernel, rfl, by decide +kernel, by decide +kernel⟩
theorem cis_show : cSs ct (defScope stis_show) nis_show 60 (defBody stis_show) = some bis_show := by first | rfl | decide +kernel
theorem sis_show : FnScope nis_show ["value"] (defScope stis_show) := ⟨rfl, rfl, rfl, by decide +kernel, rfl, by decide +kernel, by decide +kernel⟩
theorem cis_shows : cSs ct (defScope stis_shows) nis_shows 60 (defBody stis_shows) = some bis_shows := by first | rfl | decide +kernel
theorem sis_shows : FnScope nis_shows ["value"] (defScope stis_shows) := ⟨rfl, rfl, rfl, by decide +kernel, rfl, by decide +kernel, by decide +kernel⟩
theorem cweights_of_all : cSs ct (defScope stweights_of_all) nweights_of_all 60 (defBody stweights_of_all) = some bweights_of_all := by first | rfl | decide +kernel
theorem sweights_of_all : FnScope nweights_of_all ["shows", "step"] (defScope stweights_of_all) := ⟨rfl, rfl, rfl, by decide +kernel, rfl, by decide +kernel, by decide +kernel⟩
theorem c_law_so : cSs ct (defScope st_law_so) n_law_so 60 (defBody st_law_so) = some b_law_so := by first | rfl | decide +kernel
theorem s_law_so : FnScope n_law_so ["found", "meant"] (defScope st_law_so) := ⟨rfl, rfl, rfl, by decide +kernel, rfl, by decide +kernel, by decide +kernel⟩
theorem c_law_numbers : cSs ct (defScope st_law_numbers) n_law_numbers 60 (defBody st_law_numbers) = some b_law_numbers := by first | rfl | decide +kernel
theorem s_law_numbers : FnScope n_law_numbers ["script"] (defScope st_law_numbers) := ⟨rfl, rfl, rfl, by decide +kernel, rfl, by decide +kernel, by decide +kernel⟩
theorem c_law_draw : cSs ct (defScope st_law_draw) n_law_draw 60 (defBody st_law_draw) = some b_law_draw := by first | rfl | decide +kernel
theorem s_law_draw : FnScope n_law_draw ["row", "at", "limit"] (defScope st_law_draw) := ⟨rfl, rfl, rfl, by decide +kernel, rfl, by decide +kernel, by decide +kernel⟩
theorem c_law_take : cSs ct (defScope st_law_take) n_law_take 60 (defBody st_law_take) = some b_law_take := by first | rfl | decide +kernel
theorem s_law_take : FnScope n_law_take ["row", "spot", "limit"] (defScope st_law_take) := ⟨rfl, rfl, rfl, by decide +kernel, rfl, by decide +kernel, by decide +kernel⟩
theorem claw : cSs ct (defScope stlaw) nlaw 60 (defBody stlaw) = some blaw := by first | rfl | decide +kernel
theorem slaw : FnScope nlaw ["script"] (defScope stlaw) := ⟨rfl, rfl, rfl, by decide +kernel, rfl, by decide +kernel, by decide +kernel⟩
theorem all_mk {l : PySem.W.OpenLaw} {w : World} {K : PySem.W.Frag} {h : Heap} {mg : Str → Option Value} {fa f0 f1 f2 f3 f4 f5 f6 f7 f8 f9 f10 f11 f12 f13 f14 f15 f16 f17 f18 f19 f20 f21 : Addr} (X : K.In h) (G : h.Ns mainGlobals mg) (hfa : mg "law" = some (.ref fa))
    {od0 an0 od1 an1 od2 an2 od3 an3 od4 an4 od5 an5 od6 an6 od7 an7 od8 an8 od9 an9 od10 an10 od11 an11 od12 an12 od13 an13 od14 an14 od15 an15 od16 an16 od17 an17 od18 an18 od19 an19 od20 an20 od21 an21 : Option Addr} {sl0 sl1 sl2 sl3 sl4 sl5 sl6 sl7 sl8 sl9 sl10 sl11 sl12 sl13 sl14 sl15 sl16 sl17 sl18 sl19 sl20 sl21 : Array (Option Value)} {oc0 kV0 dc0 pm0 cd0 ct0 oc1 kV1 dc1 pm1 cd1 ct1 oc2 kV2 dc2 pm2 cd2 ct2 oc3 kV3 dc3 pm3 cd3 ct3 oc4 kV4 dc4 pm4 cd4 ct4 oc5 kV5 dc5 pm5 cd5 ct5 oc6 kV6 dc6 pm6 cd6 ct6 oc7 kV7 dc7 pm7 cd7 ct7 oc8 kV8 dc8 pm8 cd8 ct8 oc9 kV9 dc9 pm9 cd9 ct9 oc10 kV10 dc10 pm10 cd10 ct10 oc11 kV11 dc11 pm11 cd11 ct11 oc12 kV12 dc12 pm12 cd12 ct12 oc13 kV13 dc13 pm13 cd13 ct13 oc14 kV14 dc14 pm14 cd14 ct14 oc15 kV15 dc15 pm15 cd15 ct15 oc16 kV16 dc16 pm16 cd16 ct16 oc17 kV17 dc17 pm17 cd17 ct17 oc18 kV18 dc18 pm18 cd18 ct18 oc19 kV19 dc19 pm19 cd19 ct19 oc20 kV20 dc20 pm20 cd20 ct20 oc21 kV21 dc21 pm21 cd21 ct21 : Value}
    {tk0 tk1 tk2 tk3 tk4 : Tok}
    (a0 : PySem.W.nsIn K mainGlobals "need" = some (some (.ref f0))) (l0 : K.lookup f0 = some ⟨oc0, od0, .func (PySem.W.fnOf "need" "need" (defArgs stneed) (defBody stneed) (defScope stneed) .none kV0 dc0 pm0 an0 cd0 ct0), sl0⟩) (c0 : PySem.W.codeIn K cd0 "need" = true) (k0 : PySem.W.keepIn K (.ref f0) = true)
    (a1 : PySem.W.nsIn K mainGlobals "is_integer" = some (some (.ref f1))) (l1 : K.lookup f1 = some ⟨oc1, od1, .func (PySem.W.fnOf "is_integer" "is_integer" (defArgs stis_integer) (defBody stis_integer) (defScope stis_integer) .none kV1 dc1 pm1 an1 cd1 ct1), sl1⟩) (c1 : PySem.W.codeIn K cd1 "is_integer" = true) (k1 : PySem.W.keepIn K (.ref f1) = true)
    (a2 : PySem.W.nsIn K mainGlobals "is_whole" = some (some (.ref f2))) (l2 : K.lookup f2 = some ⟨oc2, od2, .func (PySem.W.fnOf "is_whole" "is_whole" (defArgs stis_whole) (defBody stis_whole) (defScope stis_whole) .none kV2 dc2 pm2 an2 cd2 ct2), sl2⟩) (c2 : PySem.W.codeIn K cd2 "is_whole" = true) (k2 : PySem.W.keepIn K (.ref f2) = true)
    (a3 : PySem.W.nsIn K mainGlobals "is_sequence" = some (some (.ref f3))) (l3 : K.lookup f3 = some ⟨oc3, od3, .func (PySem.W.fnOf "is_sequence" "is_sequence" (defArgs stis_sequence) (defBody stis_sequence) (defScope stis_sequence) .none kV3 dc3 pm3 an3 cd3 ct3), sl3⟩) (c3 : PySem.W.codeIn K cd3 "is_sequence" = true) (k3 : PySem.W.keepIn K (.ref f3) = true)
    (a4 : PySem.W.nsIn K mainGlobals "nearest_multiple" = some (some (.ref f4))) (l4 : K.lookup f4 = some ⟨oc4, od4, .func (PySem.W.fnOf "nearest_multiple" "nearest_multiple" (defArgs stnearest_multiple) (defBody stnearest_multiple) (defScope stnearest_multiple) .none kV4 dc4 pm4 an4 cd4 ct4), sl4⟩) (c4 : PySem.W.codeIn K cd4 "nearest_multiple" = true) (k4 : PySem.W.keepIn K (.ref f4) = true)
    (a5 : PySem.W.nsIn K mainGlobals "weights_for" = some (some (.ref f5))) (l5 : K.lookup f5 = some ⟨oc5, od5, .func (PySem.W.fnOf "weights_for" "weights_for" (defArgs stweights_for) (defBody stweights_for) (defScope stweights_for) .none kV5 dc5 pm5 an5 cd5 ct5), sl5⟩) (c5 : PySem.W.codeIn K cd5 "weights_for" = true) (k5 : PySem.W.keepIn K (.ref f5) = true)
    (a6 : PySem.W.nsIn K mainGlobals "together" = some (some (.ref f6))) (l6 : K.lookup f6 = some ⟨oc6, od6, .func (PySem.W.fnOf "together" "together" (defArgs sttogether) (defBody sttogether) (defScope sttogether) .none kV6 dc6 pm6 an6 cd6 ct6), sl6⟩) (c6 : PySem.W.codeIn K cd6 "together" = true) (k6 : PySem.W.keepIn K (.ref f6) = true)
    (a7 : PySem.W.nsIn K mainGlobals "have_common" = some (some (.ref f7))) (l7 : K.lookup f7 = some ⟨oc7, od7, .func (PySem.W.fnOf "have_common" "have_common" (defArgs sthave_common) (defBody sthave_common) (defScope sthave_common) .none kV7 dc7 pm7 an7 cd7 ct7), sl7⟩) (c7 : PySem.W.codeIn K cd7 "have_common" = true) (k7 : PySem.W.keepIn K (.ref f7) = true)
    (a8 : PySem.W.nsIn K mainGlobals "are_multiples" = some (some (.ref f8))) (l8 : K.lookup f8 = some ⟨oc8, od8, .func (PySem.W.fnOf "are_multiples" "are_multiples" (defArgs stare_multiples) (defBody stare_multiples) (defScope stare_multiples) .none kV8 dc8 pm8 an8 cd8 ct8), sl8⟩) (c8 : PySem.W.codeIn K cd8 "are_multiples" = true) (k8 : PySem.W.keepIn K (.ref f8) = true)
    (a9 : PySem.W.nsIn K mainGlobals "shown" = some (some (.ref f9))) (l9 : K.lookup f9 = some ⟨oc9, od9, .func (PySem.W.fnOf "shown" "shown" (defArgs stshown) (defBody stshown) (defScope stshown) .none kV9 dc9 pm9 an9 cd9 ct9), sl9⟩) (c9 : PySem.W.codeIn K cd9 "shown" = true) (k9 : PySem.W.keepIn K (.ref f9) = true)
    (a10 : PySem.W.nsIn K mainGlobals "could_be" = some (some (.ref f10))) (l10 : K.lookup f10 = some ⟨oc10, od10, .func (PySem.W.fnOf "could_be" "could_be" (defArgs stcould_be) (defBody stcould_be) (defScope stcould_be) .none kV10 dc10 pm10 an10 cd10 ct10), sl10⟩) (c10 : PySem.W.codeIn K cd10 "could_be" = true) (k10 : PySem.W.keepIn K (.ref f10) = true)
    (a11 : PySem.W.nsIn K mainGlobals "whole_between" = some (some (.ref f11))) (l11 : K.lookup f11 = some ⟨oc11, od11, .func (PySem.W.fnOf "whole_between" "whole_between" (defArgs stwhole_between) (defBody stwhole_between) (defScope stwhole_between) .none kV11 dc11 pm11 an11 cd11 ct11), sl11⟩) (c11 : PySem.W.codeIn K cd11 "whole_between" = true) (k11 : PySem.W.keepIn K (.ref f11) = true)
    (a12 : PySem.W.nsIn K mainGlobals "honest" = some (some (.ref f12))) (l12 : K.lookup f12 = some ⟨oc12, od12, .func (PySem.W.fnOf "honest" "honest" (defArgs sthonest) (defBody sthonest) (defScope sthonest) .none kV12 dc12 pm12 an12 cd12 ct12), sl12⟩) (c12 : PySem.W.codeIn K cd12 "honest" = true) (k12 : PySem.W.keepIn K (.ref f12) = true)
    (a13 : PySem.W.nsIn K mainGlobals "is_step" = some (some (.ref f13))) (l13 : K.lookup f13 = some ⟨oc13, od13, .func (PySem.W.fnOf "is_step" "is_step" (defArgs stis_step) (defBody stis_step) (defScope stis_step) .none kV13 dc13 pm13 an13 cd13 ct13), sl13⟩) (c13 : PySem.W.codeIn K cd13 "is_step" = true) (k13 : PySem.W.keepIn K (.ref f13) = true)
    (a14 : PySem.W.nsIn K mainGlobals "is_show" = some (some (.ref f14))) (l14 : K.lookup f14 = some ⟨oc14, od14, .func (PySem.W.fnOf "is_show" "is_show" (defArgs stis_show) (defBody stis_show) (defScope stis_show) .none kV14 dc14 pm14 an14 cd14 ct14), sl14⟩) (c14 : PySem.W.codeIn K cd14 "is_show" = true) (k14 : PySem.W.keepIn K (.ref f14) = true)
    (a15 : PySem.W.nsIn K mainGlobals "is_shows" = some (some (.ref f15))) (l15 : K.lookup f15 = some ⟨oc15, od15, .func (PySem.W.fnOf "is_shows" "is_shows" (defArgs stis_shows) (defBody stis_shows) (defScope stis_shows) .none kV15 dc15 pm15 an15 cd15 ct15), sl15⟩) (c15 : PySem.W.codeIn K cd15 "is_shows" = true) (k15 : PySem.W.keepIn K (.ref f15) = true)
    (a16 : PySem.W.nsIn K mainGlobals "weights_of_all" = some (some (.ref f16))) (l16 : K.lookup f16 = some ⟨oc16, od16, .func (PySem.W.fnOf "weights_of_all" "weights_of_all" (defArgs stweights_of_all) (defBody stweights_of_all) (defScope stweights_of_all) .none kV16 dc16 pm16 an16 cd16 ct16), sl16⟩) (c16 : PySem.W.codeIn K cd16 "weights_of_all" = true) (k16 : PySem.W.keepIn K (.ref f16) = true)
    (a17 : PySem.W.nsIn K mainGlobals "_law_so" = some (some (.ref f17))) (l17 : K.lookup f17 = some ⟨oc17, od17, .func (PySem.W.fnOf "_law_so" "_law_so" (defArgs st_law_so) (defBody st_law_so) (defScope st_law_so) .none kV17 dc17 pm17 an17 cd17 ct17), sl17⟩) (c17 : PySem.W.codeIn K cd17 "_law_so" = true) (k17 : PySem.W.keepIn K (.ref f17) = true)
    (a18 : PySem.W.nsIn K mainGlobals "_law_numbers" = some (some (.ref f18))) (l18 : K.lookup f18 = some ⟨oc18, od18, .func (PySem.W.fnOf "_law_numbers" "_law_numbers" (defArgs st_law_numbers) (defBody st_law_numbers) (defScope st_law_numbers) .none kV18 dc18 pm18 an18 cd18 ct18), sl18⟩) (c18 : PySem.W.codeIn K cd18 "_law_numbers" = true) (k18 : PySem.W.keepIn K (.ref f18) = true)
    (a19 : PySem.W.nsIn K mainGlobals "_law_draw" = some (some (.ref f19))) (l19 : K.lookup f19 = some ⟨oc19, od19, .func (PySem.W.fnOf "_law_draw" "_law_draw" (defArgs st_law_draw) (defBody st_law_draw) (defScope st_law_draw) .none kV19 dc19 pm19 an19 cd19 ct19), sl19⟩) (c19 : PySem.W.codeIn K cd19 "_law_draw" = true) (k19 : PySem.W.keepIn K (.ref f19) = true)
    (a20 : PySem.W.nsIn K mainGlobals "_law_take" = some (some (.ref f20))) (l20 : K.lookup f20 = some ⟨oc20, od20, .func (PySem.W.fnOf "_law_take" "_law_take" (defArgs st_law_take) (defBody st_law_take) (defScope st_law_take) .none kV20 dc20 pm20 an20 cd20 ct20), sl20⟩) (c20 : PySem.W.codeIn K cd20 "_law_take" = true) (k20 : PySem.W.keepIn K (.ref f20) = true)
    (a21 : PySem.W.nsIn K mainGlobals "law" = some (some (.ref f21))) (l21 : K.lookup f21 = some ⟨oc21, od21, .func (PySem.W.fnOf "law" "law" (defArgs stlaw) (defBody stlaw) (defScope stlaw) .none kV21 dc21 pm21 an21 cd21 ct21), sl21⟩) (c21 : PySem.W.codeIn K cd21 "law" = true) (k21 : PySem.W.keepIn K (.ref f21) = true)
    (v0 : PySem.W.nsIn K mainGlobals "MOST_WEIGHT" = some (some (.int 1000000 tk0)))
    (v1 : PySem.W.nsIn K mainGlobals "MOST_STEP" = some (some (.int 1000 tk1)))
    (v2 : PySem.W.nsIn K mainGlobals "MOST_SHOW" = some (some (.int 1001000 tk2)))
    (v3 : PySem.W.nsIn K mainGlobals "MOST_WHOLE" = some (some (.int 10000000 tk3)))
    (v4 : PySem.W.nsIn K mainGlobals "MOST_SHOWS" = some (some (.int 8 tk4)))
    (z0 : PySem.W.nsIn K mainGlobals "isinstance" = some none)
    (z1 : PySem.W.nsIn K mainGlobals "len" = some none)
    (z2 : PySem.W.nsIn K mainGlobals "int" = some none)
    (z3 : PySem.W.nsIn K mainGlobals "sum" = some none)
    (z4 : PySem.W.nsIn K mainGlobals "max" = some none)
    (z5 : PySem.W.nsIn K mainGlobals "min" = some none)
    (z6 : PySem.W.nsIn K mainGlobals "abs" = some none)
    (z7 : PySem.W.nsIn K mainGlobals "all" = some none)
    (z8 : PySem.W.nsIn K mainGlobals "any" = some none)
    (z9 : PySem.W.nsIn K mainGlobals "tuple" = some none)
    (z10 : PySem.W.nsIn K mainGlobals "list" = some none)
    (z11 : PySem.W.nsIn K mainGlobals "sorted" = some none)
    (z12 : PySem.W.nsIn K mainGlobals "bool" = some none)
    (z13 : PySem.W.nsIn K mainGlobals "str" = some none)
    (z14 : PySem.W.nsIn K mainGlobals "range" = some none)
    (z15 : PySem.W.nsIn K mainGlobals "enumerate" = some none)
    (z16 : PySem.W.nsIn K mainGlobals "zip" = some none)
    (z17 : PySem.W.nsIn K mainGlobals "reversed" = some none)
    (w0 n : Nat) :
    ∃ fd : FuncData, (∀ (s : Shared) (v : Value), BindsTo s fd ⟨[v], []⟩ [("script", v)]) ∧ ∀ base : Heap, K.In base → base.Ns mainGlobals mg → FnOk l.prog w K mg base CX0 (n + 1) fa fd ["script"] (spLaw w0 ds (n + 1) 21 K) := by
  have e := hfa.symm.trans (PySem.W.mg_of X G a21)
  cases e
  have F0 := fun_mk (st := stneed) l0 c0 k0
  have F1 := fun_mk (st := stis_integer) l1 c1 k1
  have F2 := fun_mk (st := stis_whole) l2 c2 k2
  have F3 := fun_mk (st := stis_sequence) l3 c3 k3
  have F4 := fun_mk (st := stnearest_multiple) l4 c4 k4
  have F5 := fun_mk (st := stweights_for) l5 c5 k5
  have F6 := fun_mk (st := sttogether) l6 c6 k6
  have F7 := fun_mk (st := sthave_common) l7 c7 k7
  have F8 := fun_mk (st := stare_multiples) l8 c8 k8
  have F9 := fun_mk (st := stshown) l9 c9 k9
  have F10 := fun_mk (st := stcould_be) l10 c10 k10
  have F11 := fun_mk (st := stwhole_between) l11 c11 k11
  have F12 := fun_mk (st := sthonest) l12 c12 k12
  have F13 := fun_mk (st := stis_step) l13 c13 k13
  have F14 := fun_mk (st := stis_show) l14 c14 k14
  have F15 := fun_mk (st := stis_shows) l15 c15 k15
  have F16 := fun_mk (st := stweights_of_all) l16 c16 k16
  have F17 := fun_mk (st := st_law_so) l17 c17 k17
  have F18 := fun_mk (st := st_law_numbers) l18 c18 k18
  have F19 := fun_mk (st := st_law_draw) l19 c19 k19
  have F20 := fun_mk (st := st_law_take) l20 c20 k20
  have F21 := fun_mk (st := stlaw) l21 c21 k21
  have B : Base ct K mg ds := ⟨fun p hp => ?fns, fun p hp => ?cs, fun x hx => ?gcd, fun x hx => ?bi⟩
  · refine ⟨PySem.W.fnOf "law" "law" (defArgs stlaw) (defBody stlaw) (defScope stlaw) .none kV21 dc21 pm21 an21 cd21 ct21, fun s v => .of_eq rfl, fun base _ _ => fn_ok (facts B n) F21 slaw claw rfl⟩
  case fns =>
    simp only [ct, List.mem_cons, List.not_mem_nil, or_false] at hp
    rcases hp with rfl | rfl | rfl | rfl | rfl | rfl | rfl | rfl | rfl | rfl | rfl | rfl | rfl | rfl | rfl | rfl | rfl | rfl | rfl | rfl | rfl | rfl
    · exact ⟨⟨_, _, _, _, _, _, 60, _, F0, sneed, cneed, rfl, PySem.W.mg_of X G a0, F0.binds (ps := ["ok", "at"]) fun _ _ _ _ _ _ us hl => match us, hl with | [_, _], _ => rfl⟩⟩
    · exact ⟨⟨_, _, _, _, _, _, 60, _, F1, sis_integer, cis_integer, rfl, PySem.W.mg_of X G a1, F1.binds (ps := ["value"]) fun _ _ _ _ _ _ us hl => match us, hl with | [_], _ => rfl⟩⟩
    · exact ⟨⟨_, _, _, _, _, _, 60, _, F2, sis_whole, cis_whole, rfl, PySem.W.mg_of X G a2, F2.binds (ps := ["value", "low", "high"]) fun _ _ _ _ _ _ us hl => match us, hl with | [_, _, _], _ => rfl⟩⟩
    · exact ⟨⟨_, _, _, _, _, _, 60, _, F3, sis_sequence, cis_sequence, rfl, PySem.W.mg_of X G a3, F3.binds (ps := ["value", "fewest", "most"]) fun _ _ _ _ _ _ us hl => match us, hl with | [_, _, _], _ => rfl⟩⟩
    · exact ⟨⟨_, _, _, _, _, _, 60, _, F4, snearest_multiple, cnearest_multiple, rfl, PySem.W.mg_of X G a4, F4.binds (ps := ["weight", "step"]) fun _ _ _ _ _ _ us hl => match us, hl with | [_, _], _ => rfl⟩⟩
    · exact ⟨⟨_, _, _, _, _, _, 60, _, F5, sweights_for, cweights_for, rfl, PySem.W.mg_of X G a5, F5.binds (ps := ["show", "step"]) fun _ _ _ _ _ _ us hl => match us, hl with | [_, _], _ => rfl⟩⟩
    · exact ⟨⟨_, _, _, _, _, _, 60, _, F6, stogether, ctogether, rfl, PySem.W.mg_of X G a6, F6.binds (ps := ["spans"]) fun _ _ _ _ _ _ us hl => match us, hl with | [_], _ => rfl⟩⟩
    · exact ⟨⟨_, _, _, _, _, _, 60, _, F7, shave_common, chave_common, rfl, PySem.W.mg_of X G a7, F7.binds (ps := ["one", "other"]) fun _ _ _ _ _ _ us hl => match us, hl with | [_, _], _ => rfl⟩⟩
    · exact ⟨⟨_, _, _, _, _, _, 60, _, F8, sare_multiples, care_multiples, rfl, PySem.W.mg_of X G a8, F8.binds (ps := ["values", "step"]) fun _ _ _ _ _ _ us hl => match us, hl with | [_, _], _ => rfl⟩⟩
    · exact ⟨⟨_, _, _, _, _, _, 60, _, F9, sshown, cshown, rfl, PySem.W.mg_of X G a9, F9.binds (ps := ["weight", "step"]) fun _ _ _ _ _ _ us hl => match us, hl with | [_, _], _ => rfl⟩⟩
    · exact ⟨⟨_, _, _, _, _, _, 60, _, F10, scould_be, ccould_be, rfl, PySem.W.mg_of X G a10, F10.binds (ps := ["show", "step"]) fun _ _ _ _ _ _ us hl => match us, hl with | [_, _], _ => rfl⟩⟩
    · exact ⟨⟨_, _, _, _, _, _, 60, _, F11, swhole_between, cwhole_between, rfl, PySem.W.mg_of X G a11, F11.binds (ps := ["shows", "step"]) fun _ _ _ _ _ _ us hl => match us, hl with | [_, _], _ => rfl⟩⟩
    · exact ⟨⟨_, _, _, _, _, _, 60, _, F12, shonest, chonest, rfl, PySem.W.mg_of X G a12, F12.binds (ps := ["shows", "step", "whole", "coarse"]) fun _ _ _ _ _ _ us hl => match us, hl with | [_, _, _, _], _ => rfl⟩⟩
    · exact ⟨⟨_, _, _, _, _, _, 60, _, F13, sis_step, cis_step, rfl, PySem.W.mg_of X G a13, F13.binds (ps := ["value"]) fun _ _ _ _ _ _ us hl => match us, hl with | [_], _ => rfl⟩⟩
    · exact ⟨⟨_, _, _, _, _, _, 60, _, F14, sis_show, cis_show, rfl, PySem.W.mg_of X G a14, F14.binds (ps := ["value"]) fun _ _ _ _ _ _ us hl => match us, hl with | [_], _ => rfl⟩⟩
    · exact ⟨⟨_, _, _, _, _, _, 60, _, F15, sis_shows, cis_shows, rfl, PySem.W.mg_of X G a15, F15.binds (ps := ["value"]) fun _ _ _ _ _ _ us hl => match us, hl with | [_], _ => rfl⟩⟩
    · exact ⟨⟨_, _, _, _, _, _, 60, _, F16, sweights_of_all, cweights_of_all, rfl, PySem.W.mg_of X G a16, F16.binds (ps := ["shows", "step"]) fun _ _ _ _ _ _ us hl => match us, hl with | [_, _], _ => rfl⟩⟩
    · exact ⟨⟨_, _, _, _, _, _, 60, _, F17, s_law_so, c_law_so, rfl, PySem.W.mg_of X G a17, F17.binds (ps := ["found", "meant"]) fun _ _ _ _ _ _ us hl => match us, hl with | [_, _], _ => rfl⟩⟩
    · exact ⟨⟨_, _, _, _, _, _, 60, _, F18, s_law_numbers, c_law_numbers, rfl, PySem.W.mg_of X G a18, F18.binds (ps := ["script"]) fun _ _ _ _ _ _ us hl => match us, hl with | [_], _ => rfl⟩⟩
    · exact ⟨⟨_, _, _, _, _, _, 60, _, F19, s_law_draw, c_law_draw, rfl, PySem.W.mg_of X G a19, F19.binds (ps := ["row", "at", "limit"]) fun _ _ _ _ _ _ us hl => match us, hl with | [_, _, _], _ => rfl⟩⟩
    · exact ⟨⟨_, _, _, _, _, _, 60, _, F20, s_law_take, c_law_take, rfl, PySem.W.mg_of X G a20, F20.binds (ps := ["row", "spot", "limit"]) fun _ _ _ _ _ _ us hl => match us, hl with | [_, _, _], _ => rfl⟩⟩
    · exact ⟨⟨_, _, _, _, _, _, 60, _, F21, slaw, claw, rfl, PySem.W.mg_of X G a21, F21.binds (ps := ["script"]) fun _ _ _ _ _ _ us hl => match us, hl with | [_], _ => rfl⟩⟩
  case cs =>
    simp only [ct, List.mem_cons, List.not_mem_nil, or_false] at hp
    rcases hp with rfl | rfl | rfl | rfl | rfl
    · exact ⟨.int 1000000, .int 1000000 tk0, PySem.W.mg_of X G v0, ⟨_, rfl⟩, fun _ _ => .int _⟩
    · exact ⟨.int 1000, .int 1000 tk1, PySem.W.mg_of X G v1, ⟨_, rfl⟩, fun _ _ => .int _⟩
    · exact ⟨.int 1001000, .int 1001000 tk2, PySem.W.mg_of X G v2, ⟨_, rfl⟩, fun _ _ => .int _⟩
    · exact ⟨.int 10000000, .int 10000000 tk3, PySem.W.mg_of X G v3, ⟨_, rfl⟩, fun _ _ => .int _⟩
    · exact ⟨.int 8, .int 8 tk4, PySem.W.mg_of X G v4, ⟨_, rfl⟩, fun _ _ => .int _⟩
  case gcd =>
    simp [ct] at hx
  case bi =>
    simp only [biNames, List.mem_cons, List.not_mem_nil, or_false] at hx
    rcases hx with rfl | rfl | rfl | rfl | rfl | rfl | rfl | rfl | rfl | rfl | rfl | rfl | rfl | rfl | rfl | rfl | rfl | rfl
    · exact PySem.W.mg_none_of X G z0
    · exact PySem.W.mg_none_of X G z1
    · exact PySem.W.mg_none_of X G z2
    · exact PySem.W.mg_none_of X G z3
    · exact PySem.W.mg_none_of X G z4
    · exact PySem.W.mg_none_of X G z5
    · exact PySem.W.mg_none_of X G z6
    · exact PySem.W.mg_none_of X G z7
    · exact PySem.W.mg_none_of X G z8
    · exact PySem.W.mg_none_of X G z9
    · exact PySem.W.mg_none_of X G z10
    · exact PySem.W.mg_none_of X G z11
    · exact PySem.W.mg_none_of X G z12
    · exact PySem.W.mg_none_of X G z13
    · exact PySem.W.mg_none_of X G z14
    · exact PySem.W.mg_none_of X G z15
    · exact PySem.W.mg_none_of X G z16
    · exact PySem.W.mg_none_of X G z17
end K66
namespace K66
open PySem PySem.Spec PyProof.Rows L2 Mini
section
variable {w n : Nat} {k : Ky}
def near (a s : Int) : Int := (2 * a + s) / (2 * s) * s
def lo (a s : Int) : Int := if a - s / 2 > 0 then a - s / 2 else 0
def hi (a s : Int) : Int := a + (s - 1) / 2
theorem r_need (x : D) : run w ds (n + 1) 0 [.bl true, x] k = some (.non, k) := by
  rw [run_eq (d := ⟨2, 2, bneed⟩) rfl rfl]
  simp [bneed, evSs, evS, evE, evT, truth, fin_nx]
theorem r_isint (i : Int) : run w ds (n + 1) 1 [.int i] k = some (.bl true, k) := by
  rw [run_eq (d := ⟨1, 1, bis_integer⟩) rfl rfl]
  simp [bis_integer, evSs, evS, evE, evT, truth, fin_rt, isOfs, isOf]
theorem r_whole (v a b : Int) (h1 : a ≤ v) (h2 : v ≤ b) : run w ds (n + 2) 2 [.int v, .int a, .int b] k = some (.bl true, k) := by
  rw [run_eq (d := ⟨3, 3, bis_whole⟩) rfl rfl]
  simp [bis_whole, evSs, evS, evE, evEs, evT, truth, fin_rt, r_isint, coSem, h1, h2]
theorem r_seq2 (x y : D) : run w ds (n + 1) 3 [.tup [x, y], .int 0, .int 8] k = some (.bl true, k) := by
  rw [run_eq (d := ⟨3, 3, bis_sequence⟩) rfl rfl]
  simp [bis_sequence, evSs, evS, evE, evEs, evT, truth, fin_rt, coSem, isOfs, isOf, biSem]
theorem r_near (a s : Int) (h1 : 0 < s) (h2 : s < 100000) : run w ds (n + 1) 4 [.int a, .int s] k = some (.int (near a s), k) := by
  rw [run_eq (d := ⟨2, 2, bnearest_multiple⟩) rfl rfl]
  have e1 : mulOk 2 a = true := mulOk_l (by omega) (by omega)
  have e2 : mulOk 2 s = true := mulOk_l (by omega) (by omega)
  have e3 : divOk (2 * s) = true := divOk_of (by omega) (by omega)
  have e4 : mulOk ((2 * a + s) / (2 * s)) s = true := mulOk_r (by omega) (by omega)
  simp [bnearest_multiple, evSs, evS, evE, evEs, evT, truth, fin_rt, boSem, e1, e2, e3, e4, near]
theorem r_wf (a s : Int) : run w ds (n + 1) 5 [.int a, .int s] k = some (.tup [.int (lo a s), .int (hi a s)], k) := by
  rw [run_eq (d := ⟨2, 4, bweights_for⟩) rfl rfl]
  have e3 : divOk 2 = true := divOk_of (by omega) (by omega)
  simp [bweights_for, evSs, evS, evE, evEs, evT, truth, fin_rt, boSem, biSem, e3, lo, hi, stE, noL, Sta.put, lineOk]
theorem r_tog (a b c d : Int) : run w ds (n + 1) 6 [.lst [.tup [.int a, .int b], .tup [.int c, .int d]]] k = some (.tup [.int (a + c), .int (b + d)], k) := by
  rw [run_eq (d := ⟨1, 2, btogether⟩) rfl rfl]
  simp [btogether, etogether_0, etogether_1, evSs, evS, evE, evEs, evI, evT, truth, fin_rt, boSem, biSem, items, lineOk, compD, asg, wipeR, idxSem, atI, ixN, toInts]
theorem r_common (a b c d : Int) : run w ds (n + 1) 7 [.tup [.int a, .int b], .tup [.int c, .int d]] k = some (.bl (decide ((if c > a then c else a) ≤ (if d < b then d else b))), k) := by
  rw [run_eq (d := ⟨2, 2, bhave_common⟩) rfl rfl]
  simp [bhave_common, evSs, evS, evE, evEs, evI, evT, truth, fin_rt, boSem, biSem, coSem, idxSem, atI, ixN]
theorem r_mult1 (a s : Int) (h1 : 0 < s) (h : a % s = 0) : run w ds (n + 1) 8 [.tup [.int a], .int s] k = some (.bl true, k) := by
  rw [run_eq (d := ⟨2, 3, bare_multiples⟩) rfl rfl]
  simp [bare_multiples, eare_multiples_0, evSs, evS, evE, evEs, evI, evT, truth, fin_rt, boSem, biSem, coSem, eqD, items, lineOk, compD, asg, wipeR, toBls, h1, h]
theorem r_mult2 (a b s : Int) (h1 : 0 < s) (h : a % s = 0) (h' : b % s = 0) : run w ds (n + 1) 8 [.tup [.int a, .int b], .int s] k = some (.bl true, k) := by
  rw [run_eq (d := ⟨2, 3, bare_multiples⟩) rfl rfl]
  simp [bare_multiples, eare_multiples_0, evSs, evS, evE, evEs, evI, evT, truth, fin_rt, boSem, biSem, coSem, eqD, items, lineOk, compD, asg, wipeR, toBls, h1, h, h']
theorem r_step (s : Int) (h1 : 1 ≤ s) (h2 : s ≤ 1000) : run w ds (n + 3) 13 [.int s] k = some (.bl true, k) := by
  rw [run_eq (d := ⟨1, 1, bis_step⟩) rfl rfl]
  simp [bis_step, evSs, evS, evE, evEs, fin_rt, r_whole s 1 1000 h1 h2]
theorem r_show (s : Int) (h1 : 0 ≤ s) (h2 : s ≤ 1001000) : run w ds (n + 3) 14 [.int s] k = some (.bl true, k) := by
  rw [run_eq (d := ⟨1, 1, bis_show⟩) rfl rfl]
  simp [bis_show, evSs, evS, evE, evEs, fin_rt, r_whole s 0 1001000 h1 h2]
theorem r_shows2 (a b : Int) (h1 : 0 ≤ a) (h2 : a ≤ 1001000) (h3 : 0 ≤ b) (h4 : b ≤ 1001000) : run w ds (n + 4) 15 [.tup [.int a, .int b]] k = some (.bl true, k) := by
  rw [run_eq (d := ⟨1, 2, bis_shows⟩) rfl rfl]
  simp [bis_shows, eis_shows_0, evSs, evS, evE, evEs, evI, fin_rt, r_seq2, items, lineOk, compD, asg, wipeR, r_show a h1 h2, r_show b h3 h4, biSem, toBls]
theorem r_all2 (a b s : Int) : run w ds (n + 2) 16 [.tup [.int a, .int b], .int s] k = some (.tup [.int (lo a s + lo b s), .int (hi a s + hi b s)], k) := by
  rw [run_eq (d := ⟨2, 3, bweights_of_all⟩) rfl rfl]
  simp [bweights_of_all, eweights_of_all_0, evSs, evS, evE, evEs, evI, fin_rt, items, lineOk, compD, asg, wipeR, r_wf, r_tog]
theorem r_shown (a s : Int) (h1 : 0 ≤ a) (h2 : a ≤ 1000000) (h3 : 1 ≤ s) (h4 : s ≤ 1000) : run w ds (n + 4) 9 [.int a, .int s] k = some (.int (near a s), k) := by
  rw [run_eq (d := ⟨2, 2, bshown⟩) rfl rfl]
  simp [bshown, evSs, evS, evE, evEs, fin_rt, r_whole a 0 1000000 h1 h2, r_step s h3 h4, r_need, r_near a s (by omega) (by omega)]
theorem r_between (a b s : Int) (h1 : 0 ≤ a) (h2 : a ≤ 1001000) (h3 : 0 ≤ b) (h4 : b ≤ 1001000) (h5 : 1 ≤ s) (h6 : s ≤ 1000) (m1 : a % s = 0) (m2 : b % s = 0) : run w ds (n + 5) 11 [.tup [.int a, .int b], .int s] k = some (.tup [.int (lo a s + lo b s), .int (hi a s + hi b s)], k) := by
  rw [run_eq (d := ⟨2, 2, bwhole_between⟩) rfl rfl]
  simp [bwhole_between, evSs, evS, evE, evEs, fin_rt, r_shows2 a b h1 h2 h3 h4, r_step s h5 h6, r_need, r_mult2 a b s (by omega) m1 m2, r_all2]
theorem r_honest (a b s v c : Int) (h1 : 0 ≤ a) (h2 : a ≤ 1001000) (h3 : 0 ≤ b) (h4 : b ≤ 1001000) (h5 : 1 ≤ s) (h6 : s ≤ 1000) (m1 : a % s = 0) (m2 : b % s = 0) (h7 : 0 ≤ v) (h8 : v ≤ 10000000) (h9 : 1 ≤ c) (h10 : c ≤ 1000) (m3 : v % c = 0) :
    run w ds (n + 5) 12 [.tup [.int a, .int b], .int s, .int v, .int c] k = some (.bl (decide ((if lo v c > lo a s + lo b s then lo v c else lo a s + lo b s) ≤ (if hi v c < hi a s + hi b s then hi v c else hi a s + hi b s))), k) := by
  rw [run_eq (d := ⟨4, 4, bhonest⟩) rfl rfl]
  simp [bhonest, evSs, evS, evE, evEs, fin_rt, r_shows2 a b h1 h2 h3 h4, r_step s h5 h6, r_step c h9 h10, r_need, r_mult2 a b s (by omega) m1 m2, r_mult1 v c (by omega) m3, r_all2, r_wf, r_common, r_whole v 0 10000000 h7 h8, lineOk]
end
end K66
namespace K66
open PySem PySem.Spec PyProof.Rows L2 Mini
section
variable {w n : Nat} {k : Ky}
def seg (a b : Int) : List Int := (List.range (b - a + 1).toNat).map fun (t : Nat) => a + (t : Int)
theorem mem_seg {a b x : Int} : x ∈ seg a b ↔ a ≤ x ∧ x ≤ b := by
  simp only [seg, List.mem_map, List.mem_range]
  constructor
  · rintro ⟨t, h1, rfl⟩; omega
  · intro h; exact ⟨(x - a).toNat, by omega, by omega⟩
theorem seg_len (a b : Int) : (seg a b).length = (b - a + 1).toNat := by simp [seg]
theorem seg_first {a b : Int} (h : a ≤ b) : atI (seg a b) 0 = some a := by
  have := atI_get (xs := seg a b) (i := 0) (x := a) (by
    unfold seg
    rw [List.getElem?_map, List.getElem?_range (by omega)]
    simp)
  simpa using this
theorem seg_last {a b : Int} (h : a ≤ b) : atI (seg a b) (((seg a b).length : Int) - 1) = some b := by
  have := atI_get (xs := seg a b) (i := (b - a).toNat) (x := b) (by
    unfold seg
    rw [List.getElem?_map, List.getElem?_range (by omega)]
    simp only [Option.map_some]
    congr 1
    omega)
  rw [seg_len, show (((b - a + 1).toNat : Nat) : Int) - 1 = ((b - a).toNat : Nat) by omega]
  exact this
/-- the numbers below m that are shown as v -/
def F (m : Nat) (s v : Int) : List Int := (R m).filter fun a => decide (near a s = v)
theorem F_seg : ∀ s : Fin 13, ∀ p : Fin 4, 0 < s.val → F 60 s.val (s.val * p.val) = seg (lo (s.val * p.val) s.val) (hi (s.val * p.val) s.val) := by decide +kernel
theorem near_iff (c : Int) (h : 1 ≤ c) (h' : c ≤ 20) (t j : Int) : near t c = c * j ↔ c * j - c / 2 ≤ t ∧ t ≤ c * j + (c - 1) / 2 := by
  have : c = 1 ∨ c = 2 ∨ c = 3 ∨ c = 4 ∨ c = 5 ∨ c = 6 ∨ c = 7 ∨ c = 8 ∨ c = 9 ∨ c = 10 ∨ c = 11 ∨ c = 12 ∨ c = 13 ∨ c = 14 ∨ c = 15 ∨ c = 16 ∨ c = 17 ∨ c = 18 ∨ c = 19 ∨ c = 20 := by omega
  rcases this with rfl | rfl | rfl | rfl | rfl | rfl | rfl | rfl | rfl | rfl | rfl | rfl | rfl | rfl | rfl | rfl | rfl | rfl | rfl | rfl <;> (unfold near; omega)
theorem r_comp (s one : Int) (h3 : 1 ≤ s) (h4 : s ≤ 12) (x0 x1 x2 x4 x5 x6 x7 x8 x10 x11 x12 x13 x14 x15 x16 : Option D) (i : Nat) (m : Nat) (hm : m ≤ 1000) (hi : i = 4 ∨ i = 9) (t : T) (ht : t = .val (.cmp .eq (.call 9 (.cons (.var 6) (.cons (.var 3) .nil))) (.var 9))) :
    compD (fun ρ k => evE (run w ds (n + 4)) (.var 6) ρ k) (fun ρ k => evT (run w ds (n + 4)) t ρ k) (.name 6) (wipeR [x0, x1, x2, some (.int s), x4, x5, x6, x7, x8, some (.int one), x10, x11, x12, x13, x14, x15, x16] [6]) (rngL 0 1 m) k = some (((F m s one).map .int), k) := by
  rw [rngL_R]
  have := compD_int (f := fun ρ k => evE (run w ds (n + 4)) (.var 6) ρ k) (g := fun ρ k => evT (run w ds (n + 4)) t ρ k) (tg := .name 6) (k := k) (ρ := wipeR [x0, x1, x2, some (.int s), x4, x5, x6, x7, x8, some (.int one), x10, x11, x12, x13, x14, x15, x16] [6])
    (fun x => [x0, x1, x2, some (.int s), x4, x5, some (.int x), x7, x8, some (.int one), x10, x11, x12, x13, x14, x15, x16]) (fun a => decide (near a s = one)) (fun a => .int a) (R m) (fun x hx => ?_)
  · exact this
  · obtain ⟨h1, h2⟩ := mem_R hx
    subst ht
    refine ⟨rfl, ?_, fun _ => ?_⟩
    · simp [evT, evE, evEs, r_shown x s (by omega) (by omega) h3 (by omega), coSem, eqD, truth]
    · simp [evE]
theorem r_comp2 (s two : Int) (h3 : 1 ≤ s) (h4 : s ≤ 12) (x0 x1 x2 x4 x5 x6 x7 x8 x9 x11 x12 x13 x14 x15 x16 : Option D) (m : Nat) (hm : m ≤ 1000) (t : T) (ht : t = .val (.cmp .eq (.call 9 (.cons (.var 6) (.cons (.var 3) .nil))) (.var 10))) :
    compD (fun ρ k => evE (run w ds (n + 4)) (.var 6) ρ k) (fun ρ k => evT (run w ds (n + 4)) t ρ k) (.name 6) (wipeR [x0, x1, x2, some (.int s), x4, x5, x6, x7, x8, x9, some (.int two), x11, x12, x13, x14, x15, x16] [6]) (rngL 0 1 m) k = some (((F m s two).map .int), k) := by
  rw [rngL_R]
  have := compD_int (f := fun ρ k => evE (run w ds (n + 4)) (.var 6) ρ k) (g := fun ρ k => evT (run w ds (n + 4)) t ρ k) (tg := .name 6) (k := k) (ρ := wipeR [x0, x1, x2, some (.int s), x4, x5, x6, x7, x8, x9, some (.int two), x11, x12, x13, x14, x15, x16] [6])
    (fun x => [x0, x1, x2, some (.int s), x4, x5, some (.int x), x7, x8, x9, some (.int two), x11, x12, x13, x14, x15, x16]) (fun a => decide (near a s = two)) (fun a => .int a) (R m) (fun x hx => ?_)
  · exact this
  · obtain ⟨h1, h2⟩ := mem_R hx
    subst ht
    refine ⟨rfl, ?_, fun _ => ?_⟩
    · simp [evT, evE, evEs, r_shown x s (by omega) (by omega) h3 (by omega), coSem, eqD, truth]
    · simp [evE]
/-- what the sums are shown as -/
def Wh (A B : List Int) (c : Int) : List Int := A.flatMap fun a => B.map fun b => near (a + b) c
theorem noLs_ints (l : List Int) : noLs (l.map .int) = true := by
  induction l with
  | nil => rfl
  | cons x l ih => simp [noLs, noL, ih]
theorem wholes (A B : List Int) (hA : ∀ a ∈ A, 0 ≤ a ∧ a ≤ 1000) (hB : ∀ b ∈ B, 0 ≤ b ∧ b ≤ 1000) (lB : B.length ≤ 100) (c : Int) (h1 : 1 ≤ c) (h2 : c ≤ 1000) (x0 x1 x2 x3 x4 x5 x6 x8 x9 x10 x11 x16 : Option D) :
    ∀ (A' : List Int) (acc : List Int) (x14 x15 : Option D) (mu : List Nat), (∀ a ∈ A', a ∈ A) → acc.length + 100 * A'.length ≤ 100000 → ∃ mu' y14 y15, forD (.name 14) (fun s => evSs (run w ds (n + 4)) w blaw_9 s) (A'.map .int) ⟨[x0, x1, x2, x3, x4, x5, x6, some (.int c), x8, x9, x10, x11, some (.lst (B.map .int)), some (.lst (acc.map .int)), x14, x15, x16], mu, k⟩ =
      some (.nx ⟨[x0, x1, x2, x3, x4, x5, x6, some (.int c), x8, x9, x10, x11, some (.lst (B.map .int)), some (.lst ((acc ++ Wh A' B c).map .int)), y14, y15, x16], mu', k⟩)
  | [], acc, x14, x15, mu, _, _ => ⟨mu, x14, x15, by simp [forD, Wh]⟩
  | a :: A', acc, x14, x15, mu, hA', hl => by
    have ha := hA a (hA' a List.mem_cons_self)
    have hc : compD (fun ρ k => evE (run w ds (n + 4)) elaw_8 ρ k) (fun _ k => some (true, k)) (.name 15) (wipeR [x0, x1, x2, x3, x4, x5, x6, some (.int c), x8, x9, x10, x11, some (.lst (B.map .int)), some (.lst (acc.map .int)), some (.int a), x15, x16] [15]) (B.map .int) k = some ((B.map fun b => near (a + b) c).map .int, k) := by
      have := compD_int (f := fun ρ k => evE (run w ds (n + 4)) elaw_8 ρ k) (g := fun _ k => some (true, k)) (tg := .name 15) (k := k) (ρ := wipeR [x0, x1, x2, x3, x4, x5, x6, some (.int c), x8, x9, x10, x11, some (.lst (B.map .int)), some (.lst (acc.map .int)), some (.int a), x15, x16] [15])
        (fun x => [x0, x1, x2, x3, x4, x5, x6, some (.int c), x8, x9, x10, x11, some (.lst (B.map .int)), some (.lst (acc.map .int)), some (.int a), some (.int x), x16]) (fun _ => true) (fun b => .int (near (a + b) c)) B (fun x hx => ?_)
      · rw [this]
        rw [List.filter_eq_self.mpr (fun _ _ => rfl), List.map_map]
        rfl
      · have hb := hB x hx
        refine ⟨rfl, rfl, fun _ => ?_⟩
        simp [elaw_8, evE, evEs, boSem, r_shown (a + x) c (by omega) (by omega) h1 h2]
    have hlen : lineOk (B.map D.int).length = true := lineOk_of (by simp; omega)
    have hlen2 : lineOk ((acc.map D.int).length + ((B.map fun b => near (a + b) c).map D.int).length) = true := lineOk_of (by simp at hl ⊢; omega)
    have step : ∃ mu', evSs (run w ds (n + 4)) w blaw_9 ⟨[x0, x1, x2, x3, x4, x5, x6, some (.int c), x8, x9, x10, x11, some (.lst (B.map .int)), some (.lst (acc.map .int)), some (.int a), x15, x16], tgMu (.name 14) mu, k⟩ = some (.nx ⟨[x0, x1, x2, x3, x4, x5, x6, some (.int c), x8, x9, x10, x11, some (.lst (B.map .int)), some (.lst ((acc ++ B.map fun b => near (a + b) c).map .int)), some (.int a), x15, x16], mu', k⟩) := by
      simp only [blaw_9, evSs, evS, stE, evE, evI, List.getElem?_cons_succ, List.getElem?_cons_zero, items, Option.map_some, hlen, if_true, hc, boSem, hlen2, noL, Bool.false_eq_true, if_false, Sta.keep, Sta.put, List.set_cons_succ, List.set_cons_zero, List.map_append]
      exact ⟨_, rfl⟩
    obtain ⟨mu1, e1⟩ := step
    obtain ⟨mu2, y14, y15, e2⟩ := wholes A B hA hB lB c h1 h2 x0 x1 x2 x3 x4 x5 x6 x8 x9 x10 x11 x16 A' (acc ++ B.map fun b => near (a + b) c) (some (.int a)) x15 mu1 (fun b hb => hA' b (List.mem_cons_of_mem _ hb)) (by simp at hl ⊢; omega)
    refine ⟨mu2, y14, y15, ?_⟩
    simp only [List.map_cons, forD, asg, List.set_cons_succ, List.set_cons_zero, e1, e2]
    simp [Wh]
theorem rng_step (c : Int) (h : 1 ≤ c) (h' : c ≤ 20) : rngSem [.int 0, .int (6 * c), .int c] = some (rngL 0 c 6) ∧ mulOk 6 c = true := by
  have : c = 1 ∨ c = 2 ∨ c = 3 ∨ c = 4 ∨ c = 5 ∨ c = 6 ∨ c = 7 ∨ c = 8 ∨ c = 9 ∨ c = 10 ∨ c = 11 ∨ c = 12 ∨ c = 13 ∨ c = 14 ∨ c = 15 ∨ c = 16 ∨ c = 17 ∨ c = 18 ∨ c = 19 ∨ c = 20 := by omega
  rcases this with rfl | rfl | rfl | rfl | rfl | rfl | rfl | rfl | rfl | rfl | rfl | rfl | rfl | rfl | rfl | rfl | rfl | rfl | rfl | rfl <;> exact ⟨by kernel_rfl, by kernel_rfl⟩
theorem mem_Wh {A B : List Int} {c v : Int} : v ∈ Wh A B c ↔ ∃ a b, a ∈ A ∧ b ∈ B ∧ near (a + b) c = v := by
  simp only [Wh, List.mem_flatMap, List.mem_map]
  constructor
  · rintro ⟨a, h1, b, h2, h3⟩; exact ⟨a, b, h1, h2, h3⟩
  · rintro ⟨a, b, h1, h2, h3⟩; exact ⟨a, h1, b, h2, h3⟩
/-- the plain law -/
theorem plain (l1 u1 l2 u2 c j : Int) (h1 : l1 ≤ u1) (h2 : l2 ≤ u2) (h0 : 0 ≤ l1) (h0' : 0 ≤ l2) (hc : 1 ≤ c) (hc' : c ≤ 20) (hj : 0 ≤ c * j) :
    ((if lo (c * j) c > l1 + l2 then lo (c * j) c else l1 + l2) ≤ (if hi (c * j) c < u1 + u2 then hi (c * j) c else u1 + u2)) ↔ c * j ∈ Wh (seg l1 u1) (seg l2 u2) c := by
  rw [mem_Wh]
  have key : ∀ t, near t c = c * j ↔ c * j - c / 2 ≤ t ∧ t ≤ c * j + (c - 1) / 2 := fun t => near_iff c hc hc' t j
  generalize c * j = v at *
  constructor
  · intro h
    -- a total within both
    let t := if lo v c > l1 + l2 then lo v c else l1 + l2
    have ht : t = if lo v c > l1 + l2 then lo v c else l1 + l2 := rfl
    have b1 : l1 + l2 ≤ t := by rw [ht]; split <;> omega
    have b2 : t ≤ u1 + u2 := by rw [ht]; split at h <;> split at h <;> split <;> omega
    have b3 : v - c / 2 ≤ t := by rw [ht]; unfold lo; split <;> (try split at *) <;> omega
    have b4 : t ≤ v + (c - 1) / 2 := by rw [ht]; unfold hi at h; split at h <;> split at h <;> split <;> omega
    refine ⟨if t - l2 ≤ u1 then t - l2 else u1, t - (if t - l2 ≤ u1 then t - l2 else u1), ?_, ?_, ?_⟩
    · rw [mem_seg]; split <;> omega
    · rw [mem_seg]; split <;> omega
    · rw [show (if t - l2 ≤ u1 then t - l2 else u1) + (t - (if t - l2 ≤ u1 then t - l2 else u1)) = t by omega]
      exact (key t).mpr ⟨b3, b4⟩
  · rintro ⟨a, b, ha, hb, h⟩
    rw [mem_seg] at ha hb
    obtain ⟨q1, q2⟩ := (key _).mp h
    unfold lo hi
    split <;> split <;> (try split at *) <;> omega
end
end K66
namespace K66
open PySem PySem.Spec PyProof.Rows L2 Mini
section
variable {w n : Nat} {k : Ky}
theorem F_seg' (s p : Int) (h1 : 1 ≤ s) (h2 : s ≤ 12) (h3 : 0 ≤ p) (h4 : p ≤ 3) : F 60 s (s * p) = seg (lo (s * p) s) (hi (s * p) s) := by
  have := F_seg ⟨s.toNat, by omega⟩ ⟨p.toNat, by omega⟩ (by show 0 < s.toNat; omega)
  simpa [Int.toNat_of_nonneg (show 0 ≤ s by omega), Int.toNat_of_nonneg h3] using this
theorem spans (s p : Int) (h1 : 1 ≤ s) (h2 : s ≤ 12) (h3 : 0 ≤ p) (h4 : p ≤ 3) : 0 ≤ s * p ∧ s * p ≤ 36 ∧ (s * p) % s = 0 ∧ 0 ≤ lo (s * p) s ∧ lo (s * p) s ≤ hi (s * p) s ∧ hi (s * p) s ≤ 100 := by
  have : p = 0 ∨ p = 1 ∨ p = 2 ∨ p = 3 := by omega
  have hm : (s * p) % s = 0 := Int.mul_emod_right s p
  refine ⟨?_, ?_, hm, ?_⟩ <;> rcases this with rfl | rfl | rfl | rfl <;> (try unfold lo hi) <;> (try split) <;> omega
theorem whole_loop (s p q c : Int) (hs1 : 1 ≤ s) (hs2 : s ≤ 12) (hp1 : 0 ≤ p) (hp2 : p ≤ 3) (hq1 : 0 ≤ q) (hq2 : q ≤ 3) (h1 : 1 ≤ c) (h2 : c ≤ 20) (x0 x1 x2 x4 x5 x6 x8 x11 x12 x14 x15 x16 : Option D) (mu : List Nat) :
    ∃ s', forD (.name 16) (fun s => evSs (run w ds (n + 5)) w blaw_10 s) (rngL 0 c 6) ⟨[x0, x1, x2, some (.int s), x4, x5, x6, some (.int c), x8, some (.int (s * p)), some (.int (s * q)), x11, x12, some (.lst ((Wh (seg (lo (s * p) s) (hi (s * p) s)) (seg (lo (s * q) s) (hi (s * q) s)) c).map .int)), x14, x15, x16], mu, k⟩ = some (.nx s') ∧
      ∃ y mu', s' = ⟨[x0, x1, x2, some (.int s), x4, x5, x6, some (.int c), x8, some (.int (s * p)), some (.int (s * q)), x11, x12, some (.lst ((Wh (seg (lo (s * p) s) (hi (s * p) s)) (seg (lo (s * q) s) (hi (s * q) s)) c).map .int)), x14, x15, y], mu', k⟩ := by
  obtain ⟨a1, a2, a3, a4, a5, a6⟩ := spans s p hs1 hs2 hp1 hp2
  obtain ⟨b1, b2, b3, b4, b5, b6⟩ := spans s q hs1 hs2 hq1 hq2
  refine forD_inv (I := fun _ s' => ∃ y mu', s' = ⟨[x0, x1, x2, some (.int s), x4, x5, x6, some (.int c), x8, some (.int (s * p)), some (.int (s * q)), x11, x12, some (.lst ((Wh (seg (lo (s * p) s) (hi (s * p) s)) (seg (lo (s * q) s) (hi (s * q) s)) c).map .int)), x14, x15, y], mu', k⟩) (rngL 0 c 6) 0 _ (fun i d st hd hI => ?_) (fun st hs => hs) ⟨_, _, rfl⟩
  obtain ⟨y, mu', rfl⟩ := hI
  obtain ⟨hi', rfl⟩ := rngL_get hd
  have hv : (0 : Int) + (i : Int) * c = c * i := by rw [Int.mul_comm]; omega
  have hv0 : 0 ≤ c * (i : Int) := Int.mul_nonneg (by omega) (by omega)
  have hv1 : c * (i : Int) ≤ 10000000 := by
    have : c * (i : Int) ≤ 20 * 6 := Int.mul_le_mul h2 (by omega) (by omega) (by omega)
    omega
  have hv2 : (c * (i : Int)) % c = 0 := Int.mul_emod_right c i
  rw [hv]
  have hh := r_honest (w := w) (n := n) (k := k) (s * p) (s * q) s (c * i) c a1 (by omega) b1 (by omega) hs1 (by omega) a3 b3 hv0 hv1 h1 (by omega) hv2
  have hp := plain (lo (s * p) s) (hi (s * p) s) (lo (s * q) s) (hi (s * q) s) c i a5 b5 a4 b4 h1 h2 hv0
  have hd' : decide ((if lo (c * (i : Int)) c > lo (s * p) s + lo (s * q) s then lo (c * (i : Int)) c else lo (s * p) s + lo (s * q) s) ≤ (if hi (c * (i : Int)) c < hi (s * p) s + hi (s * q) s then hi (c * (i : Int)) c else hi (s * p) s + hi (s * q) s)) = decide (c * (i : Int) ∈ Wh (seg (lo (s * p) s) (hi (s * p) s)) (seg (lo (s * q) s) (hi (s * q) s)) c) := decide_eq_decide.mpr hp
  rw [hd'] at hh
  refine ⟨_, .nx ⟨_, _, k⟩, rfl, ?_, ⟨some (.int (c * i)), tgMu (.name 16) mu', rfl⟩⟩
  have hl2 : lineOk 2 = true := rfl
  simp only [blaw_10, evSs, evS, evT, evE, evEs, List.getElem?_cons_succ, List.getElem?_cons_zero, List.set_cons_succ, List.set_cons_zero, Option.bind_some, List.length_cons, List.length_nil, Nat.zero_add, Nat.reduceAdd, hl2, if_true, hh, coSem, fine_int, anyEq_int, Option.map_some, eqD, truth, decide_true, Bool.not_true, Bool.not_eq_true', decide_eq_true_eq, eq_self_iff_true]
theorem turn (row : List Int) (hr : row ≠ []) (m s c : Int) (hm : 0 ≤ m) (hs1 : 1 ≤ s) (hs2 : s ≤ 12) (h1 : 1 ≤ c) (h2 : c ≤ 20) (x0 x4 x5 x6 x8 x9 x10 x11 x12 x13 x14 x15 x16 : Option D) (mu : List Nat) :
    ∃ m' y9 y10 y11 y12 y13 y14 y15 y16 mu', 0 ≤ m' ∧ evSs (run w ds (n + 10)) w blaw_11 ⟨[x0, some (.lst (row.map .int)), some .spot, some (.int s), x4, x5, x6, some (.int c), x8, x9, x10, x11, x12, x13, x14, x15, x16], mu, some m⟩ =
      some (.nx ⟨[x0, some (.lst (row.map .int)), some .spot, some (.int s), x4, x5, x6, some (.int c), x8, y9, y10, y11, y12, y13, y14, y15, y16], mu', some m'⟩) := by
  obtain ⟨p, ep, hp1, hp2⟩ := take_ok (w := w) (ds := ds) (n := n + 8) (f := 20) (dr := 19) rfl rfl row hr m 4 hm (by omega)
  obtain ⟨q, eq, hq1, hq2⟩ := take_ok (w := w) (ds := ds) (n := n + 8) (f := 20) (dr := 19) rfl rfl row hr (m + 1) 4 (by omega) (by omega)
  obtain ⟨a1, a2, a3, a4, a5, a6⟩ := spans s p hs1 hs2 hp1 (by omega)
  obtain ⟨b1, b2, b3, b4, b5, b6⟩ := spans s q hs1 hs2 hq1 (by omega)
  have mp : mulOk s p = true := mulOk_l (by omega) (by omega)
  have mq : mulOk s q = true := mulOk_l (by omega) (by omega)
  have F1 := F_seg' s p hs1 hs2 hp1 (by omega)
  have F2 := F_seg' s q hs1 hs2 hq1 (by omega)
  have r60 : rngSem [.int 0, .int 60] = some (rngL 0 1 60) := rfl
  have l60 : lineOk (rngL 0 1 60).length = true := rfl
  obtain ⟨r6, m6⟩ := rng_step c h1 h2
  -- the two draws
  have s1 : ∃ mu', evS (run w ds (n + 10)) w (.set 9 (.bin .mul (.var 3) (.call 20 (.cons (.var 1) (.cons (.var 2) (.cons (.cst (.int 4)) .nil)))))) ⟨[x0, some (.lst (row.map .int)), some .spot, some (.int s), x4, x5, x6, some (.int c), x8, x9, x10, x11, x12, x13, x14, x15, x16], mu, some m⟩ =
      some (.nx ⟨[x0, some (.lst (row.map .int)), some .spot, some (.int s), x4, x5, x6, some (.int c), x8, some (.int (s * p)), x10, x11, x12, x13, x14, x15, x16], mu', some (m + 1)⟩) := by
    simp only [evS, stE, evE, evEs, List.getElem?_cons_succ, List.getElem?_cons_zero, ep, boSem, mp, if_true, Option.map_some, noL, Sta.put, List.set_cons_succ, List.set_cons_zero]
    exact ⟨_, rfl⟩
  obtain ⟨mu1, s1⟩ := s1
  have s2 : ∃ mu', evS (run w ds (n + 10)) w (.set 10 (.bin .mul (.var 3) (.call 20 (.cons (.var 1) (.cons (.var 2) (.cons (.cst (.int 4)) .nil)))))) ⟨[x0, some (.lst (row.map .int)), some .spot, some (.int s), x4, x5, x6, some (.int c), x8, some (.int (s * p)), x10, x11, x12, x13, x14, x15, x16], mu1, some (m + 1)⟩ =
      some (.nx ⟨[x0, some (.lst (row.map .int)), some .spot, some (.int s), x4, x5, x6, some (.int c), x8, some (.int (s * p)), some (.int (s * q)), x11, x12, x13, x14, x15, x16], mu', some (m + 1 + 1)⟩) := by
    simp only [evS, stE, evE, evEs, List.getElem?_cons_succ, List.getElem?_cons_zero, eq, boSem, mq, if_true, Option.map_some, noL, Sta.put, List.set_cons_succ, List.set_cons_zero]
    exact ⟨_, rfl⟩
  obtain ⟨mu2, s2⟩ := s2
  generalize hk : (some (m + 1 + 1) : Ky) = kk at *
  let A := seg (lo (s * p) s) (hi (s * p) s)
  let Bq := seg (lo (s * q) s) (hi (s * q) s)
  have s3 : ∃ mu', evS (run w ds (n + 10)) w (.new 11 (.comp1 elaw_4 (.name 6) (.rng (.cons (.cst (.int 0)) (.cons (.cst (.int 60)) .nil))) tlaw_5 [6])) ⟨[x0, some (.lst (row.map .int)), some .spot, some (.int s), x4, x5, x6, some (.int c), x8, some (.int (s * p)), some (.int (s * q)), x11, x12, x13, x14, x15, x16], mu2, kk⟩ =
      some (.nx ⟨[x0, some (.lst (row.map .int)), some .spot, some (.int s), x4, x5, x6, some (.int c), x8, some (.int (s * p)), some (.int (s * q)), some (.lst (A.map .int)), x12, x13, x14, x15, x16], mu', kk⟩) := by
    have hc := r_comp (w := w) (n := n + 6) (k := kk) s (s * p) hs1 hs2 x0 (some (.lst (row.map .int))) (some .spot) x4 x5 x6 (some (.int c)) x8 (some (.int (s * q))) x11 x12 x13 x14 x15 x16 4 60 (by omega) (.inl rfl) tlaw_5 rfl
    rw [F1] at hc
    have hc' : compD (fun ρ k => evE (run w ds (n + 10)) elaw_4 ρ k) (fun ρ k => evT (run w ds (n + 10)) tlaw_5 ρ k) (.name 6) (wipeR [x0, some (.lst (row.map .int)), some .spot, some (.int s), x4, x5, x6, some (.int c), x8, some (.int (s * p)), some (.int (s * q)), x11, x12, x13, x14, x15, x16] [6]) (rngL 0 1 60) kk = some (A.map .int, kk) := hc
    have hn := noLs_ints A
    simp only [evS, evE, evI, evEs, r60, Option.map_some, l60, if_true, hc', hn, Bool.true_and, List.length_cons, List.length_nil, List.set_cons_succ, List.set_cons_zero]
    exact ⟨_, rfl⟩
  obtain ⟨mu3, s3⟩ := s3
  have s4 : ∃ mu', evS (run w ds (n + 10)) w (.new 12 (.comp1 elaw_6 (.name 6) (.rng (.cons (.cst (.int 0)) (.cons (.cst (.int 60)) .nil))) tlaw_7 [6])) ⟨[x0, some (.lst (row.map .int)), some .spot, some (.int s), x4, x5, x6, some (.int c), x8, some (.int (s * p)), some (.int (s * q)), some (.lst (A.map .int)), x12, x13, x14, x15, x16], mu3, kk⟩ =
      some (.nx ⟨[x0, some (.lst (row.map .int)), some .spot, some (.int s), x4, x5, x6, some (.int c), x8, some (.int (s * p)), some (.int (s * q)), some (.lst (A.map .int)), some (.lst (Bq.map .int)), x13, x14, x15, x16], mu', kk⟩) := by
    have hc := r_comp2 (w := w) (n := n + 6) (k := kk) s (s * q) hs1 hs2 x0 (some (.lst (row.map .int))) (some .spot) x4 x5 x6 (some (.int c)) x8 (some (.int (s * p))) (some (.lst (A.map .int))) x12 x13 x14 x15 x16 60 (by omega) tlaw_7 rfl
    rw [F2] at hc
    have hc' : compD (fun ρ k => evE (run w ds (n + 10)) elaw_6 ρ k) (fun ρ k => evT (run w ds (n + 10)) tlaw_7 ρ k) (.name 6) (wipeR [x0, some (.lst (row.map .int)), some .spot, some (.int s), x4, x5, x6, some (.int c), x8, some (.int (s * p)), some (.int (s * q)), some (.lst (A.map .int)), x12, x13, x14, x15, x16] [6]) (rngL 0 1 60) kk = some (Bq.map .int, kk) := hc
    have hn := noLs_ints Bq
    simp only [evS, evE, evI, evEs, r60, Option.map_some, l60, if_true, hc', hn, Bool.true_and, List.length_cons, List.length_nil, List.set_cons_succ, List.set_cons_zero]
    exact ⟨_, rfl⟩
  obtain ⟨mu4, s4⟩ := s4
  have s5 : ∃ mu', evS (run w ds (n + 10)) w (.new 13 (.lst .nil)) ⟨[x0, some (.lst (row.map .int)), some .spot, some (.int s), x4, x5, x6, some (.int c), x8, some (.int (s * p)), some (.int (s * q)), some (.lst (A.map .int)), some (.lst (Bq.map .int)), x13, x14, x15, x16], mu4, kk⟩ =
      some (.nx ⟨[x0, some (.lst (row.map .int)), some .spot, some (.int s), x4, x5, x6, some (.int c), x8, some (.int (s * p)), some (.int (s * q)), some (.lst (A.map .int)), some (.lst (Bq.map .int)), some (.lst (([] : List Int).map .int)), x14, x15, x16], mu', kk⟩) := by
    have hl0 : lineOk 0 = true := rfl
    simp only [evS, evE, evEs, Option.bind_some, List.length_nil, hl0, if_true, noLs, Bool.true_and, List.length_cons, List.set_cons_succ, List.set_cons_zero, List.map_nil]
    exact ⟨_, rfl⟩
  obtain ⟨mu5, s5⟩ := s5
  have inA : ∀ a ∈ A, 0 ≤ a ∧ a ≤ 1000 := fun a ha => by have := mem_seg.mp ha; omega
  have inB : ∀ a ∈ Bq, 0 ≤ a ∧ a ≤ 1000 := fun a ha => by have := mem_seg.mp ha; omega
  have lenA : A.length ≤ 101 := by rw [seg_len]; omega
  have fit : hi (s * q) s - lo (s * q) s ≤ 30 := by
    unfold hi lo; split <;> omega
  have lenB : Bq.length ≤ 100 := by rw [seg_len]; omega
  have keep6 : ∃ mu', forD (.name 14) (fun s => evSs (run w ds (n + 10)) w blaw_9 s) (A.map .int) ⟨[x0, some (.lst (row.map .int)), some .spot, some (.int s), x4, x5, x6, some (.int c), x8, some (.int (s * p)), some (.int (s * q)), some (.lst (A.map .int)), some (.lst (Bq.map .int)), some (.lst (([] : List Int).map .int)), x14, x15, x16], mu5.filter fun i => avI [i] (.seq (.var 11)), kk⟩ = _ := ⟨_, rfl⟩
  obtain ⟨mu6, y14, y15, e6⟩ := wholes (w := w) (n := n + 6) (k := kk) A Bq inA inB lenB c h1 (by omega) x0 (some (.lst (row.map .int))) (some .spot) (some (.int s)) x4 x5 x6 x8 (some (.int (s * p))) (some (.int (s * q))) (some (.lst (A.map .int))) x16 A [] x14 x15 (mu5.filter fun i => avI [i] (.seq (.var 11))) (fun _ h => h) (by simp; omega)
  have s6 : evS (run w ds (n + 10)) w (.for (.name 14) (.seq (.var 11)) blaw_9) ⟨[x0, some (.lst (row.map .int)), some .spot, some (.int s), x4, x5, x6, some (.int c), x8, some (.int (s * p)), some (.int (s * q)), some (.lst (A.map .int)), some (.lst (Bq.map .int)), some (.lst (([] : List Int).map .int)), x14, x15, x16], mu5, kk⟩ =
      some (.nx ⟨[x0, some (.lst (row.map .int)), some .spot, some (.int s), x4, x5, x6, some (.int c), x8, some (.int (s * p)), some (.int (s * q)), some (.lst (A.map .int)), some (.lst (Bq.map .int)), some (.lst ((Wh A Bq c).map .int)), y14, y15, x16], mu6, kk⟩) := by
    simp only [evS, evI, evE, List.getElem?_cons_succ, List.getElem?_cons_zero, items, Option.map_some, Sta.keep]
    exact e6
  obtain ⟨st7, e7, y16, mu7, rfl⟩ := whole_loop (w := w) (n := n + 5) (k := kk) s p q c hs1 hs2 hp1 (by omega) hq1 (by omega) h1 h2 x0 (some (.lst (row.map .int))) (some .spot) x4 x5 x6 x8 (some (.lst (A.map .int))) (some (.lst (Bq.map .int))) y14 y15 x16 (mu6.filter fun i => avI [i] (.rng (.cons (.cst (.int 0)) (.cons (.bin .mul (.cst (.int 6)) (.var 7)) (.cons (.var 7) .nil)))))
  have s7 : evS (run w ds (n + 10)) w (.for (.name 16) (.rng (.cons (.cst (.int 0)) (.cons (.bin .mul (.cst (.int 6)) (.var 7)) (.cons (.var 7) .nil)))) blaw_10) ⟨[x0, some (.lst (row.map .int)), some .spot, some (.int s), x4, x5, x6, some (.int c), x8, some (.int (s * p)), some (.int (s * q)), some (.lst (A.map .int)), some (.lst (Bq.map .int)), some (.lst ((Wh A Bq c).map .int)), y14, y15, x16], mu6, kk⟩ =
      some (.nx ⟨[x0, some (.lst (row.map .int)), some .spot, some (.int s), x4, x5, x6, some (.int c), x8, some (.int (s * p)), some (.int (s * q)), some (.lst (A.map .int)), some (.lst (Bq.map .int)), some (.lst ((Wh A Bq c).map .int)), y14, y15, y16], mu7, kk⟩) := by
    simp only [evS, evI, evE, evEs, List.getElem?_cons_succ, List.getElem?_cons_zero, boSem, m6, if_true, r6, Option.map_some, Sta.keep]
    exact e7
  have hb := r_between (w := w) (n := n + 5) (k := kk) (s * p) (s * q) s a1 (by omega) b1 (by omega) hs1 (by omega) a3 b3
  have i1 : atI (A.map D.int) 0 = some (.int (lo (s * p) s)) := by rw [atI_map, seg_first a5]; rfl
  have i2 : atI (Bq.map D.int) 0 = some (.int (lo (s * q) s)) := by rw [atI_map, seg_first b5]; rfl
  have i3 : atI (A.map D.int) (((A.map D.int).length : Int) - 1) = some (.int (hi (s * p) s)) := by rw [List.length_map, atI_map, seg_last a5]; rfl
  have i4 : atI (Bq.map D.int) (((Bq.map D.int).length : Int) - 1) = some (.int (hi (s * q) s)) := by rw [List.length_map, atI_map, seg_last b5]; rfl
  have hso := so_pair (w := w) (n := n + 8) (k := kk) (ds := ds) (f := 17) rfl (lo (s * p) s + lo (s * q) s) (hi (s * p) s + hi (s * q) s)
  refine ⟨m + 1 + 1, some (.int (s * p)), some (.int (s * q)), some (.lst (A.map .int)), some (.lst (Bq.map .int)), some (.lst ((Wh A Bq c).map .int)), y14, y15, y16, mu7, by omega, ?_⟩
  have hl2 : lineOk 2 = true := rfl
  rw [hk]
  unfold blaw_11
  rw [seq_nx s1, seq_nx s2, seq_nx s3, seq_nx s4, seq_nx s5, seq_nx s6, seq_nx s7]
  simp only [evSs, evS, evT, evE, evEs, List.getElem?_cons_succ, List.getElem?_cons_zero, Option.bind_some, List.length_cons, List.length_nil, Nat.zero_add, Nat.reduceAdd, hl2, if_true, hb, idxSem, i1, i2, i3, i4, boSem, biSem, Option.map_some, hso, truth, Bool.not_true]
end
end K66
namespace K66
open PySem PySem.Spec PyProof.Rows L2 Mini
section
theorem cases12 {s : Int} (h : 1 ≤ s) (h' : s ≤ 12) : s = 1 ∨ s = 2 ∨ s = 3 ∨ s = 4 ∨ s = 5 ∨ s = 6 ∨ s = 7 ∨ s = 8 ∨ s = 9 ∨ s = 10 ∨ s = 11 ∨ s = 12 := by omega
variable {n : Nat} {k : Ky}
theorem F5 : ∀ s : Fin 13, ∀ j : Fin 5, 0 < s.val → F (6 * s.val + 1) s.val (s.val * j.val) = seg (lo (s.val * j.val) s.val) (hi (s.val * j.val) s.val) := by decide +kernel
theorem F5' (s : Int) (j : Nat) (h1 : 1 ≤ s) (h2 : s ≤ 12) (h3 : j < 5) : F (6 * s + 1).toNat s (s * j) = seg (lo (s * j) s) (hi (s * j) s) := by
  have := F5 ⟨s.toNat, by omega⟩ ⟨j, h3⟩ (by show 0 < s.toNat; omega)
  rw [show (6 * s + 1).toNat = 6 * s.toNat + 1 by omega]
  simpa [Int.toNat_of_nonneg (show 0 ≤ s by omega)] using this
theorem r_could (a s : Int) (h1 : 0 ≤ a) (h2 : a ≤ 1001000) (h3 : 1 ≤ s) (h4 : s ≤ 1000) (hm : a % s = 0) : run 100 ds (n + 4) 10 [.int a, .int s] k = some (.tup [.int (lo a s), .int (hi a s)], k) := by
  rw [run_eq (d := ⟨2, 2, bcould_be⟩) rfl rfl]
  simp [bcould_be, evSs, evS, evE, evEs, fin_rt, r_show a h1 h2, r_step s h3 h4, r_need, r_mult1 a s (by omega) hm, r_wf, lineOk]
theorem rng_five (c : Int) (h : 1 ≤ c) (h' : c ≤ 12) : rngSem [.int 0, .int (5 * c), .int c] = some (rngL 0 c 5) ∧ mulOk 5 c = true ∧ mulOk 6 c = true := by
  rcases cases12 h h' with rfl | rfl | rfl | rfl | rfl | rfl | rfl | rfl | rfl | rfl | rfl | rfl <;> exact ⟨by kernel_rfl, by kernel_rfl, by kernel_rfl⟩
theorem loop1 (x0 row : Option D) (m : Int) (s : Int) (h : 1 ≤ s) (h' : s ≤ 12) : ∃ x4 x5 x6 mu',
    evS (run 100 ds 20) 100 (.for (.name 4) (.rng (.cons (.cst (.int 0)) (.cons (.bin .mul (.cst (.int 5)) (.var 3)) (.cons (.var 3) .nil)))) blaw_2) ⟨[x0, row, some .spot, some (.int s), none, none, none, none, none, none, none, none, none, none, none, none, none], [], some m⟩ =
      some (.nx ⟨[x0, row, some .spot, some (.int s), x4, x5, x6, none, none, none, none, none, none, none, none, none, none], mu', some m⟩) := by
  obtain ⟨r5, m5, m6⟩ := rng_five s h h'
  have loop := forD_inv (tg := .name 4) (body := fun s => evSs (run 100 ds 20) 100 blaw_2 s)
    (I := fun _ st => ∃ x4 x5 x6 mu', st = ⟨[x0, row, some .spot, some (.int s), x4, x5, x6, none, none, none, none, none, none, none, none, none, none], mu', some m⟩)
    (J := fun st => ∃ x4 x5 x6 mu', st = ⟨[x0, row, some .spot, some (.int s), x4, x5, x6, none, none, none, none, none, none, none, none, none, none], mu', some m⟩)
    (rngL 0 s 5) 0 ⟨[x0, row, some .spot, some (.int s), none, none, none, none, none, none, none, none, none, none, none, none, none], [].filter fun i => avI [i] (.rng (.cons (.cst (.int 0)) (.cons (.bin .mul (.cst (.int 5)) (.var 3)) (.cons (.var 3) .nil)))), some m⟩
    (fun i d st hd hI => by
      obtain ⟨x4, x5, x6, mu', rfl⟩ := hI
      obtain ⟨hi', rfl⟩ := rngL_get hd
      have hv : (0 : Int) + (i : Int) * s = s * i := by rw [Int.mul_comm]; omega
      rw [hv]
      have hv0 : 0 ≤ s * (i : Int) := Int.mul_nonneg (by omega) (by omega)
      have hv1 : s * (i : Int) ≤ 12 * 5 := Int.mul_le_mul h' (by omega) (by omega) (by omega)
      have hv2 : (s * (i : Int)) % s = 0 := Int.mul_emod_right s i
      have hF := F5' s i h h' hi'
      have ab : lo (s * i) s ≤ hi (s * i) s := by unfold lo hi; split <;> omega
      let A := seg (lo (s * i) s) (hi (s * i) s)
      have rr : rngSem [.int 0, .int (6 * s + 1)] = some (rngL 0 1 (6 * s + 1).toNat) := by
        have q1 : rng62 0 = true := rfl
        have q2 : rng62 (6 * s + 1) = true := rng62_of (by omega) (by omega)
        simp only [rngSem, q1, q2, Bool.and_self, if_true, Int.sub_zero]
      have ll : lineOk (rngL 0 1 (6 * s + 1).toNat).length = true := lineOk_of (by simp [rngL]; omega)
      have hc : compD (fun ρ k => evE (run 100 ds 20) elaw_0 ρ k) (fun ρ k => evT (run 100 ds 20) tlaw_1 ρ k) (.name 6) (wipeR [x0, row, some .spot, some (.int s), some (.int (s * i)), x5, x6, none, none, none, none, none, none, none, none, none, none] [6]) (rngL 0 1 (6 * s + 1).toNat) (some m) = some (A.map .int, some m) := by
        rw [rngL_R, show A.map D.int = (F (6 * s + 1).toNat s (s * i)).map .int by rw [hF]]
        refine compD_int (fun x => [x0, row, some .spot, some (.int s), some (.int (s * i)), x5, some (.int x), none, none, none, none, none, none, none, none, none, none]) (fun a => decide (near a s = s * i)) (fun a => .int a) (R (6 * s + 1).toNat) (fun x hx => ?_)
        obtain ⟨h1, h2⟩ := mem_R hx
        have hs := r_shown (w := 100) (n := 16) (k := some m) x s (by omega) (by omega) h (by omega)
        refine ⟨rfl, ?_, fun _ => ?_⟩
        · simp [tlaw_1, evT, evE, evEs, hs, coSem, eqD, truth]
        · simp [elaw_0, evE]
      have s1 : ∃ mu2, evS (run 100 ds 20) 100 (.new 5 (.comp1 elaw_0 (.name 6) (.rng (.cons (.cst (.int 0)) (.cons (.bin .add (.bin .mul (.cst (.int 6)) (.var 3)) (.cst (.int 1))) .nil))) tlaw_1 [6])) ⟨[x0, row, some .spot, some (.int s), some (.int (s * i)), x5, x6, none, none, none, none, none, none, none, none, none, none], tgMu (.name 4) mu', some m⟩ =
          some (.nx ⟨[x0, row, some .spot, some (.int s), some (.int (s * i)), some (.lst (A.map .int)), x6, none, none, none, none, none, none, none, none, none, none], mu2, some m⟩) := by
        have hn := noLs_ints A
        simp only [evS, evE, evI, evEs, List.getElem?_cons_succ, List.getElem?_cons_zero, boSem, m6, Option.map_some, rr, ll, if_true, hc, hn, Bool.true_and, List.length_cons, List.length_nil, List.set_cons_succ, List.set_cons_zero]
        exact ⟨_, rfl⟩
      obtain ⟨mu2, s1⟩ := s1
      have i1 : atI (A.map D.int) 0 = some (.int (lo (s * i) s)) := by rw [atI_map, seg_first ab]; rfl
      have i3 : atI (A.map D.int) (((A.map D.int).length : Int) - 1) = some (.int (hi (s * i) s)) := by rw [List.length_map, atI_map, seg_last ab]; rfl
      have hlen : ((A.map D.int).length : Int) = hi (s * i) s - lo (s * i) s + 1 := by rw [List.length_map, seg_len]; omega
      have i3' : atI (A.map D.int) (hi (s * i) s - lo (s * i) s + 1 - 1) = some (.int (hi (s * i) s)) := by rw [← hlen]; exact i3
      have hcb := r_could (n := 16) (k := some m) (s * i) s hv0 (by omega) h (by omega) hv2
      have hso := so_pair (w := 100) (n := 18) (k := some m) (ds := ds) (f := 17) rfl (lo (s * i) s) (hi (s * i) s)
      have hl2 : lineOk 2 = true := rfl
      refine ⟨_, .nx ⟨[x0, row, some .spot, some (.int s), some (.int (s * i)), some (.lst (A.map .int)), x6, none, none, none, none, none, none, none, none, none, none], mu2, some m⟩, rfl, ?_, ⟨_, _, _, _, rfl⟩⟩
      show evSs (run 100 ds 20) 100 blaw_2 ⟨[x0, row, some .spot, some (.int s), some (.int (s * i)), x5, x6, none, none, none, none, none, none, none, none, none, none], tgMu (.name 4) mu', some m⟩ = _
      unfold blaw_2
      rw [seq_nx s1]
      simp only [evSs, evS, evT, evE, evEs, List.getElem?_cons_succ, List.getElem?_cons_zero, Option.bind_some, List.length_cons, List.length_nil, Nat.zero_add, Nat.reduceAdd, hl2, if_true, hcb, idxSem, i1, hlen, i3', boSem, biSem, Option.map_some, hso, truth, Bool.not_true, coSem, eqD, hlen, decide_true])
    (fun st hs => hs) ⟨_, _, _, _, rfl⟩
  obtain ⟨st, e, x4, x5, x6, mu', rfl⟩ := loop
  refine ⟨x4, x5, x6, mu', ?_⟩
  simp only [evS, evI, evE, evEs, List.getElem?_cons_succ, List.getElem?_cons_zero, boSem, m5, if_true, r5, Option.map_some, Sta.keep]
  exact e
theorem near_facts (x s : Int) (h : 1 ≤ s) (h' : s ≤ 12) : near x s % s = 0 ∧ ¬ ((if x - near x s > near x s - x then x - near x s else near x s - x) * 2 > s) ∧ ¬ 2 * (near x s - x) = -s := by
  have hm : near x s % s = 0 := Int.mul_emod_left _ _
  refine ⟨hm, ?_, ?_⟩
  · rcases cases12 h h' with rfl | rfl | rfl | rfl | rfl | rfl | rfl | rfl | rfl | rfl | rfl | rfl <;> (unfold near; split <;> omega)
  · rcases cases12 h h' with rfl | rfl | rfl | rfl | rfl | rfl | rfl | rfl | rfl | rfl | rfl | rfl <;> (unfold near; omega)
theorem loop2 (x0 row x4 x5 x6 : Option D) (m : Int) (mu : List Nat) (s : Int) (h : 1 ≤ s) (h' : s ≤ 12) : ∃ y4 y5 y6 mu',
    evS (run 100 ds 20) 100 (.for (.name 6) (.rng (.cons (.cst (.int 0)) (.cons (.cst (.int 40)) .nil))) blaw_3) ⟨[x0, row, some .spot, some (.int s), x4, x5, x6, none, none, none, none, none, none, none, none, none, none], mu, some m⟩ =
      some (.nx ⟨[x0, row, some .spot, some (.int s), y4, y5, y6, none, none, none, none, none, none, none, none, none, none], mu', some m⟩) := by
  have loop := forD_inv (tg := .name 6) (body := fun s => evSs (run 100 ds 20) 100 blaw_3 s)
    (I := fun _ st => ∃ x4 x5 x6 mu', st = ⟨[x0, row, some .spot, some (.int s), x4, x5, x6, none, none, none, none, none, none, none, none, none, none], mu', some m⟩)
    (J := fun st => ∃ x4 x5 x6 mu', st = ⟨[x0, row, some .spot, some (.int s), x4, x5, x6, none, none, none, none, none, none, none, none, none, none], mu', some m⟩)
    (rngL 0 1 40) 0 ⟨[x0, row, some .spot, some (.int s), x4, x5, x6, none, none, none, none, none, none, none, none, none, none], mu.filter fun i => avI [i] (.rng (.cons (.cst (.int 0)) (.cons (.cst (.int 40)) .nil))), some m⟩
    (fun i d st hd hI => by
      obtain ⟨x4, x5, x6, mu', rfl⟩ := hI
      obtain ⟨hi', rfl⟩ := rngL_get hd
      have hs := r_shown (w := 100) (n := 16) (k := some m) (0 + (i : Int) * 1) s (by omega) (by omega) h (by omega)
      generalize (0 + (i : Int) * 1) = x at *
      obtain ⟨f1, f2, f3⟩ := near_facts x s h h'
      have e1 : mulOk (if x - near x s > near x s - x then x - near x s else near x s - x) 2 = true := mulOk_r (by omega) (by omega)
      have e2 : mulOk 2 (near x s - x) = true := mulOk_l (by omega) (by omega)
      have hs0 : (0 : Int) < s := by omega
      have s1 : ∃ mu2, evS (run 100 ds 20) 100 (.set 4 (.call 9 (.cons (.var 6) (.cons (.var 3) .nil)))) ⟨[x0, row, some .spot, some (.int s), x4, x5, some (.int x), none, none, none, none, none, none, none, none, none, none], tgMu (.name 6) mu', some m⟩ =
          some (.nx ⟨[x0, row, some .spot, some (.int s), some (.int (near x s)), x5, some (.int x), none, none, none, none, none, none, none, none, none, none], mu2, some m⟩) := by
        simp only [evS, stE, evE, evEs, List.getElem?_cons_succ, List.getElem?_cons_zero, hs, noL, if_true, Sta.put, List.set_cons_succ, List.set_cons_zero]
        exact ⟨_, rfl⟩
      obtain ⟨mu2, s1⟩ := s1
      refine ⟨_, .nx ⟨[x0, row, some .spot, some (.int s), some (.int (near x s)), x5, some (.int x), none, none, none, none, none, none, none, none, none, none], mu2, some m⟩, rfl, ?_, ⟨_, _, _, _, rfl⟩⟩
      show evSs (run 100 ds 20) 100 blaw_3 ⟨[x0, row, some .spot, some (.int s), x4, x5, some (.int x), none, none, none, none, none, none, none, none, none, none], tgMu (.name 6) mu', some m⟩ = _
      unfold blaw_3
      rw [seq_nx s1]
      simp only [evSs, evS, evT, evE, evEs, List.getElem?_cons_succ, List.getElem?_cons_zero, boSem, biSem, Option.map_some, truth, coSem, eqD, e1, e2, if_true, decide_eq_true hs0, decide_eq_false f3, f1, decide_true, Bool.not_true]
      rw [decide_eq_false (show ¬ s < (if x - near x s > near x s - x then x - near x s else near x s - x) * 2 from f2)])
    (fun st hs => hs) ⟨_, _, _, _, rfl⟩
  obtain ⟨st, e, x4, x5, x6, mu', rfl⟩ := loop
  refine ⟨x4, x5, x6, mu', ?_⟩
  have r40 : rngSem [.int 0, .int 40] = some (rngL 0 1 40) := rfl
  simp only [evS, evI, evE, evEs, r40, Option.map_some, Sta.keep]
  exact e
theorem holds : ∀ ns : List Int, ns.length ≤ 63 → ∃ k, run 100 ds 21 21 [.scr (ns.map .int)] none = some (.bl true, k) := by
  intro ns _
  obtain ⟨row, hr, e1⟩ := numbers_ok (w := 100) (ds := ds) (n := 19) (k := none) (f := 18) rfl ns
  obtain ⟨v, e2, v1, v2⟩ := take_ok (w := 100) (ds := ds) (n := 18) (f := 20) (dr := 19) rfl rfl row hr 0 12 (by omega) (by omega)
  obtain ⟨u, e3, u1, u2⟩ := take_ok (w := 100) (ds := ds) (n := 18) (f := 20) (dr := 19) rfl rfl row hr 1 20 (by omega) (by omega)
  have s1 : evS (run 100 ds 20) 100 (.set 1 (.call 18 (.cons (.var 0) .nil))) ⟨[some (.scr (ns.map .int)), none, none, none, none, none, none, none, none, none, none, none, none, none, none, none, none], [], none⟩ =
      some (.nx ⟨[some (.scr (ns.map .int)), some (.lst (row.map .int)), none, none, none, none, none, none, none, none, none, none, none, none, none, none, none], [], none⟩) := by
    simp only [evS, stE, evE, evEs, List.getElem?_cons_succ, List.getElem?_cons_zero, e1, noL, Bool.false_eq_true, if_false, Sta.keep, List.filter_nil, Sta.put, List.set_cons_succ, List.set_cons_zero]
  have s2 : evS (run 100 ds 20) 100 (.spot 2) ⟨[some (.scr (ns.map .int)), some (.lst (row.map .int)), none, none, none, none, none, none, none, none, none, none, none, none, none, none, none], [], none⟩ =
      some (.nx ⟨[some (.scr (ns.map .int)), some (.lst (row.map .int)), some .spot, none, none, none, none, none, none, none, none, none, none, none, none, none, none], [], some 0⟩) := by
    simp only [evS, Sta.put, List.set_cons_succ, List.set_cons_zero, List.filter_nil]
  have s3 : evS (run 100 ds 20) 100 (.set 3 (.bin .add (.cst (.int 1)) (.call 20 (.cons (.var 1) (.cons (.var 2) (.cons (.cst (.int 12)) .nil)))))) ⟨[some (.scr (ns.map .int)), some (.lst (row.map .int)), some .spot, none, none, none, none, none, none, none, none, none, none, none, none, none, none], [], some 0⟩ =
      some (.nx ⟨[some (.scr (ns.map .int)), some (.lst (row.map .int)), some .spot, some (.int (1 + v)), none, none, none, none, none, none, none, none, none, none, none, none, none], [], some (0 + 1)⟩) := by
    simp only [evS, stE, evE, evEs, List.getElem?_cons_succ, List.getElem?_cons_zero, e2, boSem, Option.map_some, noL, if_true, Sta.put, List.set_cons_succ, List.set_cons_zero, List.filter_nil]
  obtain ⟨x4, x5, x6, mu4, s4⟩ := loop1 (some (.scr (ns.map .int))) (some (.lst (row.map .int))) (0 + 1) (1 + v) (by omega) (by omega)
  obtain ⟨y4, y5, y6, mu5, s5⟩ := loop2 (some (.scr (ns.map .int))) (some (.lst (row.map .int))) x4 x5 x6 (0 + 1) mu4 (1 + v) (by omega) (by omega)
  have s6 : ∃ mu', evS (run 100 ds 20) 100 (.set 7 (.bin .add (.cst (.int 1)) (.call 20 (.cons (.var 1) (.cons (.var 2) (.cons (.cst (.int 20)) .nil)))))) ⟨[some (.scr (ns.map .int)), some (.lst (row.map .int)), some .spot, some (.int (1 + v)), y4, y5, y6, none, none, none, none, none, none, none, none, none, none], mu5, some (0 + 1)⟩ =
      some (.nx ⟨[some (.scr (ns.map .int)), some (.lst (row.map .int)), some .spot, some (.int (1 + v)), y4, y5, y6, some (.int (1 + u)), none, none, none, none, none, none, none, none, none], mu', some (1 + 1)⟩) := by
    have e3' : run 100 ds (18 + 2) 20 [.lst (row.map .int), .spot, .int 20] (some (0 + 1)) = some (.int u, some (1 + 1)) := e3
    simp only [evS, stE, evE, evEs, List.getElem?_cons_succ, List.getElem?_cons_zero, e3', boSem, Option.map_some, noL, if_true, Sta.put, List.set_cons_succ, List.set_cons_zero]
    exact ⟨_, rfl⟩
  obtain ⟨mu6, s6⟩ := s6
  have loop := forD_inv (tg := .name 8) (body := fun s => evSs (run 100 ds 20) 100 blaw_11 s)
    (I := fun _ s => ∃ m' y8 y9 y10 y11 y12 y13 y14 y15 y16 mu', 0 ≤ m' ∧ s = ⟨[some (.scr (ns.map .int)), some (.lst (row.map .int)), some .spot, some (.int (1 + v)), y4, y5, y6, some (.int (1 + u)), y8, y9, y10, y11, y12, y13, y14, y15, y16], mu', some m'⟩)
    (J := fun s => ∃ m', s.k = some m') (rngL 0 1 3) 0 ⟨[some (.scr (ns.map .int)), some (.lst (row.map .int)), some .spot, some (.int (1 + v)), y4, y5, y6, some (.int (1 + u)), none, none, none, none, none, none, none, none, none], mu6.filter fun i => avI [i] (.rng (.cons (.cst (.int 3)) .nil)), some (1 + 1)⟩
    (fun i d s hd hI => by
      obtain ⟨m', y8, y9, y10, y11, y12, y13, y14, y15, y16, mu', hm', rfl⟩ := hI
      obtain ⟨hi', rfl⟩ := rngL_get hd
      obtain ⟨m2, z9, z10, z11, z12, z13, z14, z15, z16, mu2, hm2, e⟩ := turn (w := 100) (n := 10) row hr m' (1 + v) (1 + u) hm' (by omega) (by omega) (by omega) (by omega) (some (.scr (ns.map .int))) y4 y5 y6 (some (.int (0 + (i : Int) * 1))) y9 y10 y11 y12 y13 y14 y15 y16 (tgMu (.name 8) mu')
      exact ⟨_, _, rfl, e, ⟨m2, _, z9, z10, z11, z12, z13, z14, z15, z16, mu2, hm2, rfl⟩⟩)
    (fun s hs => by
      obtain ⟨m', y8, y9, y10, y11, y12, y13, y14, y15, y16, mu', hm', rfl⟩ := hs
      exact ⟨m', rfl⟩) ⟨1 + 1, _, _, _, _, _, _, _, _, _, _, by omega, rfl⟩
  obtain ⟨s7, e7, m7, hk7⟩ := loop
  have e8 : evS (run 100 ds 20) 100 (.for (.name 8) (.rng (.cons (.cst (.int 3)) .nil)) blaw_11) ⟨[some (.scr (ns.map .int)), some (.lst (row.map .int)), some .spot, some (.int (1 + v)), y4, y5, y6, some (.int (1 + u)), none, none, none, none, none, none, none, none, none], mu6, some (1 + 1)⟩ = some (.nx s7) := by
    have r3 : rngSem [.int 3] = some (rngL 0 1 3) := rfl
    simp only [evS, evI, evE, evEs, r3, Option.map_some, Sta.keep]
    exact e7
  have hb : evSs (run 100 ds 20) 100 blaw ⟨[some (.scr (ns.map .int)), none, none, none, none, none, none, none, none, none, none, none, none, none, none, none, none], [], none⟩ = some (.rt (.bl true) (some m7)) := by
    unfold blaw
    rw [seq_nx s1, seq_nx s2, seq_nx s3, seq_nx s4, seq_nx s5, seq_nx s6, seq_nx e8]
    simp only [evSs, evS, evE, hk7]
  refine ⟨none, ?_⟩
  rw [run_eq (d := ⟨1, 17, blaw⟩) rfl rfl]
  show fin none (evSs (run 100 ds 20) 100 blaw ⟨[some (.scr (ns.map .int)), none, none, none, none, none, none, none, none, none, none, none, none, none, none, none, none], [], none⟩) = _
  rw [hb]
  rfl
end
end K66
open PySem PySem.W PyProof.Rows
set_option maxHeartbeats 0 in
theorem PySem.Challenge.cw_cheesestead_k66_weights_one_by_one_holds : PySem.Challenge.rw_cheesestead_k66_weights_one_by_one.Holds := by
  w_on; o_law; k_head; (case hw => w_witness2)
  k_fill
  refine L2.walk_of (l := PySem.Challenge.rw_cheesestead_k66_weights_one_by_one) (n := 63) (k := 20 + 1) (x := "script") (CX := fun _ => L2.CX0) (sp := fun w => Mini.spLaw 100 K66.ds (20 + 1) 21 _) rfl (by decide) rfl ⟨rfl, by decide, by decide⟩ (fun w h Y => PySem.W.kIn_of Y) ?F (fun _ H a ns hl hO hS => Mini.law_end (m := 63) K66.holds _ H a ns hl hO hS) (fun _ _ _ _ _ h => h)
  case F =>
    intro w mg fa h KX G hmg
    refine' K66.all_mk KX G hmg ?a0 ?l0 ?c0 ?k0 ?a1 ?l1 ?c1 ?k1 ?a2 ?l2 ?c2 ?k2 ?a3 ?l3 ?c3 ?k3 ?a4 ?l4 ?c4 ?k4 ?a5 ?l5 ?c5 ?k5 ?a6 ?l6 ?c6 ?k6 ?a7 ?l7 ?c7 ?k7 ?a8 ?l8 ?c8 ?k8 ?a9 ?l9 ?c9 ?k9 ?a10 ?l10 ?c10 ?k10 ?a11 ?l11 ?c11 ?k11 ?a12 ?l12 ?c12 ?k12 ?a13 ?l13 ?c13 ?k13 ?a14 ?l14 ?c14 ?k14 ?a15 ?l15 ?c15 ?k15 ?a16 ?l16 ?c16 ?k16 ?a17 ?l17 ?c17 ?k17 ?a18 ?l18 ?c18 ?k18 ?a19 ?l19 ?c19 ?k19 ?a20 ?l20 ?c20 ?k20 ?a21 ?l21 ?c21 ?k21 ?v0 ?v1 ?v2 ?v3 ?v4 ?z0 ?z1 ?z2 ?z3 ?z4 ?z5 ?z6 ?z7 ?z8 ?z9 ?z10 ?z11 ?z12 ?z13 ?z14 ?z15 ?z16 ?z17 100 20
    (case a0 => k_is); (case l0 => k_is); (case c0 => k_is); (case k0 => k_is); (case a1 => k_is); (case l1 => k_is); (case c1 => k_is); (case k1 => k_is); (case a2 => k_is); (case l2 => k_is); (case c2 => k_is); (case k2 => k_is); (case a3 => k_is); (case l3 => k_is); (case c3 => k_is); (case k3 => k_is); (case a4 => k_is); (case l4 => k_is); (case c4 => k_is); (case k4 => k_is); (case a5 => k_is); (case l5 => k_is); (case c5 => k_is); (case k5 => k_is); (case a6 => k_is); (case l6 => k_is); (case c6 => k_is); (case k6 => k_is); (case a7 => k_is); (case l7 => k_is); (case c7 => k_is); (case k7 => k_is); (case a8 => k_is); (case l8 => k_is); (case c8 => k_is); (case k8 => k_is); (case a9 => k_is); (case l9 => k_is); (case c9 => k_is); (case k9 => k_is); (case a10 => k_is); (case l10 => k_is); (case c10 => k_is); (case k10 => k_is); (case a11 => k_is); (case l11 => k_is); (case c11 => k_is); (case k11 => k_is); (case a12 => k_is); (case l12 => k_is); (case c12 => k_is); (case k12 => k_is); (case a13 => k_is); (case l13 => k_is); (case c13 => k_is); (case k13 => k_is); (case a14 => k_is); (case l14 => k_is); (case c14 => k_is); (case k14 => k_is); (case a15 => k_is); (case l15 => k_is); (case c15 => k_is); (case k15 => k_is); (case a16 => k_is); (case l16 => k_is); (case c16 => k_is); (case k16 => k_is); (case a17 => k_is); (case l17 => k_is); (case c17 => k_is); (case k17 => k_is); (case a18 => k_is); (case l18 => k_is); (case c18 => k_is); (case k18 => k_is); (case a19 => k_is); (case l19 => k_is); (case c19 => k_is); (case k19 => k_is); (case a20 => k_is); (case l20 => k_is); (case c20 => k_is); (case k20 => k_is); (case a21 => k_is); (case l21 => k_is); (case c21 => k_is); (case k21 => k_is); (case v0 => k_is); (case v1 => k_is); (case v2 => k_is); (case v3 => k_is); (case v4 => k_is); (case z0 => k_is); (case z1 => k_is); (case z2 => k_is); (case z3 => k_is); (case z4 => k_is); (case z5 => k_is); (case z6 => k_is); (case z7 => k_is); (case z8 => k_is); (case z9 => k_is); (case z10 => k_is); (case z11 => k_is); (case z12 => k_is); (case z13 => k_is); (case z14 => k_is); (case z15 => k_is); (case z16 => k_is); (case z17 => k_is)
