import PyProof.Rows.All
import Wide.All
import OpenK.AllK
import Wide.FinOn
import HandS.ForMost
import HandS.IsInst
import HandS.Gcd
import HandS.Deep
import HandS.TupAny
import HandS.Zip
import HandS.Rev
import HandS.Wide
import KE.DataEq
import PySem.Challenge.RW_cheesestead_k60_moments_one_by_one
set_option Elab.async false
set_option linter.all false
set_option maxRecDepth 100000
set_option maxHeartbeats 4000000
namespace Mini
open PySem PySem.Spec PyProof.Rows L2

/-! ### data, and what bears them -/
inductive D where
  | non | bl (b : Bool) | int (i : Int) | str (s : Str) | tup (xs : List D) | lst (xs : List D) | scr (xs : List D) | spot
  deriving Inhabited

mutual
inductive Rep (K : PySem.W.Frag) (sp : Option Addr) (H : Hp) : V → D → Prop
  | non : Rep K sp H .non .non
  | bl (b : Bool) : Rep K sp H (.bl b) (.bl b)
  | int (i : Int) : Rep K sp H (.int i) (.int i)
  | str (x : Str) : Rep K sp H (.str x) (.str x)
  | tup {a : Addr} {xs : List V} {ds : List D} : SqT K H a xs → RepL K sp H xs ds → Rep K sp H (.ref a) (.tup ds)
  | lst {a : Addr} {xs : List V} {ds : List D} : H a = some (.lst xs) → RepL K sp H xs ds → Rep K sp H (.ref a) (.lst ds)
  | scr {a : Addr} {xs : List V} {ds : List D} : SqL K H a xs → RepL K sp H xs ds → Rep K sp H (.ref a) (.scr ds)
  | spot {a : Addr} : sp = some a → Rep K sp H (.ref a) .spot
inductive RepL (K : PySem.W.Frag) (sp : Option Addr) (H : Hp) : List V → List D → Prop
  | nil : RepL K sp H [] []
  | cons {v : V} {vs : List V} {d : D} {ds : List D} : Rep K sp H v d → RepL K sp H vs ds → RepL K sp H (v :: vs) (d :: ds)
end

def Ext (H H' : Hp) : Prop := ∀ a o, H a = some o → H' a = some o
theorem Ext.refl (H : Hp) : Ext H H := fun _ _ h => h
theorem Ext.trans {H H1 H2 : Hp} (a : Ext H H1) (b : Ext H1 H2) : Ext H H2 := fun x o h => b x o (a x o h)
theorem Ext.upd {H : Hp} {p : Addr} {o : HO} (h : H p = none) : Ext H (upd H p o) := fun a u e => by
  rw [upd_ne (ne_of_none e h)]; exact e
theorem ext_l {K : PySem.W.Frag} {H H' : Hp} {a : Addr} {xs : List V} (e : Ext H H') (h : SqL K H a xs) : SqL K H' a xs := by
  rcases h with (h | ⟨o, h⟩) | h
  · exact .inl (.inl (e _ _ h))
  · exact .inl (.inr ⟨o, e _ _ h⟩)
  · exact .inr h
theorem ext_t {K : PySem.W.Frag} {H H' : Hp} {a : Addr} {xs : List V} (e : Ext H H') (h : SqT K H a xs) : SqT K H' a xs := by
  rcases h with (h | ⟨o, h⟩) | h
  · exact .inl (.inl (e _ _ h))
  · exact .inl (.inr ⟨o, e _ _ h⟩)
  · exact .inr h
mutual
theorem Rep.ext {K : PySem.W.Frag} {sp : Option Addr} {H H' : Hp} (e : Ext H H') : ∀ (d : D) (v : V), Rep K sp H v d → Rep K sp H' v d
  | .non, _, h => by cases h; exact .non
  | .bl b, _, h => by cases h; exact .bl b
  | .int i, _, h => by cases h; exact .int i
  | .str x, _, h => by cases h; exact .str x
  | .tup ds, _, h => by
    cases h with
    | tup h1 h2 => exact .tup (ext_t e h1) (RepL.ext e ds _ h2)
  | .lst ds, _, h => by
    cases h with
    | lst h1 h2 => exact .lst (e _ _ h1) (RepL.ext e ds _ h2)
  | .scr ds, _, h => by
    cases h with
    | scr h1 h2 => exact .scr (ext_l e h1) (RepL.ext e ds _ h2)
  | .spot, _, h => by
    cases h with
    | spot h => exact .spot h
theorem RepL.ext {K : PySem.W.Frag} {sp : Option Addr} {H H' : Hp} (e : Ext H H') : ∀ (ds : List D) (vs : List V), RepL K sp H vs ds → RepL K sp H' vs ds
  | [], _, h => by cases h; exact .nil
  | d :: ds, _, h => by
    cases h with
    | cons h1 h2 => exact .cons (Rep.ext e d _ h1) (RepL.ext e ds _ h2)
end
section
variable {K : PySem.W.Frag} {sp : Option Addr} {H : Hp}
theorem RepL.len : ∀ {vs : List V} {ds : List D}, RepL K sp H vs ds → vs.length = ds.length
  | _, _, .nil => rfl
  | _, _, .cons _ t => congrArg (· + 1) (RepL.len t)
theorem RepL.get : ∀ {vs : List V} {ds : List D} {i : Nat} {d : D}, RepL K sp H vs ds → ds[i]? = some d → ∃ v, vs[i]? = some v ∧ Rep K sp H v d
  | _, _, _, _, .nil, e => by simp at e
  | _, _, 0, _, .cons r _, e => by simp at e; subst e; exact ⟨_, rfl, r⟩
  | _, _, i + 1, d, .cons _ t, e => by
    obtain ⟨v, h1, h2⟩ := RepL.get (i := i) (d := d) t (by simpa using e)
    exact ⟨v, by simpa using h1, h2⟩
theorem RepL.get' : ∀ {vs : List V} {ds : List D} {i : Nat} {v : V}, RepL K sp H vs ds → vs[i]? = some v → ∃ d, ds[i]? = some d ∧ Rep K sp H v d
  | _, _, _, _, .nil, e => by simp at e
  | _, _, 0, _, .cons r _, e => by simp at e; subst e; exact ⟨_, rfl, r⟩
  | _, _, i + 1, v, .cons _ t, e => by
    obtain ⟨d, h1, h2⟩ := RepL.get' (i := i) (v := v) t (by simpa using e)
    exact ⟨d, by simpa using h1, h2⟩
theorem RepL.append : ∀ {vs ws : List V} {ds es : List D}, RepL K sp H vs ds → RepL K sp H ws es → RepL K sp H (vs ++ ws) (ds ++ es)
  | _, _, _, _, .nil, s => s
  | _, _, _, _, .cons r t, s => .cons r (RepL.append t s)
theorem RepL.take : ∀ {vs : List V} {ds : List D} (n : Nat), RepL K sp H vs ds → RepL K sp H (vs.take n) (ds.take n)
  | _, _, 0, _ => .nil
  | _, _, _ + 1, .nil => .nil
  | _, _, n + 1, .cons r t => .cons r (RepL.take n t)
theorem RepL.drop : ∀ {vs : List V} {ds : List D} (n : Nat), RepL K sp H vs ds → RepL K sp H (vs.drop n) (ds.drop n)
  | _, _, 0, r => r
  | _, _, _ + 1, .nil => .nil
  | _, _, n + 1, .cons _ t => RepL.drop n t
theorem RepL.set : ∀ {vs : List V} {ds : List D} {v : V} {d : D} (i : Nat), Rep K sp H v d → RepL K sp H vs ds → RepL K sp H (vs.set i v) (ds.set i d)
  | _, _, _, _, _, _, .nil => .nil
  | _, _, _, _, 0, q, .cons _ t => .cons q t
  | _, _, _, _, i + 1, q, .cons r t => .cons r (RepL.set i q t)
theorem RepL.ints : ∀ {vs : List V} (ns : List Int), RepL K sp H vs (ns.map D.int) → vs = ns.map V.int
  | _, [], .nil => rfl
  | _, n :: ns, .cons r t => by cases r; rw [RepL.ints ns t]; rfl
theorem repl_ints : ∀ (ns : List Int), RepL K sp H (ns.map V.int) (ns.map D.int)
  | [] => .nil
  | n :: ns => .cons (.int n) (repl_ints ns)
end

/-! ### worlds: B the part that stands for good, H all; sp: where the counter's list stands -/
structure Wd (sp : Option Addr) (B H : Hp) : Prop where
  sub : Ext B H
  spn : ∀ a, sp = some a → B a = none
structure Ge (sp : Option Addr) (B H B' H' : Hp) : Prop where
  hh : ∀ a o, sp ≠ some a → H a = some o → H' a = some o
  bb : Ext B B'
  wd : Wd sp B' H'
  old : ∀ a o, H a = some o → B a = none → B' a = none
theorem Ge.refl {sp : Option Addr} {B H : Hp} (w : Wd sp B H) : Ge sp B H B H := ⟨fun _ _ _ h => h, Ext.refl _, w, fun _ _ _ h => h⟩
theorem Ge.trans {sp : Option Addr} {B H B1 H1 B2 H2 : Hp} (a : Ge sp B H B1 H1) (b : Ge sp B1 H1 B2 H2) : Ge sp B H B2 H2 := by
  refine ⟨fun x o n h => b.hh x o n (a.hh x o n h), a.bb.trans b.bb, b.wd, fun x o h n => ?_⟩
  by_cases e : sp = some x
  · exact b.wd.spn x e
  · exact b.old x o (a.hh x o e h) (a.old x o h n)
def SpotAt (sp : Option Addr) (k : Option Int) (H : Hp) : Prop :=
  match sp, k with
  | none, none => True
  | some a, some i => H a = some (.lst [.int i])
  | _, _ => False
theorem SpotAt.ne {sp : Option Addr} {k : Option Int} {H : Hp} {p : Addr} (h : SpotAt sp k H) (hp : H p = none) : sp ≠ some p := by
  intro e
  subst e
  cases k with
  | none => exact h
  | some i =>
    have h' : H p = some (.lst [.int i]) := h
    rw [hp] at h'; cases h'
/-- a new object -/
theorem Ge.new {sp : Option Addr} {k : Option Int} {B H : Hp} {p : Addr} {o : HO} (w : Wd sp B H) (s : SpotAt sp k H) (hp : H p = none) : Ge sp B H (upd B p o) (upd H p o) := by
  have ns := s.ne hp
  have hb : B p = none := by
    cases e : B p with
    | none => rfl
    | some u => have := w.sub p u e; rw [hp] at this; cases this
  refine ⟨fun a u _ h => by rw [upd_ne (ne_of_none h hp)]; exact h, Ext.upd hb, ⟨fun a u h => ?_, fun a e => ?_⟩, fun a u h n => ?_⟩
  · by_cases ha : a = p
    · subst ha; rw [upd_same] at h ⊢; exact h
    · rw [upd_ne ha] at h ⊢; exact w.sub a u h
  · rw [upd_ne (fun q => ns (by rw [← q]; exact e))]; exact w.spn a e
  · rw [upd_ne (ne_of_none h hp)]; exact n
/-- a new object that stays outside of B -/
theorem Ge.newOut {sp : Option Addr} {k : Option Int} {B H : Hp} {p : Addr} {o : HO} (w : Wd sp B H) (s : SpotAt sp k H) (hp : H p = none) : Ge sp B H B (upd H p o) := by
  refine ⟨fun a u _ h => by rw [upd_ne (ne_of_none h hp)]; exact h, Ext.refl _, ⟨fun a u h => ?_, w.spn⟩, fun a u h n => n⟩
  rw [upd_ne (ne_of_none (w.sub a u h) hp)]; exact w.sub a u h
theorem SpotAt.ge {sp : Option Addr} {k : Option Int} {H : Hp} {p : Addr} {o : HO} (s : SpotAt sp k H) (hp : H p = none) : SpotAt sp k (upd H p o) := by
  have ns := s.ne hp
  cases sp with
  | none => cases k <;> exact s
  | some a =>
    cases k with
    | none => exact s
    | some i =>
      show upd H p o a = _
      rw [upd_ne (fun e => ns (by rw [e]))]
      exact s

/-! ### the slots -/
abbrev Rho := List (Option D)
/-- the slots that are not in mu hold what ρ says, over B -/
def RI (K : PySem.W.Frag) (sp : Option Addr) (B : Hp) (mu : List Nat) (ρ : Rho) (σ : L2.St) : Prop :=
  σ.length = ρ.length ∧ ∀ i d, i ∉ mu → ρ[i]? = some (some d) → ∃ v, σ[i]? = some (some v) ∧ Rep K sp B v d
theorem RI.ext {K : PySem.W.Frag} {sp : Option Addr} {B B' : Hp} {mu : List Nat} {ρ : Rho} {σ : L2.St} (h : RI K sp B mu ρ σ) (e : Ext B B') : RI K sp B' mu ρ σ :=
  ⟨h.1, fun i d n q => let ⟨v, h1, h2⟩ := h.2 i d n q; ⟨v, h1, Rep.ext e d v h2⟩⟩

/-- an expression's reading: it gives d, and the counter k becomes k' -/
def tD (K : PySem.W.Frag) (ρ : Rho) (mu : List Nat) (k : Option Int) (d : D) (k' : Option Int) : TE := fun σ H Q =>
  ∃ sp B, Wd sp B H ∧ SpotAt sp k H ∧ RI K sp B mu ρ σ ∧ ∀ v B' H', Ge sp B H B' H' → SpotAt sp k' H' → Rep K sp B' v d → Q v H'
def tDs (K : PySem.W.Frag) (ρ : Rho) (mu : List Nat) (k : Option Int) (ds : List D) (k' : Option Int) : TA := fun σ H Q =>
  ∃ sp B, Wd sp B H ∧ SpotAt sp k H ∧ RI K sp B mu ρ σ ∧ ∀ vs B' H', Ge sp B H B' H' → SpotAt sp k' H' → RepL K sp B' vs ds → Q vs H'
def tDT (K : PySem.W.Frag) (ρ : Rho) (mu : List Nat) (k : Option Int) (b : Bool) (k' : Option Int) : TT := fun σ H Q =>
  ∃ sp B, Wd sp B H ∧ SpotAt sp k H ∧ RI K sp B mu ρ σ ∧ ∀ B' H', Ge sp B H B' H' → SpotAt sp k' H' → Q b H'
section
variable {X : Cx} {e : Expr}
theorem _root_.L2.PE.wk {t t' : TE} (h : PE X e t) (w : ∀ σ H Q, t' σ H Q → t σ H Q) : PE X e t' := ⟨fun pins s σ H Q I hw => h.run pins s σ H Q I (w _ _ _ hw)⟩
theorem _root_.L2.PT.wk {t t' : TT} (h : PT X e t) (w : ∀ σ H Q, t' σ H Q → t σ H Q) : PT X e t' := ⟨fun pins s σ H Q I hw => h.run pins s σ H Q I (w _ _ _ hw)⟩
theorem _root_.L2.PW.wk {t t' : TT} (h : PW X e t) (w : ∀ σ H Q, t' σ H Q → t σ H Q) : PW X e t' := ⟨fun wh pins s σ H Q I hw => h.run wh pins s σ H Q I (w _ _ _ hw)⟩
theorem _root_.L2.PA.wk {es : List Expr} {t t' : TA} (h : PA X es t) (w : ∀ σ H Q, t' σ H Q → t σ H Q) : PA X es t' := ⟨fun po pins s σ H Q I hw => h.run po pins s σ H Q I (w _ _ _ hw)⟩
end

/-! ### == of data -/
mutual
def D.py : D → PyData
  | .non => .none
  | .bl b => .bool b
  | .int i => .int i
  | .str s => .str s
  | .tup xs => .tuple (D.pys xs)
  | .lst xs => .list (D.pys xs)
  | .scr _ => .none
  | .spot => .none
def D.pys : List D → List PyData
  | [] => []
  | x :: xs => x.py :: D.pys xs
end
mutual
/-- the depth; nothing deeper than the fuel, no counter within -/
def D.fine : Nat → D → Bool
  | _, .non => true
  | _, .bl _ => true
  | _, .int _ => true
  | _, .str _ => true
  | 0, .tup _ => false
  | n + 1, .tup xs => D.fines n xs
  | 0, .lst _ => false
  | n + 1, .lst xs => D.fines n xs
  | _, .scr _ => false
  | _, .spot => false
def D.fines : Nat → List D → Bool
  | _, [] => true
  | n, x :: xs => D.fine n x && D.fines n xs
end
mutual
theorem fine_dp {K : PySem.W.Frag} {sp : Option Addr} {H : Hp} : ∀ (n : Nat) (d : D) (v : V), d.fine n = true → Rep K sp H v d → Dp K H v d.py
  | _, .non, _, _, h => by cases h; exact .non
  | _, .bl b, _, _, h => by cases h; exact .bl b
  | _, .int b, _, _, h => by cases h; exact .int b
  | _, .str b, _, _, h => by cases h; exact .str b
  | 0, .tup _, _, f, _ => by simp [D.fine] at f
  | n + 1, .tup ds, _, f, h => by
    cases h with
    | tup h1 h2 => exact .tup h1 (fines_dp n ds _ (by simpa [D.fine] using f) h2)
  | 0, .lst _, _, f, _ => by simp [D.fine] at f
  | n + 1, .lst ds, _, f, h => by
    cases h with
    | lst h1 h2 => exact .lst (.inl (.inl h1)) (fines_dp n ds _ (by simpa [D.fine] using f) h2)
  | _, .scr _, _, f, _ => by simp [D.fine] at f
  | _, .spot, _, f, _ => by simp [D.fine] at f
theorem fines_dp {K : PySem.W.Frag} {sp : Option Addr} {H : Hp} : ∀ (n : Nat) (ds : List D) (vs : List V), D.fines n ds = true → RepL K sp H vs ds → DpAll K H vs (D.pys ds)
  | _, [], _, _, h => by cases h; exact .nil
  | n, d :: ds, _, f, h => by
    cases h with
    | cons h1 h2 =>
      simp only [D.fines, Bool.and_eq_true] at f
      exact .cons (fine_dp n d _ f.1 h1) (fines_dp n ds _ f.2 h2)
end
mutual
theorem fine_plain : ∀ (n : Nat) (d : D), d.fine n = true → d.py.plain = true ∧ d.py.depth ≤ n
  | _, .non, _ => ⟨rfl, Nat.zero_le _⟩
  | _, .bl _, _ => ⟨rfl, Nat.zero_le _⟩
  | _, .int _, _ => ⟨rfl, Nat.zero_le _⟩
  | _, .str _, _ => ⟨rfl, Nat.zero_le _⟩
  | 0, .tup _, f => by simp [D.fine] at f
  | n + 1, .tup ds, f => by
    have h := fines_plain n ds (by simpa [D.fine] using f)
    exact ⟨by simpa [D.py, PyData.plain] using h.1, by simp only [D.py, PyData.depth]; omega⟩
  | 0, .lst _, f => by simp [D.fine] at f
  | n + 1, .lst ds, f => by
    have h := fines_plain n ds (by simpa [D.fine] using f)
    exact ⟨by simpa [D.py, PyData.plain] using h.1, by simp only [D.py, PyData.depth]; omega⟩
  | _, .scr _, f => by simp [D.fine] at f
  | _, .spot, f => by simp [D.fine] at f
theorem fines_plain : ∀ (n : Nat) (ds : List D), D.fines n ds = true → PyData.plainAll (D.pys ds) = true ∧ PyData.depthAll (D.pys ds) ≤ n
  | _, [], _ => ⟨rfl, Nat.zero_le _⟩
  | n, d :: ds, f => by
    simp only [D.fines, Bool.and_eq_true] at f
    have h1 := fine_plain n d f.1
    have h2 := fines_plain n ds f.2
    exact ⟨by simp only [D.pys, PyData.plainAll, h1.1, h2.1, Bool.and_self], by simp only [D.pys, PyData.depthAll]; omega⟩
end
def rEqP (K : PySem.W.Frag) : R2 := fun x y H Q => ∃ d e, Dp K H x d ∧ Dp K H y e ∧ d.plain = true ∧ e.plain = true ∧ d.depth ≤ 64 ∧ Q (.bl (PyData.eqv d e)) H
def rNeP (K : PySem.W.Frag) : R2 := fun x y H Q => ∃ d e, Dp K H x d ∧ Dp K H y e ∧ d.plain = true ∧ e.plain = true ∧ d.depth ≤ 64 ∧ Q (.bl (!PyData.eqv d e)) H
theorem op_eqP {X : Cx} (hu : X.A.units + 64 < cLine) : OpR X (compareOp .Eq) (rEqP X.K) := by
  intro pins s σ H x y v u Q I rx ry h
  obtain ⟨d, e, hd, he, sd, se, dp, q⟩ := h
  obtain ⟨as, r1⟩ := Dp.reads I d x v hd rx
  obtain ⟨bs, r2⟩ := Dp.reads I e y u he ry
  exact SeqAt.eq_plain r1 r2 sd se (by omega) ⟨.bl _, H, I, rfl, q⟩
theorem op_neP {X : Cx} (hu : X.A.units + 64 < cLine) : OpR X (compareOp .NotEq) (rNeP X.K) := by
  intro pins s σ H x y v u Q I rx ry h
  obtain ⟨d, e, hd, he, sd, se, dp, q⟩ := h
  obtain ⟨as, r1⟩ := Dp.reads I d x v hd rx
  obtain ⟨bs, r2⟩ := Dp.reads I e y u he ry
  exact SeqAt.ne_plain r1 r2 sd se (by omega) ⟨.bl _, H, I, rfl, q⟩
end Mini
namespace Mini
open PySem PySem.Spec PyProof.Rows L2

/-! ### the small language -/
inductive BO where | add | sub | mul | fdiv | mod | pow
inductive CO where | eq | ne | lt | le | gt | ge | isin | notin
inductive BI where | len | int | sum | max | min | abs | all | any | tuple | list | gcd | sorted
mutual
inductive Tg where
  | name (i : Nat) | tup (ts : Tgs)
inductive Tgs where
  | nil | cons (t : Tg) (ts : Tgs)
end
mutual
inductive E where
  | var (i : Nat) | cst (d : D) | bin (op : BO) (a b : E) | neg (a : E)
  | cmp (op : CO) (a b : E) | chain (op op' : CO) (a b c : E)
  | isN (a : E) | notN (a : E)
  | and (a b : E) | or (a b : E) | not (a : E) | ite (t : T) (a b : E)
  | tup (es : Es) | lst (es : Es)
  | idx (a b : E) | sli (m : Nat) (a lo hi : E)
  | call (f : Nat) (es : Es) | bi (f : BI) (es : Es) | isi (a : E) (ts : List Nat)
  | comp0 (elt : E) (tg : Tg) (it : I) (own : List Nat)
  | comp1 (elt : E) (tg : Tg) (it : I) (t : T) (own : List Nat)
inductive T where
  | val (e : E) | not (t : T) | and (a b : T) | or (a b : T) | ite (c a b : T)
inductive Es where
  | nil | cons (e : E) (es : Es)
inductive I where
  | seq (e : E) | rng (es : Es) | enum (e : E) | zip (a b : E) | rev (e : E)
end
mutual
inductive S where
  | set (i : Nat) (e : E) | new (i : Nat) (e : E) | spot (i : Nat) | par (i j : Nat) (a b : E) | asg (t : Tg) (e : E)
  | aug (i : Nat) (op : BO) (e : E) | setI (i : Nat) (ix e : E)
  | app (i : Nat) (e : E) | pop (i : Nat)
  | ret (e : E) | retN | ite (t : T) (a b : Ss) | for (tg : Tg) (it : I) (body : Ss) | while (t : T) (body : Ss)
  | expr (e : E) | brk | cnt | pass | never
inductive Ss where
  | nil | cons (s : S) (ss : Ss)
end

/-! ### what it means -/
def small64 (i : Int) : Bool := decide (-18446744073709551616 < i) && decide (i < 18446744073709551616)
def mulOk (i j : Int) : Bool := small64 i || small64 j || decide (i.natAbs.log2 + j.natAbs.log2 < 1000000)
def divOk (j : Int) : Bool := decide (0 < j) && (small64 j || decide (j.natAbs.log2 < 9000))
def lineOk (n : Nat) : Bool := decide (n ≤ 16777216)
def boSem : BO → D → D → Option D
  | .add, .int i, .int j => some (.int (i + j))
  | .add, .str a, .str b => if lineOk (a.length + b.length) then some (.str (a ++ b)) else none
  | .add, .lst a, .lst b => if lineOk (a.length + b.length) then some (.lst (a ++ b)) else none
  | .add, .tup a, .tup b => if lineOk (a.length + b.length) then some (.tup (a ++ b)) else none
  | .sub, .int i, .int j => some (.int (i - j))
  | .mul, .int i, .int j => if mulOk i j then some (.int (i * j)) else none
  | .fdiv, .int i, .int j => if divOk j then some (.int (i / j)) else none
  | .mod, .int i, .int j => if decide (0 < j) then some (.int (i % j)) else none
  | .pow, .int i, .int j => if decide (0 ≤ j) && decide (j ≤ 1000) && small64 i then some (.int (i ^ j.toNat)) else none
  | _, _, _ => none
def eqD (x y : D) : Option Bool :=
  match x, y with
  | .int i, .int j => some (decide (i = j))
  | .str a, .str b => some (decide (a = b))
  | .bl a, .bl b => some (decide (a = b))
  | .non, .non => some true
  | a, b => if a.fine 60 && b.fine 60 then some (PyData.eqv a.py b.py) else none
def anyEq (x : D) : List D → Option Bool
  | [] => some false
  | y :: ys => match eqD y x with
    | some true => (anyEq x ys).map fun _ => true
    | some false => anyEq x ys
    | none => none
def coSem : CO → D → D → Option Bool
  | .eq, x, y => eqD x y
  | .ne, x, y => (eqD x y).map (!·)
  | .lt, .int i, .int j => some (decide (i < j))
  | .le, .int i, .int j => some (decide (i ≤ j))
  | .gt, .int i, .int j => some (decide (j < i))
  | .ge, .int i, .int j => some (decide (j ≤ i))
  | .isin, x, .lst ys => if x.fine 60 then anyEq x ys else none
  | .isin, x, .tup ys => if x.fine 60 then anyEq x ys else none
  | .notin, x, .lst ys => if x.fine 60 then (anyEq x ys).map (!·) else none
  | .notin, x, .tup ys => if x.fine 60 then (anyEq x ys).map (!·) else none
  | _, _, _ => none
def truth : D → Option Bool
  | .non => some false
  | .bl b => some b
  | .int i => some (i != 0)
  | .lst ds => some (!ds.isEmpty)
  | .tup ds => some (!ds.isEmpty)
  | .str s => if lineOk s.length then some ((s.length : Int) != 0) else none
  | .scr _ => none
  | .spot => none
def toInt : D → Option Int
  | .int i => some i
  | _ => none
def toInts : List D → Option (List Int)
  | [] => some []
  | .int i :: r => (toInts r).map (i :: ·)
  | _ :: _ => none
def toBls : List D → Option (List Bool)
  | [] => some []
  | .bl i :: r => (toBls r).map (i :: ·)
  | _ :: _ => none
def maxL : Int → List Int → Int
  | m, [] => m
  | m, x :: r => maxL (if m < x then x else m) r
def minL : Int → List Int → Int
  | m, [] => m
  | m, x :: r => minL (if x < m then x else m) r
def insI (x : Int) : List Int → List Int
  | [] => [x]
  | y :: r => if x ≤ y then x :: y :: r else y :: insI x r
def sortI : List Int → List Int
  | [] => []
  | x :: r => insI x (sortI r)
def biSem : BI → List D → Option D
  | .len, [.lst ds] => some (.int ds.length)
  | .len, [.tup ds] => some (.int ds.length)
  | .len, [.scr ds] => some (.int ds.length)
  | .len, [.str s] => if lineOk s.length then some (.int s.length) else none
  | .int, [.int i] => some (.int i)
  | .int, [.bl b] => some (.int (if b then 1 else 0))
  | .sum, [.lst ds] => (toInts ds).map fun ns => .int ns.sum
  | .max, [.int i, .int j] => some (.int (if j > i then j else i))
  | .max, [.lst ds] => match toInts ds with
    | some (n :: ns) => some (.int (maxL n ns))
    | _ => none
  | .min, [.int i, .int j] => some (.int (if j < i then j else i))
  | .min, [.lst ds] => match toInts ds with
    | some (n :: ns) => some (.int (minL n ns))
    | _ => none
  | .abs, [.int i] => some (.int (if i < 0 then -i else i))
  | .all, [.lst ds] => (toBls ds).map fun bs => .bl (bs.all id)
  | .any, [.lst ds] => (toBls ds).map fun bs => .bl (bs.any id)
  | .tuple, [.lst ds] => some (.tup ds)
  | .tuple, [.tup ds] => some (.tup ds)
  | .list, [.lst ds] => some (.lst ds)
  | .list, [.tup ds] => some (.lst ds)
  | .gcd, [.int i, .int j] => some (.int ((Nat.gcd i.natAbs j.natAbs : Nat) : Int))
  | .sorted, [.lst ds] => match toInts ds with
    | some ns => if decide (ns.length < 64) then some (.lst ((sortI ns).map .int)) else none
    | none => none
  | _, _ => none
/-- isinstance: 0 int, 1 bool, 2 str, 3 list, 4 tuple -/
def isOf : D → Nat → Option Bool
  | .int _, t => some (t == 0)
  | .bl _, t => some (t == 0 || t == 1)
  | .str _, t => some (t == 2)
  | .lst _, t => some (t == 3)
  | .tup _, t => some (t == 4)
  | .non, t => some false
  | .scr _, _ => none
  | .spot, _ => none
def isOfs (d : D) : List Nat → Option Bool
  | [] => some false
  | t :: ts => match isOf d t with
    | some true => some true
    | some false => isOfs d ts
    | none => none
mutual
def asg : Tg → D → Rho → Option Rho
  | .name i, d, ρ => some (ρ.set i (some d))
  | .tup ts, .tup ds, ρ => asgs ts ds ρ
  | .tup _, _, _ => none
def asgs : Tgs → List D → Rho → Option Rho
  | .nil, [], ρ => some ρ
  | .cons t ts, d :: ds, ρ => (asg t d ρ).bind (asgs ts ds)
  | _, _, _ => none
end
def wipeR (ρ : Rho) : List Nat → Rho
  | [] => ρ
  | v :: vs => (wipeR ρ vs).set v none
abbrev Ky := Option Int
abbrev Call := Nat → List D → Ky → Option (D × Ky)
def rngL (a c : Int) (n : Nat) : List D := (List.range n).map fun (t : Nat) => D.int (a + (t : Int) * c)
def rng62 (i : Int) : Bool := decide (-4611686018427387904 ≤ i) && decide (i < 4611686018427387904)
def rngSem : List D → Option (List D)
  | [.int j] => if rng62 j then some (rngL 0 1 j.toNat) else none
  | [.int i, .int j] => if rng62 i && rng62 j then some (rngL i 1 (j - i).toNat) else none
  | [.int i, .int j, .int c] => if decide (c ≠ 0) && decide (c.natAbs < 1073741824) && Builtin.Range.small i j c && decide (0 ≤ Builtin.Range.rangeSize i j c) then some (rngL i c (Builtin.Range.rangeSize i j c).toNat) else none
  | _ => none
def items : D → Option (List D)
  | .lst ds => some ds
  | .tup ds => some ds
  | .scr ds => some ds
  | .str s => some (s.cps.toList.map fun c => D.str ⟨#[c]⟩)
  | _ => none
def enumL : Nat → List D → List D
  | _, [] => []
  | i, d :: ds => .tup [.int i, d] :: enumL (i + 1) ds
def zipL : List D → List D → List D
  | a :: as, b :: bs => .tup [a, b] :: zipL as bs
  | _, _ => []
/-- a comprehension over its items -/
def compD (f : Rho → Ky → Option (D × Ky)) (g : Rho → Ky → Option (Bool × Ky)) (tg : Tg) (ρ : Rho) : List D → Ky → Option (List D × Ky)
  | [], k => some ([], k)
  | x :: xs, k =>
    match asg tg x ρ with
    | none => none
    | some ρ1 => match g ρ1 k with
      | none => none
      | some (false, k1) => compD f g tg ρ xs k1
      | some (true, k1) => match f ρ1 k1 with
        | none => none
        | some (y, k2) => match compD f g tg ρ xs k2 with
          | none => none
          | some (ys, k3) => some (y :: ys, k3)
def cutD (xs : List D) (lo hi : Option Int) : List D := (xs.drop (HT.sIx xs.length 0 lo)).take (HT.sIx xs.length xs.length hi - HT.sIx xs.length 0 lo)
def sliSem (a : D) (lo hi : Option Int) : Option D :=
  match a with
  | .lst ds => some (.lst (cutD ds lo hi))
  | .scr ds => some (.lst (cutD ds lo hi))
  | .tup ds => some (.tup (cutD ds lo hi))
  | _ => none
def idxSem (k : Ky) : D → D → Option D
  | .lst ds, .int i => atI ds i
  | .scr ds, .int i => atI ds i
  | .tup ds, .int i => atI ds i
  | .str s, .int i => if lineOk s.length then (atI s.cps.toList i).map fun c => .str ⟨#[c]⟩ else none
  | .spot, .int 0 => k.map .int
  | _, _ => none
mutual
def evE (c : Call) : E → Rho → Ky → Option (D × Ky)
  | .var i, ρ, k => match ρ[i]? with
    | some (some d) => some (d, k)
    | _ => none
  | .cst d, _, k => some (d, k)
  | .bin op a b, ρ, k => match evE c a ρ k with
    | none => none
    | some (x, k1) => match evE c b ρ k1 with
      | none => none
      | some (y, k2) => (boSem op x y).map (·, k2)
  | .neg a, ρ, k => match evE c a ρ k with
    | some (.int i, k1) => some (.int (-i), k1)
    | _ => none
  | .cmp op a b, ρ, k => match evE c a ρ k with
    | none => none
    | some (x, k1) => match evE c b ρ k1 with
      | none => none
      | some (y, k2) => (coSem op x y).map (.bl ·, k2)
  | .chain op op' a b e, ρ, k => match evE c a ρ k with
    | none => none
    | some (x, k1) => match evE c b ρ k1 with
      | none => none
      | some (y, k2) => match coSem op x y with
        | none => none
        | some false => some (.bl false, k2)
        | some true => match evE c e ρ k2 with
          | none => none
          | some (z, k3) => (coSem op' y z).map (.bl ·, k3)
  | .isN a, ρ, k => match evE c a ρ k with
    | some (.non, k1) => some (.bl true, k1)
    | some (_, k1) => some (.bl false, k1)
    | none => none
  | .notN a, ρ, k => match evE c a ρ k with
    | some (.non, k1) => some (.bl false, k1)
    | some (_, k1) => some (.bl true, k1)
    | none => none
  | .and a b, ρ, k => match evE c a ρ k with
    | some (.bl true, k1) => evE c b ρ k1
    | some (.bl false, k1) => some (.bl false, k1)
    | _ => none
  | .or a b, ρ, k => match evE c a ρ k with
    | some (.bl false, k1) => evE c b ρ k1
    | some (.bl true, k1) => some (.bl true, k1)
    | _ => none
  | .not a, ρ, k => match evE c a ρ k with
    | some (.bl b, k1) => some (.bl (!b), k1)
    | _ => none
  | .ite t a b, ρ, k => match evT c t ρ k with
    | none => none
    | some (true, k1) => evE c a ρ k1
    | some (false, k1) => evE c b ρ k1
  | .tup es, ρ, k => (evEs c es ρ k).bind fun (ds, k1) => if lineOk ds.length then some (.tup ds, k1) else none
  | .lst es, ρ, k => (evEs c es ρ k).bind fun (ds, k1) => if lineOk ds.length then some (.lst ds, k1) else none
  | .idx a b, ρ, k => match evE c a ρ k with
    | none => none
    | some (x, k1) => match evE c b ρ k1 with
      | none => none
      | some (y, k2) => (idxSem k2 x y).map (·, k2)
  | .sli m a lo hi, ρ, k => match evE c a ρ k with
    | none => none
    | some (x, k1) =>
      match (if m == 1 || m == 3 then (match evE c lo ρ k1 with
        | some (.int i, k2) => some (some i, k2)
        | _ => none) else some (none, k1) : Option (Option Int × Ky)) with
      | none => none
      | some (l, k2) =>
        match (if m == 2 || m == 3 then (match evE c hi ρ k2 with
          | some (.int i, k3) => some (some i, k3)
          | _ => none) else some (none, k2) : Option (Option Int × Ky)) with
        | none => none
        | some (h, k3) => (sliSem x l h).map (·, k3)
  | .call f es, ρ, k => match evEs c es ρ k with
    | none => none
    | some (ds, k1) => c f ds k1
  | .bi f es, ρ, k => match evEs c es ρ k with
    | none => none
    | some (ds, k1) => (biSem f ds).map (·, k1)
  | .isi a ts, ρ, k => match evE c a ρ k with
    | none => none
    | some (x, k1) => (isOfs x ts).map (.bl ·, k1)
  | .comp0 elt tg it own, ρ, k => match evI c it ρ k with
    | none => none
    | some (ds, k1) => if lineOk ds.length then
        match compD (fun ρ k => evE c elt ρ k) (fun _ k => some (true, k)) tg (wipeR ρ own) ds k1 with
        | none => none
        | some (ys, k2) => some (.lst ys, k2)
      else none
  | .comp1 elt tg it t own, ρ, k => match evI c it ρ k with
    | none => none
    | some (ds, k1) => if lineOk ds.length then
        match compD (fun ρ k => evE c elt ρ k) (fun ρ k => evT c t ρ k) tg (wipeR ρ own) ds k1 with
        | none => none
        | some (ys, k2) => some (.lst ys, k2)
      else none
def evT (c : Call) : T → Rho → Ky → Option (Bool × Ky)
  | .val e, ρ, k => match evE c e ρ k with
    | none => none
    | some (x, k1) => (truth x).map (·, k1)
  | .not t, ρ, k => match evT c t ρ k with
    | none => none
    | some (b, k1) => some (!b, k1)
  | .and a b, ρ, k => match evT c a ρ k with
    | none => none
    | some (true, k1) => evT c b ρ k1
    | some (false, k1) => some (false, k1)
  | .or a b, ρ, k => match evT c a ρ k with
    | none => none
    | some (true, k1) => some (true, k1)
    | some (false, k1) => evT c b ρ k1
  | .ite t a b, ρ, k => match evT c t ρ k with
    | none => none
    | some (true, k1) => evT c a ρ k1
    | some (false, k1) => evT c b ρ k1
def evEs (c : Call) : Es → Rho → Ky → Option (List D × Ky)
  | .nil, _, k => some ([], k)
  | .cons e es, ρ, k => match evE c e ρ k with
    | none => none
    | some (x, k1) => match evEs c es ρ k1 with
      | none => none
      | some (xs, k2) => some (x :: xs, k2)
def evI (c : Call) : I → Rho → Ky → Option (List D × Ky)
  | .seq e, ρ, k => match evE c e ρ k with
    | none => none
    | some (x, k1) => (items x).map (·, k1)
  | .rng es, ρ, k => match evEs c es ρ k with
    | none => none
    | some (ds, k1) => (rngSem ds).map (·, k1)
  | .enum e, ρ, k => match evE c e ρ k with
    | some (.lst ds, k1) => some (enumL 0 ds, k1)
    | _ => none
  | .zip a b, ρ, k => match evE c a ρ k with
    | none => none
    | some (x, k1) => match evE c b ρ k1 with
      | none => none
      | some (y, k2) => match x, y with
        | .lst xs, .lst ys => some (zipL xs ys, k2)
        | .tup xs, .tup ys => some (zipL xs ys, k2)
        | _, _ => none
  | .rev e, ρ, k => match evE c e ρ k with
    | some (.lst ds, k1) => some (ds.reverse, k1)
    | some (.tup ds, k1) => some (ds.reverse, k1)
    | _ => none
end

/-! ### which slots an expression names -/
mutual
def avTg (mu : List Nat) : Tg → Bool
  | .name i => true
  | .tup ts => avTgs mu ts
def avTgs (mu : List Nat) : Tgs → Bool
  | .nil => true
  | .cons t ts => avTg mu t && avTgs mu ts
end
mutual
def avE (mu : List Nat) : E → Bool
  | .var i => !mu.contains i
  | .cst _ => true
  | .bin _ a b => avE mu a && avE mu b
  | .neg a => avE mu a
  | .cmp _ a b => avE mu a && avE mu b
  | .chain _ _ a b c => avE mu a && avE mu b && avE mu c
  | .isN a => avE mu a
  | .notN a => avE mu a
  | .and a b => avE mu a && avE mu b
  | .or a b => avE mu a && avE mu b
  | .not a => avE mu a
  | .ite t a b => avT mu t && avE mu a && avE mu b
  | .tup es => avEs mu es
  | .lst es => avEs mu es
  | .idx a b => avE mu a && avE mu b
  | .sli _ a b c => avE mu a && avE mu b && avE mu c
  | .call _ es => avEs mu es
  | .bi _ es => avEs mu es
  | .isi a _ => avE mu a
  | .comp0 a _ it _ => avE mu a && avI mu it
  | .comp1 a _ it t _ => avE mu a && avI mu it && avT mu t
def avT (mu : List Nat) : T → Bool
  | .val e => avE mu e
  | .not t => avT mu t
  | .and a b => avT mu a && avT mu b
  | .or a b => avT mu a && avT mu b
  | .ite a b c => avT mu a && avT mu b && avT mu c
def avEs (mu : List Nat) : Es → Bool
  | .nil => true
  | .cons e es => avE mu e && avEs mu es
def avI (mu : List Nat) : I → Bool
  | .seq e => avE mu e
  | .rng es => avEs mu es
  | .enum e => avE mu e
  | .zip a b => avE mu a && avE mu b
  | .rev e => avE mu e
end

/-! ### statements -/
mutual
/-- no list within -/
def noL : D → Bool
  | .non => true | .bl _ => true | .int _ => true | .str _ => true | .spot => true
  | .tup xs => noLs xs
  | .lst _ => false
  | .scr _ => false
def noLs : List D → Bool
  | [] => true
  | x :: xs => noL x && noLs xs
end
structure Sta where
  ρ : Rho
  mu : List Nat
  k : Ky
inductive O where
  | nx (s : Sta) | rt (d : D) (k : Ky) | bk (s : Sta) | ct (s : Sta)
/-- the mutable slots that e does not name stay so -/
def Sta.keep (s : Sta) (f : List Nat → Bool) (k : Ky) : Sta := { s with mu := s.mu.filter fun i => f [i], k := k }
def Sta.put (s : Sta) (i : Nat) (d : D) : Sta := { ρ := s.ρ.set i (some d), mu := s.mu.filter (· != i), k := s.k }
mutual
def tgMu : Tg → List Nat → List Nat
  | .name i, mu => mu.filter (· != i)
  | .tup ts, mu => tgsMu ts mu
def tgsMu : Tgs → List Nat → List Nat
  | .nil, mu => mu
  | .cons t ts, mu => tgsMu ts (tgMu t mu)
end
def stE (c : Call) (e : E) (s : Sta) : Option (D × Sta) :=
  match evE c e s.ρ s.k with
  | none => none
  | some (d, k) => some (d, if noL d then { s with k := k } else s.keep (fun m => avE m e) k)
def whileD (t : Sta → Option (Bool × Ky)) (body : Sta → Option O) : Nat → Sta → Option O
  | 0, _ => none
  | n + 1, s => match t s with
    | none => none
    | some (false, k) => some (.nx { s with k := k })
    | some (true, k) => match body { s with k := k } with
      | none => none
      | some (.nx s') => whileD t body n s'
      | some (.ct s') => whileD t body n s'
      | some (.bk s') => some (.nx s')
      | some (.rt d k) => some (.rt d k)
def forD (tg : Tg) (body : Sta → Option O) : List D → Sta → Option O
  | [], s => some (.nx s)
  | d :: ds, s => match asg tg d s.ρ with
    | none => none
    | some ρ => match body { ρ := ρ, mu := tgMu tg s.mu, k := s.k } with
      | none => none
      | some (.nx s') => forD tg body ds s'
      | some (.ct s') => forD tg body ds s'
      | some (.bk s') => some (.nx s')
      | some (.rt d k) => some (.rt d k)
def augSem : BO → D → D → Option D
  | .add, .int i, .int j => some (.int (i + j))
  | .sub, .int i, .int j => some (.int (i - j))
  | .mul, .int i, .int j => if small64 i || small64 j then some (.int (i * j)) else none
  | .add, .str a, .str b => if lineOk (a.length + b.length) then some (.str (a ++ b)) else none
  | _, _, _ => none
mutual
def evS (c : Call) (w : Nat) : S → Sta → Option O
  | .set i e, s => match stE c e s with
    | none => none
    | some (d, s1) => some (.nx (s1.put i d))
  | .new i e, s => match evE c e s.ρ s.k with
    | some (.lst ds, k) => if noLs ds && decide (i < s.ρ.length) then some (.nx { ρ := s.ρ.set i (some (.lst ds)), mu := i :: s.mu.filter (· != i), k := k })
      else some (.nx ((s.keep (fun m => avE m e) k).put i (.lst ds)))
    | _ => none
  | .spot i, s => match s.k with
    | none => some (.nx { (s.put i .spot) with k := some 0 })
    | some _ => none
  | .par i j a b, s => match evE c a s.ρ s.k with
    | none => none
    | some (x, k1) => match evE c b s.ρ k1 with
      | none => none
      | some (y, k2) => if noL x && noL y then some (.nx (({ s with k := k2 }.put i x).put j y)) else none
  | .asg t e, s => match stE c e s with
    | none => none
    | some (d, s1) => (asg t d s1.ρ).map fun ρ => .nx { ρ := ρ, mu := tgMu t s1.mu, k := s1.k }
  | .aug i op e, s => match s.ρ[i]? with
    | some (some x) => match evE c e s.ρ s.k with
      | none => none
      | some (y, k) => (augSem op x y).map fun z => .nx ({ s with k := k }.put i z)
    | _ => none
  | .setI i ix e, s => match evE c e s.ρ s.k with
    | none => none
    | some (d, k1) => match evE c ix s.ρ k1 with
      | some (.int j, k2) => match s.ρ[i]?, d with
        | some (some .spot), .int m => if decide (j = 0) && k2.isSome then some (.nx { ρ := s.ρ, mu := s.mu, k := some m }) else none
        | some (some (.lst ds)), _ => if s.mu.contains i && noL d then (ixN ds.length j).map fun j => .nx { s with ρ := s.ρ.set i (some (.lst (ds.set j d))), k := k2 } else none
        | _, _ => none
      | _ => none
  | .app i e, s => match s.ρ[i]? with
    | some (some (.lst ds)) => match evE c e s.ρ s.k with
      | none => none
      | some (d, k) => if s.mu.contains i && noL d && decide (ds.length < 16777216) then some (.nx { s with ρ := s.ρ.set i (some (.lst (ds ++ [d]))), k := k }) else none
    | _ => none
  | .pop i, s => match s.ρ[i]? with
    | some (some (.lst ds)) => if s.mu.contains i && !ds.isEmpty then some (.nx { s with ρ := s.ρ.set i (some (.lst ds.dropLast)) }) else none
    | _ => none
  | .ret e, s => match evE c e s.ρ s.k with
    | none => none
    | some (d, k) => some (.rt d k)
  | .retN, s => some (.rt .non s.k)
  | .ite t a b, s => match evT c t s.ρ s.k with
    | none => none
    | some (true, k) => evSs c w a { s with k := k }
    | some (false, k) => evSs c w b { s with k := k }
  | .for tg it body, s => match evI c it s.ρ s.k with
    | none => none
    | some (ds, k) => forD tg (fun s => evSs c w body s) ds (s.keep (fun m => avI m it) k)
  | .while t body, s => whileD (fun s => evT c t s.ρ s.k) (fun s => evSs c w body s) w s
  | .expr e, s => match evE c e s.ρ s.k with
    | none => none
    | some (_, k) => some (.nx { s with k := k })
  | .brk, s => some (.bk s)
  | .cnt, s => some (.ct s)
  | .pass, s => some (.nx s)
  | .never, _ => none
def evSs (c : Call) (w : Nat) : Ss → Sta → Option O
  | .nil, s => some (.nx s)
  | .cons a b, s => match evS c w a s with
    | some (.nx s') => evSs c w b s'
    | o => o
end
/-- a def: its parameters' number, its slots' number, its body -/
structure Def where
  ps : Nat
  ns : Nat
  body : Ss
/-- a call's end: a counter that was made within is forgotten -/
def endK : Ky → D → Ky → Option (D × Ky)
  | none, .bl b, some _ => some (.bl b, none)
  | none, _, some _ => none
  | _, d, k => some (d, k)
def run (w : Nat) (ds : List Def) : Nat → Call
  | 0, _, _, _ => none
  | n + 1, f, as, k => match ds[f]? with
    | none => none
    | some d => if as.length == d.ps then
        match evSs (run w ds n) w d.body { ρ := as.map some ++ List.replicate (d.ns - d.ps) none, mu := [], k := k } with
        | some (.nx s) => endK k .non s.k
        | some (.rt x k') => endK k x k'
        | _ => none
      else none
end Mini
namespace Mini
open PySem PySem.Spec PyProof.Rows L2

/-! ### from the text to the small language -/
structure CT where
  /-- the defs by name -/
  fns : List (Str × Nat)
  /-- the module's constants -/
  consts : List (Str × D)
  /-- the name of math.gcd -/
  gcd : List Str
def ix (N : List Str) (x : Str) : Option Nat := N.findIdx? (· == x)
def isVis (sc : Scope) (x : Str) : Bool := match sc.names.lookup x with
  | some .local => true | some .cell => true | some .free => true | _ => false
def isLoc (sc : Scope) (x : Str) : Bool := match sc.names.lookup x with
  | some .local => true | some .cell => true | _ => false
def isGl (sc : Scope) (x : Str) : Bool := match sc.names.lookup x with
  | some .globalImplicit => true | _ => false
def okName (x : Str) : Bool := !(x == ("__debug__" : Str)) && !(x == ("__classdict__" : Str)) && !(x == ("__name__" : Str))
def slot (sc : Scope) (N : List Str) (x : Str) : Option Nat := if isVis sc x && okName x then ix N x else none
def slotL (sc : Scope) (N : List Str) (x : Str) : Option Nat := if isLoc sc x && okName x then ix N x else none
def glob (sc : Scope) (x : Str) : Bool := isGl sc x && okName x
def cBO : Operator → Option BO
  | .Add => some .add | .Sub => some .sub | .Mult => some .mul | .FloorDiv => some .fdiv | .Mod => some .mod | .Pow => some .pow
  | _ => none
def cCO : CmpOp → Option CO
  | .Eq => some .eq | .NotEq => some .ne | .Lt => some .lt | .LtE => some .le | .Gt => some .gt | .GtE => some .ge | .In => some .isin | .NotIn => some .notin
  | _ => none
def cTy (sc : Scope) : Expr → Option Nat
  | .Name x _ => if glob sc x then
      if x == ("int" : Str) then some 0 else if x == ("bool" : Str) then some 1 else if x == ("str" : Str) then some 2 else if x == ("list" : Str) then some 3 else if x == ("tuple" : Str) then some 4 else none
    else none
  | _ => none
def cBI (x : Str) : Option BI :=
  if x == ("len" : Str) then some .len else if x == ("int" : Str) then some .int else if x == ("sum" : Str) then some .sum else if x == ("max" : Str) then some .max
  else if x == ("min" : Str) then some .min else if x == ("abs" : Str) then some .abs else if x == ("all" : Str) then some .all else if x == ("any" : Str) then some .any
  else if x == ("tuple" : Str) then some .tuple else if x == ("list" : Str) then some .list else if x == ("sorted" : Str) then some .sorted else none
def mapO {α β : Type} (f : α → Option β) : List α → Option (List β)
  | [] => some []
  | x :: xs => match f x with
    | none => none
    | some y => match mapO f xs with
      | none => none
      | some ys => some (y :: ys)
def toEs : List E → Es
  | [] => .nil
  | e :: es => .cons e (toEs es)
def cTg (sc : Scope) (N : List Str) : Nat → Expr → Option Tg
  | 0, _ => none
  | n + 1, e => match e with
    | .Name x _ => (slotL sc N x).map .name
    | .Tuple es _ _ => (mapO (cTg sc N n) es).map fun ts => .tup (ts.foldr Tgs.cons .nil)
    | _ => none
mutual
def tgSlots : Tg → List Nat
  | .name i => [i]
  | .tup ts => tgsSlots ts
def tgsSlots : Tgs → List Nat
  | .nil => []
  | .cons t ts => tgSlots t ++ tgsSlots ts
end
/-- a comprehension's target: its own names alone -/
def cTgIn (sc : Scope) (N : List Str) (own : List Nat) (e : Expr) : Option Tg :=
  match cTg sc N 8 e with
  | none => none
  | some t => if (tgSlots t).all fun i => own.contains i then some t else none
def ownOf (N : List Str) (names : List (Str × NameKind)) : List (Str × Nat) :=
  names.filterMap fun y => match y.2 with
    | .local => (ix N y.1).map (y.1, ·)
    | .cell => (ix N y.1).map (y.1, ·)
    | _ => none
def isTupE : Expr → Bool
  | .Tuple _ _ _ => true
  | _ => false
mutual
def cE (Γ : CT) : Nat → Scope → List Str → Expr → Option E
  | 0, _, _, _ => none
  | n + 1, sc, N, e => match e with
    | .Name x _ => if glob sc x then (Γ.consts.lookup x).map .cst else (slot sc N x).map .var
    | .Constant c _ _ => match c with
      | .int i => some (.cst (.int i))
      | .bool b => some (.cst (.bl b))
      | .none => some (.cst .non)
      | .str s => some (.cst (.str s))
      | _ => none
    | .BinOp a op b _ => match cBO op, cE Γ n sc N a, cE Γ n sc N b with
      | some o, some x, some y => some (.bin o x y)
      | _, _, _ => none
    | .UnaryOp op a _ => match op, cE Γ n sc N a with
      | .USub, some x => some (.neg x)
      | .Not, some x => some (.not x)
      | _, _ => none
    | .Compare a ops bs _ => match ops, bs with
      | [op], [b] => match op with
        | .Is => match b with
          | .Constant .none _ _ => (cE Γ n sc N a).map .isN
          | _ => none
        | .IsNot => match b with
          | .Constant .none _ _ => (cE Γ n sc N a).map .notN
          | _ => none
        | _ => match cCO op, cE Γ n sc N a, cE Γ n sc N b with
          | some o, some x, some y => some (.cmp o x y)
          | _, _, _ => none
      | [op, op'], [b, c] => match cCO op, cCO op', cE Γ n sc N a, cE Γ n sc N b, cE Γ n sc N c with
        | some o, some o', some x, some y, some z => some (.chain o o' x y z)
        | _, _, _, _, _ => none
      | _, _ => none
    | .BoolOp op vs _ => match vs with
      | [a, b] => match op, cE Γ n sc N a, cE Γ n sc N b with
        | .And, some x, some y => some (.and x y)
        | .Or, some x, some y => some (.or x y)
        | _, _, _ => none
      | [a, b, c] => match op, cE Γ n sc N a, cE Γ n sc N b, cE Γ n sc N c with
        | .And, some x, some y, some z => some (.and x (.and y z))
        | .Or, some x, some y, some z => some (.or x (.or y z))
        | _, _, _, _ => none
      | [a, b, c, d] => match op, cE Γ n sc N a, cE Γ n sc N b, cE Γ n sc N c, cE Γ n sc N d with
        | .And, some x, some y, some z, some u => some (.and x (.and y (.and z u)))
        | .Or, some x, some y, some z, some u => some (.or x (.or y (.or z u)))
        | _, _, _, _, _ => none
      | _ => none
    | .IfExp t a b _ => match cT Γ n sc N t, cE Γ n sc N a, cE Γ n sc N b with
      | some x, some y, some z => some (.ite x y z)
      | _, _, _ => none
    | .Tuple es _ _ => (mapO (cE Γ n sc N) es).map fun xs => .tup (toEs xs)
    | .List es _ => (mapO (cE Γ n sc N) es).map fun xs => .lst (toEs xs)
    | .Subscript a i _ => match i with
      | .Slice lo hi st _ => match st, cE Γ n sc N a with
        | none, some x => match lo, hi with
          | none, none => some (.sli 0 x (.cst .non) (.cst .non))
          | some l, none => (cE Γ n sc N l).map fun l => .sli 1 x l (.cst .non)
          | none, some h => (cE Γ n sc N h).map fun h => .sli 2 x (.cst .non) h
          | some l, some h => match cE Γ n sc N l, cE Γ n sc N h with
            | some l, some h => some (.sli 3 x l h)
            | _, _ => none
        | _, _ => none
      | _ => match cE Γ n sc N a, cE Γ n sc N i with
        | some x, some y => some (.idx x y)
        | _, _ => none
    | .Call f args kw _ => match f, kw with
      | .Name x _, [] => if glob sc x then
          match Γ.fns.lookup x with
          | some i => (mapO (cE Γ n sc N) args).map fun xs => .call i (toEs xs)
          | none => if x == ("isinstance" : Str) then
              match args with
              | [a, t] => match cE Γ n sc N a with
                | none => none
                | some y => match t with
                  | .Tuple ts _ _ => if 0 < ts.length ∧ ts.length ≤ 8 then (mapO (cTy sc) ts).map fun us => .isi y us else none
                  | .Name z pz => (cTy sc (.Name z pz)).map fun u => .isi y [u]
                  | _ => none
              | _ => none
            else if Γ.gcd.contains x then
              match args with
              | [_, _] => (mapO (cE Γ n sc N) args).map fun xs => .bi .gcd (toEs xs)
              | _ => none
            else match cBI x, args with
              | some b, _ :: _ => (mapO (cE Γ n sc N) args).map fun xs => .bi b (toEs xs)
              | _, _ => none
        else none
      | _, _ => none
    | .ListComp elt gens scope _ => match gens with
      | [⟨tg, it, ifs, asy⟩] =>
        if asy == 0 && blkC N sc scope (ownOf N scope.names) then
          match cTgIn scope N ((ownOf N scope.names).map (·.2)) tg, cI Γ n sc N tg it, cE Γ n (relS scope sc) N elt with
          | some t, some i, some x => match ifs with
            | [] => some (.comp0 x t i ((ownOf N scope.names).map (·.2)))
            | [q] => (cT Γ n (relS scope sc) N q).map fun q => .comp1 x t i q ((ownOf N scope.names).map (·.2))
            | _ => none
          | _, _, _ => none
        else none
      | _ => none
    | _ => none
def cT (Γ : CT) : Nat → Scope → List Str → Expr → Option T
  | 0, _, _, _ => none
  | n + 1, sc, N, e => match e with
    | .UnaryOp .Not a _ => (cT Γ n sc N a).map .not
    | .BoolOp op vs _ => match vs with
      | [a, b] => match op, cT Γ n sc N a, cT Γ n sc N b with
        | .And, some x, some y => some (.and x y)
        | .Or, some x, some y => some (.or x y)
        | _, _, _ => none
      | [a, b, c] => match op, cT Γ n sc N a, cT Γ n sc N b, cT Γ n sc N c with
        | .And, some x, some y, some z => some (.and x (.and y z))
        | .Or, some x, some y, some z => some (.or x (.or y z))
        | _, _, _, _ => none
      | [a, b, c, d] => match op, cT Γ n sc N a, cT Γ n sc N b, cT Γ n sc N c, cT Γ n sc N d with
        | .And, some x, some y, some z, some u => some (.and x (.and y (.and z u)))
        | .Or, some x, some y, some z, some u => some (.or x (.or y (.or z u)))
        | _, _, _, _, _ => none
      | _ => none
    | .IfExp _ _ _ _ => none
    | _ => (cE Γ n sc N e).map .val
def cI (Γ : CT) : Nat → Scope → List Str → Expr → Expr → Option I
  | 0, _, _, _, _ => none
  | n + 1, sc, N, tg, e => match e with
    | .Call (.Name x px) args kw po =>
      if x == ("range" : Str) then
        if glob sc x && kw.isEmpty then match args with
          | [_] => (mapO (cE Γ n sc N) args).map fun xs => .rng (toEs xs)
          | [_, _] => (mapO (cE Γ n sc N) args).map fun xs => .rng (toEs xs)
          | [_, _, _] => (mapO (cE Γ n sc N) args).map fun xs => .rng (toEs xs)
          | _ => none
        else none
      else if x == ("enumerate" : Str) then
        if glob sc x && kw.isEmpty && isTupE tg then match args with
          | [a] => (cE Γ n sc N a).map .enum
          | _ => none
        else none
      else if x == ("zip" : Str) then
        if glob sc x && kw.isEmpty && isTupE tg then match args with
          | [a, b] => match cE Γ n sc N a, cE Γ n sc N b with
            | some x, some y => some (.zip x y)
            | _, _ => none
          | _ => none
        else none
      else if x == ("reversed" : Str) then
        if glob sc x && kw.isEmpty then match args with
          | [a] => (cE Γ n sc N a).map .rev
          | _ => none
        else none
      else (cE Γ n sc N (.Call (.Name x px) args kw po)).map .seq
    | _ => (cE Γ n sc N e).map .seq
end
/-- a new flat list -/
def freshShape : Expr → Bool
  | .List _ _ => true
  | .ListComp _ _ _ _ => true
  | .Call (.Name x _) _ _ _ => x == ("list" : Str) || x == ("sorted" : Str)
  | _ => false
def toSs : List S → Ss
  | [] => .nil
  | s :: ss => .cons s (toSs ss)
def isComp : Expr → Bool
  | .ListComp _ _ _ _ => true
  | _ => false
def swOk (sc : Scope) (tx : Str) (py : Pos) (value : Expr) : Bool := match value with
  | .ListComp _ _ s pos => sc.kind == .function && sc.names.lookup tx == some .local && py.line == pos.line && !(s.names.any fun (n, k) => n == tx && (k == .local || k == .cell))
  | _ => false
def parOk (sc : Scope) (x y : Str) (px py : Pos) (a b : Expr) : Bool :=
  sc.kind == .function && sc.names.lookup x == some .local && sc.names.lookup y == some .local && px.line == py.line && !(x == y) && !(foldedForSure 8 a && foldedForSure 8 b) && !(constantsAlone 8 a && constantsAlone 8 b)
def isSpotE : Expr → Bool
  | .List [.Constant (.int 0) _ _] _ => true
  | _ => false
def cS (Γ : CT) (sc : Scope) (N : List Str) : Nat → Stmt → Option S
  | 0, _ => none
  | n + 1, st => match st with
    | .Assign tgs e _ => match tgs with
      | [.Name x py] => match slotL sc N x with
        | none => none
        | some i =>
          if x == ("spot" : Str) && isSpotE e then some (.spot i)
          else if isComp e && !swOk sc x py e then none
          else (cE Γ n sc N e).map fun y => if freshShape e then .new i y else .set i y
      | [.Tuple ts tk tp] => match e with
        | .Tuple vs _ _ => match ts, vs with
          | [.Name x px, .Name y py], [a, b] => if parOk sc x y px py a b then
              match slotL sc N x, slotL sc N y, cE Γ n sc N a, cE Γ n sc N b with
              | some i, some j, some u, some v => some (.par i j u v)
              | _, _, _, _ => none
            else none
          | _, _ => none
        | _ => match cTg sc N 9 (.Tuple ts tk tp), cE Γ n sc N e with
          | some u, some y => some (.asg u y)
          | _, _ => none
      | [.Subscript (.Name x _) ix _] => if isComp e then none else match slot sc N x, cE Γ n sc N ix, cE Γ n sc N e with
        | some i, some u, some y => some (.setI i u y)
        | _, _, _ => none
      | _ => none
    | .AugAssign (.Name x _) op e _ => match slotL sc N x, cBO op, cE Γ n sc N e with
      | some i, some o, some y => some (.aug i o y)
      | _, _, _ => none
    | .Return o _ => match o with
      | none => some .retN
      | some e => (cE Γ n sc N e).map .ret
    | .If t a b _ => match cT Γ n sc N t, mapO (cS Γ sc N n) a, mapO (cS Γ sc N n) b with
      | some x, some y, some z => some (.ite x (toSs y) (toSs z))
      | _, _, _ => none
    | .For tg it body [] _ => match cTg sc N 8 tg, cI Γ n sc N tg it, mapO (cS Γ sc N n) body with
      | some x, some y, some z => some (.for x y (toSs z))
      | _, _, _ => none
    | .While t body [] _ => match cT Γ n sc N t, mapO (cS Γ sc N n) body with
      | some x, some y => some (.while x (toSs y))
      | _, _ => none
    | .Expr e _ => match e with
      | .Constant (.str _) _ _ => some .pass
      | .Call (.Attribute (.Name x _) m apos) args [] cpos =>
        if !(apos.endLine == cpos.line) then none
        else if m == ("append" : Str) then match args with
          | [a] => match slot sc N x, cE Γ n sc N a with
            | some i, some y => some (.app i y)
            | _, _ => none
          | _ => none
        else if m == ("pop" : Str) then match args with
          | [] => (slot sc N x).map .pop
          | _ => none
        else none
      | .Call (.Name x p) args kw q => (cE Γ n sc N (.Call (.Name x p) args kw q)).map .expr
      | _ => none
    | .Pass _ => some .pass
    | .Break _ => some .brk
    | .Continue _ => some .cnt
    | .Raise _ _ _ => some .never
    | _ => none
def cSs (Γ : CT) (sc : Scope) (N : List Str) (n : Nat) (l : List Stmt) : Option Ss := (mapO (cS Γ sc N n) l).map toSs
end Mini
namespace Mini
open PySem PySem.Spec PyProof.Rows L2

/-! ### shapes -/
def plainE : Expr → Bool
  | .Name _ _ => true | .Constant _ _ _ => true | .BinOp _ _ _ _ => true | .UnaryOp _ _ _ => true | .Compare _ _ _ _ => true | .BoolOp _ _ _ => true
  | .IfExp _ _ _ _ => true | .Tuple _ _ _ => true | .List _ _ => true | .Subscript _ _ _ => true | .Call _ _ _ _ => true | .ListComp _ _ _ _ => true
  | _ => false
theorem cE_shape {Γ : CT} {n : Nat} {sc : Scope} {N : List Str} {e : Expr} {il : E} (h : cE Γ n sc N e = some il) : plainE e = true := by
  cases n with
  | zero => simp [cE] at h
  | succ n => cases e <;> first | rfl | (simp [cE] at h)
theorem star_of {e : Expr} (h : plainE e = true) (es : List Expr) (env : Env) : starEach (e :: es) env = (false, eval e env) :: starEach es env := by
  cases e <;> first | rfl | (simp [plainE] at h)
theorem noSet_of {e : Expr} (h : plainE e = true) (env : Env) (x : Value) : foldedSetIterable e env x = pure x := by
  cases e <;> first | rfl | (simp [plainE] at h)
theorem noMark_of {e : Expr} (h : plainE e = true) (op : CmpOp) : behindInMarks op e = false := by
  cases e <;> first | rfl | (simp [plainE] at h)
theorem plainIx_of {e : Expr} (h : plainE e = true) : PlainIx e := by
  intro o i
  cases e <;> first | rfl | (simp [plainE] at h)
theorem noStar_of {es : List Expr} {pos : Pos} {env : Env} (h : ∀ e ∈ es, plainE e = true) : (backTo pos (starEach es env)).any (·.1) = false := by
  induction es with
  | nil => rfl
  | cons e es ih =>
    rw [star_of (h e List.mem_cons_self)]
    show (false || (backTo pos (starEach es env)).any (·.1)) = false
    rw [ih fun x hx => h x (List.mem_cons_of_mem _ hx)]
    rfl
theorem mapO_cons {α β : Type} {f : α → Option β} {x : α} {xs : List α} {ys : List β} (h : mapO f (x :: xs) = some ys) : ∃ y zs, f x = some y ∧ mapO f xs = some zs ∧ ys = y :: zs := by
  unfold mapO at h
  cases e : f x with
  | none => rw [e] at h; cases h
  | some y =>
    rw [e] at h
    cases e2 : mapO f xs with
    | none => rw [e2] at h; cases h
    | some zs => rw [e2] at h; cases h; exact ⟨y, zs, rfl, rfl, rfl⟩
theorem ix_get {N : List Str} {x : Str} {i : Nat} (h : ix N x = some i) : N[i]? = some x := by
  unfold ix at h
  rw [List.findIdx?_eq_some_iff_getElem] at h
  obtain ⟨hi, e, _⟩ := h
  rw [List.getElem?_eq_getElem hi]
  have := beq_iff_eq.mp e
  rw [this]

/-! ### the promise of a def -/
def spOf (K : PySem.W.Frag) (w0 : Nat) (ds : List Def) (n i : Nat) : Sp := fun vs H Q _ => ∃ sp B k as d k', Wd sp B H ∧ SpotAt sp k H ∧ RepL K sp B vs as ∧ run w0 ds n i as k = some (d, k') ∧
  ∀ v B' H', Ge sp B H B' H' → SpotAt sp k' H' → Rep K sp B' v d → Q v H'
def biNames : List Str := ["isinstance", "len", "int", "sum", "max", "min", "abs", "all", "any", "tuple", "list", "sorted", "bool", "str", "range", "enumerate", "zip", "reversed"]
structure Facts (Γ : CT) (P : Program) (w : World) (K : PySem.W.Frag) (mg : Str → Option Value) (base : Heap) (n w0 : Nat) (ds : List Def) : Prop where
  fns : ∀ x i, Γ.fns.lookup x = some i → ∃ f fd ps, FnOk P w K mg base CX0 n f fd ps (spOf K w0 ds n i) ∧ mg x = some (.ref f) ∧ PySem.W.keepIn K (.ref f) = true ∧ Binds K fd ps []
  consts : ∀ x d, Γ.consts.lookup x = some d → ∃ v u, mg x = some u ∧ RelV v u ∧ ∀ sp H, Rep K sp H v d
  gcd : ∀ x, x ∈ Γ.gcd → mg x = some (.builtin "math.gcd")
  bi : ∀ x ∈ biNames, mg x = none
structure XF (Γ : CT) (w0 : Nat) (ds : List Def) (n : Nat) (sc : Scope) (N : List Str) (X : Cx) : Prop where
  F : Facts Γ X.prog X.w X.K X.mg X.base n w0 ds
  sc : X.env.scope = sc
  nn : X.N = N
  nd : N.Nodup
  calm : X.calm = true
  room : Room n X.A

def PED (X : Cx) (c : Call) (e : Expr) (il : E) : Prop := ∀ ρ mu k d k', evE c il ρ k = some (d, k') → avE mu il = true → PE X e (tD X.K ρ mu k d k')
def PTD (X : Cx) (c : Call) (e : Expr) (il : T) : Prop := ∀ ρ mu k b k', evT c il ρ k = some (b, k') → avT mu il = true → PT X e (tDT X.K ρ mu k b k')
def PAD (X : Cx) (c : Call) (es : List Expr) (il : Es) : Prop := ∀ ρ mu k ds k', evEs c il ρ k = some (ds, k') → avEs mu il = true → PA X es (tDs X.K ρ mu k ds k')

section
variable {X : Cx} {c : Call} {Γ : CT} {w0 n : Nat} {ds : List Def} {sc : Scope} {N : List Str}

theorem fin_d {K : PySem.W.Frag} {sp : Option Addr} {B H : Hp} {k : Ky} {v : V} {d : D} {Q : VK} (w : Wd sp B H) (s : SpotAt sp k H) (r : Rep K sp B v d) (q : ∀ v B' H', Ge sp B H B' H' → SpotAt sp k H' → Rep K sp B' v d → Q v H') : Q v H :=
  q v B H (Ge.refl w) s r
theorem fin_new {K : PySem.W.Frag} {sp : Option Addr} {B H : Hp} {k : Ky} {p : Addr} {o : HO} {d : D} {Q : VK} (w : Wd sp B H) (s : SpotAt sp k H) (hp : H p = none) (r : Rep K sp (upd B p o) (.ref p) d)
    (q : ∀ v B' H', Ge sp B H B' H' → SpotAt sp k H' → Rep K sp B' v d → Q v H') : Q (.ref p) (upd H p o) :=
  q _ _ _ (Ge.new w s hp) (s.ge hp) r
theorem B_none {sp : Option Addr} {B H : Hp} {p : Addr} (w : Wd sp B H) (hp : H p = none) : B p = none := by
  cases e : B p with
  | none => rfl
  | some u => have := w.sub p u e; rw [hp] at this; cases this
theorem rep_tup_new {K : PySem.W.Frag} {sp : Option Addr} {B : Hp} {p : Addr} {xs : List V} {ds : List D} (hb : B p = none) (r : RepL K sp B xs ds) : Rep K sp (upd B p (.tup xs)) (.ref p) (.tup ds) :=
  .tup (.inl (.inl upd_same)) (RepL.ext (Ext.upd hb) ds xs r)
theorem rep_lst_new {K : PySem.W.Frag} {sp : Option Addr} {B : Hp} {p : Addr} {xs : List V} {ds : List D} (hb : B p = none) (r : RepL K sp B xs ds) : Rep K sp (upd B p (.lst xs)) (.ref p) (.lst ds) :=
  .lst upd_same (RepL.ext (Ext.upd hb) ds xs r)

/-! ### names, constants -/
theorem d_var (hx : XF Γ w0 ds n sc N X) {x : Str} {pos : Pos} {i : Nat} (h : slot sc N x = some i) : PED X c (.Name x pos) (.var i) := by
  intro ρ mu k d k' he ha
  unfold slot at h
  split at h
  · rename_i hv
    simp only [okName, Bool.and_eq_true, Bool.not_eq_true'] at hv
    simp only [evE] at he
    split at he
    · rename_i d' hd
      cases he
      have hN : X.N[i]? = some x := by rw [hx.nn]; exact ix_get h
      have hvis : Vis X.env.scope x := by
        rw [hx.sc]
        have h1 := hv.1
        unfold isVis at h1
        unfold Vis
        split at h1
        · exact .inl (by assumption)
        · exact .inr (.inl (by assumption))
        · exact .inr (.inr (by assumption))
        · cases h1
      refine (pe_var hN hvis hv.2.1.1 hv.2.1.2).wk fun σ H Q ⟨sp, B, w, s, r, q⟩ => ?_
      have hm : i ∉ mu := by
        simp only [avE, Bool.not_eq_true'] at ha
        intro hm
        rw [List.contains_iff_mem.mpr hm] at ha
        cases ha
      obtain ⟨v, h1, h2⟩ := r.2 i _ hm hd
      exact ⟨v, h1, fin_d w s h2 q⟩
    · cases he
  · cases h
theorem d_cst (hx : XF Γ w0 ds n sc N X) {x : Str} {pos : Pos} {d0 : D} (hg : glob sc x = true) (h : Γ.consts.lookup x = some d0) : PED X c (.Name x pos) (.cst d0) := by
  intro ρ mu k d k' he ha
  simp only [evE, Option.some.injEq, Prod.mk.injEq] at he
  obtain ⟨rfl, rfl⟩ := he
  obtain ⟨v, u, hm, rv, hr⟩ := hx.F.consts x _ h
  unfold glob isGl okName at hg
  simp only [Bool.and_eq_true, Bool.not_eq_true'] at hg
  have hgl : Gl X x := by
    show X.env.scope.names.lookup x = _
    rw [hx.sc]
    have h1 := hg.1
    split at h1
    · assumption
    · cases h1
  exact (pe_glob hgl hm rv hg.2.1.1).wk fun σ H Q ⟨sp, B, w, s, r, q⟩ => fin_d w s (hr sp B) q
theorem d_int {i : Int} {j : Nat} {pos : Pos} : PED X c (.Constant (.int i) j pos) (.cst (.int i)) := by
  intro ρ mu k d k' he ha
  simp only [evE, Option.some.injEq, Prod.mk.injEq] at he
  obtain ⟨rfl, rfl⟩ := he
  exact pe_int.wk fun σ H Q ⟨sp, B, w, s, r, q⟩ => fin_d w s (.int i) q
theorem d_bl {i : Bool} {j : Nat} {pos : Pos} : PED X c (.Constant (.bool i) j pos) (.cst (.bl i)) := by
  intro ρ mu k d k' he ha
  simp only [evE, Option.some.injEq, Prod.mk.injEq] at he
  obtain ⟨rfl, rfl⟩ := he
  exact pe_bl.wk fun σ H Q ⟨sp, B, w, s, r, q⟩ => fin_d w s (.bl i) q
theorem d_non {j : Nat} {pos : Pos} : PED X c (.Constant .none j pos) (.cst .non) := by
  intro ρ mu k d k' he ha
  simp only [evE, Option.some.injEq, Prod.mk.injEq] at he
  obtain ⟨rfl, rfl⟩ := he
  exact pe_non.wk fun σ H Q ⟨sp, B, w, s, r, q⟩ => fin_d w s .non q
theorem d_str {i : Str} {j : Nat} {pos : Pos} : PED X c (.Constant (.str i) j pos) (.cst (.str i)) := by
  intro ρ mu k d k' he ha
  simp only [evE, Option.some.injEq, Prod.mk.injEq] at he
  obtain ⟨rfl, rfl⟩ := he
  exact pe_str.wk fun σ H Q ⟨sp, B, w, s, r, q⟩ => fin_d w s (.str i) q

/-! ### two operands -/
/-- what an operation by values gives -/
def RD (K : PySem.W.Frag) (r : R2) (x y z : D) : Prop := ∀ sp B H k vx vy Q, Wd sp B H → SpotAt sp k H → Rep K sp B vx x → Rep K sp B vy y → (∀ v B' H', Ge sp B H B' H' → SpotAt sp k H' → Rep K sp B' v z → Q v H') → r vx vy H Q
theorem bin2 {K : PySem.W.Frag} {r : R2} {ρ : Rho} {mu : List Nat} {k k1 k2 : Ky} {x y z : D} {σ : L2.St} {H : Hp} {Q : VK} (hr : RD K r x y z) (h : tD K ρ mu k z k2 σ H Q) : tOp r (tD K ρ mu k x k1) (tD K ρ mu k1 y k2) σ H Q := by
  obtain ⟨sp, B, w, s, ri, q⟩ := h
  exact ⟨sp, B, w, s, ri, fun v1 B1 H1 g1 s1 r1 => ⟨sp, B1, g1.wd, s1, ri.ext g1.bb, fun v2 B2 H2 g2 s2 r2 =>
    hr sp B2 H2 k2 v1 v2 Q g2.wd s2 (Rep.ext g2.bb _ _ r1) r2 fun v B' H' g s r => q v B' H' (g1.trans (g2.trans g)) s r⟩⟩
theorem rd_int {K : PySem.W.Frag} {g : Int → Int → V} {i j : Int} {z : D} (h : ∀ sp H, Rep K sp H (g i j) z) : RD K (rI0 g) (.int i) (.int j) z := by
  intro sp B H k vx vy Q w s rx ry q
  cases rx
  cases ry
  exact ⟨i, j, rfl, rfl, fin_d w s (h sp B) q⟩
theorem rd_intC {K : PySem.W.Frag} {C : Int → Int → Prop} {g : Int → Int → V} {i j : Int} {z : D} (hc : C i j) (h : ∀ sp H, Rep K sp H (g i j) z) : RD K (rI C g) (.int i) (.int j) z := by
  intro sp B H k vx vy Q w s rx ry q
  cases rx
  cases ry
  exact ⟨i, j, rfl, rfl, hc, fin_d w s (h sp B) q⟩
theorem small_log {j : Int} (h : small64 j = true) : j.natAbs.log2 < 64 := by
  simp only [small64, Bool.and_eq_true, decide_eq_true_eq] at h
  exact PySem.Flt.log2_lt_of (by decide) (show j.natAbs < 2 ^ 64 by omega)
/-- the operation's rule, by the data -/
theorem bo_ok {op : Operator} {o : BO} (ho : cBO op = some o) {x y z : D} (h : boSem o x y = some z) : ∃ r, OpR X (binaryOp op) r ∧ RD X.K r x y z := by
  cases op <;> simp [cBO] at ho <;> subst ho
  · -- add
    cases x <;> cases y <;> simp only [boSem] at h <;> first | (cases h; done) | skip
    · cases h; exact ⟨_, op_add, rd_int fun _ _ => .int _⟩
    · split at h <;> cases h
      rename_i a b hz
      refine ⟨_, op_add_str, fun sp B H k vx vy Q w s rx ry q => ?_⟩
      cases rx
      cases ry
      exact ⟨a, b, rfl, rfl, by simpa [lineOk, sizeLine] using hz, fin_d w s (.str _) q⟩
    · split at h <;> cases h
      rename_i a b hz
      refine ⟨_, op_catA, fun sp B H k vx vy Q w s rx ry q => ?_⟩
      cases rx with
      | @tup pa xs _ h1 h2 =>
      cases ry with
      | @tup pb ys _ h3 h4 =>
      have l1 := h2.len
      have l2 := h4.len
      refine ⟨pa, pb, xs, ys, rfl, rfl, ext_t w.sub h1, ext_t w.sub h3, ?_, fun e => ?_, fun e e2 => ?_, fun _ _ p hp => ?_⟩
      · have hz' : a.length + b.length ≤ 16777216 := by simpa [lineOk] using hz
        show _ ≤ 2 ^ 24
        omega
      · subst e
        cases h2
        exact fin_d w s (by simpa using Rep.tup h3 h4) q
      · subst e2
        cases h4
        exact fin_d w s (by simpa using Rep.tup h1 h2) q
      · exact fin_new w s hp (rep_tup_new (B_none w hp) (h2.append h4)) q
    · split at h <;> cases h
      rename_i a b hz
      refine ⟨_, op_cat, fun sp B H k vx vy Q w s rx ry q => ?_⟩
      cases rx with
      | @lst pa xs _ h1 h2 =>
      cases ry with
      | @lst pb ys _ h3 h4 =>
      have l1 := h2.len
      have l2 := h4.len
      refine ⟨pa, pb, xs, ys, rfl, rfl, w.sub _ _ h1, w.sub _ _ h3, ?_, fun p hp => ?_⟩
      · have hz' : a.length + b.length ≤ 16777216 := by simpa [lineOk] using hz
        show _ ≤ 2 ^ 24
        omega
      · exact fin_new w s hp (rep_lst_new (B_none w hp) (h2.append h4)) q
  · -- sub
    cases x <;> cases y <;> simp only [boSem] at h <;> first | (cases h; done) | skip
    cases h; exact ⟨_, op_sub, rd_int fun _ _ => .int _⟩
  · -- mul
    cases x <;> cases y <;> simp only [boSem] at h <;> first | (cases h; done) | skip
    rename_i i j
    split at h <;> cases h
    rename_i hm
    simp only [mulOk, Bool.or_eq_true, decide_eq_true_eq] at hm
    rcases hm with (hm | hm) | hm
    · simp only [small64, Bool.and_eq_true, decide_eq_true_eq] at hm
      exact ⟨_, op_mul, rd_intC (.inl ⟨by omega, by omega⟩) fun _ _ => .int _⟩
    · simp only [small64, Bool.and_eq_true, decide_eq_true_eq] at hm
      exact ⟨_, op_mul, rd_intC (.inr ⟨by omega, by omega⟩) fun _ _ => .int _⟩
    · exact ⟨_, op_mulW, rd_intC hm fun _ _ => .int _⟩
  · -- mod
    cases x <;> cases y <;> simp only [boSem] at h <;> first | (cases h; done) | skip
    split at h <;> cases h
    rename_i hm
    exact ⟨_, op_mod, rd_intC (of_decide_eq_true hm) fun _ _ => .int _⟩
  · -- pow
    cases x <;> cases y <;> simp only [boSem] at h <;> first | (cases h; done) | skip
    split at h <;> cases h
    rename_i hm
    simp only [Bool.and_eq_true, decide_eq_true_eq, small64] at hm
    exact ⟨_, op_pow, rd_intC ⟨hm.1.1, by omega, by omega⟩ fun _ _ => .int _⟩
  · -- floordiv
    cases x <;> cases y <;> simp only [boSem] at h <;> first | (cases h; done) | skip
    split at h <;> cases h
    rename_i hm
    simp only [divOk, Bool.and_eq_true, Bool.or_eq_true, decide_eq_true_eq] at hm
    refine ⟨_, op_fdivW, rd_intC ⟨hm.1, ?_⟩ fun _ _ => .int _⟩
    rcases hm.2 with h | h
    · exact Nat.lt_trans (small_log h) (by decide)
    · exact h
end
end Mini
namespace Mini
open PySem PySem.Spec PyProof.Rows L2
section
variable {X : Cx} {c : Call} {Γ : CT} {w0 n : Nat} {ds : List Def} {sc : Scope} {N : List Str}

/-! ### comparisons -/
theorem eqD_spec {x y : D} {b : Bool} (h : eqD x y = some b) : x.fine 60 = true ∧ y.fine 60 = true ∧ PyData.eqv x.py y.py = b := by
  have gen : (if x.fine 60 && y.fine 60 then some (PyData.eqv x.py y.py) else none) = some b → x.fine 60 = true ∧ y.fine 60 = true ∧ PyData.eqv x.py y.py = b := by
    intro h
    split at h
    · rename_i hf
      simp only [Bool.and_eq_true] at hf
      exact ⟨hf.1, hf.2, Option.some.inj h⟩
    · cases h
  unfold eqD at h
  split at h
  · cases h; exact ⟨rfl, rfl, by simp [D.py, PyData.eqv, Bool.beq_eq_decide_eq]⟩
  · cases h; exact ⟨rfl, rfl, by simp [D.py, PyData.eqv, Bool.beq_eq_decide_eq]⟩
  · cases h; exact ⟨rfl, rfl, by simp [D.py, PyData.eqv, Bool.beq_eq_decide_eq]⟩
  · cases h; exact ⟨rfl, rfl, rfl⟩
  · exact gen h
theorem anyEq_spec {x : D} : ∀ {ys : List D} {b : Bool}, anyEq x ys = some b → D.fines 60 ys = true ∧ ((D.pys ys).any fun y => PyData.eqv y x.py) = b
  | [], b, h => by simp only [anyEq, Option.some.injEq] at h; subst h; exact ⟨rfl, rfl⟩
  | y :: ys, b, h => by
    simp only [anyEq] at h
    split at h
    · rename_i e
      cases e2 : anyEq x ys with
      | none => rw [e2] at h; cases h
      | some b2 =>
        rw [e2] at h
        obtain ⟨f1, f2⟩ := anyEq_spec e2
        obtain ⟨g1, g2, g3⟩ := eqD_spec e
        simp only [Option.map_some, Option.some.injEq] at h
        subst h
        exact ⟨by simp [D.fines, g1, f1], by simp [D.pys, g3]⟩
    · rename_i e
      obtain ⟨f1, f2⟩ := anyEq_spec h
      obtain ⟨g1, g2, g3⟩ := eqD_spec e
      exact ⟨by simp [D.fines, g1, f1], by simp [D.pys, g3, f2]⟩
    · cases h
theorem rd_eqP {K : PySem.W.Frag} {x y : D} {b : Bool} (h : eqD x y = some b) : RD K (rEqP K) x y (.bl b) := by
  obtain ⟨f1, f2, f3⟩ := eqD_spec h
  intro sp B H k vx vy Q w s rx ry q
  have p1 := fine_plain 60 x f1
  have p2 := fine_plain 60 y f2
  refine ⟨x.py, y.py, fine_dp 60 x vx f1 (Rep.ext w.sub _ _ rx), fine_dp 60 y vy f2 (Rep.ext w.sub _ _ ry), p1.1, p2.1, by omega, ?_⟩
  rw [f3]
  exact fin_d w s (.bl b) q
theorem rd_neP {K : PySem.W.Frag} {x y : D} {b : Bool} (h : eqD x y = some b) : RD K (rNeP K) x y (.bl (!b)) := by
  obtain ⟨f1, f2, f3⟩ := eqD_spec h
  intro sp B H k vx vy Q w s rx ry q
  have p1 := fine_plain 60 x f1
  have p2 := fine_plain 60 y f2
  refine ⟨x.py, y.py, fine_dp 60 x vx f1 (Rep.ext w.sub _ _ rx), fine_dp 60 y vy f2 (Rep.ext w.sub _ _ ry), p1.1, p2.1, by omega, ?_⟩
  rw [f3]
  exact fin_d w s (.bl (!b)) q
def rInP (K : PySem.W.Frag) (neg : Bool) : R2 := fun x y H Q => ∃ d ds, Dp K H x d ∧ (Dp K H y (.list ds) ∨ Dp K H y (.tuple ds)) ∧ d.plain = true ∧ PyData.plainAll ds = true ∧ d.depth ≤ 62 ∧
  Q (.bl (if neg then !(ds.any fun z => PyData.eqv z d) else ds.any fun z => PyData.eqv z d)) H
theorem op_inP (hu : X.A.units + 64 < cLine) : OpR X (compareOp .In) (rInP X.K false) := by
  intro pins s σ H x y v u Q I rx ry h
  obtain ⟨d, es, hd, he, sd, se, dp, q⟩ := h
  obtain ⟨as, r1⟩ := Dp.reads I d x v hd rx
  rcases he with he | he
  · obtain ⟨bs, r2⟩ := Dp.reads I (.list es) y u he ry
    exact SeqAt.in_list_data r2 r1 se sd (by omega) ⟨.bl _, H, I, rfl, q⟩
  · obtain ⟨bs, r2⟩ := Dp.reads I (.tuple es) y u he ry
    exact SeqAt.in_tuple_data r2 r1 se sd (by omega) ⟨.bl _, H, I, rfl, q⟩
theorem op_notInP (hu : X.A.units + 64 < cLine) : OpR X (compareOp .NotIn) (rInP X.K true) := by
  intro pins s σ H x y v u Q I rx ry h
  obtain ⟨d, es, hd, he, sd, se, dp, q⟩ := h
  obtain ⟨as, r1⟩ := Dp.reads I d x v hd rx
  rcases he with he | he
  · obtain ⟨bs, r2⟩ := Dp.reads I (.list es) y u he ry
    exact SeqAt.notIn_list_data r2 r1 se sd (by omega) ⟨.bl _, H, I, rfl, q⟩
  · obtain ⟨bs, r2⟩ := Dp.reads I (.tuple es) y u he ry
    exact SeqAt.notIn_tuple_data r2 r1 se sd (by omega) ⟨.bl _, H, I, rfl, q⟩
theorem rd_inP {K : PySem.W.Frag} {neg : Bool} {x : D} {ys : List D} {b : Bool} (hf : x.fine 60 = true) (h : anyEq x ys = some b) (z : D) (hz : z = .lst ys ∨ z = .tup ys) : RD K (rInP K neg) x z (.bl (if neg then !b else b)) := by
  obtain ⟨f1, f2⟩ := anyEq_spec h
  intro sp B H k vx vy Q w s rx ry q
  have p1 := fine_plain 60 x hf
  have p2 := fines_plain 60 ys f1
  refine ⟨x.py, D.pys ys, fine_dp 60 x vx hf (Rep.ext w.sub _ _ rx), ?_, p1.1, p2.1, by omega, ?_⟩
  · have ry' := Rep.ext w.sub _ _ ry
    rcases hz with rfl | rfl
    · cases ry' with
      | lst h1 h2 => exact .inl (.lst (.inl (.inl h1)) (fines_dp 60 ys _ f1 h2))
    · cases ry' with
      | tup h1 h2 => exact .inr (.tup h1 (fines_dp 60 ys _ f1 h2))
  · rw [f2]
    exact fin_d w s (.bl _) q
theorem co_ok (hr : Room n X.A) {op : CmpOp} {o : CO} (ho : cCO op = some o) {x y : D} {b : Bool} (h : coSem o x y = some b) : ∃ r, OpR X (compareOp op) r ∧ RD X.K r x y (.bl b) := by
  have hu := hr.units
  cases op <;> simp [cCO] at ho <;> subst ho
  · exact ⟨_, op_eqP hu, rd_eqP h⟩
  · simp only [coSem] at h
    cases e : eqD x y with
    | none => rw [e] at h; cases h
    | some b' => rw [e] at h; cases h; exact ⟨_, op_neP hu, rd_neP e⟩
  · cases x <;> cases y <;> simp only [coSem] at h <;> first | (cases h; done) | skip
    cases h; exact ⟨_, op_lt, rd_int fun _ _ => .bl _⟩
  · cases x <;> cases y <;> simp only [coSem] at h <;> first | (cases h; done) | skip
    cases h; exact ⟨_, op_le, rd_int fun _ _ => .bl _⟩
  · cases x <;> cases y <;> simp only [coSem] at h <;> first | (cases h; done) | skip
    cases h; exact ⟨_, op_gt, rd_int fun _ _ => .bl _⟩
  · cases x <;> cases y <;> simp only [coSem] at h <;> first | (cases h; done) | skip
    cases h; exact ⟨_, op_ge, rd_int fun _ _ => .bl _⟩
  · cases y with
    | lst ys =>
      simp only [coSem] at h
      split at h
      · rename_i hf
        exact ⟨_, op_inP hu, rd_inP (neg := false) hf h _ (.inl rfl)⟩
      · cases h
    | tup ys =>
      simp only [coSem] at h
      split at h
      · rename_i hf
        exact ⟨_, op_inP hu, rd_inP (neg := false) hf h _ (.inr rfl)⟩
      · cases h
    | _ => simp [coSem] at h
  · cases y with
    | lst ys =>
      simp only [coSem] at h
      split at h
      · rename_i hf
        cases e : anyEq x ys with
        | none => rw [e] at h; cases h
        | some b' => rw [e] at h; cases h; exact ⟨_, op_notInP hu, rd_inP (neg := true) hf e _ (.inl rfl)⟩
      · cases h
    | tup ys =>
      simp only [coSem] at h
      split at h
      · rename_i hf
        cases e : anyEq x ys with
        | none => rw [e] at h; cases h
        | some b' => rw [e] at h; cases h; exact ⟨_, op_notInP hu, rd_inP (neg := true) hf e _ (.inr rfl)⟩
      · cases h
    | _ => simp [coSem] at h

variable {a b e t : Expr} {x y z : E} {pos : Pos}
theorem d_bin {op : Operator} {o : BO} (ho : cBO op = some o) (ha : PED X c a x) (hb : PED X c b y) : PED X c (.BinOp a op b pos) (.bin o x y) := by
  intro ρ mu k d k' he hav
  simp only [evE] at he
  simp only [avE, Bool.and_eq_true] at hav
  split at he
  · cases he
  · rename_i d1 k1 e1
    split at he
    · cases he
    · rename_i d2 k2 e2
      cases e3 : boSem o d1 d2 with
      | none => rw [e3] at he; cases he
      | some z =>
        rw [e3] at he
        simp only [Option.map_some, Option.some.injEq, Prod.mk.injEq] at he
        obtain ⟨rfl, rfl⟩ := he
        obtain ⟨r, hop, hr⟩ := bo_ok (X := X) ho e3
        exact (pe_op hop (ha ρ mu k d1 k1 e1 hav.1) (hb ρ mu k1 d2 _ e2 hav.2)).wk fun σ H Q h => bin2 hr h
theorem d_neg (ha : PED X c a x) : PED X c (.UnaryOp .USub a pos) (.neg x) := by
  intro ρ mu k d k' he hav
  simp only [evE] at he
  simp only [avE] at hav
  split at he
  · rename_i i k1 e1
    cases he
    refine (pe_un un_neg (ha ρ mu k _ _ e1 hav)).wk fun σ H Q ⟨sp, B, w, s, ri, q⟩ => ⟨sp, B, w, s, ri, fun v1 B1 H1 g1 s1 r1 => ?_⟩
    cases r1
    exact ⟨i, rfl, q _ _ _ g1 s1 (.int _)⟩
  · cases he
theorem d_cmp (hr : Room n X.A) {op : CmpOp} {o : CO} (ho : cCO op = some o) (hb0 : plainE b = true) (ha : PED X c a x) (hb : PED X c b y) : PED X c (.Compare a [op] [b] pos) (.cmp o x y) := by
  intro ρ mu k d k' he hav
  simp only [evE] at he
  simp only [avE, Bool.and_eq_true] at hav
  split at he
  · cases he
  · rename_i d1 k1 e1
    split at he
    · cases he
    · rename_i d2 k2 e2
      cases e3 : coSem o d1 d2 with
      | none => rw [e3] at he; cases he
      | some z =>
        rw [e3] at he
        simp only [Option.map_some, Option.some.injEq, Prod.mk.injEq] at he
        obtain ⟨rfl, rfl⟩ := he
        obtain ⟨r, hop, hr⟩ := co_ok (X := X) hr ho e3
        exact (pe_cmpR hop (ha ρ mu k d1 k1 e1 hav.1) (hb ρ mu k1 d2 _ e2 hav.2) (noMark_of hb0 op)).wk fun σ H Q h => bin2 hr h
/-- the test of a comparison -/
theorem t_cmp (hr : Room n X.A) {op : CmpOp} {o : CO} (ho : cCO op = some o) (hb0 : plainE b = true) (ha : PED X c a x) (hb : PED X c b y) : PTD X c (.Compare a [op] [b] pos) (.val (.cmp o x y)) := by
  intro ρ mu k d k' he hav
  simp only [evT, evE] at he
  simp only [avT, avE, Bool.and_eq_true] at hav
  split at he
  · cases he
  · rename_i dd kk ee
    split at ee
    · cases ee
    · rename_i d1 k1 e1
      split at ee
      · cases ee
      · rename_i d2 k2 e2
        cases e3 : coSem o d1 d2 with
        | none => rw [e3] at ee; cases ee
        | some z =>
          rw [e3] at ee
          simp only [Option.map_some, Option.some.injEq, Prod.mk.injEq] at ee
          obtain ⟨rfl, rfl⟩ := ee
          simp only [truth, Option.map_some, Option.some.injEq, Prod.mk.injEq] at he
          obtain ⟨rfl, rfl⟩ := he
          obtain ⟨r, hop, hr⟩ := co_ok (X := X) hr ho e3
          refine (pt_cmpR hop (ha ρ mu k d1 k1 e1 hav.1) (hb ρ mu k1 d2 _ e2 hav.2) (noMark_of hb0 op)).wk fun σ H Q ⟨sp, B, w, s, ri, q⟩ => ?_
          refine bin2 (k2 := k2) hr ⟨sp, B, w, s, ri, fun v B' H' g s' r' => ?_⟩
          cases r'
          exact ⟨_, rfl, q B' H' g s'⟩
theorem chain_rd (hr : Room n X.A) {op op' : CmpOp} {o o' : CO} (ho : cCO op = some o) (ho' : cCO op' = some o') (hb0 : plainE b = true) (he0 : plainE e = true) (ha : PED X c a x) (hb : PED X c b y) (hc : PED X c e z)
    {ρ : Rho} {mu : List Nat} {k k' : Ky} {d : D} (he : evE c (.chain o o' x y z) ρ k = some (d, k')) (hav : avE mu (.chain o o' x y z) = true) :
    ∃ r r' ta tb tc, OpR X (compareOp op) r ∧ OpR X (compareOp op') r' ∧ PE X a ta ∧ PE X b tb ∧ PE X e tc ∧ (∃ bb, d = .bl bb) ∧ ∀ σ H Q, tD X.K ρ mu k d k' σ H Q → tChain r r' ta tb tc σ H Q := by
  simp only [evE] at he
  simp only [avE, Bool.and_eq_true] at hav
  split at he
  · cases he
  rename_i d1 k1 e1
  split at he
  · cases he
  rename_i d2 k2 e2
  split at he
  · cases he
  · rename_i e3
    simp only [Option.some.injEq, Prod.mk.injEq] at he
    obtain ⟨rfl, rfl⟩ := he
    obtain ⟨r, hop, hrd⟩ := co_ok (X := X) hr ho e3
    -- the second comparison is not reached: any rule for it
    refine ⟨r, fun _ _ _ _ => False, _, _, fun _ _ _ => False, hop, fun _ _ _ _ _ _ _ _ _ _ _ _ h => h.elim, ha ρ mu k d1 k1 e1 hav.1.1, hb ρ mu k1 d2 _ e2 hav.1.2, ⟨fun _ _ _ _ _ _ h => h.elim⟩, ⟨_, rfl⟩, fun σ H Q ⟨sp, B, w, s, ri, q⟩ => ?_⟩
    refine ⟨sp, B, w, s, ri, fun v1 B1 H1 g1 s1 r1 => ⟨sp, B1, g1.wd, s1, ri.ext g1.bb, fun v2 B2 H2 g2 s2 r2 => ?_⟩⟩
    refine hrd sp B2 H2 _ v1 v2 _ g2.wd s2 (Rep.ext g2.bb _ _ r1) r2 fun v B' H' g s' r' => ?_
    cases r'
    refine ⟨false, rfl, ?_⟩
    rw [if_neg Bool.false_ne_true]
    exact q _ B' H' (g1.trans (g2.trans g)) s' (.bl false)
  · rename_i e3
    split at he
    · cases he
    rename_i d4 k4 e4
    cases e5 : coSem o' d2 d4 with
    | none => rw [e5] at he; cases he
    | some zb =>
      rw [e5] at he
      simp only [Option.map_some, Option.some.injEq, Prod.mk.injEq] at he
      obtain ⟨rfl, rfl⟩ := he
      obtain ⟨r, hop, hrd⟩ := co_ok (X := X) hr ho e3
      obtain ⟨r', hop', hrd'⟩ := co_ok (X := X) hr ho' e5
      refine ⟨r, r', _, _, _, hop, hop', ha ρ mu k d1 k1 e1 hav.1.1, hb ρ mu k1 d2 _ e2 hav.1.2, hc ρ mu _ d4 _ e4 hav.2, ⟨_, rfl⟩, fun σ H Q ⟨sp, B, w, s, ri, q⟩ => ?_⟩
      refine ⟨sp, B, w, s, ri, fun v1 B1 H1 g1 s1 r1 => ⟨sp, B1, g1.wd, s1, ri.ext g1.bb, fun v2 B2 H2 g2 s2 r2 => ?_⟩⟩
      refine hrd sp B2 H2 _ v1 v2 _ g2.wd s2 (Rep.ext g2.bb _ _ r1) r2 fun v B' H' g s' rb => ?_
      cases rb
      refine ⟨true, rfl, ?_⟩
      rw [if_pos rfl]
      refine ⟨sp, B', g.wd, s', (ri.ext g1.bb).ext (g2.bb.trans g.bb), fun v4 B4 H4 g4 s4 r4 => ?_⟩
      refine hrd' sp B4 H4 _ v2 v4 _ g4.wd s4 (Rep.ext (g.bb.trans g4.bb) _ _ r2) r4 fun v B5 H5 g5 s5 r5 => ?_
      exact q v B5 H5 (g1.trans (g2.trans (g.trans (g4.trans g5)))) s5 r5
theorem d_chain (hr : Room n X.A) {op op' : CmpOp} {o o' : CO} (ho : cCO op = some o) (ho' : cCO op' = some o') (hb0 : plainE b = true) (he0 : plainE e = true) (ha : PED X c a x) (hb : PED X c b y) (hc : PED X c e z) :
    PED X c (.Compare a [op, op'] [b, e] pos) (.chain o o' x y z) := by
  intro ρ mu k d k' he hav
  obtain ⟨r, r', ta, tb, tc, h1, h2, h3, h4, h5, _, h6⟩ := chain_rd hr ho ho' hb0 he0 ha hb hc he hav
  exact (pe_chain h1 h2 h3 h4 h5 (show behindInMarks op' e = false from noMark_of he0 op')).wk h6
theorem t_of {K : PySem.W.Frag} {te : TE} {ρ : Rho} {mu : List Nat} {k k' : Ky} {bb : Bool} {σ : L2.St} {H : Hp} {Q : Bool → Hp → Prop} (h : ∀ Q, tD K ρ mu k (.bl bb) k' σ H Q → te σ H Q) (q : tDT K ρ mu k bb k' σ H Q) : te σ H fun x H' => ∃ k, x = .bl k ∧ Q k H' := by
  obtain ⟨sp, B, w, s, ri, q⟩ := q
  refine h _ ⟨sp, B, w, s, ri, fun v B' H' g s' r' => ?_⟩
  cases r'
  exact ⟨_, rfl, q B' H' g s'⟩
theorem truth_bl {bb : Bool} {b' : Bool} (h : truth (.bl bb) = some b') : bb = b' := Option.some.inj h
theorem t_chain (hr : Room n X.A) {op op' : CmpOp} {o o' : CO} (ho : cCO op = some o) (ho' : cCO op' = some o') (hb0 : plainE b = true) (he0 : plainE e = true) (ha : PED X c a x) (hb : PED X c b y) (hc : PED X c e z) :
    PTD X c (.Compare a [op, op'] [b, e] pos) (.val (.chain o o' x y z)) := by
  intro ρ mu k d k' he hav
  simp only [evT] at he
  split at he
  · cases he
  rename_i dd kk ee
  obtain ⟨r, r', ta, tb, tc, h1, h2, h3, h4, h5, ⟨bb, rfl⟩, h6⟩ := chain_rd hr ho ho' hb0 he0 ha hb hc ee (by simpa [avT] using hav)
  simp only [truth, Option.map_some, Option.some.injEq, Prod.mk.injEq] at he
  obtain ⟨rfl, rfl⟩ := he
  exact (pt_chain h1 h2 h3 h4 h5 (show behindInMarks op' e = false from noMark_of he0 op')).wk fun σ H Q h => t_of (h6 σ H) h

/-! ### None -/
theorem rep_non {K : PySem.W.Frag} {sp : Option Addr} {H : Hp} {v : V} {d : D} (r : Rep K sp H v d) : decide (v = .non) = (match d with | .non => true | _ => false) := by
  cases r <;> rfl
theorem isN_rd (ha : PED X c a x) {ρ : Rho} {mu : List Nat} {k k' : Ky} {d : D} (he : evE c (.isN x) ρ k = some (d, k')) (hav : avE mu (.isN x) = true) :
    ∃ ta, PE X a ta ∧ (∃ bb, d = .bl bb) ∧ ∀ σ H Q, tD X.K ρ mu k d k' σ H Q → tIsN ta σ H Q := by
  simp only [evE] at he
  split at he
  · rename_i k1 e1
    cases he
    refine ⟨_, ha ρ mu k _ _ e1 hav, ⟨_, rfl⟩, fun σ H Q ⟨sp, B, w, s, ri, q⟩ => ⟨sp, B, w, s, ri, fun v B' H' g s' r' => ?_⟩⟩
    dsimp only
    rw [rep_non r']
    exact q _ B' H' g s' (.bl true)
  · rename_i d1 k1 hne e1
    cases he
    refine ⟨_, ha ρ mu k _ _ e1 hav, ⟨_, rfl⟩, fun σ H Q ⟨sp, B, w, s, ri, q⟩ => ⟨sp, B, w, s, ri, fun v B' H' g s' r' => ?_⟩⟩
    dsimp only
    rw [rep_non r']
    cases d1 <;> first | exact q _ B' H' g s' (.bl false) | exact (hne _ rfl).elim | exact (hne rfl).elim
  · cases he
theorem notN_rd (ha : PED X c a x) {ρ : Rho} {mu : List Nat} {k k' : Ky} {d : D} (he : evE c (.notN x) ρ k = some (d, k')) (hav : avE mu (.notN x) = true) :
    ∃ ta, PE X a ta ∧ (∃ bb, d = .bl bb) ∧ ∀ σ H Q, tD X.K ρ mu k d k' σ H Q → tNotN ta σ H Q := by
  simp only [evE] at he
  split at he
  · rename_i k1 e1
    cases he
    refine ⟨_, ha ρ mu k _ _ e1 hav, ⟨_, rfl⟩, fun σ H Q ⟨sp, B, w, s, ri, q⟩ => ⟨sp, B, w, s, ri, fun v B' H' g s' r' => ?_⟩⟩
    dsimp only
    rw [rep_non r']
    exact q _ B' H' g s' (.bl false)
  · rename_i d1 k1 hne e1
    cases he
    refine ⟨_, ha ρ mu k _ _ e1 hav, ⟨_, rfl⟩, fun σ H Q ⟨sp, B, w, s, ri, q⟩ => ⟨sp, B, w, s, ri, fun v B' H' g s' r' => ?_⟩⟩
    dsimp only
    rw [rep_non r']
    cases d1 <;> first | exact q _ B' H' g s' (.bl true) | exact (hne _ rfl).elim | exact (hne rfl).elim
  · cases he
theorem d_isN {j : Nat} {pos' : Pos} (ha : PED X c a x) : PED X c (.Compare a [.Is] [.Constant .none j pos'] pos) (.isN x) := by
  intro ρ mu k d k' he hav
  obtain ⟨ta, h1, _, h2⟩ := isN_rd ha he hav
  exact (pe_cmp (pc_isN h1) rfl).wk h2
theorem d_notN {j : Nat} {pos' : Pos} (ha : PED X c a x) : PED X c (.Compare a [.IsNot] [.Constant .none j pos'] pos) (.notN x) := by
  intro ρ mu k d k' he hav
  obtain ⟨ta, h1, _, h2⟩ := notN_rd ha he hav
  exact (pe_cmp (pc_notN h1) rfl).wk h2
theorem t_isN {j : Nat} {pos' : Pos} (ha : PED X c a x) : PTD X c (.Compare a [.Is] [.Constant .none j pos'] pos) (.val (.isN x)) := by
  intro ρ mu k d k' he hav
  simp only [evT] at he
  split at he
  · cases he
  rename_i dd kk ee
  obtain ⟨ta, h1, ⟨bb, rfl⟩, h2⟩ := isN_rd ha ee (by simpa [avT] using hav)
  simp only [truth, Option.map_some, Option.some.injEq, Prod.mk.injEq] at he
  obtain ⟨rfl, rfl⟩ := he
  exact (pt_cmp (pc_isN h1) rfl).wk fun σ H Q h => t_of (h2 σ H) h
theorem t_notN {j : Nat} {pos' : Pos} (ha : PED X c a x) : PTD X c (.Compare a [.IsNot] [.Constant .none j pos'] pos) (.val (.notN x)) := by
  intro ρ mu k d k' he hav
  simp only [evT] at he
  split at he
  · cases he
  rename_i dd kk ee
  obtain ⟨ta, h1, ⟨bb, rfl⟩, h2⟩ := notN_rd ha ee (by simpa [avT] using hav)
  simp only [truth, Option.map_some, Option.some.injEq, Prod.mk.injEq] at he
  obtain ⟨rfl, rfl⟩ := he
  exact (pt_cmp (pc_notN h1) rfl).wk fun σ H Q h => t_of (h2 σ H) h

/-! ### and, or, not, a if t else b -/
variable {rest : List Expr}
theorem d_and (ha : PED X c a x) (hb : PED X c (.BoolOp .And (b :: rest) pos) y) : PED X c (.BoolOp .And (a :: b :: rest) pos) (.and x y) := by
  intro ρ mu k d k' he hav
  simp only [evE] at he
  simp only [avE, Bool.and_eq_true] at hav
  split at he
  · rename_i k1 e1
    refine (pe_and (ha ρ mu k _ _ e1 hav.1) (hb ρ mu k1 _ _ he hav.2)).wk fun σ H Q ⟨sp, B, w, s, ri, q⟩ => ⟨sp, B, w, s, ri, fun v B' H' g s' r' => ?_⟩
    cases r'
    refine ⟨true, rfl, ?_⟩
    exact iteT (⟨sp, B', g.wd, s', ri.ext g.bb, fun v B2 H2 g2 s2 r2 => q v B2 H2 (g.trans g2) s2 r2⟩)
  · rename_i k1 e1
    cases he
    refine (pe_and (ha ρ mu k _ _ e1 hav.1) (tb := fun _ _ _ => False) ⟨fun _ _ _ _ _ _ h => h.elim⟩).wk fun σ H Q ⟨sp, B, w, s, ri, q⟩ => ⟨sp, B, w, s, ri, fun v B' H' g s' r' => ?_⟩
    cases r'
    refine ⟨false, rfl, ?_⟩
    exact iteF (q _ B' H' g s' (.bl false))
  · cases he
theorem d_or (ha : PED X c a x) (hb : PED X c (.BoolOp .Or (b :: rest) pos) y) : PED X c (.BoolOp .Or (a :: b :: rest) pos) (.or x y) := by
  intro ρ mu k d k' he hav
  simp only [evE] at he
  simp only [avE, Bool.and_eq_true] at hav
  split at he
  · rename_i k1 e1
    refine (pe_or (ha ρ mu k _ _ e1 hav.1) (hb ρ mu k1 _ _ he hav.2)).wk fun σ H Q ⟨sp, B, w, s, ri, q⟩ => ⟨sp, B, w, s, ri, fun v B' H' g s' r' => ?_⟩
    cases r'
    refine ⟨false, rfl, ?_⟩
    exact iteF (⟨sp, B', g.wd, s', ri.ext g.bb, fun v B2 H2 g2 s2 r2 => q v B2 H2 (g.trans g2) s2 r2⟩)
  · rename_i k1 e1
    cases he
    refine (pe_or (ha ρ mu k _ _ e1 hav.1) (tb := fun _ _ _ => False) ⟨fun _ _ _ _ _ _ h => h.elim⟩).wk fun σ H Q ⟨sp, B, w, s, ri, q⟩ => ⟨sp, B, w, s, ri, fun v B' H' g s' r' => ?_⟩
    cases r'
    refine ⟨true, rfl, ?_⟩
    exact iteT (q _ B' H' g s' (.bl true))
  · cases he
theorem d_one {op : BoolOp} (ha : PED X c a x) : PED X c (.BoolOp op [a] pos) x := fun ρ mu k d k' he hav => pe_one (ha ρ mu k d k' he hav)
theorem d_not (ha : PED X c a x) : PED X c (.UnaryOp .Not a pos) (.not x) := by
  intro ρ mu k d k' he hav
  simp only [evE] at he
  split at he
  · rename_i bb k1 e1
    cases he
    refine (pe_not (ha ρ mu k _ _ e1 hav)).wk fun σ H Q ⟨sp, B, w, s, ri, q⟩ => ⟨sp, B, w, s, ri, fun v B' H' g s' r' => ?_⟩
    cases r'
    exact ⟨bb, rfl, q _ B' H' g s' (.bl _)⟩
  · cases he
variable {tt uu vv : T}
theorem d_ite (ht : PTD X c t tt) (ha : PED X c a x) (hb : PED X c b y) : PED X c (.IfExp t a b pos) (.ite tt x y) := by
  intro ρ mu k d k' he hav
  simp only [evE] at he
  simp only [avE, Bool.and_eq_true] at hav
  split at he
  · cases he
  · rename_i k1 e1
    refine (pe_ifExp (ht ρ mu k _ _ e1 hav.1.1) (ha ρ mu k1 _ _ he hav.1.2) (tb := fun _ _ _ => False) ⟨fun _ _ _ _ _ _ h => h.elim⟩).wk fun σ H Q ⟨sp, B, w, s, ri, q⟩ => ⟨sp, B, w, s, ri, fun B' H' g s' => ?_⟩
    exact iteT (⟨sp, B', g.wd, s', ri.ext g.bb, fun v B2 H2 g2 s2 r2 => q v B2 H2 (g.trans g2) s2 r2⟩)
  · rename_i k1 e1
    refine (pe_ifExp (ht ρ mu k _ _ e1 hav.1.1) (ta := fun _ _ _ => False) ⟨fun _ _ _ _ _ _ h => h.elim⟩ (hb ρ mu k1 _ _ he hav.2)).wk fun σ H Q ⟨sp, B, w, s, ri, q⟩ => ⟨sp, B, w, s, ri, fun B' H' g s' => ?_⟩
    exact iteF (⟨sp, B', g.wd, s', ri.ext g.bb, fun v B2 H2 g2 s2 r2 => q v B2 H2 (g.trans g2) s2 r2⟩)

/-! ### tests -/
def PWD (X : Cx) (c : Call) (e : Expr) (il : T) : Prop := ∀ ρ mu k b k', evT c il ρ k = some (b, k') → avT mu il = true → PW X e (tDT X.K ρ mu k b k')
theorem w_and1 (ha : PTD X c a tt) : PWD X c (.BoolOp .And [a] pos) tt := fun ρ mu k d k' he hav => pw_and1 (ha ρ mu k d k' he hav)
theorem w_or1 (ha : PTD X c a tt) : PWD X c (.BoolOp .Or [a] pos) tt := fun ρ mu k d k' he hav => pw_or1 (ha ρ mu k d k' he hav)
theorem w_pt (h : PWD X c e tt) : PTD X c e tt := fun ρ mu k d k' he hav => (h ρ mu k d k' he hav).pt
theorem w_and (ha : PTD X c a tt) (hb : PWD X c (.BoolOp .And (b :: rest) pos) uu) : PWD X c (.BoolOp .And (a :: b :: rest) pos) (.and tt uu) := by
  intro ρ mu k d k' he hav
  simp only [evT] at he
  simp only [avT, Bool.and_eq_true] at hav
  split at he
  · cases he
  · rename_i k1 e1
    refine (pw_and (ha ρ mu k _ _ e1 hav.1) (hb ρ mu k1 _ _ he hav.2)).wk fun σ H Q ⟨sp, B, w, s, ri, q⟩ => ⟨sp, B, w, s, ri, fun B' H' g s' => ?_⟩
    exact iteT (⟨sp, B', g.wd, s', ri.ext g.bb, fun B2 H2 g2 s2 => q B2 H2 (g.trans g2) s2⟩)
  · rename_i k1 e1
    cases he
    refine (pw_and (ha ρ mu k _ _ e1 hav.1) (tB' := fun _ _ _ => False) ⟨fun _ _ _ _ _ _ _ h => h.elim⟩).wk fun σ H Q ⟨sp, B, w, s, ri, q⟩ => ⟨sp, B, w, s, ri, fun B' H' g s' => ?_⟩
    exact iteF (q B' H' g s')
theorem w_or (ha : PTD X c a tt) (hb : PWD X c (.BoolOp .Or (b :: rest) pos) uu) : PWD X c (.BoolOp .Or (a :: b :: rest) pos) (.or tt uu) := by
  intro ρ mu k d k' he hav
  simp only [evT] at he
  simp only [avT, Bool.and_eq_true] at hav
  split at he
  · cases he
  · rename_i k1 e1
    cases he
    refine (pw_or (ha ρ mu k _ _ e1 hav.1) (tB' := fun _ _ _ => False) ⟨fun _ _ _ _ _ _ _ h => h.elim⟩).wk fun σ H Q ⟨sp, B, w, s, ri, q⟩ => ⟨sp, B, w, s, ri, fun B' H' g s' => ?_⟩
    exact iteT (q B' H' g s')
  · rename_i k1 e1
    refine (pw_or (ha ρ mu k _ _ e1 hav.1) (hb ρ mu k1 _ _ he hav.2)).wk fun σ H Q ⟨sp, B, w, s, ri, q⟩ => ⟨sp, B, w, s, ri, fun B' H' g s' => ?_⟩
    exact iteF (⟨sp, B', g.wd, s', ri.ext g.bb, fun B2 H2 g2 s2 => q B2 H2 (g.trans g2) s2⟩)
theorem t_not (ha : PTD X c a tt) : PTD X c (.UnaryOp .Not a pos) (.not tt) := by
  intro ρ mu k d k' he hav
  simp only [evT] at he
  split at he
  · cases he
  · rename_i bb k1 e1
    cases he
    exact (pt_not (ha ρ mu k _ _ e1 hav)).wk fun σ H Q ⟨sp, B, w, s, ri, q⟩ => ⟨sp, B, w, s, ri, fun B' H' g s' => q B' H' g s'⟩
theorem tru_rep {K : PySem.W.Frag} {sp : Option Addr} {B H : Hp} {v : V} {d : D} {bb : Bool} (w : Wd sp B H) (r : Rep K sp B v d) (h : truth d = some bb) : TruV K v H bb := by
  cases r with
  | non => cases h; rfl
  | bl b => cases h; rfl
  | int i => cases h; rfl
  | str x =>
    simp only [truth] at h
    split at h
    · rename_i hz
      cases h
      exact ⟨by simpa [lineOk, sizeLine] using hz, rfl⟩
    · cases h
  | @tup a xs es h1 h2 =>
    cases h
    refine .inr (.inl ⟨xs, ext_t w.sub h1, ?_⟩)
    cases h2 <;> rfl
  | @lst a xs es h1 h2 =>
    cases h
    refine .inl ⟨xs, .inl (.inl (w.sub _ _ h1)), ?_⟩
    cases h2 <;> rfl
  | scr _ _ => cases h
  | spot _ => cases h
theorem t_truth (he0 : ∀ env whole, isTrue a env whole = (do let v ← whole; standAt a.pos; holding [v] (truthy v))) (ha : PED X c a x) : PTD X c a (.val x) := by
  intro ρ mu k d k' he hav
  simp only [evT] at he
  split at he
  · cases he
  rename_i dd kk ee
  cases e1 : truth dd with
  | none => rw [e1] at he; cases he
  | some bb =>
    rw [e1] at he
    simp only [Option.map_some, Option.some.injEq, Prod.mk.injEq] at he
    obtain ⟨rfl, rfl⟩ := he
    refine (pt_truth (ha ρ mu k _ _ ee (by simpa [avT] using hav)) (he0 _)).wk fun σ H Q ⟨sp, B, w, s, ri, q⟩ => ⟨sp, B, w, s, ri, fun v B' H' g s' r' => ⟨_, tru_rep g.wd r' e1, q B' H' g s'⟩⟩

/-! ### several expressions; displays -/
variable {es : List Expr} {xs : Es}
theorem a_nil : PAD X c [] .nil := by
  intro ρ mu k d k' he hav
  cases he
  exact pa_nil.wk fun σ H Q ⟨sp, B, w, s, ri, q⟩ => q [] B H (Ge.refl w) s .nil
theorem a_cons (ha0 : plainE a = true) (ha : PED X c a x) (hr : PAD X c es xs) : PAD X c (a :: es) (.cons x xs) := by
  intro ρ mu k d k' he hav
  simp only [evEs] at he
  simp only [avEs, Bool.and_eq_true] at hav
  split at he
  · cases he
  rename_i d1 k1 e1
  split at he
  · cases he
  rename_i d2 k2 e2
  cases he
  refine (pa_cons (ha ρ mu k _ _ e1 hav.1) (hr ρ mu k1 _ _ e2 hav.2) (star_of ha0 es X.env)).wk fun σ H Q ⟨sp, B, w, s, ri, q⟩ => ⟨sp, B, w, s, ri, fun v B1 H1 g1 s1 r1 => ⟨sp, B1, g1.wd, s1, ri.ext g1.bb, fun vs B2 H2 g2 s2 r2 => ?_⟩⟩
  exact q _ B2 H2 (g1.trans g2) s2 (.cons (Rep.ext g2.bb _ _ r1) r2)
theorem line_of {m : Nat} (h : lineOk m = true) : m ≤ sizeLine := by simpa [lineOk, sizeLine] using h
theorem d_tup {j : Nat} (ha : PAD X c es xs) : PED X c (.Tuple es j pos) (.tup xs) := by
  intro ρ mu k d k' he hav
  simp only [evE] at he
  cases e1 : evEs c xs ρ k with
  | none => rw [e1] at he; cases he
  | some p =>
    obtain ⟨d1, k1⟩ := p
    rw [e1] at he
    simp only [Option.bind_some] at he
    split at he
    · rename_i hz
      cases he
      refine (pe_tup (ha ρ mu k _ _ e1 (by simpa [avE] using hav))).wk fun σ H Q ⟨sp, B, w, s, ri, q⟩ => ⟨sp, B, w, s, ri, fun vs B1 H1 g1 s1 r1 => ⟨by rw [r1.len]; exact line_of hz, fun p hp => ?_⟩⟩
      exact fin_new g1.wd s1 hp (rep_tup_new (B_none g1.wd hp) r1) fun v B2 H2 g2 s2 r2 => q v B2 H2 (g1.trans g2) s2 r2
    · cases he
theorem d_lst (ha : PAD X c es xs) : PED X c (.List es pos) (.lst xs) := by
  intro ρ mu k d k' he hav
  simp only [evE] at he
  cases e1 : evEs c xs ρ k with
  | none => rw [e1] at he; cases he
  | some p =>
    obtain ⟨d1, k1⟩ := p
    rw [e1] at he
    simp only [Option.bind_some] at he
    split at he
    · rename_i hz
      cases he
      refine (pe_lst (ha ρ mu k _ _ e1 (by simpa [avE] using hav))).wk fun σ H Q ⟨sp, B, w, s, ri, q⟩ => ⟨sp, B, w, s, ri, fun vs B1 H1 g1 s1 r1 => ⟨by rw [r1.len]; exact line_of hz, fun p hp => ?_⟩⟩
      exact fin_new g1.wd s1 hp (rep_lst_new (B_none g1.wd hp) r1) fun v B2 H2 g2 s2 r2 => q v B2 H2 (g1.trans g2) s2 r2
    · cases he
end
end Mini
namespace Mini
open PySem PySem.Spec PyProof.Rows L2
section
variable {X : Cx} {c : Call} {Γ : CT} {w0 n : Nat} {ds : List Def} {sc : Scope} {N : List Str}
variable {a b e t : Expr} {x y z : E} {pos : Pos} {es : List Expr} {xs : Es}

/-! ### subscripts, slices -/
theorem ixN_len {m : Nat} {i : Int} {j : Nat} (h : ixN m i = some j) : j < m := (ixN_seq h).2.1
theorem atI_rep {K : PySem.W.Frag} {sp : Option Addr} {B : Hp} {vs : List V} {es : List D} {i : Int} {d : D} (r : RepL K sp B vs es) (h : atI es i = some d) : ∃ v, atI vs i = some v ∧ Rep K sp B v d := by
  unfold atI at h ⊢
  rw [r.len]
  cases e1 : ixN es.length i with
  | none => rw [e1] at h; cases h
  | some j =>
    rw [e1] at h
    exact r.get (i := j) h
def IxD (X : Cx) (k : Ky) (x y z : D) : Prop := ∃ r, IxR X r ∧ ∀ sp B H vx vy Q, Wd sp B H → SpotAt sp k H → Rep X.K sp B vx x → Rep X.K sp B vy y → (∀ v B' H', Ge sp B H B' H' → SpotAt sp k H' → Rep X.K sp B' v z → Q v H') → r vx vy H Q
theorem ix_ok {k : Ky} {x y z : D} (h : idxSem k x y = some z) : IxD X k x y z := by
  unfold idxSem at h
  split at h
  · rename_i es i
    refine ⟨_, ix_list, fun sp B H vx vy Q w s rx ry q => ?_⟩
    cases rx with
    | @lst p vs _ h1 h2 =>
    cases ry
    obtain ⟨v, h3, h4⟩ := atI_rep h2 h
    exact ⟨p, vs, i, v, rfl, rfl, .inl (.inl (w.sub _ _ h1)), h3, fin_d w s h4 q⟩
  · rename_i es i
    refine ⟨_, ix_list, fun sp B H vx vy Q w s rx ry q => ?_⟩
    cases rx with
    | @scr p vs _ h1 h2 =>
    cases ry
    obtain ⟨v, h3, h4⟩ := atI_rep h2 h
    exact ⟨p, vs, i, v, rfl, rfl, ext_l w.sub h1, h3, fin_d w s h4 q⟩
  · rename_i es i
    refine ⟨_, ix_tup, fun sp B H vx vy Q w s rx ry q => ?_⟩
    cases rx with
    | @tup p vs _ h1 h2 =>
    cases ry
    obtain ⟨v, h3, h4⟩ := atI_rep h2 h
    exact ⟨p, vs, i, v, rfl, rfl, ext_t w.sub h1, h3, fin_d w s h4 q⟩
  · rename_i st i
    split at h
    · rename_i hz
      cases e1 : atI st.cps.toList i with
      | none => rw [e1] at h; cases h
      | some ch =>
        rw [e1] at h
        cases h
        refine ⟨_, ix_str, fun sp B H vx vy Q w s rx ry q => ?_⟩
        cases rx
        cases ry
        exact ⟨st, i, ch, rfl, rfl, line_of hz, e1, fin_d w s (.str _) q⟩
    · cases h
  · cases k with
    | none => cases h
    | some m =>
      cases h
      refine ⟨_, ix_list, fun sp B H vx vy Q w s rx ry q => ?_⟩
      cases rx with
      | @spot p hp =>
      cases ry
      subst hp
      have s' : H p = some (.lst [.int m]) := s
      exact ⟨p, [.int m], 0, .int m, rfl, rfl, .inl (.inl s'), rfl, fin_d w s (.int m) q⟩
  · cases h
theorem d_idx (hb0 : plainE b = true) (ha : PED X c a x) (hb : PED X c b y) : PED X c (.Subscript a b pos) (.idx x y) := by
  intro ρ mu k d k' he hav
  simp only [evE] at he
  simp only [avE, Bool.and_eq_true] at hav
  split at he
  · cases he
  rename_i d1 k1 e1
  split at he
  · cases he
  rename_i d2 k2 e2
  cases e3 : idxSem k2 d1 d2 with
  | none => rw [e3] at he; cases he
  | some z =>
    rw [e3] at he
    simp only [Option.map_some, Option.some.injEq, Prod.mk.injEq] at he
    obtain ⟨rfl, rfl⟩ := he
    obtain ⟨r, hr, hq⟩ := ix_ok (X := X) e3
    refine (pe_ix hr (ha ρ mu k d1 k1 e1 hav.1) (hb ρ mu k1 d2 _ e2 hav.2) (plainIx_of hb0)).wk fun σ H Q ⟨sp, B, w, s, ri, q⟩ => ?_
    exact ⟨sp, B, w, s, ri, fun v1 B1 H1 g1 s1 r1 => ⟨sp, B1, g1.wd, s1, ri.ext g1.bb, fun v2 B2 H2 g2 s2 r2 =>
      hq sp B2 H2 v1 v2 Q g2.wd s2 (Rep.ext g2.bb _ _ r1) r2 fun v B' H' g s r => q v B' H' (g1.trans (g2.trans g)) s r⟩⟩
def SliD (X : Cx) (x : D) (lo hi : Option Int) (z : D) : Prop := ∃ r, SlR X r ∧ ∀ sp B H k vx Q, Wd sp B H → SpotAt sp k H → Rep X.K sp B vx x → (∀ v B' H', Ge sp B H B' H' → SpotAt sp k H' → Rep X.K sp B' v z → Q v H') → r vx lo hi H Q
theorem cut_rep {K : PySem.W.Frag} {sp : Option Addr} {B : Hp} {vs : List V} {es : List D} (r : RepL K sp B vs es) (lo hi : Option Int) : RepL K sp B (cutV vs lo hi) (cutD es lo hi) := by
  unfold cutV cutD
  rw [r.len]
  exact (r.drop _).take _
theorem sli_ok {x z : D} {lo hi : Option Int} (h : sliSem x lo hi = some z) : SliD X x lo hi z := by
  unfold sliSem at h
  split at h
  · rename_i es
    cases h
    refine ⟨_, sl_list, fun sp B H k vx Q w s rx q => ?_⟩
    cases rx with
    | @lst p vs _ h1 h2 =>
    exact ⟨p, vs, rfl, .inl (.inl (w.sub _ _ h1)), fun o ho => fin_new w s ho (rep_lst_new (B_none w ho) (cut_rep h2 lo hi)) q⟩
  · rename_i es
    cases h
    refine ⟨_, sl_list, fun sp B H k vx Q w s rx q => ?_⟩
    cases rx with
    | @scr p vs _ h1 h2 =>
    exact ⟨p, vs, rfl, ext_l w.sub h1, fun o ho => fin_new w s ho (rep_lst_new (B_none w ho) (cut_rep h2 lo hi)) q⟩
  · rename_i es
    cases h
    refine ⟨_, sl_tupA, fun sp B H k vx Q w s rx q => ?_⟩
    cases rx with
    | @tup p vs _ h1 h2 =>
    refine ⟨p, vs, rfl, ext_t w.sub h1, fun hw => ?_, fun _ o ho => fin_new w s ho (rep_tup_new (B_none w ho) (cut_rep h2 lo hi)) q⟩
    have e1 : cutD es lo hi = es := by
      unfold cutD
      rw [← h2.len, hw.1, hw.2]
      simp [h2.len]
    rw [e1] at q
    exact fin_d w s (.tup h1 h2) q
  · cases h
/-- a part of a slice -/
def tDO (K : PySem.W.Frag) (ρ : Rho) (mu : List Nat) (k : Ky) (o : Option Int) (k' : Ky) : TO := fun σ H Q =>
  ∃ sp B, Wd sp B H ∧ SpotAt sp k H ∧ RI K sp B mu ρ σ ∧ ∀ B' H', Ge sp B H B' H' → SpotAt sp k' H' → Q o H'
theorem _root_.L2.PO.wk {X : Cx} {e : Option Expr} {t t' : TO} (h : PO X e t) (w : ∀ σ H Q, t' σ H Q → t σ H Q) : PO X e t' := ⟨fun pins s σ H Q I hw => h.run pins s σ H Q I (w _ _ _ hw)⟩
theorem o_none {ρ : Rho} {mu : List Nat} {k : Ky} : PO X none (tDO X.K ρ mu k none k) := po_none.wk fun σ H Q ⟨sp, B, w, s, ri, q⟩ => q B H (Ge.refl w) s
theorem o_some {ρ : Rho} {mu : List Nat} {k k' : Ky} {i : Int} (h : PED X c a x) (he : evE c x ρ k = some (.int i, k')) (hav : avE mu x = true) : PO X (some a) (tDO X.K ρ mu k (some i) k') :=
  (po_some (h ρ mu k _ _ he hav)).wk fun σ H Q ⟨sp, B, w, s, ri, q⟩ => ⟨sp, B, w, s, ri, fun v B' H' g s' r' => by cases r'; exact ⟨i, rfl, q B' H' g s'⟩⟩
theorem d_sliG {lo hi : Option Expr} {ρ : Rho} {mu : List Nat} {k k1 k2 k3 : Ky} {d d' : D} {l h : Option Int} {p2 : Pos} (ha : PE X a (tD X.K ρ mu k d k1)) (hl : PO X lo (tDO X.K ρ mu k1 l k2)) (hh : PO X hi (tDO X.K ρ mu k2 h k3)) (hs : sliSem d l h = some d') :
    PE X (.Subscript a (.Slice lo hi none p2) pos) (tD X.K ρ mu k d' k3) := by
  obtain ⟨r, hr, hq⟩ := sli_ok (X := X) hs
  refine (pe_slice hr ha hl hh).wk fun σ H Q ⟨sp, B, w, s, ri, q⟩ => ?_
  refine ⟨sp, B, w, s, ri, fun v1 B1 H1 g1 s1 r1 => ⟨sp, B1, g1.wd, s1, ri.ext g1.bb, fun B2 H2 g2 s2 => ⟨sp, B2, g2.wd, s2, (ri.ext g1.bb).ext g2.bb, fun B3 H3 g3 s3 => ?_⟩⟩⟩
  exact hq sp B3 H3 k3 v1 Q g3.wd s3 (Rep.ext (g2.bb.trans g3.bb) _ _ r1) fun v B' H' g s r => q v B' H' (g1.trans (g2.trans (g3.trans g))) s r
theorem d_sli0 {p2 : Pos} {u v : E} (ha : PED X c a x) : PED X c (.Subscript a (.Slice none none none p2) pos) (.sli 0 x u v) := by
  intro ρ mu k d k' he hav
  simp only [avE, Bool.and_eq_true] at hav
  simp only [evE] at he
  split at he
  · cases he
  rename_i d1 k1 e1
  simp only [show (0 == 1 || 0 == 3 : Bool) = false from rfl, show (0 == 2 || 0 == 3 : Bool) = false from rfl, Bool.false_eq_true, if_false] at he
  cases e3 : sliSem d1 none none with
  | none => rw [e3] at he; cases he
  | some z =>
    rw [e3] at he
    simp only [Option.map_some, Option.some.injEq, Prod.mk.injEq] at he
    obtain ⟨rfl, rfl⟩ := he
    exact d_sliG (ha ρ mu k d1 _ e1 hav.1.1) o_none o_none e3
theorem d_sli1 {p2 : Pos} {u v : E} {lo : Expr} (ha : PED X c a x) (hl : PED X c lo u) : PED X c (.Subscript a (.Slice (some lo) none none p2) pos) (.sli 1 x u v) := by
  intro ρ mu k d k' he hav
  simp only [avE, Bool.and_eq_true] at hav
  simp only [evE] at he
  split at he
  · cases he
  rename_i d1 k1 e1
  simp only [show (1 == 1 || 1 == 3 : Bool) = true from rfl, show (1 == 2 || 1 == 3 : Bool) = false from rfl, Bool.false_eq_true, if_false, if_true] at he
  split at he
  · cases he
  rename_i l k2 e2
  split at e2
  · rename_i i k2' e2'
    cases e2
    cases e3 : sliSem d1 (some i) none with
    | none => rw [e3] at he; cases he
    | some z =>
      rw [e3] at he
      simp only [Option.map_some, Option.some.injEq, Prod.mk.injEq] at he
      obtain ⟨rfl, rfl⟩ := he
      exact d_sliG (ha ρ mu k d1 _ e1 hav.1.1) (o_some hl e2' hav.1.2) o_none e3
  · cases e2
theorem d_sli2 {p2 : Pos} {u v : E} {hi : Expr} (ha : PED X c a x) (hl : PED X c hi v) : PED X c (.Subscript a (.Slice none (some hi) none p2) pos) (.sli 2 x u v) := by
  intro ρ mu k d k' he hav
  simp only [avE, Bool.and_eq_true] at hav
  simp only [evE] at he
  split at he
  · cases he
  rename_i d1 k1 e1
  simp only [show (2 == 1 || 2 == 3 : Bool) = false from rfl, show (2 == 2 || 2 == 3 : Bool) = true from rfl, Bool.false_eq_true, if_false, if_true] at he
  split at he
  · cases he
  rename_i l k2 e2
  split at e2
  · rename_i i k2' e2'
    cases e2
    cases e3 : sliSem d1 none (some i) with
    | none => rw [e3] at he; cases he
    | some z =>
      rw [e3] at he
      simp only [Option.map_some, Option.some.injEq, Prod.mk.injEq] at he
      obtain ⟨rfl, rfl⟩ := he
      exact d_sliG (ha ρ mu k d1 _ e1 hav.1.1) o_none (o_some hl e2' hav.2) e3
  · cases e2
theorem d_sli3 {p2 : Pos} {u v : E} {lo hi : Expr} (ha : PED X c a x) (hl : PED X c lo u) (hh : PED X c hi v) : PED X c (.Subscript a (.Slice (some lo) (some hi) none p2) pos) (.sli 3 x u v) := by
  intro ρ mu k d k' he hav
  simp only [avE, Bool.and_eq_true] at hav
  simp only [evE] at he
  split at he
  · cases he
  rename_i d1 k1 e1
  simp only [show (3 == 1 || 3 == 3 : Bool) = true from rfl, show (3 == 2 || 3 == 3 : Bool) = true from rfl, if_true] at he
  split at he
  · cases he
  rename_i l k2 e2
  split at e2
  · rename_i i k2' e2'
    cases e2
    split at he
    · cases he
    rename_i h k3 e4
    split at e4
    · rename_i j k4' e4'
      cases e4
      cases e3 : sliSem d1 (some i) (some j) with
      | none => rw [e3] at he; cases he
      | some z =>
        rw [e3] at he
        simp only [Option.map_some, Option.some.injEq, Prod.mk.injEq] at he
        obtain ⟨rfl, rfl⟩ := he
        exact d_sliG (ha ρ mu k d1 _ e1 hav.1.1) (o_some hl e2' hav.1.2) (o_some hh e4' hav.2) e3
    · cases e4
  · cases e2

/-! ### calls -/
theorem glob_of (hx : XF Γ w0 ds n sc N X) {s : Str} (hg : glob sc s = true) : Gl X s ∧ (s == ("__debug__" : Str)) = false ∧ s ≠ ("__name__" : Str) := by
  unfold glob isGl okName at hg
  simp only [Bool.and_eq_true, Bool.not_eq_true'] at hg
  refine ⟨?_, hg.2.1.1, fun e => ?_⟩
  · show X.env.scope.names.lookup s = _
    rw [hx.sc]
    have h1 := hg.1
    split at h1
    · assumption
    · cases h1
  · have := hg.2.2
    subst e
    simp at this
theorem d_call (hx : XF Γ w0 ds n sc N X) (hc : c = run w0 ds n) {s : Str} {p : Pos} {i : Nat} (hg : glob sc s = true) (hf : Γ.fns.lookup s = some i) (hne : es ≠ []) (hes : ∀ e ∈ es, plainE e = true) (ha : PAD X c es xs) : PED X c (.Call (.Name s p) es [] pos) (.call i xs) := by
  intro ρ mu k d k' he hav
  simp only [avE] at hav
  simp only [evE] at he
  split at he
  · cases he
  rename_i d1 k1 e1
  obtain ⟨h1, h2, h3⟩ := glob_of hx hg
  obtain ⟨f, fd, ps, F, hm, hk, hb⟩ := hx.F.fns s i hf
  subst hc
  have rd : ∀ t σ H Q, (∀ σ H Q, tDs X.K ρ mu k d1 k1 σ H Q → t σ H Q) → tD X.K ρ mu k d k' σ H Q → tCall (spOf X.K w0 ds n i) [] E0 t σ H Q := by
    intro t σ H Q ht ⟨sp, B, w, s, ri, q⟩
    refine ht _ _ _ ⟨sp, B, w, s, ri, fun vs B1 H1 g1 s1 r1 => ?_⟩
    show spOf X.K w0 ds n i (vs ++ []) H1 Q E0
    rw [List.append_nil]
    exact ⟨sp, B1, k1, d1, d, k', g1.wd, s1, r1, he, fun v B2 H2 g2 s2 r2 => q v B2 H2 (g1.trans g2) s2 r2⟩
  cases es with
  | nil => exact absurd rfl hne
  | cons e es =>
    exact (pe_call F hx.room h1 hm hk hb .nil pass0 (ha ρ mu k d1 k1 e1 hav) h2 (star_of (hes e List.mem_cons_self) es X.env) (noStar_of fun u hu => hes u (List.mem_cons_of_mem _ hu))).wk fun σ H Q h => rd _ σ H Q (fun _ _ _ h => h) h
theorem d_call0 (hx : XF Γ w0 ds n sc N X) (hc : c = run w0 ds n) {s : Str} {p : Pos} {i : Nat} (hg : glob sc s = true) (hf : Γ.fns.lookup s = some i) : PED X c (.Call (.Name s p) [] [] pos) (.call i .nil) := by
  intro ρ mu k d k' he hav
  simp only [evE, evEs] at he
  obtain ⟨h1, h2, h3⟩ := glob_of hx hg
  obtain ⟨f, fd, ps, F, hm, hk, hb⟩ := hx.F.fns s i hf
  subst hc
  refine (pe_call0 F hx.room h1 hm hk hb .nil pass0 h2).wk fun σ H Q ⟨sp, B, w, s, ri, q⟩ => ?_
  exact ⟨sp, B, k, [], d, k', w, s, .nil, he, fun v B2 H2 g2 s2 r2 => q v B2 H2 g2 s2 r2⟩

/-! ### built-in functions -/
def CaD (X : Cx) (f : Value) (as : List D) (z : D) : Prop := ∃ r, CallR X f r ∧ ∀ sp B H k vs Q, Wd sp B H → SpotAt sp k H → RepL X.K sp B vs as → (∀ v B' H', Ge sp B H B' H' → SpotAt sp k H' → Rep X.K sp B' v z → Q v H') → r vs H Q
theorem toInts_map : ∀ {es : List D} {ns : List Int}, toInts es = some ns → es = ns.map D.int
  | [], ns, h => by cases h; rfl
  | .int i :: r, ns, h => by
    simp only [toInts] at h
    cases e : toInts r with
    | none => rw [e] at h; cases h
    | some ms => rw [e] at h; cases h; rw [toInts_map e]; rfl
  | .non :: _, _, h => by cases h
  | .bl _ :: _, _, h => by cases h
  | .str _ :: _, _, h => by cases h
  | .tup _ :: _, _, h => by cases h
  | .lst _ :: _, _, h => by cases h
  | .scr _ :: _, _, h => by cases h
  | .spot :: _, _, h => by cases h
theorem toBls_map : ∀ {es : List D} {ns : List Bool}, toBls es = some ns → es = ns.map D.bl
  | [], ns, h => by cases h; rfl
  | .bl i :: r, ns, h => by
    simp only [toBls] at h
    cases e : toBls r with
    | none => rw [e] at h; cases h
    | some ms => rw [e] at h; cases h; rw [toBls_map e]; rfl
  | .non :: _, _, h => by cases h
  | .int _ :: _, _, h => by cases h
  | .str _ :: _, _, h => by cases h
  | .tup _ :: _, _, h => by cases h
  | .lst _ :: _, _, h => by cases h
  | .scr _ :: _, _, h => by cases h
  | .spot :: _, _, h => by cases h
theorem RepL.bls {K : PySem.W.Frag} {sp : Option Addr} {H : Hp} : ∀ {vs : List V} (ns : List Bool), RepL K sp H vs (ns.map D.bl) → vs = ns.map V.bl
  | _, [], .nil => rfl
  | _, n :: ns, .cons r t => by cases r; rw [RepL.bls ns t]; rfl
theorem maxL_spec : ∀ (ns : List Int) (m : Int), (maxL m ns = m ∨ maxL m ns ∈ ns) ∧ m ≤ maxL m ns ∧ ∀ y ∈ ns, y ≤ maxL m ns
  | [], m => ⟨.inl rfl, Int.le_refl _, fun y h => by cases h⟩
  | x :: r, m => by
    obtain ⟨h1, h2, h3⟩ := maxL_spec r (if m < x then x else m)
    simp only [maxL]
    split at h1 <;> rename_i hlt <;> simp only [hlt, if_true, if_false] at h2 h3 ⊢
    · exact ⟨.inr (by rcases h1 with h | h; · rw [h]; exact List.mem_cons_self
                      · exact List.mem_cons_of_mem _ h), by omega, fun y hy => by
        rcases List.mem_cons.mp hy with rfl | hy
        · exact h2
        · exact h3 y hy⟩
    · exact ⟨by rcases h1 with h | h; · exact .inl h
                · exact .inr (List.mem_cons_of_mem _ h), h2, fun y hy => by
        rcases List.mem_cons.mp hy with rfl | hy
        · omega
        · exact h3 y hy⟩
theorem minL_spec : ∀ (ns : List Int) (m : Int), (minL m ns = m ∨ minL m ns ∈ ns) ∧ minL m ns ≤ m ∧ ∀ y ∈ ns, minL m ns ≤ y
  | [], m => ⟨.inl rfl, Int.le_refl _, fun y h => by cases h⟩
  | x :: r, m => by
    obtain ⟨h1, h2, h3⟩ := minL_spec r (if x < m then x else m)
    simp only [minL]
    split at h1 <;> rename_i hlt <;> simp only [hlt, if_true, if_false] at h2 h3 ⊢
    · exact ⟨.inr (by rcases h1 with h | h; · rw [h]; exact List.mem_cons_self
                      · exact List.mem_cons_of_mem _ h), by omega, fun y hy => by
        rcases List.mem_cons.mp hy with rfl | hy
        · exact h2
        · exact h3 y hy⟩
    · exact ⟨by rcases h1 with h | h; · exact .inl h
                · exact .inr (List.mem_cons_of_mem _ h), h2, fun y hy => by
        rcases List.mem_cons.mp hy with rfl | hy
        · omega
        · exact h3 y hy⟩
theorem max_uniq {n m : Int} {ns : List Int} (h1 : m ∈ n :: ns) (h2 : ∀ y, y ∈ n :: ns → y ≤ m) : m = maxL n ns := by
  obtain ⟨g1, g2, g3⟩ := maxL_spec ns n
  have a1 : m ≤ maxL n ns := by
    rcases List.mem_cons.mp h1 with rfl | h
    · exact g2
    · exact g3 m h
  have a2 : maxL n ns ≤ m := by
    rcases g1 with h | h
    · rw [h]; exact h2 n List.mem_cons_self
    · exact h2 _ (List.mem_cons_of_mem _ h)
  omega
theorem min_uniq {n m : Int} {ns : List Int} (h1 : m ∈ n :: ns) (h2 : ∀ y, y ∈ n :: ns → m ≤ y) : m = minL n ns := by
  obtain ⟨g1, g2, g3⟩ := minL_spec ns n
  have a1 : minL n ns ≤ m := by
    rcases List.mem_cons.mp h1 with rfl | h
    · exact g2
    · exact g3 m h
  have a2 : m ≤ minL n ns := by
    rcases g1 with h | h
    · rw [h]; exact h2 n List.mem_cons_self
    · exact h2 _ (List.mem_cons_of_mem _ h)
  omega
theorem insI_perm (x : Int) : ∀ l : List Int, (insI x l).Perm (x :: l)
  | [] => .refl _
  | y :: r => by
    unfold insI
    split
    · exact .refl _
    · exact (List.Perm.cons y (insI_perm x r)).trans (.swap x y r)
theorem sortI_perm : ∀ l : List Int, (sortI l).Perm l
  | [] => .refl _
  | x :: r => (insI_perm x (sortI r)).trans (List.Perm.cons x (sortI_perm r))
theorem insI_sorted (x : Int) : ∀ l : List Int, l.Pairwise (· ≤ ·) → (insI x l).Pairwise (· ≤ ·)
  | [], _ => by simp [insI]
  | y :: r, h => by
    unfold insI
    have h' := List.pairwise_cons.mp h
    split
    · rename_i hxy
      refine List.pairwise_cons.mpr ⟨fun z hz => ?_, h⟩
      rcases List.mem_cons.mp hz with rfl | hz
      · exact hxy
      · exact Int.le_trans hxy (h'.1 z hz)
    · rename_i hxy
      refine List.pairwise_cons.mpr ⟨fun z hz => ?_, insI_sorted x r h'.2⟩
      rcases List.mem_cons.mp ((insI_perm x r).mem_iff.mp hz) with rfl | hz
      · omega
      · exact h'.1 z hz
theorem sortI_sorted : ∀ l : List Int, (sortI l).Pairwise (· ≤ ·)
  | [] => .nil
  | x :: r => insI_sorted x _ (sortI_sorted r)
theorem repl_one {K : PySem.W.Frag} {sp : Option Addr} {B : Hp} {vs : List V} {d : D} (r : RepL K sp B vs [d]) : ∃ v, vs = [v] ∧ Rep K sp B v d := by
  cases r with
  | cons h1 h2 => cases h2; exact ⟨_, rfl, h1⟩
theorem repl_two {K : PySem.W.Frag} {sp : Option Addr} {B : Hp} {vs : List V} {d d' : D} (r : RepL K sp B vs [d, d']) : ∃ v v', vs = [v, v'] ∧ Rep K sp B v d ∧ Rep K sp B v' d' := by
  cases r with
  | cons h1 h2 =>
    cases h2 with
    | cons h3 h4 => cases h4; exact ⟨_, _, rfl, h1, h3⟩
/-- the built-in behind a name -/
def biV : BI → Value
  | .len => .builtin "len" | .int => .type "int" | .sum => .builtin "sum" | .max => .builtin "max" | .min => .builtin "min" | .abs => .builtin "abs"
  | .all => .builtin "all" | .any => .builtin "any" | .tuple => .type "tuple" | .list => .type "list" | .gcd => .builtin "math.gcd" | .sorted => .builtin "sorted"
theorem bi_ok (hc : X.calm = true) {f : BI} {as : List D} {z : D} (h : biSem f as = some z) : CaD X (biV f) as z := by
  unfold biSem at h
  split at h
  · rename_i es
    cases h
    refine ⟨_, call_len_seq, fun sp B H k vs Q w s r q => ?_⟩
    obtain ⟨v, rfl, rv⟩ := repl_one r
    cases rv with
    | @lst p ys _ h1 h2 => exact ⟨p, ys, rfl, .inl (.inl (.inl (w.sub _ _ h1))), by rw [h2.len]; exact fin_d w s (.int _) q⟩
  · rename_i es
    cases h
    refine ⟨_, call_len_seq, fun sp B H k vs Q w s r q => ?_⟩
    obtain ⟨v, rfl, rv⟩ := repl_one r
    cases rv with
    | @tup p ys _ h1 h2 => exact ⟨p, ys, rfl, .inr (ext_t w.sub h1), by rw [h2.len]; exact fin_d w s (.int _) q⟩
  · rename_i es
    cases h
    refine ⟨_, call_len_seq, fun sp B H k vs Q w s r q => ?_⟩
    obtain ⟨v, rfl, rv⟩ := repl_one r
    cases rv with
    | @scr p ys _ h1 h2 => exact ⟨p, ys, rfl, .inl (ext_l w.sub h1), by rw [h2.len]; exact fin_d w s (.int _) q⟩
  · rename_i st
    split at h <;> cases h
    rename_i hz
    refine ⟨_, call_len_str, fun sp B H k vs Q w s r q => ?_⟩
    obtain ⟨v, rfl, rv⟩ := repl_one r
    cases rv
    exact ⟨st, rfl, line_of hz, fin_d w s (.int _) q⟩
  · rename_i i
    cases h
    refine ⟨_, call_int1, fun sp B H k vs Q w s r q => ?_⟩
    obtain ⟨v, rfl, rv⟩ := repl_one r
    cases rv
    exact .inl ⟨i, rfl, fin_d w s (.int _) q⟩
  · rename_i i
    cases h
    refine ⟨_, call_int1, fun sp B H k vs Q w s r q => ?_⟩
    obtain ⟨v, rfl, rv⟩ := repl_one r
    cases rv
    exact .inr ⟨i, rfl, fin_d w s (.int _) q⟩
  · rename_i es
    cases e : toInts es with
    | none => rw [e] at h; cases h
    | some ns =>
      rw [e] at h
      cases h
      obtain rfl := toInts_map e
      refine ⟨_, cr_sum hc, fun sp B H k vs Q w s r q => ?_⟩
      obtain ⟨v, rfl, rv⟩ := repl_one r
      cases rv with
      | @lst p ys _ h1 h2 =>
        obtain rfl := h2.ints
        exact ⟨p, ns, rfl, .inl (.inl (w.sub _ _ h1)), fin_d w s (.int _) q⟩
  · rename_i i j
    cases h
    refine ⟨_, call_max2 hc, fun sp B H k vs Q w s r q => ?_⟩
    obtain ⟨v, v', rfl, rv, rv'⟩ := repl_two r
    cases rv
    cases rv'
    exact ⟨i, j, rfl, fin_d w s (.int _) q⟩
  · rename_i es
    split at h
    · rename_i m ns e
      cases h
      obtain rfl := toInts_map e
      refine ⟨_, cr_max hc, fun sp B H k vs Q w s r q => ?_⟩
      obtain ⟨v, rfl, rv⟩ := repl_one r
      cases rv with
      | @lst p ys _ h1 h2 =>
        obtain rfl := h2.ints
        refine ⟨p, m :: ns, rfl, .inl (.inl (w.sub _ _ h1)), Nat.succ_pos _, fun mm e1 e2 => ?_⟩
        rw [max_uniq e1 e2]
        exact fin_d w s (.int _) q
    · cases h
  · rename_i i j
    cases h
    refine ⟨_, call_min2 hc, fun sp B H k vs Q w s r q => ?_⟩
    obtain ⟨v, v', rfl, rv, rv'⟩ := repl_two r
    cases rv
    cases rv'
    exact ⟨i, j, rfl, fin_d w s (.int _) q⟩
  · rename_i es
    split at h
    · rename_i m ns e
      cases h
      obtain rfl := toInts_map e
      refine ⟨_, cr_min hc, fun sp B H k vs Q w s r q => ?_⟩
      obtain ⟨v, rfl, rv⟩ := repl_one r
      cases rv with
      | @lst p ys _ h1 h2 =>
        obtain rfl := h2.ints
        refine ⟨p, m :: ns, rfl, .inl (.inl (w.sub _ _ h1)), Nat.succ_pos _, fun mm e1 e2 => ?_⟩
        rw [min_uniq e1 e2]
        exact fin_d w s (.int _) q
    · cases h
  · rename_i i
    cases h
    refine ⟨_, call_abs, fun sp B H k vs Q w s r q => ?_⟩
    obtain ⟨v, rfl, rv⟩ := repl_one r
    cases rv
    exact ⟨i, rfl, fin_d w s (.int _) q⟩
  · rename_i es
    cases e : toBls es with
    | none => rw [e] at h; cases h
    | some ns =>
      rw [e] at h
      cases h
      obtain rfl := toBls_map e
      refine ⟨_, cr_all hc, fun sp B H k vs Q w s r q => ?_⟩
      obtain ⟨v, rfl, rv⟩ := repl_one r
      cases rv with
      | @lst p ys _ h1 h2 =>
        obtain rfl := h2.bls
        exact ⟨p, ns, rfl, .inl (.inl (w.sub _ _ h1)), fin_d w s (.bl _) q⟩
  · rename_i es
    cases e : toBls es with
    | none => rw [e] at h; cases h
    | some ns =>
      rw [e] at h
      cases h
      obtain rfl := toBls_map e
      refine ⟨_, cr_any hc, fun sp B H k vs Q w s r q => ?_⟩
      obtain ⟨v, rfl, rv⟩ := repl_one r
      cases rv with
      | @lst p ys _ h1 h2 =>
        obtain rfl := h2.bls
        exact ⟨p, ns, rfl, .inl (.inl (w.sub _ _ h1)), fin_d w s (.bl _) q⟩
  · rename_i es
    cases h
    refine ⟨_, call_tuple_of, fun sp B H k vs Q w s r q => ?_⟩
    obtain ⟨v, rfl, rv⟩ := repl_one r
    cases rv with
    | @lst p ys _ h1 h2 => exact ⟨p, ys, rfl, .inl ⟨.inl (.inl (w.sub _ _ h1)), fun o ho => fin_new w s ho (rep_tup_new (B_none w ho) h2) q⟩⟩
  · rename_i es
    cases h
    refine ⟨_, call_tuple_of, fun sp B H k vs Q w s r q => ?_⟩
    obtain ⟨v, rfl, rv⟩ := repl_one r
    cases rv with
    | @tup p ys _ h1 h2 => exact ⟨p, ys, rfl, .inr ⟨ext_t w.sub h1, fin_d w s (.tup h1 h2) q⟩⟩
  · rename_i es
    cases h
    refine ⟨_, call_list_of, fun sp B H k vs Q w s r q => ?_⟩
    obtain ⟨v, rfl, rv⟩ := repl_one r
    cases rv with
    | @lst p ys _ h1 h2 => exact ⟨p, ys, rfl, .inl (.inl (.inl (w.sub _ _ h1))), fun o ho => fin_new w s ho (rep_lst_new (B_none w ho) h2) q⟩
  · rename_i es
    cases h
    refine ⟨_, call_list_of, fun sp B H k vs Q w s r q => ?_⟩
    obtain ⟨v, rfl, rv⟩ := repl_one r
    cases rv with
    | @tup p ys _ h1 h2 => exact ⟨p, ys, rfl, .inr (ext_t w.sub h1), fun o ho => fin_new w s ho (rep_lst_new (B_none w ho) h2) q⟩
  · rename_i i j
    cases h
    refine ⟨_, cr_gcd, fun sp B H k vs Q w s r q => ?_⟩
    obtain ⟨v, v', rfl, rv, rv'⟩ := repl_two r
    cases rv
    cases rv'
    exact ⟨i, j, rfl, fin_d w s (.int _) q⟩
  · rename_i es
    split at h
    · rename_i ns e
      split at h
      · rename_i h64
        cases h
        obtain rfl := toInts_map e
        refine ⟨_, cr_sorted, fun sp B H k vs Q w s r q => ?_⟩
        obtain ⟨v, rfl, rv⟩ := repl_one r
        cases rv with
        | @lst p ys _ h1 h2 =>
          obtain rfl := h2.ints
          refine ⟨p, ns, rfl, .inl (.inl (w.sub _ _ h1)), of_decide_eq_true h64, fun ns' o hp hs ho => ?_⟩
          have e2 : ns' = sortI ns := PySem.W.ksm_same (hp.trans (sortI_perm ns).symm) hs (sortI_sorted ns)
          rw [e2]
          exact fin_new w s ho (rep_lst_new (B_none w ho) (repl_ints _)) q
      · cases h
    · cases h
  · cases h
theorem d_bi (hx : XF Γ w0 ds n sc N X) {s : Str} {p : Pos} {f : BI} (hg : glob sc s = true) (hf : cBI s = some f) (hne : es ≠ []) (hes : ∀ e ∈ es, plainE e = true) (ha : PAD X c es xs) : PED X c (.Call (.Name s p) es [] pos) (.bi f xs) := by
  intro ρ mu k d k' he hav
  simp only [avE] at hav
  simp only [evE] at he
  split at he
  · cases he
  rename_i d1 k1 e1
  cases e2 : biSem f d1 with
  | none => rw [e2] at he; cases he
  | some z =>
    rw [e2] at he
    simp only [Option.map_some, Option.some.injEq, Prod.mk.injEq] at he
    obtain ⟨rfl, rfl⟩ := he
    obtain ⟨h1, h2, h3⟩ := glob_of hx hg
    obtain ⟨r, hr, hq⟩ := bi_ok hx.calm e2
    have rd : ∀ σ H Q, tD X.K ρ mu k z k1 σ H Q → tCB r (tDs X.K ρ mu k d1 k1) σ H Q := fun σ H Q ⟨sp, B, w, s, ri, q⟩ =>
      ⟨sp, B, w, s, ri, fun vs B1 H1 g1 s1 r1 => hq sp B1 H1 k1 vs Q g1.wd s1 r1 fun v B2 H2 g2 s2 r2 => q v B2 H2 (g1.trans g2) s2 r2⟩
    have hm : s ∈ biNames → X.mg s = none := fun hm => hx.F.bi s hm
    cases es with
    | nil => exact absurd rfl hne
    | cons e es =>
      have st := star_of (hes e List.mem_cons_self) es X.env
      have ns : (backTo pos (starEach es X.env)).any (·.1) = false := noStar_of fun u hu => hes u (List.mem_cons_of_mem _ hu)
      have hA := ha ρ mu k d1 k1 e1 hav
      unfold cBI at hf
      repeat' split at hf
      all_goals first
        | (cases hf; done)
        | (rename_i hs; have hs' := beq_iff_eq.mp hs; subst hs'; cases hf; exact (pe_callB hr h1 (hm (by decide +kernel)) (by decide +kernel) hA h3 h2 st ns).wk rd)
        | (rename_i hs; have hs' := beq_iff_eq.mp hs; subst hs'; cases hf; exact (pe_callTy hr h1 (hm (by decide +kernel)) (by decide +kernel) hA h3 h2 st ns).wk rd)
theorem d_gcd (hx : XF Γ w0 ds n sc N X) {s : Str} {p : Pos} (hg : glob sc s = true) (hf : s ∈ Γ.gcd) (hne : es ≠ []) (hes : ∀ e ∈ es, plainE e = true) (ha : PAD X c es xs) : PED X c (.Call (.Name s p) es [] pos) (.bi .gcd xs) := by
  intro ρ mu k d k' he hav
  simp only [avE] at hav
  simp only [evE] at he
  split at he
  · cases he
  rename_i d1 k1 e1
  cases e2 : biSem .gcd d1 with
  | none => rw [e2] at he; cases he
  | some z =>
    rw [e2] at he
    simp only [Option.map_some, Option.some.injEq, Prod.mk.injEq] at he
    obtain ⟨rfl, rfl⟩ := he
    obtain ⟨h1, h2, h3⟩ := glob_of hx hg
    obtain ⟨r, hr, hq⟩ := bi_ok hx.calm e2
    cases es with
    | nil => exact absurd rfl hne
    | cons e es =>
      have st := star_of (hes e List.mem_cons_self) es X.env
      have ns : (backTo pos (starEach es X.env)).any (·.1) = false := noStar_of fun u hu => hes u (List.mem_cons_of_mem _ hu)
      exact (pe_callBfun hr h1 (hx.F.gcd s hf) (ha ρ mu k d1 k1 e1 hav) h2 st ns).wk fun σ H Q ⟨sp, B, w, s, ri, q⟩ =>
        ⟨sp, B, w, s, ri, fun vs B1 H1 g1 s1 r1 => hq sp B1 H1 k1 vs Q g1.wd s1 r1 fun v B2 H2 g2 s2 r2 => q v B2 H2 (g1.trans g2) s2 r2⟩

/-! ### isinstance -/
def tyS : Nat → String
  | 0 => "int" | 1 => "bool" | 2 => "str" | 3 => "list" | _ => "tuple"
def dTy : D → Option String
  | .non => some "NoneType" | .bl _ => some "bool" | .int _ => some "int" | .str _ => some "str" | .tup _ => some "tuple" | .lst _ => some "list" | _ => none
theorem ty_rep {K : PySem.W.Frag} {sp : Option Addr} {B H : Hp} {v : V} {d : D} {s : String} (w : Wd sp B H) (r : Rep K sp B v d) (h : dTy d = some s) : TyX K H v (.type s) := by
  cases r with
  | non => cases h; exact .base .non
  | bl b => cases h; exact .base (.bl b)
  | int i => cases h; exact .base (.int i)
  | str x => cases h; exact .base (.str x)
  | @tup a xs es h1 h2 =>
    cases h
    rcases ext_t w.sub h1 with (h1 | ⟨o, h1⟩) | ⟨o, its, m, h1, h3, _⟩
    · exact .base (.tup h1)
    · exact .fTuple h1
    · exact .kTuple h1 h3
  | @lst a xs es h1 h2 => cases h; exact .base (.lst (w.sub _ _ h1))
  | scr _ _ => cases h
  | spot _ => cases h
theorem isOf_ty {d : D} {t : Nat} {bb : Bool} (ht : t ≤ 4) (h : isOf d t = some bb) : ∃ s, dTy d = some s ∧ kitB s (tyS t) = some bb := by
  have ht' : t = 0 ∨ t = 1 ∨ t = 2 ∨ t = 3 ∨ t = 4 := by omega
  cases d <;> simp only [isOf] at h <;> first | (cases h; done) | skip
  all_goals
    refine ⟨_, rfl, ?_⟩
    rcases ht' with rfl | rfl | rfl | rfl | rfl <;> (cases h; decide +kernel)
theorem isOfs_kit {K : PySem.W.Frag} {d : D} {s : String} (hs : dTy d = some s) : ∀ {ts : List Nat} {bb : Bool}, (∀ t ∈ ts, t ≤ 4) → isOfs d ts = some bb → PySem.W.kitAny K (.type s) (ts.map fun t => Value.type (tyS t)) = some bb
  | [], bb, _, h => by cases h; exact kitAny_nil
  | t :: ts, bb, ht, h => by
    simp only [isOfs] at h
    split at h
    · rename_i e
      cases h
      obtain ⟨s', h1, h2⟩ := isOf_ty (ht t List.mem_cons_self) e
      rw [hs] at h1; cases h1
      have h3 : PySem.W.kitOne K (.type s) (.type (tyS t)) = some true := kit_ty h2
      show (match PySem.W.kitOne K (.type s) (.type (tyS t)) with
        | some true => some true
        | some false => PySem.W.kitAny K (.type s) (ts.map fun t => Value.type (tyS t))
        | none => none) = some true
      rw [h3]
    · rename_i e
      obtain ⟨s', h1, h2⟩ := isOf_ty (ht t List.mem_cons_self) e
      rw [hs] at h1; cases h1
      exact kitAny_cons (kit_ty h2) (fun _ => isOfs_kit hs (fun t h => ht t (List.mem_cons_of_mem _ h)) h) (fun z => nomatch z)
    · cases h
theorem isOfs_dTy {d : D} {t : Nat} {ts : List Nat} {bb : Bool} (h : isOfs d (t :: ts) = some bb) : ∃ s, dTy d = some s := by
  cases d <;> simp [isOfs, isOf] at h <;> exact ⟨_, rfl⟩
theorem cTy_of (hx : XF Γ w0 ds n sc N X) {e : Expr} {t : Nat} (h : cTy sc e = some t) : t ≤ 4 ∧ plainE e = true ∧ PE X e (tC (.ty (tyS t))) := by
  cases e <;> simp only [cTy] at h <;> first | (cases h; done) | skip
  rename_i s p
  split at h
  · rename_i hg
    obtain ⟨h1, h2, h3⟩ := glob_of hx hg
    repeat' split at h
    all_goals first
      | (cases h; done)
      | (rename_i hs; have hs' := beq_iff_eq.mp hs; subst hs'; cases h; exact ⟨by decide, rfl, pe_bltn h1 (hx.F.bi _ (by decide +kernel)) (by decide +kernel) rfl h3 h2⟩)
  · cases h
theorem d_isi1 (hx : XF Γ w0 ds n sc N X) {s : Str} {p : Pos} {t : Expr} {u : Nat} (hg : glob sc s = true) (hs : (s == ("isinstance" : Str)) = true) (ha0 : plainE a = true) (ht : cTy sc t = some u) (ha : PED X c a x) : PED X c (.Call (.Name s p) [a, t] [] pos) (.isi x [u]) := by
  intro ρ mu k d k' he hav
  simp only [avE] at hav
  simp only [evE] at he
  split at he
  · cases he
  rename_i d1 k1 e1
  cases e2 : isOfs d1 [u] with
  | none => rw [e2] at he; cases he
  | some bb =>
    rw [e2] at he
    simp only [Option.map_some, Option.some.injEq, Prod.mk.injEq] at he
    obtain ⟨rfl, rfl⟩ := he
    obtain ⟨h1, h2, h3⟩ := glob_of hx hg
    have hs' := beq_iff_eq.mp hs
    subst hs'
    obtain ⟨q1, q2, q3⟩ := cTy_of hx ht
    obtain ⟨sd, hsd⟩ := isOfs_dTy e2
    have hk : PySem.W.kitOne X.K (.type sd) (.type (tyS u)) = some bb := by
      have e3 : isOf d1 u = some bb := by
        simp only [isOfs] at e2
        split at e2
        · cases e2; assumption
        · cases e2; assumption
        · cases e2
      obtain ⟨s', g1, g2⟩ := isOf_ty q1 e3
      rw [hsd] at g1; cases g1
      exact kit_ty g2
    refine (pe_callB call_isi h1 (hx.F.bi _ (by decide +kernel)) (by decide +kernel) (pa_cons (ha ρ mu k d1 k1 e1 hav) (pa_cons q3 pa_nil (star_of q2 [] X.env)) (star_of ha0 _ X.env)) h3 h2 (star_of ha0 _ X.env) (noStar_of fun z hz => by
      rcases List.mem_cons.mp hz with rfl | hz
      · exact q2
      · cases hz)).wk fun σ H Q ⟨sp, B, w, s, ri, q⟩ => ⟨sp, B, w, s, ri, fun v B1 H1 g1 s1 r1 => ?_⟩
    exact ⟨v, .ty (tyS u), .type sd, .type (tyS u), bb, rfl, .ty _, ty_rep g1.wd r1 hsd, hk, q _ B1 H1 g1 s1 (.bl bb)⟩
theorem tys_pa (hx : XF Γ w0 ds n sc N X) : ∀ {ts : List Expr} {us : List Nat}, mapO (cTy sc) ts = some us → (∀ u ∈ us, u ≤ 4) ∧ (∀ e ∈ ts, plainE e = true) ∧ PA X ts (fun σ H Q => Q (us.map fun t => V.ty (tyS t)) H)
  | [], us, h => by cases h; exact ⟨(fun _ z => nomatch z), (fun _ z => nomatch z), pa_nil⟩
  | t :: ts, us, h => by
    obtain ⟨u, vs, h1, h2, rfl⟩ := mapO_cons h
    obtain ⟨q1, q2, q3⟩ := cTy_of hx h1
    obtain ⟨g1, g2, g3⟩ := tys_pa hx h2
    refine ⟨fun z hz => ?_, fun z hz => ?_, (pa_cons q3 g3 (star_of q2 ts X.env)).wk fun σ H Q h => h⟩
    · rcases List.mem_cons.mp hz with rfl | hz
      · exact q1
      · exact g1 z hz
    · rcases List.mem_cons.mp hz with rfl | hz
      · exact q2
      · exact g2 z hz
theorem clsv_all : ∀ us : List Nat, Paired ClsV (us.map fun t => V.ty (tyS t)) (us.map fun t => Value.type (tyS t))
  | [] => .nil
  | u :: us => .cons (.ty _) (clsv_all us)
theorem d_isiT (hx : XF Γ w0 ds n sc N X) {s : Str} {p : Pos} {ts : List Expr} {j : Nat} {p2 : Pos} {us : List Nat} (hg : glob sc s = true) (hs : (s == ("isinstance" : Str)) = true) (ha0 : plainE a = true) (hne : us ≠ []) (hlen : us.length ≤ sizeLine) (ht : mapO (cTy sc) ts = some us) (ha : PED X c a x) :
    PED X c (.Call (.Name s p) [a, .Tuple ts j p2] [] pos) (.isi x us) := by
  intro ρ mu k d k' he hav
  simp only [avE] at hav
  simp only [evE] at he
  split at he
  · cases he
  rename_i d1 k1 e1
  cases e2 : isOfs d1 us with
  | none => rw [e2] at he; cases he
  | some bb =>
    rw [e2] at he
    simp only [Option.map_some, Option.some.injEq, Prod.mk.injEq] at he
    obtain ⟨rfl, rfl⟩ := he
    obtain ⟨h1, h2, h3⟩ := glob_of hx hg
    have hs' := beq_iff_eq.mp hs
    subst hs'
    obtain ⟨q1, q2, q3⟩ := tys_pa hx ht
    cases us with
    | nil =>
      -- isinstance(x, ()): the empty tuple
      simp only [isOfs, Option.some.injEq] at e2
      subst e2
      exact absurd rfl hne
    | cons u us =>
    obtain ⟨sd, hsd⟩ := isOfs_dTy e2
    refine (pe_callB call_isiT h1 (hx.F.bi _ (by decide +kernel)) (by decide +kernel) (pa_cons (ha ρ mu k d1 k1 e1 hav) (pa_cons (pe_tup q3) pa_nil rfl) (star_of ha0 _ X.env)) h3 h2 (star_of ha0 _ X.env) rfl).wk fun σ H Q ⟨sp, B, w, s, ri, q⟩ => ⟨sp, B, w, s, ri, fun v B1 H1 g1 s1 r1 => ?_⟩
    refine ⟨by rw [List.length_map]; exact hlen, fun o ho => ?_⟩
    refine ⟨v, o, (u :: us).map (fun t => V.ty (tyS t)), .type sd, _, bb, rfl, upd_same, clsv_all (u :: us), ty_rep (Ge.newOut g1.wd s1 ho).wd r1 hsd, isOfs_kit hsd q1 e2, ?_⟩
    exact q _ B1 _ (g1.trans (Ge.newOut g1.wd s1 ho)) (s1.ge ho) (.bl bb)
end
end Mini
namespace Mini
open PySem PySem.Spec PyProof.Rows L2
section
variable {X : Cx} {c : Call} {Γ : CT} {w0 n : Nat} {ds : List Def} {sc : Scope} {N : List Str}
variable {a b e t : Expr} {x y z : E} {pos : Pos} {es : List Expr} {xs : Es}

/-! ### targets -/
def TOk (X : Cx) (sc : Scope) : Prop := ∀ s, isLoc sc s = true → Loc X.env.scope s ∧ (X.fn s = true ∨ X.env.scope.names.lookup s = some .local)
/-- the slots at ts are stored, the others stay -/
structure Upd' (K : PySem.W.Frag) (sp : Option Addr) (B : Hp) (ts : List Nat) (ρ ρ' : Rho) (σ σ' : L2.St) : Prop where
  l1 : σ'.length = σ.length
  l2 : ρ'.length = ρ.length
  old : ∀ i, i ∉ ts → σ'[i]? = σ[i]? ∧ ρ'[i]? = ρ[i]?
  new : ∀ i d, i ∈ ts → ρ'[i]? = some (some d) → (∃ v, σ'[i]? = some (some v) ∧ Rep K sp B v d)
theorem Upd'.refl {K : PySem.W.Frag} {sp : Option Addr} {B : Hp} {ρ : Rho} {σ : L2.St} : Upd' K sp B [] ρ ρ σ σ := ⟨rfl, rfl, fun _ _ => ⟨rfl, rfl⟩, fun _ _ h => by cases h⟩
theorem Upd'.trans {K : PySem.W.Frag} {sp : Option Addr} {B : Hp} {ts us : List Nat} {ρ ρ1 ρ2 : Rho} {σ σ1 σ2 : L2.St} (a : Upd' K sp B ts ρ ρ1 σ σ1) (b : Upd' K sp B us ρ1 ρ2 σ1 σ2) : Upd' K sp B (ts ++ us) ρ ρ2 σ σ2 := by
  refine ⟨b.l1.trans a.l1, b.l2.trans a.l2, fun i hi => ?_, fun i d hi h => ?_⟩
  · simp only [List.mem_append, not_or] at hi
    exact ⟨(b.old i hi.2).1.trans (a.old i hi.1).1, (b.old i hi.2).2.trans (a.old i hi.1).2⟩
  · by_cases hu : i ∈ us
    · exact b.new i d hu h
    · have ho := b.old i hu
      rw [ho.2] at h
      rw [ho.1]
      exact a.new i d ((List.mem_append.mp hi).resolve_right hu) h
def PGD (X : Cx) (e : Expr) (tg : Tg) : Prop := ∃ g, PG X e g ∧ ∀ sp B v d ρ ρ' σ H (Q : L2.St → Hp → Prop), Ext B H → σ.length = ρ.length → Rep X.K sp B v d → asg tg d ρ = some ρ' → (∀ σ', Upd' X.K sp B (tgSlots tg) ρ ρ' σ σ' → Q σ' H) → g v σ H Q
def PGDs (X : Cx) (es : List Expr) (tg : Tgs) : Prop := ∃ g, PGs X es g ∧ ∀ sp B vs ds ρ ρ' σ H (Q : L2.St → Hp → Prop), Ext B H → σ.length = ρ.length → RepL X.K sp B vs ds → asgs tg ds ρ = some ρ' → (∀ σ', Upd' X.K sp B (tgsSlots tg) ρ ρ' σ σ' → Q σ' H) → g vs σ H Q
theorem slotL_of {s : Str} {i : Nat} (h : slotL sc N s = some i) : isLoc sc s = true ∧ N[i]? = some s := by
  unfold slotL at h
  split at h
  · rename_i hv
    simp only [Bool.and_eq_true] at hv
    exact ⟨hv.1, ix_get h⟩
  · cases h
theorem g_name (hn : X.N = N) (nd : N.Nodup) (ht : TOk X sc) {s : Str} {p : Pos} {i : Nat} (h : slotL sc N s = some i) : PGD X (.Name s p) (.name i) := by
  obtain ⟨h1, h2⟩ := slotL_of h
  obtain ⟨h3, h4⟩ := ht s h1
  refine ⟨gName i, pg_name (by rw [hn]; exact nd) (by rw [hn]; exact h2) h3 h4, fun sp B v d ρ ρ' σ H Q w hl r he q => ?_⟩
  simp only [asg, Option.some.injEq] at he
  subst he
  refine q _ ⟨by simp, by simp, fun j hj => ?_, fun j d' hj h => ?_⟩
  · simp only [tgSlots, List.mem_singleton] at hj
    exact ⟨List.getElem?_set_ne (Ne.symm hj), List.getElem?_set_ne (Ne.symm hj)⟩
  · simp only [tgSlots, List.mem_singleton] at hj
    subst hj
    by_cases hj : j < ρ.length
    · rw [List.getElem?_set_self hj] at h
      cases h
      exact ⟨v, List.getElem?_set_self (by omega), r⟩
    · rw [List.getElem?_eq_none (by simpa using hj)] at h
      cases h
theorem plainTg_assign {e : Expr} {tg : Tg} {m : Nat} (h : cTg sc N m e = some tg) (es : List Expr) (env : Env) : assignEach (e :: es) env = (false, assign e env) :: assignEach es env := by
  cases m with
  | zero => simp [cTg] at h
  | succ m => cases e <;> first | rfl | (simp [cTg] at h)
theorem cTg_ok (hn : X.N = N) (nd : N.Nodup) (hc : X.calm = true) (ht : TOk X sc) : ∀ (m : Nat) (e : Expr) (tg : Tg), cTg sc N m e = some tg → PGD X e tg := by
  intro m
  induction m with
  | zero => intro e tg h; simp [cTg] at h
  | succ m ih =>
    intro e tg h
    cases e <;> simp only [cTg] at h <;> first | (cases h; done) | skip
    · rename_i s p
      cases e1 : slotL sc N s with
      | none => rw [e1] at h; cases h
      | some i =>
        rw [e1] at h
        simp only [Option.map_some, Option.some.injEq] at h
        subst h
        exact g_name hn nd ht e1
    · rename_i es j p
      cases e1 : mapO (cTg sc N m) es with
      | none => rw [e1] at h; cases h
      | some ts =>
        rw [e1] at h
        simp only [Option.map_some, Option.some.injEq] at h
        subst h
        have all : ∀ (es : List Expr) (ts : List Tg), mapO (cTg sc N m) es = some ts → PGDs X es (ts.foldr Tgs.cons .nil) ∧ (assignEach es X.env).length = es.length ∧ (assignEach es X.env).findIdx? (·.1) = none ∧ ts.length = es.length ∧
            ∀ (ds : List D) (ρ ρ' : Rho), asgs (ts.foldr Tgs.cons .nil) ds ρ = some ρ' → ds.length = es.length := by
          intro es
          induction es with
          | nil =>
            intro ts h
            cases h
            refine ⟨⟨gNil, pgs_nil, fun sp B vs ds ρ ρ' σ H Q w hl r he q => ?_⟩, rfl, rfl, rfl, fun ds ρ ρ' he => ?_⟩
            · cases ds with
              | nil => cases he; cases r; exact ⟨rfl, q σ Upd'.refl⟩
              | cons d ds => cases he
            · cases ds with
              | nil => rfl
              | cons d ds => cases he
          | cons e es ihe =>
            intro ts h
            obtain ⟨u, us, h1, h2, rfl⟩ := mapO_cons h
            obtain ⟨⟨g2, hg2, hq2⟩, hl2, hf2, hl3, hd3⟩ := ihe us h2
            obtain ⟨g1, hg1, hq1⟩ := ih e u h1
            have ha := plainTg_assign h1 es X.env
            refine ⟨⟨gCons g1 g2, pgs_cons hg1 hg2 (by rw [ha]; rfl), fun sp B vs ds ρ ρ' σ H Q w hl r he q => ?_⟩, by rw [ha]; simp [hl2], by rw [ha]; simp [List.findIdx?_cons, hf2], by simp [hl3], fun ds ρ ρ' he => ?_⟩
            · cases ds with
              | nil => cases he
              | cons d ds =>
                cases r with
                | cons r1 r2 =>
                  simp only [List.foldr_cons, asgs] at he
                  cases e5 : asg u d ρ with
                  | none => rw [e5] at he; cases he
                  | some ρ1 =>
                    rw [e5] at he
                    simp only [Option.bind_some] at he
                    refine ⟨_, _, rfl, hq1 sp B _ d ρ ρ1 σ H _ w hl r1 e5 fun σ1 u1 => ?_⟩
                    refine hq2 sp B _ ds ρ1 ρ' σ1 H _ w (by rw [u1.l1, u1.l2]; exact hl) r2 he fun σ2 u2 => ?_
                    exact q σ2 (u1.trans u2)
            · cases ds with
              | nil => cases he
              | cons d ds =>
                simp only [List.foldr_cons, asgs] at he
                cases e5 : asg u d ρ with
                | none => rw [e5] at he; cases he
                | some ρ1 =>
                  rw [e5] at he
                  simp only [Option.bind_some] at he
                  simp [hd3 ds ρ1 ρ' he]
        obtain ⟨⟨g, hg, hq⟩, hl, hf, hl3, hd3⟩ := all es ts e1
        refine ⟨gTup X.K es.length g, pg_tup hc hg hl hf, fun sp B v d ρ ρ' σ H Q w hlen r he q => ?_⟩
        cases d <;> simp only [asg] at he <;> first | (cases he; done) | skip
        rename_i ds
        cases r with
        | @tup a vs _ h1 h2 =>
          refine ⟨a, vs, rfl, ext_t w h1, by rw [h2.len]; exact hd3 ds ρ ρ' he, hq sp B vs ds ρ ρ' σ H Q w hlen h2 he q⟩

mutual
theorem Rep.sp {K : PySem.W.Frag} {sp : Option Addr} {H : Hp} : ∀ (d : D) (v : V), Rep K none H v d → Rep K sp H v d
  | .non, _, h => by cases h; exact .non
  | .bl b, _, h => by cases h; exact .bl b
  | .int i, _, h => by cases h; exact .int i
  | .str x, _, h => by cases h; exact .str x
  | .tup ds, _, h => by
    cases h with
    | tup h1 h2 => exact .tup h1 (RepL.sp ds _ h2)
  | .lst ds, _, h => by
    cases h with
    | lst h1 h2 => exact .lst h1 (RepL.sp ds _ h2)
  | .scr ds, _, h => by
    cases h with
    | scr h1 h2 => exact .scr h1 (RepL.sp ds _ h2)
  | .spot, _, h => by
    cases h with
    | spot h => cases h
theorem RepL.sp {K : PySem.W.Frag} {sp : Option Addr} {H : Hp} : ∀ (ds : List D) (vs : List V), RepL K none H vs ds → RepL K sp H vs ds
  | [], _, h => by cases h; exact .nil
  | d :: ds, _, h => by
    cases h with
    | cons h1 h2 => exact .cons (Rep.sp d _ h1) (RepL.sp ds _ h2)
end
def SpLe (a b : Option Addr) : Prop := a = b ∨ a = none
theorem SpLe.refl (a : Option Addr) : SpLe a a := .inl rfl
theorem SpLe.trans {a b c : Option Addr} (h : SpLe a b) (g : SpLe b c) : SpLe a c := by
  rcases h with rfl | rfl
  · exact g
  · exact .inr rfl
theorem Rep.le {K : PySem.W.Frag} {a b : Option Addr} {H : Hp} {v : V} {d : D} (h : SpLe a b) (r : Rep K a H v d) : Rep K b H v d := by
  rcases h with rfl | rfl
  · exact r
  · exact Rep.sp d v r
theorem RepL.le {K : PySem.W.Frag} {a b : Option Addr} {H : Hp} {v : List V} {d : List D} (h : SpLe a b) (r : RepL K a H v d) : RepL K b H v d := by
  rcases h with rfl | rfl
  · exact r
  · exact RepL.sp d v r


structure Lt (sp : Option Addr) (B : Hp) (sp1 : Option Addr) (B1 H1 : Hp) : Prop where
  sp : SpLe sp sp1
  bb : Ext B B1
  wd : Wd sp1 B1 H1
theorem Lt.refl {sp : Option Addr} {B H : Hp} (w : Wd sp B H) : Lt sp B sp B H := ⟨.refl _, Ext.refl _, w⟩
theorem Ge.lt {sp : Option Addr} {B H B' H' : Hp} (g : Ge sp B H B' H') : Lt sp B sp B' H' := ⟨.refl _, g.bb, g.wd⟩
/-! ### what is walked -/
def ItD (K : PySem.W.Frag) (sp : Option Addr) (J : It) (B H : Hp) (es : List D) : Prop :=
  ∀ sp1 B1 H1 k, Lt sp B sp1 B1 H1 → SpotAt sp1 k H1 → (∀ i d, es[i]? = some d → J.go i H1 ∧ ∀ v H2, J.yld i H1 v H2 → ∃ B2, Ge sp1 B1 H1 B2 H2 ∧ SpotAt sp1 k H2 ∧ Rep K sp1 B2 v d) ∧ J.stop es.length H1
def tI (K : PySem.W.Frag) (ρ : Rho) (mu : List Nat) (k : Ky) (es : List D) (k' : Ky) : TI := fun σ H R =>
  ∃ sp B, Wd sp B H ∧ SpotAt sp k H ∧ RI K sp B mu ρ σ ∧ ∀ J B' H', Ge sp B H B' H' → SpotAt sp k' H' → ItD K sp J B' H' es → R J H'
theorem _root_.L2.PI.wk {X : Cx} {tg e : Expr} {t t' : TI} (h : PI X tg e t) (w : ∀ σ H Q, t' σ H Q → t σ H Q) : PI X tg e t' := ⟨fun pins s σ H Q I hw => h.run pins s σ H Q I (w _ _ _ hw)⟩
def PID (X : Cx) (c : Call) (tg e : Expr) (il : I) : Prop := ∀ ρ mu k es k', evI c il ρ k = some (es, k') → avI mu il = true → PI X tg e (tI X.K ρ mu k es k')
theorem itd_l {K : PySem.W.Frag} {sp : Option Addr} {B H : Hp} {p : Addr} {vs : List V} {es : List D} (w : Wd sp B H) (h : SqL K B p vs) (r : RepL K sp B vs es) : ItD K sp (Itl K p) B H es := by
  intro sp1 B1 H1 k g s
  have h1 : SqL K H1 p vs := ext_l g.wd.sub (ext_l g.bb h)
  refine ⟨fun i d hi => ?_, ⟨vs, h1, by rw [r.len]; exact Nat.le_refl _⟩⟩
  obtain ⟨v, hv, rv⟩ := r.get hi
  refine ⟨⟨vs, v, h1, hv⟩, fun v' H2 ⟨e1, e2⟩ => ?_⟩
  subst e1
  have := e2 vs h1
  rw [hv] at this
  cases this
  exact ⟨B1, Ge.refl g.wd, s, Rep.le g.sp (Rep.ext g.bb _ _ rv)⟩
theorem itd_t {K : PySem.W.Frag} {sp : Option Addr} {B H : Hp} {p : Addr} {vs : List V} {es : List D} (w : Wd sp B H) (h : SqT K B p vs) (r : RepL K sp B vs es) : ItD K sp (Itt K p) B H es := by
  intro sp1 B1 H1 k g s
  have h1 : SqT K H1 p vs := ext_t g.wd.sub (ext_t g.bb h)
  refine ⟨fun i d hi => ?_, ⟨vs, h1, by rw [r.len]; exact Nat.le_refl _⟩⟩
  obtain ⟨v, hv, rv⟩ := r.get hi
  refine ⟨⟨vs, v, h1, hv⟩, fun v' H2 ⟨e1, e2⟩ => ?_⟩
  subst e1
  have := e2 vs h1
  rw [hv] at this
  cases this
  exact ⟨B1, Ge.refl g.wd, s, Rep.le g.sp (Rep.ext g.bb _ _ rv)⟩
theorem i_seq (ha : PED X c a x) : PID X c t a (.seq x) := by
  intro ρ mu k es k' he hav
  simp only [avI] at hav
  simp only [evI] at he
  split at he
  · cases he
  rename_i d1 k1 e1
  have hA := ha ρ mu k d1 k1 e1 hav
  cases d1 <;> simp only [items, Option.map_some, Option.map_none, Option.some.injEq, Prod.mk.injEq] at he <;> first | (cases he; done) | skip
  · rename_i st
    obtain ⟨rfl, rfl⟩ := he
    refine (pi_str hA).wk fun σ H R ⟨sp, B, w, s, ri, q⟩ => ⟨sp, B, w, s, ri, fun v B1 H1 g1 s1 r1 => ?_⟩
    cases r1
    refine ⟨st, rfl, q _ B1 H1 g1 s1 fun sp2 B2 H2 k g s => ⟨fun i d hi => ?_, ?_⟩⟩
    · rw [List.getElem?_map] at hi
      cases e2 : st.cps.toList[i]? with
      | none => rw [e2] at hi; cases hi
      | some ch =>
        rw [e2] at hi
        cases hi
        have e3 : st.cps[i]? = some ch := by simpa using e2
        refine ⟨?_, fun v' H3 ⟨e4, ch', e5, e6⟩ => ?_⟩
        · have := (Array.getElem?_eq_some_iff.mp e3).1
          exact this
        · subst e4
          rw [e3] at e5
          cases e5
          subst e6
          exact ⟨B2, Ge.refl g.wd, s, .str _⟩
    · show st.cps.size ≤ _
      simp
  · obtain ⟨rfl, rfl⟩ := he
    refine (pi_tup hA).wk fun σ H R ⟨sp, B, w, s, ri, q⟩ => ⟨sp, B, w, s, ri, fun v B1 H1 g1 s1 r1 => ?_⟩
    cases r1 with
    | @tup p vs _ h1 h2 => exact ⟨p, rfl, ⟨vs, ext_t g1.wd.sub h1⟩, q _ B1 H1 g1 s1 (itd_t g1.wd h1 h2)⟩
  · obtain ⟨rfl, rfl⟩ := he
    refine (pi_list hA).wk fun σ H R ⟨sp, B, w, s, ri, q⟩ => ⟨sp, B, w, s, ri, fun v B1 H1 g1 s1 r1 => ?_⟩
    cases r1 with
    | @lst p vs _ h1 h2 => exact ⟨p, rfl, ⟨vs, .inl (.inl (g1.wd.sub _ _ h1))⟩, q _ B1 H1 g1 s1 (itd_l g1.wd (.inl (.inl h1)) h2)⟩
  · obtain ⟨rfl, rfl⟩ := he
    refine (pi_list hA).wk fun σ H R ⟨sp, B, w, s, ri, q⟩ => ⟨sp, B, w, s, ri, fun v B1 H1 g1 s1 r1 => ?_⟩
    cases r1 with
    | @scr p vs _ h1 h2 => exact ⟨p, rfl, ⟨vs, ext_l g1.wd.sub h1⟩, q _ B1 H1 g1 s1 (itd_l g1.wd h1 h2)⟩
theorem itd_r {K : PySem.W.Frag} {sp : Option Addr} {B H : Hp} {lo : Int} {m : Nat} : ItD K sp (Itr lo m) B H (rngL lo 1 m) := by
  intro sp1 B1 H1 k g s
  refine ⟨fun i d hi => ?_, by show m ≤ _; simp [rngL]⟩
  unfold rngL at hi
  rw [List.getElem?_map] at hi
  by_cases h : i < m
  · rw [List.getElem?_range h] at hi
    cases hi
    refine ⟨h, fun v H2 ⟨e1, e2⟩ => ?_⟩
    subst e1 e2
    exact ⟨B1, Ge.refl g.wd, s, by dsimp only; rw [Int.mul_one]; exact .int _⟩
  · rw [List.getElem?_eq_none (by simpa using h)] at hi
    cases hi
theorem itd_rc {K : PySem.W.Frag} {sp : Option Addr} {B H : Hp} {lo st : Int} {m : Nat} : ItD K sp (Itc lo st m) B H (rngL lo st m) := by
  intro sp1 B1 H1 k g s
  refine ⟨fun i d hi => ?_, by show m ≤ _; simp [rngL]⟩
  unfold rngL at hi
  rw [List.getElem?_map] at hi
  by_cases h : i < m
  · rw [List.getElem?_range h] at hi
    cases hi
    refine ⟨h, fun v H2 ⟨e1, e2⟩ => ?_⟩
    subst e1 e2
    exact ⟨B1, Ge.refl g.wd, s, .int _⟩
  · rw [List.getElem?_eq_none (by simpa using h)] at hi
    cases hi
theorem i_rng1 (hx : XF Γ w0 ds n sc N X) {p : Pos} (hg : glob sc ("range" : Str) = true) (h1 : plainE a = true) (ha : PED X c a x) : PID X c t (.Call (.Name ("range" : Str) p) [a] [] pos) (.rng (.cons x .nil)) := by
  intro ρ mu k es k' he hav
  simp only [avI] at hav
  simp only [evI] at he
  split at he
  · cases he
  rename_i d1 k1 e1
  have hA := (a_cons h1 ha a_nil) ρ mu k d1 k1 e1 hav
  obtain ⟨g1, g2, g3⟩ := glob_of hx hg
  simp only [evEs] at e1
  split at e1
  · cases e1
  rename_i d2 k2 e2
  cases e1
  cases d2 <;> simp only [rngSem, Option.map_none] at he <;> first | (cases he; done) | skip
  rename_i j
  split at he <;> simp only [Option.map_some, Option.map_none, Option.some.injEq, Prod.mk.injEq] at he <;> first | (cases he; done) | skip
  rename_i hj
  obtain ⟨rfl, rfl⟩ := he
  simp only [rng62, Bool.and_eq_true, decide_eq_true_eq] at hj
  refine (pi_range1 g1 (hx.F.bi _ (by decide +kernel)) hA (star_of h1 [] X.env)).wk fun σ H R ⟨sp, B, w, s, ri, q⟩ => ⟨sp, B, w, s, ri, fun vs B1 H1 g1 s1 r1 => ?_⟩
  obtain ⟨v, rfl, rv⟩ := repl_one r1
  cases rv
  exact ⟨j, rfl, by omega, by omega, q _ B1 H1 g1 s1 itd_r⟩
theorem i_rng2 (hx : XF Γ w0 ds n sc N X) {p : Pos} (hg : glob sc ("range" : Str) = true) (h1 : plainE a = true) (h2 : plainE b = true) (ha : PED X c a x) (hb : PED X c b y) : PID X c t (.Call (.Name ("range" : Str) p) [a, b] [] pos) (.rng (.cons x (.cons y .nil))) := by
  intro ρ mu k es k' he hav
  simp only [avI] at hav
  simp only [evI] at he
  split at he
  · cases he
  rename_i d1 k1 e1
  have hA := (a_cons h1 ha (a_cons h2 hb a_nil)) ρ mu k d1 k1 e1 hav
  obtain ⟨g1, g2, g3⟩ := glob_of hx hg
  simp only [evEs] at e1
  split at e1
  · cases e1
  rename_i d2 k2 e2
  split at e1
  · cases e1
  rename_i d3 k3 e3
  split at e3
  · cases e3
  rename_i d4 k4 e4
  cases e3
  cases e1
  cases d2 <;> cases d4 <;> simp only [rngSem, Option.map_none] at he <;> first | (cases he; done) | skip
  rename_i i j
  split at he <;> simp only [Option.map_some, Option.map_none, Option.some.injEq, Prod.mk.injEq] at he <;> first | (cases he; done) | skip
  rename_i hj
  obtain ⟨rfl, rfl⟩ := he
  simp only [rng62, Bool.and_eq_true, decide_eq_true_eq] at hj
  refine (pi_range2 g1 (hx.F.bi _ (by decide +kernel)) hA (by rw [star_of h1, star_of h2]; rfl) (by rw [star_of h2]; rfl)).wk fun σ H R ⟨sp, B, w, s, ri, q⟩ => ⟨sp, B, w, s, ri, fun vs B1 H1 g1 s1 r1 => ?_⟩
  obtain ⟨v, v', rfl, rv, rv'⟩ := repl_two r1
  cases rv
  cases rv'
  exact ⟨i, j, rfl, by omega, q _ B1 H1 g1 s1 itd_r⟩
theorem i_rng3 (hx : XF Γ w0 ds n sc N X) {p : Pos} (hg : glob sc ("range" : Str) = true) (h1 : plainE a = true) (h2 : plainE b = true) (h3 : plainE e = true) (ha : PED X c a x) (hb : PED X c b y) (hc : PED X c e z) :
    PID X c t (.Call (.Name ("range" : Str) p) [a, b, e] [] pos) (.rng (.cons x (.cons y (.cons z .nil)))) := by
  intro ρ mu k es k' he hav
  simp only [avI] at hav
  simp only [evI] at he
  split at he
  · cases he
  rename_i d1 k1 e1
  have hA := (a_cons h1 ha (a_cons h2 hb (a_cons h3 hc a_nil))) ρ mu k d1 k1 e1 hav
  obtain ⟨g1, g2, g3⟩ := glob_of hx hg
  simp only [evEs] at e1
  split at e1
  · cases e1
  rename_i d2 k2 e2
  split at e1
  · cases e1
  rename_i d3 k3 e3
  split at e3
  · cases e3
  rename_i d4 k4 e4
  split at e3
  · cases e3
  rename_i d5 k5 e5
  split at e5
  · cases e5
  rename_i d6 k6 e6
  cases e5
  cases e3
  cases e1
  cases d2 <;> cases d4 <;> cases d6 <;> simp only [rngSem, Option.map_none] at he <;> first | (cases he; done) | skip
  rename_i i j st
  split at he <;> simp only [Option.map_some, Option.map_none, Option.some.injEq, Prod.mk.injEq] at he <;> first | (cases he; done) | skip
  rename_i hj
  obtain ⟨rfl, rfl⟩ := he
  simp only [Bool.and_eq_true, decide_eq_true_eq] at hj
  refine (pi_range3 g1 (hx.F.bi _ (by decide +kernel)) hA (star_of h1 _ X.env) (noStar_of fun u hu => by
    rcases List.mem_cons.mp hu with rfl | hu
    · exact h2
    · rcases List.mem_cons.mp hu with rfl | hu
      · exact h3
      · cases hu)).wk fun σ H R ⟨sp, B, w, s, ri, q⟩ => ⟨sp, B, w, s, ri, fun vs B1 H1 g1 s1 r1 => ?_⟩
  cases r1 with
  | cons q1 r1 =>
    obtain ⟨v, v', rfl, rv, rv'⟩ := repl_two r1
    cases q1
    cases rv
    cases rv'
    exact ⟨i, j, st, _, rfl, ⟨hj.1.1.1, hj.1.1.2, hj.1.2, by omega⟩, q _ B1 H1 g1 s1 itd_rc⟩
theorem enumL_get : ∀ {es : List D} {i : Nat} {m : Nat} {d : D}, (enumL m es)[i]? = some d → ∃ d', es[i]? = some d' ∧ d = .tup [.int ((m + i : Nat) : Int), d']
  | [], i, m, d, h => by simp [enumL] at h
  | d0 :: es, 0, m, d, h => by simp [enumL] at h; exact ⟨d0, rfl, h.symm⟩
  | d0 :: es, i + 1, m, d, h => by
    simp only [enumL, List.getElem?_cons_succ] at h
    obtain ⟨d', h1, h2⟩ := enumL_get h
    exact ⟨d', by simpa using h1, by rw [h2, show m + 1 + i = m + (i + 1) by omega]⟩
theorem enumL_len : ∀ (es : List D) (m : Nat), (enumL m es).length = es.length
  | [], _ => rfl
  | _ :: es, m => by simp [enumL, enumL_len es (m + 1)]
theorem i_enum (hx : XF Γ w0 ds n sc N X) {p tpos : Pos} {elts : List Expr} {kk : Nat} (hg : glob sc ("enumerate" : Str) = true) (h1 : plainE a = true) (ha : PED X c a x) : PID X c (.Tuple elts kk tpos) (.Call (.Name ("enumerate" : Str) p) [a] [] pos) (.enum x) := by
  intro ρ mu k es k' he hav
  simp only [avI] at hav
  simp only [evI] at he
  obtain ⟨g1, g2, g3⟩ := glob_of hx hg
  split at he <;> first | (cases he; done) | skip
  rename_i ls k1 e1
  cases he
  have hA := (a_cons h1 ha a_nil) ρ mu k [.lst ls] _ (by simp only [evEs]; rw [e1]) (by simp only [avEs, hav]; rfl)
  refine (pi_enum g1 (hx.F.bi _ (by decide +kernel)) hA (star_of h1 [] X.env)).wk fun σ H R ⟨sp, B, w, s, ri, q⟩ => ⟨sp, B, w, s, ri, fun vs B1 H1 g1 s1 r1 => ?_⟩
  obtain ⟨v, rfl, rv⟩ := repl_one r1
  cases rv with
  | @lst p vs _ h1 h2 =>
    refine ⟨p, vs, rfl, .inl (.inl (g1.wd.sub _ _ h1)), q _ B1 H1 g1 s1 fun sp2 B2 H2 k g s => ⟨fun i d hi => ?_, ?_⟩⟩
    · have hq : SqL X.K H2 p vs := .inl (.inl (g.wd.sub _ _ (g.bb _ _ h1)))
      obtain ⟨d', hd, rfl⟩ := enumL_get hi
      obtain ⟨v, hv, rv⟩ := h2.get hd
      refine ⟨⟨vs, v, hq, hv⟩, fun v' H3 ⟨T, u, e2, hT, e3, e4⟩ => ?_⟩
      subst e2 e3
      have := e4 vs hq
      rw [hv] at this
      cases this
      refine ⟨_, Ge.new g.wd s hT, s.ge hT, ?_⟩
      rw [Nat.zero_add]
      exact rep_tup_new (B_none g.wd hT) (.cons (.int _) (.cons (Rep.le g.sp (Rep.ext g.bb _ _ rv)) .nil))
    · exact ⟨vs, .inl (.inl (g.wd.sub _ _ (g.bb _ _ h1))), by rw [h2.len, enumL_len]; exact Nat.le_refl _⟩
theorem zipL_get : ∀ {es fs : List D} {i : Nat} {d : D}, (zipL es fs)[i]? = some d → ∃ d1 d2, es[i]? = some d1 ∧ fs[i]? = some d2 ∧ d = .tup [d1, d2]
  | [], _, i, d, h => by simp [zipL] at h
  | _ :: _, [], i, d, h => by simp [zipL] at h
  | d1 :: es, d2 :: fs, 0, d, h => by simp [zipL] at h; exact ⟨d1, d2, rfl, rfl, h.symm⟩
  | d1 :: es, d2 :: fs, i + 1, d, h => by
    simp only [zipL, List.getElem?_cons_succ] at h
    obtain ⟨a, b, h1, h2, h3⟩ := zipL_get h
    exact ⟨a, b, by simpa using h1, by simpa using h2, h3⟩
theorem zipL_len : ∀ (es fs : List D), es.length ≤ (zipL es fs).length ∨ fs.length ≤ (zipL es fs).length
  | [], _ => .inl (Nat.zero_le _)
  | _ :: _, [] => .inr (Nat.zero_le _)
  | _ :: es, _ :: fs => by
    rcases zipL_len es fs with h | h
    · exact .inl (by simp [zipL, h])
    · exact .inr (by simp [zipL, h])
theorem i_zip (hx : XF Γ w0 ds n sc N X) {p tpos : Pos} {elts : List Expr} {kk : Nat} (hg : glob sc ("zip" : Str) = true) (h1 : plainE a = true) (h2 : plainE b = true) (ha : PED X c a x) (hb : PED X c b y) :
    PID X c (.Tuple elts kk tpos) (.Call (.Name ("zip" : Str) p) [a, b] [] pos) (.zip x y) := by
  intro ρ mu k es k' he hav
  simp only [avI, Bool.and_eq_true] at hav
  simp only [evI] at he
  obtain ⟨g1, g2, g3⟩ := glob_of hx hg
  split at he
  · cases he
  rename_i d1 k1 e1
  split at he
  · cases he
  rename_i d2 k2 e2
  have hA := (a_cons h1 ha (a_cons h2 hb a_nil)) ρ mu k [d1, d2] k2 (by simp only [evEs]; rw [e1]; simp only; rw [e2]) (by simp only [avEs, hav.1, hav.2]; rfl)
  have hP := RZ.pi_zipA (p := p) (pos := pos) (elts := elts) (kk := kk) (tpos := tpos) g1 (hx.F.bi _ (by decide +kernel)) hA (star_of h1 _ X.env) (noStar_of fun u hu => by
    rcases List.mem_cons.mp hu with rfl | hu
    · exact h2
    · cases hu)
  split at he <;> first | (cases he; done) | skip
  · rename_i xs1 ys1
    cases he
    refine hP.wk fun σ H R ⟨sp, B, w, s, ri, q⟩ => ⟨sp, B, w, s, ri, fun vs B1 H1 g1 s1 r1 => ?_⟩
    obtain ⟨v, v', rfl, rv, rv'⟩ := repl_two r1
    cases rv with
    | @lst p vs _ h1 h2 =>
    cases rv' with
    | @lst p' vs' _ h3 h4 =>
    have m1 : ∀ sp2 B2 H2, Lt sp B1 sp2 B2 H2 → SqL X.K H2 p vs := fun sp2 B2 H2 g => .inl (.inl (g.wd.sub _ _ (g.bb _ _ h1)))
    have m2 : ∀ sp2 B2 H2, Lt sp B1 sp2 B2 H2 → SqL X.K H2 p' vs' := fun sp2 B2 H2 g => .inl (.inl (g.wd.sub _ _ (g.bb _ _ h3)))
    refine ⟨p, p', vs, vs', rfl, .inl ⟨m1 _ _ _ (Lt.refl g1.wd), m2 _ _ _ (Lt.refl g1.wd), q _ B1 H1 g1 s1 fun sp2 B2 H2 k g s => ⟨fun i d hi => ?_, ?_⟩⟩⟩
    · obtain ⟨da, db, hd1, hd2, rfl⟩ := zipL_get hi
      obtain ⟨v, hv, rv⟩ := h2.get hd1
      obtain ⟨v', hv', rv'⟩ := h4.get hd2
      refine ⟨⟨vs, vs', v, v', m1 _ _ _ g, m2 _ _ _ g, hv, hv'⟩, fun u H3 ⟨T, u1, u2, e2, hT, e3, e4, e5⟩ => ?_⟩
      subst e2 e3
      have t1 := e4 vs (m1 _ _ _ g)
      have t2 := e5 vs' (m2 _ _ _ g)
      rw [hv] at t1
      rw [hv'] at t2
      cases t1
      cases t2
      exact ⟨_, Ge.new g.wd s hT, s.ge hT, rep_tup_new (B_none g.wd hT) (.cons (Rep.le g.sp (Rep.ext g.bb _ _ rv)) (.cons (Rep.le g.sp (Rep.ext g.bb _ _ rv')) .nil))⟩
    · exact ⟨vs, vs', m1 _ _ _ g, m2 _ _ _ g, by rw [h2.len, h4.len]; exact zipL_len _ _⟩
  · rename_i xs1 ys1
    cases he
    refine hP.wk fun σ H R ⟨sp, B, w, s, ri, q⟩ => ⟨sp, B, w, s, ri, fun vs B1 H1 g1 s1 r1 => ?_⟩
    obtain ⟨v, v', rfl, rv, rv'⟩ := repl_two r1
    cases rv with
    | @tup p vs _ h1 h2 =>
    cases rv' with
    | @tup p' vs' _ h3 h4 =>
    have m1 : ∀ sp2 B2 H2, Lt sp B1 sp2 B2 H2 → SqT X.K H2 p vs := fun sp2 B2 H2 g => ext_t g.wd.sub (ext_t g.bb h1)
    have m2 : ∀ sp2 B2 H2, Lt sp B1 sp2 B2 H2 → SqT X.K H2 p' vs' := fun sp2 B2 H2 g => ext_t g.wd.sub (ext_t g.bb h3)
    refine ⟨p, p', vs, vs', rfl, .inr ⟨m1 _ _ _ (Lt.refl g1.wd), m2 _ _ _ (Lt.refl g1.wd), q _ B1 H1 g1 s1 fun sp2 B2 H2 k g s => ⟨fun i d hi => ?_, ?_⟩⟩⟩
    · obtain ⟨da, db, hd1, hd2, rfl⟩ := zipL_get hi
      obtain ⟨v, hv, rv⟩ := h2.get hd1
      obtain ⟨v', hv', rv'⟩ := h4.get hd2
      refine ⟨⟨vs, vs', v, v', m1 _ _ _ g, m2 _ _ _ g, hv, hv'⟩, fun u H3 ⟨T, u1, u2, e2, hT, e3, e4, e5⟩ => ?_⟩
      subst e2 e3
      have t1 := e4 vs (m1 _ _ _ g)
      have t2 := e5 vs' (m2 _ _ _ g)
      rw [hv] at t1
      rw [hv'] at t2
      cases t1
      cases t2
      exact ⟨_, Ge.new g.wd s hT, s.ge hT, rep_tup_new (B_none g.wd hT) (.cons (Rep.le g.sp (Rep.ext g.bb _ _ rv)) (.cons (Rep.le g.sp (Rep.ext g.bb _ _ rv')) .nil))⟩
    · exact ⟨vs, vs', m1 _ _ _ g, m2 _ _ _ g, by rw [h2.len, h4.len]; exact zipL_len _ _⟩
theorem i_rev (hx : XF Γ w0 ds n sc N X) {p : Pos} (hg : glob sc ("reversed" : Str) = true) (h1 : plainE a = true) (ha : PED X c a x) : PID X c t (.Call (.Name ("reversed" : Str) p) [a] [] pos) (.rev x) := by
  intro ρ mu k es k' he hav
  simp only [avI] at hav
  simp only [evI] at he
  obtain ⟨g1, g2, g3⟩ := glob_of hx hg
  have key : ∀ (vs : List V) (ls : List D) (sp : Option Addr) (B : Hp) (i : Nat) (d : D), RepL X.K sp B vs ls → ls.reverse[i]? = some d → i < vs.length ∧ ∃ v, vs[vs.length - 1 - i]? = some v ∧ Rep X.K sp B v d := by
    intro vs ls sp B i d r hi
    have hlt : i < ls.length := by
      have := (List.getElem?_eq_some_iff.mp hi).1
      simpa using this
    rw [List.getElem?_reverse hlt] at hi
    obtain ⟨v, hv, rv⟩ := r.get hi
    rw [r.len]
    exact ⟨hlt, v, hv, rv⟩
  split at he <;> first | (cases he; done) | skip
  · rename_i ls k1 e1
    cases he
    refine (RT.pi_revA g1 (hx.F.bi _ (by decide +kernel)) (ha ρ mu k _ _ e1 hav) (star_of h1 [] X.env)).wk fun σ H R ⟨sp, B, w, s, ri, q⟩ => ⟨sp, B, w, s, ri, fun v B1 H1 g1 s1 rv => ?_⟩
    cases rv with
    | @lst p vs _ h1 h2 =>
      have m1 : ∀ sp2 B2 H2, Lt sp B1 sp2 B2 H2 → SqL X.K H2 p vs := fun sp2 B2 H2 g => .inl (.inl (g.wd.sub _ _ (g.bb _ _ h1)))
      refine ⟨p, vs, rfl, .inl ⟨m1 _ _ _ (Lt.refl g1.wd), q _ B1 H1 g1 s1 fun sp2 B2 H2 k g s => ⟨fun i d hi => ?_, ?_⟩⟩⟩
      · obtain ⟨hlt, v, hv, rv⟩ := key vs ls sp B1 i d h2 hi
        refine ⟨⟨hlt, vs, v, m1 _ _ _ g, hv⟩, fun u H3 ⟨e2, e3⟩ => ?_⟩
        subst e2
        have t1 := e3 vs (m1 _ _ _ g)
        rw [hv] at t1
        cases t1
        exact ⟨B2, Ge.refl g.wd, s, Rep.le g.sp (Rep.ext g.bb _ _ rv)⟩
      · show vs.length ≤ _
        rw [List.length_reverse, h2.len]
        exact Nat.le_refl _
  · rename_i ls k1 e1
    cases he
    refine (RT.pi_revA g1 (hx.F.bi _ (by decide +kernel)) (ha ρ mu k _ _ e1 hav) (star_of h1 [] X.env)).wk fun σ H R ⟨sp, B, w, s, ri, q⟩ => ⟨sp, B, w, s, ri, fun v B1 H1 g1 s1 rv => ?_⟩
    cases rv with
    | @tup p vs _ h1 h2 =>
      have m1 : ∀ sp2 B2 H2, Lt sp B1 sp2 B2 H2 → SqT X.K H2 p vs := fun sp2 B2 H2 g => ext_t g.wd.sub (ext_t g.bb h1)
      refine ⟨p, vs, rfl, .inr ⟨m1 _ _ _ (Lt.refl g1.wd), q _ B1 H1 g1 s1 fun sp2 B2 H2 k g s => ⟨fun i d hi => ?_, ?_⟩⟩⟩
      · obtain ⟨hlt, v, hv, rv⟩ := key vs ls sp B1 i d h2 hi
        refine ⟨⟨hlt, vs, v, m1 _ _ _ g, hv⟩, fun u H3 ⟨e2, e3⟩ => ?_⟩
        subst e2
        have t1 := e3 vs (m1 _ _ _ g)
        rw [hv] at t1
        cases t1
        exact ⟨B2, Ge.refl g.wd, s, Rep.le g.sp (Rep.ext g.bb _ _ rv)⟩
      · show vs.length ≤ _
        rw [List.length_reverse, h2.len]
        exact Nat.le_refl _
end
end Mini
namespace Mini
open PySem PySem.Spec PyProof.Rows L2
section
variable {X : Cx} {c : Call} {Γ : CT} {w0 n : Nat} {ds : List Def} {sc : Scope} {N : List Str}
variable {a b e t : Expr} {x y z : E} {pos : Pos} {es : List Expr} {xs : Es}

/-! ### comprehensions -/
theorem wipe_get {σ : L2.St} : ∀ {vs : List Nat} {i : Nat}, (wipe σ vs)[i]? = if i ∈ vs then (if i < σ.length then some none else none) else σ[i]?
  | [], i => by simp [wipe]
  | v :: vs, i => by
    unfold wipe
    by_cases h : v = i
    · subst h
      simp only [List.mem_cons, true_or, if_true]
      by_cases hl : v < σ.length
      · rw [List.getElem?_set_self (by rw [wipe_length]; exact hl), if_pos hl]
      · rw [List.getElem?_eq_none (by simp [wipe_length]; omega), if_neg hl]
    · rw [List.getElem?_set_ne h, wipe_get]
      have : (i ∈ v :: vs) = (i ∈ vs) := by simp [Ne.symm h]
      simp only [this]
theorem wipeR_get {ρ : Rho} : ∀ {vs : List Nat} {i : Nat}, (wipeR ρ vs)[i]? = if i ∈ vs then (if i < ρ.length then some none else none) else ρ[i]?
  | [], i => by simp [wipeR]
  | v :: vs, i => by
    have hl : ∀ us : List Nat, (wipeR ρ us).length = ρ.length := fun us => by
      induction us with
      | nil => rfl
      | cons u us ih => unfold wipeR; rw [List.length_set, ih]
    unfold wipeR
    by_cases h : v = i
    · subst h
      simp only [List.mem_cons, true_or, if_true]
      by_cases hl' : v < ρ.length
      · rw [List.getElem?_set_self (by rw [hl]; exact hl'), if_pos hl']
      · rw [List.getElem?_eq_none (by simp [hl]; omega), if_neg hl']
    · rw [List.getElem?_set_ne h, wipeR_get]
      have : (i ∈ v :: vs) = (i ∈ vs) := by simp [Ne.symm h]
      simp only [this]
theorem wipeR_length {ρ : Rho} : ∀ {vs : List Nat}, (wipeR ρ vs).length = ρ.length
  | [] => rfl
  | v :: vs => by unfold wipeR; rw [List.length_set, wipeR_length]
theorem ri_wipe {K : PySem.W.Frag} {sp : Option Addr} {B : Hp} {mu : List Nat} {ρ : Rho} {σ : L2.St} {vs : List Nat} (h : RI K sp B mu ρ σ) : RI K sp B mu (wipeR ρ vs) (wipe σ vs) := by
  refine ⟨by rw [wipe_length, wipeR_length]; exact h.1, fun i d hi hd => ?_⟩
  rw [wipeR_get] at hd
  rw [wipe_get]
  by_cases hv : i ∈ vs
  · rw [if_pos hv] at hd
    split at hd <;> cases hd
  · rw [if_neg hv] at hd ⊢
    exact h.2 i d hi hd
theorem ri_upd {K : PySem.W.Frag} {sp : Option Addr} {B : Hp} {mu ts : List Nat} {ρ ρ' : Rho} {σ σ' : L2.St} (h : RI K sp B mu ρ σ) (u : Upd' K sp B ts ρ ρ' σ σ') : RI K sp B mu ρ' σ' := by
  refine ⟨by rw [u.l1, u.l2]; exact h.1, fun i d hi hd => ?_⟩
  by_cases ht : i ∈ ts
  · exact u.new i d ht hd
  · have := u.old i ht
    rw [this.2] at hd
    rw [this.1]
    exact h.2 i d hi hd
theorem wipe_back {K : PySem.W.Frag} {sp : Option Addr} {B : Hp} {ts vs : List Nat} {ρ ρ' : Rho} {σ σ' : L2.St} (u : Upd' K sp B ts ρ ρ' (wipe σ vs) σ') (hs : ∀ i ∈ ts, i ∈ vs) : wipe σ' vs = wipe σ vs := by
  refine List.ext_getElem? fun i => ?_
  rw [wipe_get, wipe_get]
  by_cases hv : i ∈ vs
  · rw [if_pos hv, if_pos hv, u.l1, wipe_length]
  · rw [if_neg hv, if_neg hv, (u.old i fun h => hv (hs i h)).1, wipe_get, if_neg hv]

/-- a new list, apart from all that stood -/
def tFr (K : PySem.W.Frag) (ρ : Rho) (mu : List Nat) (k : Ky) (ds : List D) (k' : Ky) : TE := fun σ H Q =>
  ∃ sp B, Wd sp B H ∧ SpotAt sp k H ∧ RI K sp B mu ρ σ ∧ ∀ p vs B' H', H p = none → Ge sp B H B' H' → SpotAt sp k' H' → H' p = some (.lst vs) → B' p = none → RepL K sp B' vs ds → Q (.ref p) H'
theorem none_back {sp : Option Addr} {B H B' H' : Hp} {k : Ky} {p : Addr} (g : Ge sp B H B' H') (s : SpotAt sp k H') (hp : H' p = none) : H p = none := by
  cases e : H p with
  | none => rfl
  | some o =>
    have := g.hh p o (s.ne hp) e
    rw [hp] at this
    cases this
theorem tFr_of {K : PySem.W.Frag} {ρ : Rho} {mu : List Nat} {k k' : Ky} {ds : List D} {σ : L2.St} {H : Hp} {Q : VK} (h : tD K ρ mu k (.lst ds) k' σ H Q) : tFr K ρ mu k ds k' σ H Q := by
  obtain ⟨sp, B, w, s, ri, q⟩ := h
  refine ⟨sp, B, w, s, ri, fun p vs B' H' hp g s' hl hb r => ?_⟩
  have hsp := s.ne hp
  refine q (.ref p) (upd B' p (.lst vs)) H' ⟨g.hh, g.bb.trans (Ext.upd hb), ⟨fun x o ho => ?_, fun x hx => ?_⟩, fun x o ho hn => ?_⟩ s' (rep_lst_new hb r)
  · by_cases hx : x = p
    · subst hx; rw [upd_same] at ho; cases ho; exact hl
    · rw [upd_ne hx] at ho; exact g.wd.sub x o ho
  · rw [upd_ne (fun e => hsp (by rw [hx, e]))]; exact g.wd.spn x hx
  · rw [upd_ne (ne_of_none ho hp)]; exact g.old x o ho hn
/-- the reading of a comprehension, from those of its parts -/
theorem comp_rd {K : PySem.W.Frag} {tg : Tg} {g : TG} {tt : TT} {te : TE} {wi : TI} {vs : List Nat} {f : Rho → Ky → Option (D × Ky)} {q : Rho → Ky → Option (Bool × Ky)} {ρ : Rho} {mu : List Nat} {k k1 k2 : Ky} {es ys : List D} {σ : L2.St} {H : Hp} {Q : VK}
    (hg : ∀ sp B v d ρ ρ' σ H (Q : L2.St → Hp → Prop), Ext B H → σ.length = ρ.length → Rep K sp B v d → asg tg d ρ = some ρ' → (∀ σ', Upd' K sp B (tgSlots tg) ρ ρ' σ σ' → Q σ' H) → g v σ H Q)
    (hs : ∀ i ∈ tgSlots tg, i ∈ vs)
    (hi : ∀ σ H R, tI K ρ mu k es k1 σ H R → wi σ H R)
    (hcond : ∀ d ρ' k b k', asg tg d (wipeR ρ vs) = some ρ' → q ρ' k = some (b, k') → ∀ σ H Q, tDT K ρ' mu k b k' σ H Q → tt σ H Q)
    (helt : ∀ d ρ' k' k'' y, asg tg d (wipeR ρ vs) = some ρ' → f ρ' k' = some (y, k'') → ∀ σ H Q, tD K ρ' mu k' y k'' σ H Q → te σ H Q)
    (hl : lineOk es.length = true) (hc : compD f q tg (wipeR ρ vs) es k1 = some (ys, k2)) (h : tFr K ρ mu k ys k2 σ H Q) : tLc wi g tt te vs σ H Q := by
  obtain ⟨sp, B, w, s, ri, hQ⟩ := h
  refine hi σ H _ ⟨sp, B, w, s, ri, fun J B1 H1 g1 s1 hJ => ?_⟩
  intro D hD
  have hsp := s1.ne hD
  have hB1D := B_none g1.wd hD
  -- what stands at a turn
  let Inv' : Nat → Hp → Prop := fun i H2 => i ≤ es.length ∧ ∃ B2 ki rest accv accd, Ge sp B1 H1 B2 H2 ∧ B2 D = none ∧ SpotAt sp ki H2 ∧ H2 D = some (.lst accv) ∧ RepL K sp B2 accv accd ∧ accd.length ≤ i ∧
    compD f q tg (wipeR ρ vs) (es.drop i) ki = some (rest, k2) ∧ accd ++ rest = ys
  refine ⟨fun i m H2 => m = es.length - i ∧ Inv' i H2, ⟨es.length, by simp, Nat.zero_le _, B1, k1, ys, [], [], Ge.newOut g1.wd s1 hD, hB1D, s1.ge hD, upd_same, .nil, Nat.zero_le _, by simpa using hc, rfl⟩, ?_⟩
  rintro i m H2 ⟨rfl, hile, B2, ki, rest, accv, accd, g2, hb2, s2, hd2, ra, hlen, hcomp, happ⟩
  by_cases hlt : i < es.length
  · refine .inr ?_
    have hdi : es[i]? = some es[i] := List.getElem?_eq_getElem hlt
    obtain ⟨hgo, hy⟩ := (hJ sp B2 H2 ki g2.lt s2).1 i _ hdi
    refine ⟨hgo, Inv' (i + 1), fun H' hH' => ⟨es.length - (i + 1), by omega, rfl, hH'⟩, fun v H3 hyld => ?_⟩
    obtain ⟨B3, g3, s3, r3⟩ := hy v H3 hyld
    have hdrop : es.drop i = es[i] :: es.drop (i + 1) := List.drop_eq_getElem_cons hlt
    rw [hdrop] at hcomp
    simp only [compD] at hcomp
    split at hcomp
    · cases hcomp
    rename_i ρ1 easg
    have hd3 : H3 D = some (.lst accv) := g3.hh D _ hsp hd2
    have hb3 : B3 D = none := g3.old D _ hd2 hb2
    have g13 := g2.trans g3
    refine hg sp B3 v _ _ ρ1 _ H3 _ g3.wd.sub (by rw [wipe_length, wipeR_length]; exact ri.1) r3 easg fun σ3 u3 => ?_
    refine ⟨wipe_back u3 hs, ?_⟩
    have ri3 : RI K sp B3 mu ρ1 σ3 := ri_upd (ri_wipe (ri.ext (g1.bb.trans g13.bb))) u3
    split at hcomp
    · cases hcomp
    · rename_i ka eq
      -- left out
      refine hcond _ ρ1 _ _ _ easg eq _ _ _ ⟨sp, B3, g3.wd, s3, ri3, fun B4 H4 g4 s4 => ?_⟩
      refine iteF ?_
      exact ⟨hlt, B4, ka, rest, accv, accd, g13.trans g4, g4.old D _ hd3 hb3, s4, g4.hh D _ hsp hd3, RepL.ext (g3.bb.trans g4.bb) _ _ ra, by omega, hcomp, happ⟩
    · rename_i ka eq
      split at hcomp
      · cases hcomp
      rename_i yv kb ef
      split at hcomp
      · cases hcomp
      rename_i zs kc ec
      cases hcomp
      refine hcond _ ρ1 _ _ _ easg eq _ _ _ ⟨sp, B3, g3.wd, s3, ri3, fun B4 H4 g4 s4 => ?_⟩
      refine iteT ?_
      refine helt _ ρ1 ka _ _ easg ef _ _ _ ⟨sp, B4, g4.wd, s4, ri3.ext g4.bb, fun v5 B5 H5 g5 s5 r5 => ?_⟩
      have hd5 : H5 D = some (.lst accv) := g5.hh D _ hsp (g4.hh D _ hsp hd3)
      have hb5 : B5 D = none := g5.old D _ (g4.hh D _ hsp hd3) (g4.old D _ hd3 hb3)
      have g15 := g13.trans (g4.trans g5)
      have hz : accv.length < sizeLine := by
        rw [ra.len]
        have : es.length ≤ 16777216 := by simpa [lineOk] using hl
        show _ < 2 ^ 24
        omega
      refine ⟨accv, hd5, hz, hlt, B5, kb, zs, accv ++ [v5], accd ++ [yv], ⟨fun p o hne ho => ?_, g15.bb, ⟨fun p o ho => ?_, g15.wd.spn⟩, g15.old⟩, hb5, ?_, upd_same, (RepL.ext (g3.bb.trans (g4.bb.trans g5.bb)) _ _ ra).append (.cons r5 .nil), by simp; omega, ec, by simpa using happ⟩
      · rw [upd_ne (ne_of_none ho hD)]; exact g15.hh p o hne ho
      · rw [upd_ne (ne_of_none ho hb5)]; exact g15.wd.sub p o ho
      · have hne : ∀ p, sp = some p → p ≠ D := fun p hp e => hsp (by rw [hp, e])
        cases sp with
        | none => cases kb <;> exact s5
        | some p =>
          cases kb with
          | none => exact s5
          | some m =>
            show upd H5 D _ p = _
            rw [upd_ne (hne p rfl)]
            exact s5
  · refine .inl ?_
    have hi : i = es.length := by omega
    subst hi
    refine ⟨(hJ sp B2 H2 ki g2.lt s2).2, ?_⟩
    rw [List.drop_length] at hcomp
    simp only [compD, Option.some.injEq, Prod.mk.injEq] at hcomp
    obtain ⟨rfl, rfl⟩ := hcomp
    rw [List.append_nil] at happ
    subst happ
    exact hQ D accv B2 H2 (none_back g1 s1 hD) (g1.trans g2) s2 hd2 hb2 ra

theorem lookup_relS_keep' {scope sc : Scope} {s : Str} {k : NameKind} (hk : k ≠ .free) (h : scope.names.lookup s = some k) : (relS scope sc).names.lookup s = some k := lookup_relS_keep hk h
theorem xf_blk (hx : XF Γ w0 ds n sc N X) {scope : Scope} (s : Shared) (H : Hp) (C : Addr) (cl : List (Str × Addr)) (fp : List Addr) : XF Γ w0 ds n (relS scope sc) N (X.blk s H scope (compEnvC scope cl C X.env) fp) := by
  refine ⟨hx.F, ?_, hx.nn, hx.nd, hx.calm, hx.room⟩
  show (compEnvC scope cl C X.env).scope = _
  rw [← hx.sc]
  rfl
theorem tok_blk (hx : XF Γ w0 ds n sc N X) {scope : Scope} (s : Shared) (H : Hp) (C : Addr) (cl : List (Str × Addr)) (fp : List Addr) : TOk (X.blk s H scope (compEnvC scope cl C X.env) fp) scope := by
  intro u hu
  have hsc : (X.blk s H scope (compEnvC scope cl C X.env) fp).env.scope = relS scope X.env.scope := rfl
  unfold isLoc at hu
  split at hu
  · rename_i hk
    have := lookup_relS_keep' (sc := X.env.scope) (by decide) hk
    exact ⟨.inl (by rw [hsc]; exact this), .inr (by rw [hsc]; exact this)⟩
  · rename_i hk
    have := lookup_relS_keep' (sc := X.env.scope) (by decide) hk
    refine ⟨.inr (by rw [hsc]; exact this), .inl ?_⟩
    show (scope.names.lookup u == some .cell) = true
    rw [hk]; rfl
  · cases hu
theorem cTgIn_of {scope : Scope} {own : List Nat} {e : Expr} {tg : Tg} (h : cTgIn scope N own e = some tg) : cTg scope N 8 e = some tg ∧ ∀ i ∈ tgSlots tg, i ∈ own := by
  unfold cTgIn at h
  split at h
  · cases h
  · rename_i t ht
    split at h
    · rename_i ha
      cases h
      refine ⟨ht, fun i hi => ?_⟩
      have := List.all_eq_true.mp ha i hi
      simpa using this
    · cases h
/-- one reading for all states -/
def tDU (K : PySem.W.Frag) (c : Call) (il : E) : TE := fun σ H Q => ∃ ρ mu k d k', evE c il ρ k = some (d, k') ∧ avE mu il = true ∧ tD K ρ mu k d k' σ H Q
def tTU (K : PySem.W.Frag) (c : Call) (il : T) : TT := fun σ H Q => ∃ ρ mu k d k', evT c il ρ k = some (d, k') ∧ avT mu il = true ∧ tDT K ρ mu k d k' σ H Q
theorem peU (h : PED X c e x) : PE X e (tDU X.K c x) := ⟨fun pins s σ H Q I ⟨ρ, mu, k, d, k', h1, h2, h3⟩ => (h ρ mu k d k' h1 h2).run pins s σ H Q I h3⟩
theorem ptU {x : T} (h : PTD X c e x) : PT X e (tTU X.K c x) := ⟨fun pins s σ H Q I ⟨ρ, mu, k, d, k', h1, h2, h3⟩ => (h ρ mu k d k' h1 h2).run pins s σ H Q I h3⟩
/-- a target's reading, the same in every context over K -/
def gU (K : PySem.W.Frag) (tg : Tg) : TG := fun v σ H Q => ∃ sp B d ρ ρ', Ext B H ∧ σ.length = ρ.length ∧ Rep K sp B v d ∧ asg tg d ρ = some ρ' ∧ ∀ σ', Upd' K sp B (tgSlots tg) ρ ρ' σ σ' → Q σ' H
theorem pgU {tg : Tg} (h : PGD X e tg) : PG X e (gU X.K tg) := by
  obtain ⟨g, h1, h2⟩ := h
  exact ⟨fun pins s σ H v u Q I r ⟨sp, B, d, ρ, ρ', q1, q2, q3, q4, q5⟩ => h1.run pins s σ H v u Q I r (h2 sp B v d ρ ρ' σ H Q q1 q2 q3 q4 q5)⟩
theorem gU_ok {K : PySem.W.Frag} {tg : Tg} : ∀ sp B v d ρ ρ' σ H (Q : L2.St → Hp → Prop), Ext B H → σ.length = ρ.length → Rep K sp B v d → asg tg d ρ = some ρ' → (∀ σ', Upd' K sp B (tgSlots tg) ρ ρ' σ σ' → Q σ' H) → gU K tg v σ H Q :=
  fun sp B v d ρ ρ' σ H Q q1 q2 q3 q4 q5 => ⟨sp, B, d, ρ, ρ', q1, q2, q3, q4, q5⟩
def tIU (K : PySem.W.Frag) (c : Call) (il : I) : TI := fun σ H R => ∃ ρ mu k es k', evI c il ρ k = some (es, k') ∧ avI mu il = true ∧ tI K ρ mu k es k' σ H R
theorem piU {il : I} (h : PID X c t e il) : PI X t e (tIU X.K c il) := ⟨fun pins s σ H Q I ⟨ρ, mu, k, d, k', h1, h2, h3⟩ => (h ρ mu k d k' h1 h2).run pins s σ H Q I h3⟩
/-- all that is asked of a comprehension's parts -/
structure CParts (X : Cx) (c : Call) (N : List Str) (scope : Scope) (tg it elt : Expr) (tgd : Tg) (itd : I) (eltd : E) : Prop where
  ok : BlkOk X.N X.env.scope scope (ownOf N scope.names)
  tgt : ∀ (s : Shared) (H : Hp) (C : Addr) (cl : List (Str × Addr)) (fp : List Addr), PGD (X.blk s H scope (compEnvC scope cl C X.env) fp) tg tgd
  own : ∀ i ∈ tgSlots tgd, i ∈ (ownOf N scope.names).map (·.2)
  itr : PID X c tg it itd
  elt : ∀ (s : Shared) (H : Hp) (C : Addr) (cl : List (Str × Addr)) (fp : List Addr), PED (X.blk s H scope (compEnvC scope cl C X.env) fp) c elt eltd
theorem comp0_rd {scope : Scope} {tg it elt : Expr} {tgd : Tg} {itd : I} {eltd : E} (P : CParts X c N scope tg it elt tgd itd eltd) {ρ : Rho} {mu : List Nat} {k k' : Ky} {d : D} (he : evE c (.comp0 eltd tgd itd ((ownOf N scope.names).map (·.2))) ρ k = some (d, k')) (hav : avE mu (.comp0 eltd tgd itd ((ownOf N scope.names).map (·.2))) = true) :
    ∃ ys, d = .lst ys ∧ ∀ σ H Q, tFr X.K ρ mu k ys k' σ H Q → tLc (tIU X.K c itd) (gU X.K tgd) tYes (tDU X.K c eltd) ((ownOf N scope.names).map (·.2)) σ H Q := by
  simp only [evE] at he
  simp only [avE, Bool.and_eq_true] at hav
  split at he
  · cases he
  rename_i es k1 e1
  split at he
  · rename_i hl
    split at he
    · cases he
    rename_i ys k2 e2
    cases he
    refine ⟨ys, rfl, fun σ H Q h => ?_⟩
    exact comp_rd gU_ok P.own (fun _ _ _ h => ⟨ρ, mu, k, es, k1, e1, hav.2, h⟩) (fun d ρ' k b k' _ e σ H Q ⟨sp, B, w, s, ri, q⟩ => by
      simp only [Option.some.injEq, Prod.mk.injEq] at e
      obtain ⟨rfl, rfl⟩ := e
      exact q B H (Ge.refl w) s) (fun d ρ' k' k'' y _ e σ H Q h => ⟨ρ', mu, k', y, k'', e, hav.1, h⟩) hl e2 h
  · cases he
theorem comp1_rd {scope : Scope} {tg it elt : Expr} {tgd : Tg} {itd : I} {eltd : E} {qd : T} (P : CParts X c N scope tg it elt tgd itd eltd) {ρ : Rho} {mu : List Nat} {k k' : Ky} {d : D} (he : evE c (.comp1 eltd tgd itd qd ((ownOf N scope.names).map (·.2))) ρ k = some (d, k')) (hav : avE mu (.comp1 eltd tgd itd qd ((ownOf N scope.names).map (·.2))) = true) :
    ∃ ys, d = .lst ys ∧ ∀ σ H Q, tFr X.K ρ mu k ys k' σ H Q → tLc (tIU X.K c itd) (gU X.K tgd) (tTU X.K c qd) (tDU X.K c eltd) ((ownOf N scope.names).map (·.2)) σ H Q := by
  simp only [evE] at he
  simp only [avE, Bool.and_eq_true] at hav
  split at he
  · cases he
  rename_i es k1 e1
  split at he
  · rename_i hl
    split at he
    · cases he
    rename_i ys k2 e2
    cases he
    refine ⟨ys, rfl, fun σ H Q h => ?_⟩
    exact comp_rd gU_ok P.own (fun _ _ _ h => ⟨ρ, mu, k, es, k1, e1, hav.1.2, h⟩) (fun d ρ' k b k' _ e σ H Q h => ⟨ρ', mu, k, b, k', e, hav.2, h⟩) (fun d ρ' k' k'' y _ e σ H Q h => ⟨ρ', mu, k', y, k'', e, hav.1.1, h⟩) hl e2 h
  · cases he
theorem d_comp0 (hx : XF Γ w0 ds n sc N X) {scope : Scope} {tg it elt : Expr} {tgd : Tg} {itd : I} {eltd : E} (hit : plainE it = true) (P : CParts X c N scope tg it elt tgd itd eltd) :
    PED X c (.ListComp elt [⟨tg, it, [], 0⟩] scope pos) (.comp0 eltd tgd itd ((ownOf N scope.names).map (·.2))) := by
  intro ρ mu k d k' he hav
  obtain ⟨ys, rfl, h2⟩ := comp0_rd P he hav
  exact (pe_lc hx.calm (by rw [hx.nn]; exact hx.nd) (piU P.itr) P.ok (fun s H C cl fp => pgU (P.tgt s H C cl fp)) (fun s H C cl fp => pts_nil) (fun s H C cl fp => peU (P.elt s H C cl fp)) (noSet_of hit X.env)).wk fun σ H Q h => h2 σ H Q (tFr_of h)
theorem d_comp1 (hx : XF Γ w0 ds n sc N X) {scope : Scope} {tg it elt q : Expr} {tgd : Tg} {itd : I} {eltd : E} {qd : T} (hit : plainE it = true) (P : CParts X c N scope tg it elt tgd itd eltd)
    (hq : ∀ (s : Shared) (H : Hp) (C : Addr) (cl : List (Str × Addr)) (fp : List Addr), PTD (X.blk s H scope (compEnvC scope cl C X.env) fp) c q qd) :
    PED X c (.ListComp elt [⟨tg, it, [q], 0⟩] scope pos) (.comp1 eltd tgd itd qd ((ownOf N scope.names).map (·.2))) := by
  intro ρ mu k d k' he hav
  obtain ⟨ys, rfl, h2⟩ := comp1_rd P he hav
  exact (pe_lc hx.calm (by rw [hx.nn]; exact hx.nd) (piU P.itr) P.ok (fun s H C cl fp => pgU (P.tgt s H C cl fp)) (fun s H C cl fp => pts_one (ptU (hq s H C cl fp))) (fun s H C cl fp => peU (P.elt s H C cl fp)) (noSet_of hit X.env)).wk fun σ H Q h => h2 σ H Q (tFr_of h)
end
end Mini
namespace Mini
open PySem PySem.Spec PyProof.Rows L2
section
variable {c : Call} {Γ : CT} {w0 n : Nat} {ds : List Def}

theorem mapO_plain {m : Nat} {sc : Scope} {N : List Str} : ∀ {es : List Expr} {xs : List E}, mapO (cE Γ m sc N) es = some xs → ∀ e ∈ es, plainE e = true
  | [], _, _ => fun e h => by cases h
  | e :: es, xs, h => by
    obtain ⟨y, zs, h1, h2, _⟩ := mapO_cons h
    intro e' he
    rcases List.mem_cons.mp he with rfl | he
    · exact cE_shape h1
    · exact mapO_plain h2 e' he
theorem mapO_pad {m : Nat} {sc : Scope} {N : List Str} {X : Cx} (ih : ∀ e il, cE Γ m sc N e = some il → PED X c e il) : ∀ {es : List Expr} {xs : List E}, mapO (cE Γ m sc N) es = some xs → PAD X c es (toEs xs)
  | [], _, h => by cases h; exact a_nil
  | e :: es, xs, h => by
    obtain ⟨y, zs, h1, h2, rfl⟩ := mapO_cons h
    exact a_cons (cE_shape h1) (ih e y h1) (mapO_pad ih h2)
theorem mapO_ne {α β : Type} {f : α → Option β} {xs : List α} {ys : List β} (h : mapO f xs = some ys) : ys.length = xs.length := by
  induction xs generalizing ys with
  | nil => cases h; rfl
  | cons x xs ih =>
    obtain ⟨y, zs, h1, h2, rfl⟩ := mapO_cons h
    simp [ih h2]

structure IH (Γ : CT) (w0 : Nat) (ds : List Def) (n : Nat) (m : Nat) : Prop where
  e : ∀ {sc : Scope} {N : List Str} {X : Cx} {e : Expr} {il : E}, XF Γ w0 ds n sc N X → cE Γ m sc N e = some il → PED X (run w0 ds n) e il
  t : ∀ {sc : Scope} {N : List Str} {X : Cx} {e : Expr} {il : T}, XF Γ w0 ds n sc N X → cT Γ m sc N e = some il → PTD X (run w0 ds n) e il
  i : ∀ {sc : Scope} {N : List Str} {X : Cx} {tg e : Expr} {il : I}, XF Γ w0 ds n sc N X → cI Γ m sc N tg e = some il → PID X (run w0 ds n) tg e il ∧ plainE e = true

theorem parts_of {m : Nat} (ih : IH Γ w0 ds n m) {sc : Scope} {N : List Str} {X : Cx} (hx : XF Γ w0 ds n sc N X) {scope : Scope} {tg it elt : Expr} {tgd : Tg} {itd : I} {eltd : E}
    (hb : blkC N sc scope (ownOf N scope.names) = true) (h1 : cTgIn scope N ((ownOf N scope.names).map (·.2)) tg = some tgd) (h2 : cI Γ m sc N tg it = some itd) (h3 : cE Γ m (relS scope sc) N elt = some eltd) :
    CParts X (run w0 ds n) N scope tg it elt tgd itd eltd := by
  obtain ⟨q1, q2⟩ := cTgIn_of h1
  refine ⟨?_, fun s H C cl fp => ?_, q2, (ih.i hx h2).1, fun s H C cl fp => ih.e (xf_blk hx s H C cl fp) h3⟩
  · rw [hx.nn, hx.sc]; exact blkOk_by hb
  · exact cTg_ok (X := X.blk s H scope (compEnvC scope cl C X.env) fp) hx.nn hx.nd hx.calm (tok_blk hx s H C cl fp) 8 tg tgd q1

theorem step_e {m : Nat} (ih : IH Γ w0 ds n m) {sc : Scope} {N : List Str} {X : Cx} {e : Expr} {il : E} (hx : XF Γ w0 ds n sc N X) (h : cE Γ (m + 1) sc N e = some il) : PED X (run w0 ds n) e il := by
  cases e <;> simp only [cE] at h <;> first | (cases h; done) | skip
  · -- BoolOp
    rename_i op vs pos
    split at h
    · rename_i a b
      split at h <;> first | (cases h; done) | skip
      · rename_i x y _ h1 h2; cases h; exact d_and (ih.e hx h1) (d_one (ih.e hx h2))
      · rename_i x y _ h1 h2; cases h; exact d_or (ih.e hx h1) (d_one (ih.e hx h2))
    · rename_i a b e
      split at h <;> first | (cases h; done) | skip
      · rename_i x y z _ h1 h2 h3; cases h; exact d_and (ih.e hx h1) (d_and (ih.e hx h2) (d_one (ih.e hx h3)))
      · rename_i x y z _ h1 h2 h3; cases h; exact d_or (ih.e hx h1) (d_or (ih.e hx h2) (d_one (ih.e hx h3)))
    · rename_i a b e f
      split at h <;> first | (cases h; done) | skip
      · rename_i x y z u _ h1 h2 h3 h4; cases h; exact d_and (ih.e hx h1) (d_and (ih.e hx h2) (d_and (ih.e hx h3) (d_one (ih.e hx h4))))
      · rename_i x y z u _ h1 h2 h3 h4; cases h; exact d_or (ih.e hx h1) (d_or (ih.e hx h2) (d_or (ih.e hx h3) (d_one (ih.e hx h4))))
    · cases h
  · -- BinOp
    rename_i a op b pos
    split at h <;> first | (cases h; done) | skip
    rename_i o x y h1 h2 h3
    cases h
    exact d_bin h1 (ih.e hx h2) (ih.e hx h3)
  · -- UnaryOp
    rename_i op a pos
    split at h <;> first | (cases h; done) | skip
    · rename_i x _ h1; cases h; exact d_neg (ih.e hx h1)
    · rename_i x _ h1; cases h; exact d_not (ih.e hx h1)
  · -- IfExp
    rename_i t a b pos
    split at h <;> first | (cases h; done) | skip
    rename_i x y z h1 h2 h3
    cases h
    exact d_ite (ih.t hx h1) (ih.e hx h2) (ih.e hx h3)
  · -- ListComp
    rename_i elt gens scope pos
    split at h <;> first | (cases h; done) | skip
    rename_i tg it ifs asy
    split at h <;> first | (cases h; done) | skip
    rename_i hb
    simp only [Bool.and_eq_true] at hb
    have ha : asy = 0 := by simpa using hb.1
    subst ha
    split at h <;> first | (cases h; done) | skip
    rename_i tgd itd eltd h1 h2 h3
    have P := parts_of ih hx hb.2 h1 h2 h3
    have hit := (ih.i hx h2).2
    split at h <;> first | (cases h; done) | skip
    · cases h
      exact d_comp0 hx hit P
    · rename_i q
      cases e1 : cT Γ m (relS scope sc) N q with
      | none => rw [e1] at h; cases h
      | some qd =>
        rw [e1] at h
        cases h
        exact d_comp1 hx hit P fun s H C cl fp => ih.t (xf_blk hx s H C cl fp) e1
  · -- Compare
    rename_i a ops bs pos
    split at h
    · rename_i op b
      split at h
      · split at h <;> first | (cases h; done) | skip
        rename_i j p
        cases e1 : cE Γ m sc N a with
        | none => rw [e1] at h; cases h
        | some x => rw [e1] at h; cases h; exact d_isN (ih.e hx e1)
      · split at h <;> first | (cases h; done) | skip
        rename_i j p
        cases e1 : cE Γ m sc N a with
        | none => rw [e1] at h; cases h
        | some x => rw [e1] at h; cases h; exact d_notN (ih.e hx e1)
      · split at h <;> first | (cases h; done) | skip
        rename_i o x y h1 h2 h3
        cases h
        exact d_cmp hx.room h1 (cE_shape h3) (ih.e hx h2) (ih.e hx h3)
    · rename_i op op' b e
      split at h <;> first | (cases h; done) | skip
      rename_i o o' x y z h1 h2 h3 h4 h5
      cases h
      exact d_chain hx.room h1 h2 (cE_shape h4) (cE_shape h5) (ih.e hx h3) (ih.e hx h4) (ih.e hx h5)
    · cases h
  · -- Call
    rename_i f args kw pos
    split at h <;> first | (cases h; done) | skip
    rename_i s p
    split at h <;> first | (cases h; done) | skip
    rename_i hg
    split at h
    · rename_i i hi
      cases e1 : mapO (cE Γ m sc N) args with
      | none => rw [e1] at h; cases h
      | some xs =>
        rw [e1] at h
        cases h
        cases args with
        | nil => cases e1; exact d_call0 hx rfl hg hi
        | cons a as => exact d_call hx rfl hg hi (by simp) (mapO_plain e1) (mapO_pad (fun e il => ih.e hx) e1)
    · split at h
      · rename_i hs
        split at h <;> first | (cases h; done) | skip
        rename_i a t
        split at h
        · cases h
        rename_i y hy
        split at h <;> first | (cases h; done) | skip
        · rename_i ts j p2
          split at h <;> first | (cases h; done) | skip
          rename_i hlen
          cases e1 : mapO (cTy sc) ts with
          | none => rw [e1] at h; cases h
          | some us =>
            rw [e1] at h
            cases h
            have hl := mapO_ne e1
            exact d_isiT hx hg hs (cE_shape hy) (by intro e; rw [e] at hl; simp at hl; omega) (by show _ ≤ 2 ^ 24; omega) e1 (ih.e hx hy)
        · rename_i z pz
          cases e1 : cTy sc (.Name z pz) with
          | none => rw [e1] at h; cases h
          | some u =>
            rw [e1] at h
            cases h
            exact d_isi1 hx hg hs (cE_shape hy) e1 (ih.e hx hy)
      · split at h
        · rename_i hgcd
          split at h <;> first | (cases h; done) | skip
          rename_i a b
          cases e1 : mapO (cE Γ m sc N) [a, b] with
          | none => rw [e1] at h; cases h
          | some xs =>
            rw [e1] at h
            cases h
            exact d_gcd hx hg (by simpa using hgcd) (by simp) (mapO_plain e1) (mapO_pad (fun e il => ih.e hx) e1)
        · split at h <;> first | (cases h; done) | skip
          rename_i b a as hb
          cases e1 : mapO (cE Γ m sc N) (a :: as) with
          | none => rw [e1] at h; cases h
          | some xs =>
            rw [e1] at h
            cases h
            exact d_bi hx hg hb (by simp) (mapO_plain e1) (mapO_pad (fun e il => ih.e hx) e1)
  · -- Constant
    rename_i cst j pos
    split at h <;> first | (cases h; done) | skip
    · cases h; exact d_int
    · cases h; exact d_bl
    · cases h; exact d_non
    · cases h; exact d_str
  · -- Subscript
    rename_i a i pos
    split at h
    · rename_i lo hi st p2
      split at h <;> first | (cases h; done) | skip
      rename_i x h1
      split at h
      · cases h; exact d_sli0 (ih.e hx h1)
      · rename_i l
        cases e1 : cE Γ m sc N l with
        | none => rw [e1] at h; cases h
        | some u => rw [e1] at h; cases h; exact d_sli1 (ih.e hx h1) (ih.e hx e1)
      · rename_i l
        cases e1 : cE Γ m sc N l with
        | none => rw [e1] at h; cases h
        | some u => rw [e1] at h; cases h; exact d_sli2 (ih.e hx h1) (ih.e hx e1)
      · split at h <;> first | (cases h; done) | skip
        rename_i l' h' u v h2 h3
        cases h
        exact d_sli3 (ih.e hx h1) (ih.e hx h2) (ih.e hx h3)
    · split at h <;> first | (cases h; done) | skip
      rename_i x y h1 h2
      cases h
      exact d_idx (cE_shape h2) (ih.e hx h1) (ih.e hx h2)
  · -- Name
    rename_i s p
    split at h
    · rename_i hg
      cases e1 : Γ.consts.lookup s with
      | none => rw [e1] at h; cases h
      | some d => rw [e1] at h; cases h; exact d_cst hx hg e1
    · cases e1 : slot sc N s with
      | none => rw [e1] at h; cases h
      | some i => rw [e1] at h; cases h; exact d_var hx e1
  · -- List
    rename_i es pos
    cases e1 : mapO (cE Γ m sc N) es with
    | none => rw [e1] at h; cases h
    | some xs => rw [e1] at h; cases h; exact d_lst (mapO_pad (fun e il => ih.e hx) e1)
  · -- Tuple
    rename_i es j pos
    cases e1 : mapO (cE Γ m sc N) es with
    | none => rw [e1] at h; cases h
    | some xs => rw [e1] at h; cases h; exact d_tup (mapO_pad (fun e il => ih.e hx) e1)

theorem step_t {m : Nat} (ihs : ∀ m', m' ≤ m → IH Γ w0 ds n m') {sc : Scope} {N : List Str} {X : Cx} {e : Expr} {il : T} (hx : XF Γ w0 ds n sc N X) (h : cT Γ (m + 1) sc N e = some il) : PTD X (run w0 ds n) e il := by
  have ih := ihs m (Nat.le_refl _)
  have dflt : ∀ e il, (∀ env whole, isTrue e env whole = (do let v ← whole; standAt e.pos; holding [v] (truthy v))) → (cE Γ m sc N e).map T.val = some il → PTD X (run w0 ds n) e il := by
    intro e il he h
    cases e1 : cE Γ m sc N e with
    | none => rw [e1] at h; cases h
    | some x => rw [e1] at h; cases h; exact t_truth he (ih.e hx e1)
  cases e <;> simp only [cT] at h <;> first | (exact dflt _ _ (fun _ _ => rfl) h) | (cases h; done) | skip
  · rename_i op vs pos
    split at h
    · rename_i a b
      split at h <;> first | (cases h; done) | skip
      · rename_i x y _ h1 h2; cases h; exact w_pt (w_and (ih.t hx h1) (w_and1 (ih.t hx h2)))
      · rename_i x y _ h1 h2; cases h; exact w_pt (w_or (ih.t hx h1) (w_or1 (ih.t hx h2)))
    · rename_i a b e
      split at h <;> first | (cases h; done) | skip
      · rename_i x y z _ h1 h2 h3; cases h; exact w_pt (w_and (ih.t hx h1) (w_and (ih.t hx h2) (w_and1 (ih.t hx h3))))
      · rename_i x y z _ h1 h2 h3; cases h; exact w_pt (w_or (ih.t hx h1) (w_or (ih.t hx h2) (w_or1 (ih.t hx h3))))
    · rename_i a b e f
      split at h <;> first | (cases h; done) | skip
      · rename_i x y z u _ h1 h2 h3 h4; cases h; exact w_pt (w_and (ih.t hx h1) (w_and (ih.t hx h2) (w_and (ih.t hx h3) (w_and1 (ih.t hx h4)))))
      · rename_i x y z u _ h1 h2 h3 h4; cases h; exact w_pt (w_or (ih.t hx h1) (w_or (ih.t hx h2) (w_or (ih.t hx h3) (w_or1 (ih.t hx h4)))))
    · cases h
  · -- UnaryOp
    rename_i op a pos
    cases op <;> simp only [cT] at h
    · exact dflt _ _ (fun _ _ => rfl) h
    · cases e1 : cT Γ m sc N a with
      | none => rw [e1] at h; cases h
      | some x => rw [e1] at h; cases h; exact t_not (ih.t hx e1)
    · exact dflt _ _ (fun _ _ => rfl) h
    · exact dflt _ _ (fun _ _ => rfl) h
  · -- Compare: by its own rules
    rename_i a ops bs pos
    cases m with
    | zero => simp [cE] at h
    | succ m =>
      have ih2 := ihs m (Nat.le_succ _)
      simp only [cE] at h
      split at h
      · rename_i op b
        split at h
        · split at h <;> first | (simp at h; done) | skip
          rename_i j p
          cases e1 : cE Γ m sc N a with
          | none => rw [e1] at h; simp at h
          | some x => rw [e1] at h; cases h; exact t_isN (ih2.e hx e1)
        · split at h <;> first | (simp at h; done) | skip
          rename_i j p
          cases e1 : cE Γ m sc N a with
          | none => rw [e1] at h; simp at h
          | some x => rw [e1] at h; cases h; exact t_notN (ih2.e hx e1)
        · split at h <;> first | (simp at h; done) | skip
          rename_i o x y h1 h2 h3
          cases h
          exact t_cmp hx.room h1 (cE_shape h3) (ih2.e hx h2) (ih2.e hx h3)
      · rename_i op op' b e
        split at h <;> first | (simp at h; done) | skip
        rename_i o o' x y z h1 h2 h3 h4 h5
        cases h
        exact t_chain hx.room h1 h2 (cE_shape h4) (cE_shape h5) (ih2.e hx h3) (ih2.e hx h4) (ih2.e hx h5)
      · simp at h
theorem step_i {m : Nat} (ih : IH Γ w0 ds n m) {sc : Scope} {N : List Str} {X : Cx} {tg e : Expr} {il : I} (hx : XF Γ w0 ds n sc N X) (h : cI Γ (m + 1) sc N tg e = some il) : PID X (run w0 ds n) tg e il ∧ plainE e = true := by
  have dflt : ∀ e il, (cE Γ m sc N e).map I.seq = some il → PID X (run w0 ds n) tg e il ∧ plainE e = true := by
    intro e il h
    cases e1 : cE Γ m sc N e with
    | none => rw [e1] at h; cases h
    | some x => rw [e1] at h; cases h; exact ⟨i_seq (ih.e hx e1), cE_shape e1⟩
  simp only [cI] at h
  split at h
  · rename_i s px args kw po
    split at h
    · rename_i hs
      have hs' := beq_iff_eq.mp hs
      subst hs'
      split at h <;> first | (cases h; done) | skip
      rename_i hg
      simp only [Bool.and_eq_true, List.isEmpty_iff] at hg
      obtain ⟨hg, rfl⟩ := hg
      split at h <;> first | (cases h; done) | skip
      · rename_i a
        cases e1 : mapO (cE Γ m sc N) [a] with
        | none => rw [e1] at h; cases h
        | some xs =>
          rw [e1] at h
          cases h
          obtain ⟨x, zs, h1, h2, rfl⟩ := mapO_cons e1
          cases h2
          exact ⟨i_rng1 hx hg (cE_shape h1) (ih.e hx h1), rfl⟩
      · rename_i a b
        cases e1 : mapO (cE Γ m sc N) [a, b] with
        | none => rw [e1] at h; cases h
        | some xs =>
          rw [e1] at h
          cases h
          obtain ⟨x, zs, h1, h2, rfl⟩ := mapO_cons e1
          obtain ⟨y, zs, h3, h4, rfl⟩ := mapO_cons h2
          cases h4
          exact ⟨i_rng2 hx hg (cE_shape h1) (cE_shape h3) (ih.e hx h1) (ih.e hx h3), rfl⟩
      · rename_i a b e
        cases e1 : mapO (cE Γ m sc N) [a, b, e] with
        | none => rw [e1] at h; cases h
        | some xs =>
          rw [e1] at h
          cases h
          obtain ⟨x, zs, h1, h2, rfl⟩ := mapO_cons e1
          obtain ⟨y, zs, h3, h4, rfl⟩ := mapO_cons h2
          obtain ⟨z, zs, h5, h6, rfl⟩ := mapO_cons h4
          cases h6
          exact ⟨i_rng3 hx hg (cE_shape h1) (cE_shape h3) (cE_shape h5) (ih.e hx h1) (ih.e hx h3) (ih.e hx h5), rfl⟩
    · split at h
      · rename_i hs
        have hs' := beq_iff_eq.mp hs
        subst hs'
        split at h <;> first | (cases h; done) | skip
        rename_i hg
        simp only [Bool.and_eq_true, List.isEmpty_iff] at hg
        obtain ⟨⟨hg, rfl⟩, ht⟩ := hg
        split at h <;> first | (cases h; done) | skip
        rename_i a
        cases tg <;> simp only [isTupE, Bool.false_eq_true] at ht
        cases e1 : cE Γ m sc N a with
        | none => rw [e1] at h; cases h
        | some x => rw [e1] at h; cases h; exact ⟨i_enum hx hg (cE_shape e1) (ih.e hx e1), rfl⟩
      · split at h
        · rename_i hs
          have hs' := beq_iff_eq.mp hs
          subst hs'
          split at h <;> first | (cases h; done) | skip
          rename_i hg
          simp only [Bool.and_eq_true, List.isEmpty_iff] at hg
          obtain ⟨⟨hg, rfl⟩, ht⟩ := hg
          split at h <;> first | (cases h; done) | skip
          rename_i a b
          cases tg <;> simp only [isTupE, Bool.false_eq_true] at ht
          split at h <;> first | (cases h; done) | skip
          rename_i x y h1 h2
          cases h
          exact ⟨i_zip hx hg (cE_shape h1) (cE_shape h2) (ih.e hx h1) (ih.e hx h2), rfl⟩
        · split at h
          · rename_i hs
            have hs' := beq_iff_eq.mp hs
            subst hs'
            split at h <;> first | (cases h; done) | skip
            rename_i hg
            simp only [Bool.and_eq_true, List.isEmpty_iff] at hg
            obtain ⟨hg, rfl⟩ := hg
            split at h <;> first | (cases h; done) | skip
            rename_i a
            cases e1 : cE Γ m sc N a with
            | none => rw [e1] at h; cases h
            | some x => rw [e1] at h; cases h; exact ⟨i_rev hx hg (cE_shape e1) (ih.e hx e1), rfl⟩
          · exact dflt _ _ h
  · exact dflt _ _ h
theorem all_ih : ∀ m, ∀ m', m' ≤ m → IH Γ w0 ds n m' := by
  intro m
  induction m with
  | zero =>
    intro m' hm
    obtain rfl : m' = 0 := by omega
    exact ⟨fun _ h => by simp [cE] at h, fun _ h => by simp [cT] at h, fun _ h => by simp [cI] at h⟩
  | succ m ih =>
    intro m' hm
    by_cases h : m' = m + 1
    · subst h
      exact ⟨fun hx h => step_e (ih m (Nat.le_refl _)) hx h, fun hx h => step_t ih hx h, fun hx h => step_i (ih m (Nat.le_refl _)) hx h⟩
    · exact ih m' (by omega)
theorem ih_at (m : Nat) : IH Γ w0 ds n m := all_ih m m (Nat.le_refl _)
end
end Mini
namespace Mini
open PySem PySem.Spec PyProof.Rows L2

/-- from a def's entry -/
def GeS (sp0 sp : Option Addr) (B0 H0 B H : Hp) : Prop := (sp = sp0 ∨ (sp0 = none ∧ ∃ a, sp = some a ∧ H0 a = none)) ∧ Ge sp B0 H0 B H
theorem GeS.drop {sp0 sp : Option Addr} {B0 H0 B H : Hp} (g : GeS sp0 sp B0 H0 B H) (w : Wd sp0 B0 H0) : sp = sp0 ∧ Ge sp0 B0 H0 B H ∨ sp0 = none ∧ Ge none B0 H0 B H := by
  obtain ⟨h | ⟨h, a, rfl, ha⟩, g⟩ := g
  · subst h; exact .inl ⟨rfl, g⟩
  · subst h
    refine .inr ⟨rfl, fun x o _ hx => g.hh x o (fun e => by cases e; rw [ha] at hx; cases hx) hx, g.bb, ⟨g.wd.sub, fun _ e => by cases e⟩, g.old⟩
theorem GeS.trans {sp0 sp : Option Addr} {B0 H0 B H B' H' : Hp} (g : GeS sp0 sp B0 H0 B H) (h : Ge sp B H B' H') : GeS sp0 sp B0 H0 B' H' := ⟨g.1, g.2.trans h⟩
/-- the state at a statement -/
structure RS (K : PySem.W.Frag) (sp0 : Option Addr) (B0 H0 : Hp) (s : Sta) (sp : Option Addr) (B : Hp) (σ : L2.St) (H : Hp) : Prop where
  ge : GeS sp0 sp B0 H0 B H
  spot : SpotAt sp s.k H
  ri : RI K sp B s.mu s.ρ σ
  own : ∀ i, i ∈ s.mu → ∃ a vs ds, σ[i]? = some (some (.ref a)) ∧ s.ρ[i]? = some (some (.lst ds)) ∧ H a = some (.lst vs) ∧ RepL K sp B vs ds ∧ B a = none ∧ H0 a = none ∧ sp ≠ some a
  apart : ∀ i j a, i ∈ s.mu → j ∈ s.mu → σ[i]? = some (some (.ref a)) → σ[j]? = some (some (.ref a)) → i = j
section
variable {K : PySem.W.Frag} {sp0 sp : Option Addr} {B0 H0 B H : Hp} {s : Sta} {σ : L2.St}
theorem RS.wd (r : RS K sp0 B0 H0 s sp B σ H) : Wd sp B H := r.ge.2.wd
theorem RS.step {B' H' : Hp} {k : Ky} (r : RS K sp0 B0 H0 s sp B σ H) (g : Ge sp B H B' H') (hs : SpotAt sp k H') : RS K sp0 B0 H0 { s with k := k } sp B' σ H' := by
  refine ⟨r.ge.trans g, hs, r.ri.ext g.bb, fun i hi => ?_, r.apart⟩
  obtain ⟨a, vs, ds, h1, h2, h3, h4, h5, h6, h7⟩ := r.own i hi
  exact ⟨a, vs, ds, h1, h2, g.hh a _ h7 h3, RepL.ext g.bb _ _ h4, g.old a _ h3 h5, h6, h7⟩
/-- some of the mutable lists stand for good -/
theorem RS.freeze (r : RS K sp0 B0 H0 s sp B σ H) (mu' : List Nat) (hm : ∀ i ∈ mu', i ∈ s.mu) :
    ∃ B1, RS K sp0 B0 H0 { s with mu := mu' } sp B1 σ H ∧ Ext B B1 ∧ (∀ i a, i ∈ s.mu → i ∉ mu' → σ[i]? = some (some (.ref a)) → B1 a = H a) ∧ ∀ a, B a = none → B1 a = none ∨ ∃ i, i ∈ s.mu ∧ i ∉ mu' ∧ σ[i]? = some (some (.ref a)) := by
  classical
  let M : Addr → Prop := fun a => ∃ i, i ∈ s.mu ∧ i ∉ mu' ∧ σ[i]? = some (some (.ref a))
  let B1 : Hp := fun a => if M a then H a else B a
  have hM : ∀ a, M a → B1 a = H a := fun a h => if_pos h
  have hN : ∀ a, ¬ M a → B1 a = B a := fun a h => if_neg h
  have hMB : ∀ a, M a → B a = none ∧ H0 a = none ∧ sp ≠ some a := fun a ⟨i, h1, h2, h3⟩ => by
    obtain ⟨a', vs, ds, g1, g2, g3, g4, g5, g6, g7⟩ := r.own i h1
    rw [h3] at g1
    cases g1
    exact ⟨g5, g6, g7⟩
  have ext : Ext B B1 := fun a o h => by
    rw [hN a fun hm => by rw [(hMB a hm).1] at h; cases h]
    exact h
  have w1 : Wd sp B1 H := ⟨fun a o h => by
    by_cases hm : M a
    · rw [hM a hm] at h; exact h
    · rw [hN a hm] at h; exact r.wd.sub a o h, fun a h => by
    rw [hN a fun hm => (hMB a hm).2.2 h]
    exact r.wd.spn a h⟩
  refine ⟨B1, ⟨⟨r.ge.1, r.ge.2.hh, r.ge.2.bb.trans ext, w1, fun a o h hb => ?_⟩, r.spot, ⟨r.ri.1, fun i d hi hd => ?_⟩, fun i hi => ?_, fun i j a hi hj => r.apart i j a (hm i hi) (hm j hj)⟩, ext, fun i a h1 h2 h3 => hM a ⟨i, h1, h2, h3⟩, fun a hb => ?_⟩
  · rw [hN a fun hm => by rw [(hMB a hm).2.1] at h; cases h]
    exact r.ge.2.old a o h hb
  · by_cases hmu : i ∈ s.mu
    · obtain ⟨a', vs, ds, g1, g2, g3, g4, g5, g6, g7⟩ := r.own i hmu
      have hd' : s.ρ[i]? = some (some d) := hd
      rw [g2] at hd'
      cases hd'
      refine ⟨.ref a', g1, .lst ?_ (RepL.ext ext _ _ g4)⟩
      rw [hM a' ⟨i, hmu, hi, g1⟩]
      exact g3
    · obtain ⟨v, h1, h2⟩ := r.ri.2 i d hmu hd
      exact ⟨v, h1, Rep.ext ext _ _ h2⟩
  · obtain ⟨a', vs, ds, g1, g2, g3, g4, g5, g6, g7⟩ := r.own i (hm i hi)
    refine ⟨a', vs, ds, g1, g2, g3, RepL.ext ext _ _ g4, ?_, g6, g7⟩
    rw [hN a' fun ⟨j, h1, h2, h3⟩ => h2 (by rw [← r.apart i j a' (hm i hi) h1 g1 h3]; exact hi)]
    exact g5
  · by_cases hm : M a
    · exact .inr hm
    · exact .inl (by rw [hN a hm]; exact hb)
mutual
theorem rep_mask {B B' : Hp} (h : ∀ a o, B a = some o → (∀ xs, o ≠ .lst xs) → B' a = some o) : ∀ (d : D) (v : V), noL d = true → Rep K sp B v d → Rep K sp B' v d
  | .non, _, _, r => by cases r; exact .non
  | .bl b, _, _, r => by cases r; exact .bl b
  | .int i, _, _, r => by cases r; exact .int i
  | .str x, _, _, r => by cases r; exact .str x
  | .tup ds, _, n, r => by
    cases r with
    | tup h1 h2 =>
      refine .tup ?_ (repl_mask h ds _ (by simpa [noL] using n) h2)
      rcases h1 with (h1 | ⟨o, h1⟩) | h1
      · exact .inl (.inl (h _ _ h1 fun xs e => by cases e))
      · exact .inl (.inr ⟨o, h _ _ h1 fun xs e => by cases e⟩)
      · exact .inr h1
  | .lst ds, _, n, _ => by simp [noL] at n
  | .scr ds, _, n, _ => by simp [noL] at n
  | .spot, _, _, r => by
    cases r with
    | spot h => exact .spot h
theorem repl_mask {B B' : Hp} (h : ∀ a o, B a = some o → (∀ xs, o ≠ .lst xs) → B' a = some o) : ∀ (ds : List D) (vs : List V), noLs ds = true → RepL K sp B vs ds → RepL K sp B' vs ds
  | [], _, _, r => by cases r; exact .nil
  | d :: ds, _, n, r => by
    simp only [noLs, Bool.and_eq_true] at n
    cases r with
    | cons h1 h2 => exact .cons (rep_mask h d _ n.1 h1) (repl_mask h ds _ n.2 h2)
end
/-- the mutable lists come back -/
theorem RS.thaw {B1 B2 H2 : Hp} {k : Ky} (r : RS K sp0 B0 H0 s sp B σ H) (hfix : ∀ i a, i ∈ s.mu → σ[i]? = some (some (.ref a)) → B1 a = H a) (hB1 : ∀ a, B a = none → B1 a = none ∨ ∃ i, i ∈ s.mu ∧ σ[i]? = some (some (.ref a))) (hx : Ext B B1)
    (g : Ge sp B1 H B2 H2) (hs : SpotAt sp k H2) :
    ∃ B3, RS K sp0 B0 H0 { s with k := k } sp B3 σ H2 ∧ Ext B B3 ∧ Ge sp B H B3 H2 ∧ (∀ p, H p = none → B3 p = B2 p) ∧ ∀ a o, B2 a = some o → (∀ xs, o ≠ .lst xs) → B3 a = some o := by
  classical
  let M : Addr → Prop := fun a => ∃ i, i ∈ s.mu ∧ σ[i]? = some (some (.ref a))
  let B3 : Hp := fun a => if M a then none else B2 a
  have hM : ∀ a, M a → B3 a = none := fun a h => if_pos h
  have hN : ∀ a, ¬ M a → B3 a = B2 a := fun a h => if_neg h
  have own' : ∀ a, M a → ∃ vs, H a = some (.lst vs) ∧ B a = none ∧ sp ≠ some a := fun a ⟨i, h1, h3⟩ => by
    obtain ⟨a', vs, ds, g1, g2, g3, g4, g5, g6, g7⟩ := r.own i h1
    rw [h3] at g1
    cases g1
    exact ⟨vs, g3, g5, g7⟩
  have ext : Ext B B3 := fun a o h => by
    rw [hN a fun hm => by obtain ⟨_, _, e, _⟩ := own' a hm; rw [e] at h; cases h]
    exact g.bb a o (hx a o h)
  have g3 : Ge sp B H B3 H2 := by
    refine ⟨g.hh, ext, ⟨fun a o h => ?_, fun a h => ?_⟩, fun a o h hb => ?_⟩
    · by_cases hm : M a
      · rw [hM a hm] at h; cases h
      · rw [hN a hm] at h; exact g.wd.sub a o h
    · by_cases hm : M a
      · exact hM a hm
      · rw [hN a hm]; exact g.wd.spn a h
    · by_cases hm : M a
      · exact hM a hm
      · rw [hN a hm]
        rcases hB1 a hb with h1 | h1
        · exact g.old a o h h1
        · exact (hm h1).elim
  refine ⟨B3, r.step g3 hs, ext, g3, fun p hp => hN p fun hm => ?_, fun a o h hl => ?_⟩
  · obtain ⟨vs, e, _⟩ := own' p hm
    rw [hp] at e
    cases e
  · rw [hN a fun hm => ?_]
    · exact h
    · obtain ⟨vs, e, _, e3⟩ := own' a hm
      obtain ⟨i, h1, h3⟩ := hm
      have e1 := hfix i a h1 h3
      have e2 := g.bb a _ (e1.trans e)
      rw [h] at e2
      cases e2
      exact hl vs rfl
end
mutual
theorem avE_all (mu : List Nat) : ∀ (e : E), (∀ i ∈ mu, avE [i] e = true) → avE mu e = true
  | .var i, h => by
    simp only [avE, Bool.not_eq_true']
    cases hc : mu.contains i with
    | false => rfl
    | true =>
      have hm : i ∈ mu := by simpa using hc
      have := h i hm
      simp [avE] at this
  | .cst _, _ => rfl
  | .bin _ a b, h => by
    simp only [avE, Bool.and_eq_true] at h ⊢
    exact ⟨avE_all mu a fun i hi => (h i hi).1, avE_all mu b fun i hi => (h i hi).2⟩
  | .neg a, h => by
    simp only [avE] at h ⊢
    exact avE_all mu a h
  | .cmp _ a b, h => by
    simp only [avE, Bool.and_eq_true] at h ⊢
    exact ⟨avE_all mu a fun i hi => (h i hi).1, avE_all mu b fun i hi => (h i hi).2⟩
  | .chain _ _ a b c, h => by
    simp only [avE, Bool.and_eq_true] at h ⊢
    exact ⟨⟨avE_all mu a fun i hi => (h i hi).1.1, avE_all mu b fun i hi => (h i hi).1.2⟩, avE_all mu c fun i hi => (h i hi).2⟩
  | .isN a, h => by
    simp only [avE] at h ⊢
    exact avE_all mu a h
  | .notN a, h => by
    simp only [avE] at h ⊢
    exact avE_all mu a h
  | .and a b, h => by
    simp only [avE, Bool.and_eq_true] at h ⊢
    exact ⟨avE_all mu a fun i hi => (h i hi).1, avE_all mu b fun i hi => (h i hi).2⟩
  | .or a b, h => by
    simp only [avE, Bool.and_eq_true] at h ⊢
    exact ⟨avE_all mu a fun i hi => (h i hi).1, avE_all mu b fun i hi => (h i hi).2⟩
  | .not a, h => by
    simp only [avE] at h ⊢
    exact avE_all mu a h
  | .ite t a b, h => by
    simp only [avE, Bool.and_eq_true] at h ⊢
    exact ⟨⟨avT_all mu t fun i hi => (h i hi).1.1, avE_all mu a fun i hi => (h i hi).1.2⟩, avE_all mu b fun i hi => (h i hi).2⟩
  | .tup es, h => by
    simp only [avE] at h ⊢
    exact avEs_all mu es h
  | .lst es, h => by
    simp only [avE] at h ⊢
    exact avEs_all mu es h
  | .idx a b, h => by
    simp only [avE, Bool.and_eq_true] at h ⊢
    exact ⟨avE_all mu a fun i hi => (h i hi).1, avE_all mu b fun i hi => (h i hi).2⟩
  | .sli _ a b c, h => by
    simp only [avE, Bool.and_eq_true] at h ⊢
    exact ⟨⟨avE_all mu a fun i hi => (h i hi).1.1, avE_all mu b fun i hi => (h i hi).1.2⟩, avE_all mu c fun i hi => (h i hi).2⟩
  | .call _ es, h => by
    simp only [avE] at h ⊢
    exact avEs_all mu es h
  | .bi _ es, h => by
    simp only [avE] at h ⊢
    exact avEs_all mu es h
  | .isi a _, h => by
    simp only [avE] at h ⊢
    exact avE_all mu a h
  | .comp0 a _ it _, h => by
    simp only [avE, Bool.and_eq_true] at h ⊢
    exact ⟨avE_all mu a fun i hi => (h i hi).1, avI_all mu it fun i hi => (h i hi).2⟩
  | .comp1 a _ it t _, h => by
    simp only [avE, Bool.and_eq_true] at h ⊢
    exact ⟨⟨avE_all mu a fun i hi => (h i hi).1.1, avI_all mu it fun i hi => (h i hi).1.2⟩, avT_all mu t fun i hi => (h i hi).2⟩
theorem avT_all (mu : List Nat) : ∀ (e : T), (∀ i ∈ mu, avT [i] e = true) → avT mu e = true
  | .val e, h => by
    simp only [avT] at h ⊢
    exact avE_all mu e h
  | .not t, h => by
    simp only [avT] at h ⊢
    exact avT_all mu t h
  | .and a b, h => by
    simp only [avT, Bool.and_eq_true] at h ⊢
    exact ⟨avT_all mu a fun i hi => (h i hi).1, avT_all mu b fun i hi => (h i hi).2⟩
  | .or a b, h => by
    simp only [avT, Bool.and_eq_true] at h ⊢
    exact ⟨avT_all mu a fun i hi => (h i hi).1, avT_all mu b fun i hi => (h i hi).2⟩
  | .ite a b c, h => by
    simp only [avT, Bool.and_eq_true] at h ⊢
    exact ⟨⟨avT_all mu a fun i hi => (h i hi).1.1, avT_all mu b fun i hi => (h i hi).1.2⟩, avT_all mu c fun i hi => (h i hi).2⟩
theorem avEs_all (mu : List Nat) : ∀ (e : Es), (∀ i ∈ mu, avEs [i] e = true) → avEs mu e = true
  | .nil, _ => rfl
  | .cons e es, h => by
    simp only [avEs, Bool.and_eq_true] at h ⊢
    exact ⟨avE_all mu e fun i hi => (h i hi).1, avEs_all mu es fun i hi => (h i hi).2⟩
theorem avI_all (mu : List Nat) : ∀ (e : I), (∀ i ∈ mu, avI [i] e = true) → avI mu e = true
  | .seq e, h => by
    simp only [avI] at h ⊢
    exact avE_all mu e h
  | .rng es, h => by
    simp only [avI] at h ⊢
    exact avEs_all mu es h
  | .enum e, h => by
    simp only [avI] at h ⊢
    exact avE_all mu e h
  | .zip a b, h => by
    simp only [avI, Bool.and_eq_true] at h ⊢
    exact ⟨avE_all mu a fun i hi => (h i hi).1, avE_all mu b fun i hi => (h i hi).2⟩
  | .rev e, h => by
    simp only [avI] at h ⊢
    exact avE_all mu e h
end
section
variable {K : PySem.W.Frag} {c : Call} {sp0 sp : Option Addr} {B0 H0 B H : Hp} {s : Sta} {σ : L2.St} {il : E} {d : D} {k : Ky}
/-- an expression whose value holds no list: every slot may be named -/
theorem ev_pure {Q : VK} (r : RS K sp0 B0 H0 s sp B σ H) (he : evE c il s.ρ s.k = some (d, k)) (hn : noL d = true) (q : ∀ v B' H', RS K sp0 B0 H0 { s with k := k } sp B' σ H' → Ext B B' → Ge sp B H B' H' → Rep K sp B' v d → Q v H') : tDU K c il σ H Q := by
  obtain ⟨B1, r1, x1, f1, f2⟩ := r.freeze [] (fun _ h => by cases h)
  refine ⟨s.ρ, [], s.k, d, k, he, avE_all [] il (fun _ h => (by cases h)), sp, B1, r1.wd, r.spot, r1.ri, fun v B2 H2 g2 s2 r2 => ?_⟩
  obtain ⟨B3, r3, x3, g3, _, h3⟩ := r.thaw (fun i a h1 h2 => f1 i a h1 (by simp) h2) (fun a hb => (f2 a hb).imp id fun ⟨i, h1, _, h2⟩ => ⟨i, h1, h2⟩) x1 g2 s2
  exact q v B3 H2 r3 x3 g3 (rep_mask h3 d v hn r2)
/-- the value is dropped -/
theorem ev_drop {Q : VK} (r : RS K sp0 B0 H0 s sp B σ H) (he : evE c il s.ρ s.k = some (d, k)) (q : ∀ v B' H', RS K sp0 B0 H0 { s with k := k } sp B' σ H' → Ext B B' → Q v H') : tDU K c il σ H Q := by
  obtain ⟨B1, r1, x1, f1, f2⟩ := r.freeze [] (fun _ h => by cases h)
  refine ⟨s.ρ, [], s.k, d, k, he, avE_all [] il (fun _ h => (by cases h)), sp, B1, r1.wd, r.spot, r1.ri, fun v B2 H2 g2 s2 r2 => ?_⟩
  obtain ⟨B3, r3, x3, g3, _, h3⟩ := r.thaw (fun i a h1 h2 => f1 i a h1 (by simp) h2) (fun a hb => (f2 a hb).imp id fun ⟨i, h1, _, h2⟩ => ⟨i, h1, h2⟩) x1 g2 s2
  exact q v B3 H2 r3 x3
theorem ev_test {tt : T} {b : Bool} {Q : Bool → Hp → Prop} (r : RS K sp0 B0 H0 s sp B σ H) (he : evT c tt s.ρ s.k = some (b, k)) (q : ∀ B' H', RS K sp0 B0 H0 { s with k := k } sp B' σ H' → Ext B B' → Q b H') : tTU K c tt σ H Q := by
  obtain ⟨B1, r1, x1, f1, f2⟩ := r.freeze [] (fun _ h => by cases h)
  refine ⟨s.ρ, [], s.k, b, k, he, avT_all [] tt (fun _ h => (by cases h)), sp, B1, r1.wd, r.spot, r1.ri, fun B2 H2 g2 s2 => ?_⟩
  obtain ⟨B3, r3, x3, g3, _, h3⟩ := r.thaw (fun i a h1 h2 => f1 i a h1 (by simp) h2) (fun a hb => (f2 a hb).imp id fun ⟨i, h1, _, h2⟩ => ⟨i, h1, h2⟩) x1 g2 s2
  exact q B3 H2 r3 x3
/-- any value: the mutable lists that are named stand for good from here on -/
theorem ev_any {Q : VK} (r : RS K sp0 B0 H0 s sp B σ H) (he : evE c il s.ρ s.k = some (d, k)) (q : ∀ v B' H', RS K sp0 B0 H0 (s.keep (fun m => avE m il) k) sp B' σ H' → Ext B B' → Rep K sp B' v d → Q v H') : tDU K c il σ H Q := by
  obtain ⟨B1, r1, x1, f1, f2⟩ := r.freeze (s.mu.filter fun i => avE [i] il) (fun i h => (List.mem_filter.mp h).1)
  refine ⟨s.ρ, _, s.k, d, k, he, avE_all (s.mu.filter fun i => avE [i] il) il fun i h => (List.mem_filter.mp h).2, sp, B1, r1.wd, r.spot, r1.ri, fun v B2 H2 g2 s2 r2 => ?_⟩
  exact q v B2 H2 (r1.step g2 s2) (x1.trans g2.bb) r2
theorem ev_st {s1 : Sta} {Q : VK} (r : RS K sp0 B0 H0 s sp B σ H) (he : stE c il s = some (d, s1)) (q : ∀ v B' H', RS K sp0 B0 H0 s1 sp B' σ H' → Ext B B' → Rep K sp B' v d → Q v H') : tDU K c il σ H Q := by
  unfold stE at he
  split at he
  · cases he
  rename_i d' k' e1
  simp only [Option.some.injEq, Prod.mk.injEq] at he
  obtain ⟨rfl, rfl⟩ := he
  by_cases hn : noL d' = true
  · rw [if_pos hn] at q
    exact ev_pure r e1 hn fun v B' H' r' x g rv => q v B' H' r' x rv
  · rw [if_neg hn] at q
    exact ev_any r e1 q
end
end Mini
namespace Mini
open PySem PySem.Spec PyProof.Rows L2
section
variable {X : Cx} {c : Call} {Γ : CT} {w0 n : Nat} {ds : List Def} {sc : Scope} {N : List Str}
variable {a b e t : Expr} {x y z : E} {pos : Pos} {es : List Expr} {xs : Es}

/-! ### new lists -/
def tFU (K : PySem.W.Frag) (c : Call) (il : E) : TE := fun σ H Q => ∃ ρ mu k ds k', evE c il ρ k = some (.lst ds, k') ∧ avE mu il = true ∧ tFr K ρ mu k ds k' σ H Q
theorem f_lst (ha : PAD X c es xs) : PE X (.List es pos) (tFU X.K c (.lst xs)) := by
  refine ⟨fun pins s σ H Q I ⟨ρ, mu, k, ds, k', he, hav, h⟩ => ?_⟩
  simp only [evE] at he
  cases e1 : evEs c xs ρ k with
  | none => rw [e1] at he; cases he
  | some p =>
    obtain ⟨d1, k1⟩ := p
    rw [e1] at he
    simp only [Option.bind_some] at he
    split at he
    · rename_i hz
      cases he
      refine (pe_lst (ha ρ mu k _ _ e1 (by simpa [avE] using hav))).run pins s σ H Q I ?_
      obtain ⟨sp, B, w, s', ri, q⟩ := h
      refine ⟨sp, B, w, s', ri, fun vs B1 H1 g1 s1 r1 => ⟨by rw [r1.len]; exact line_of hz, fun p hp => ?_⟩⟩
      exact q p vs B1 _ (none_back g1 s1 hp) (g1.trans (Ge.newOut g1.wd s1 hp)) (s1.ge hp) upd_same (B_none g1.wd hp) r1
    · cases he
theorem f_comp0 (hx : XF Γ w0 ds n sc N X) {scope : Scope} {tg it elt : Expr} {tgd : Tg} {itd : I} {eltd : E} (hit : plainE it = true) (P : CParts X c N scope tg it elt tgd itd eltd) :
    PE X (.ListComp elt [⟨tg, it, [], 0⟩] scope pos) (tFU X.K c (.comp0 eltd tgd itd ((ownOf N scope.names).map (·.2)))) := by
  refine ⟨fun pins s σ H Q I ⟨ρ, mu, k, ds, k', he, hav, h⟩ => ?_⟩
  obtain ⟨ys, e1, h2⟩ := comp0_rd P he hav
  cases e1
  exact (pe_lc hx.calm (by rw [hx.nn]; exact hx.nd) (piU P.itr) P.ok (fun s H C cl fp => pgU (P.tgt s H C cl fp)) (fun s H C cl fp => pts_nil) (fun s H C cl fp => peU (P.elt s H C cl fp)) (noSet_of hit X.env)).run pins s σ H Q I (h2 σ H Q h)
theorem f_comp1 (hx : XF Γ w0 ds n sc N X) {scope : Scope} {tg it elt q : Expr} {tgd : Tg} {itd : I} {eltd : E} {qd : T} (hit : plainE it = true) (P : CParts X c N scope tg it elt tgd itd eltd)
    (hq : ∀ (s : Shared) (H : Hp) (C : Addr) (cl : List (Str × Addr)) (fp : List Addr), PTD (X.blk s H scope (compEnvC scope cl C X.env) fp) c q qd) :
    PE X (.ListComp elt [⟨tg, it, [q], 0⟩] scope pos) (tFU X.K c (.comp1 eltd tgd itd qd ((ownOf N scope.names).map (·.2)))) := by
  refine ⟨fun pins s σ H Q I ⟨ρ, mu, k, ds, k', he, hav, h⟩ => ?_⟩
  obtain ⟨ys, e1, h2⟩ := comp1_rd P he hav
  cases e1
  exact (pe_lc hx.calm (by rw [hx.nn]; exact hx.nd) (piU P.itr) P.ok (fun s H C cl fp => pgU (P.tgt s H C cl fp)) (fun s H C cl fp => pts_one (ptU (hq s H C cl fp))) (fun s H C cl fp => peU (P.elt s H C cl fp)) (noSet_of hit X.env)).run pins s σ H Q I (h2 σ H Q h)
theorem biSem_list {as dl : List D} (h : biSem .list as = some (.lst dl)) : as = [.lst dl] ∨ as = [.tup dl] := by
  cases as with
  | nil => simp [biSem] at h
  | cons u us =>
    cases us with
    | nil => cases u <;> simp [biSem] at h <;> subst h <;> simp
    | cons _ _ => simp [biSem] at h
theorem biSem_sorted {as dl : List D} (h : biSem .sorted as = some (.lst dl)) : ∃ ns : List Int, as = [.lst (ns.map .int)] ∧ ns.length < 64 ∧ dl = (sortI ns).map .int := by
  cases as with
  | nil => simp [biSem] at h
  | cons u us =>
    cases us with
    | nil =>
      cases u <;> simp only [biSem] at h <;> first | (cases h; done) | skip
      split at h
      · rename_i ns e
        split at h
        · rename_i h64
          cases h
          exact ⟨ns, by rw [toInts_map e], of_decide_eq_true h64, rfl⟩
        · cases h
      · cases h
    | cons _ _ => simp [biSem] at h
theorem f_list (hx : XF Γ w0 ds n sc N X) {p : Pos} (hg : glob sc ("list" : Str) = true) (hne : es ≠ []) (hes : ∀ e ∈ es, plainE e = true) (ha : PAD X c es xs) :
    PE X (.Call (.Name ("list" : Str) p) es [] pos) (tFU X.K c (.bi .list xs)) := by
  refine ⟨fun pins sh σ H Q I ⟨ρ, mu, k, dl, k', he, hav, h⟩ => ?_⟩
  simp only [avE] at hav
  simp only [evE] at he
  split at he
  · cases he
  rename_i d1 k1 e1
  cases e2 : biSem .list d1 with
  | none => rw [e2] at he; cases he
  | some z =>
    rw [e2] at he
    simp only [Option.map_some, Option.some.injEq, Prod.mk.injEq] at he
    obtain ⟨rfl, rfl⟩ := he
    obtain ⟨h1, h2, h3⟩ := glob_of hx hg
    cases es with
    | nil => exact absurd rfl hne
    | cons e es =>
      have st := star_of (hes e List.mem_cons_self) es X.env
      have ns : (backTo pos (starEach es X.env)).any (·.1) = false := noStar_of fun u hu => hes u (List.mem_cons_of_mem _ hu)
      have hA := ha ρ mu k d1 k1 e1 hav
      obtain ⟨sp, B, w, s', ri, q⟩ := h
      refine (pe_callTy call_list_of h1 (hx.F.bi _ (by decide +kernel)) (by decide +kernel) hA h3 h2 st ns).run pins sh σ H Q I ⟨sp, B, w, s', ri, fun vs B1 H1 g1 s1 r1 => ?_⟩
      rcases biSem_list e2 with rfl | rfl
      · obtain ⟨v, rfl, rv⟩ := repl_one r1
        cases rv with
        | @lst pa ys _ h4 h5 =>
          exact ⟨pa, ys, rfl, .inl (.inl (.inl (g1.wd.sub _ _ h4))), fun l hl => q l ys B1 _ (none_back g1 s1 hl) (g1.trans (Ge.newOut g1.wd s1 hl)) (s1.ge hl) upd_same (B_none g1.wd hl) h5⟩
      · obtain ⟨v, rfl, rv⟩ := repl_one r1
        cases rv with
        | @tup pa ys _ h4 h5 =>
          exact ⟨pa, ys, rfl, .inr (ext_t g1.wd.sub h4), fun l hl => q l ys B1 _ (none_back g1 s1 hl) (g1.trans (Ge.newOut g1.wd s1 hl)) (s1.ge hl) upd_same (B_none g1.wd hl) h5⟩
theorem f_sorted (hx : XF Γ w0 ds n sc N X) {p : Pos} (hg : glob sc ("sorted" : Str) = true) (hne : es ≠ []) (hes : ∀ e ∈ es, plainE e = true) (ha : PAD X c es xs) :
    PE X (.Call (.Name ("sorted" : Str) p) es [] pos) (tFU X.K c (.bi .sorted xs)) := by
  refine ⟨fun pins sh σ H Q I ⟨ρ, mu, k, dl, k', he, hav, h⟩ => ?_⟩
  simp only [avE] at hav
  simp only [evE] at he
  split at he
  · cases he
  rename_i d1 k1 e1
  cases e2 : biSem .sorted d1 with
  | none => rw [e2] at he; cases he
  | some z =>
    rw [e2] at he
    simp only [Option.map_some, Option.some.injEq, Prod.mk.injEq] at he
    obtain ⟨rfl, rfl⟩ := he
    obtain ⟨h1, h2, h3⟩ := glob_of hx hg
    cases es with
    | nil => exact absurd rfl hne
    | cons e es =>
      have st := star_of (hes e List.mem_cons_self) es X.env
      have ns : (backTo pos (starEach es X.env)).any (·.1) = false := noStar_of fun u hu => hes u (List.mem_cons_of_mem _ hu)
      have hA := ha ρ mu k d1 k1 e1 hav
      obtain ⟨sp, B, w, s', ri, q⟩ := h
      refine (pe_callB cr_sorted h1 (hx.F.bi _ (by decide +kernel)) (by decide +kernel) hA h3 h2 st ns).run pins sh σ H Q I ⟨sp, B, w, s', ri, fun vs B1 H1 g1 s1 r1 => ?_⟩
      obtain ⟨ms, rfl, h64, rfl⟩ := biSem_sorted e2
      obtain ⟨v, rfl, rv⟩ := repl_one r1
      cases rv with
      | @lst pa ys _ h4 h5 =>
        obtain rfl := h5.ints
        refine ⟨pa, ms, rfl, .inl (.inl (g1.wd.sub _ _ h4)), h64, fun ns' o hp hs ho => ?_⟩
        have e2 : ns' = sortI ms := PySem.W.ksm_same (hp.trans (sortI_perm ms).symm) hs (sortI_sorted ms)
        rw [e2]
        exact q o _ B1 _ (none_back g1 s1 ho) (g1.trans (Ge.newOut g1.wd s1 ho)) (s1.ge ho) upd_same (B_none g1.wd ho) (repl_ints _)
/-- the shapes of new lists -/
theorem fresh_e {m : Nat} {il : E} (hx : XF Γ w0 ds n sc N X) (hc : c = run w0 ds n) (h : cE Γ (m + 1) sc N e = some il) (hf : freshShape e = true) : PE X e (tFU X.K c il) ∨ isComp e = true := by
  have ih := ih_at (Γ := Γ) (w0 := w0) (ds := ds) (n := n) m
  subst hc
  cases e <;> simp only [freshShape, Bool.false_eq_true] at hf
  · exact .inr rfl
  · rename_i f args kw q
    cases f <;> simp only [Bool.false_eq_true] at hf
    rename_i s p
    simp only [cE] at h
    split at h <;> first | (cases h; done) | skip
    rename_i heq
    cases heq
    split at h <;> first | (cases h; done) | skip
    rename_i hg
    split at h
    · rename_i i hi
      obtain ⟨_, _, _, _, hm, _⟩ := hx.F.fns s i hi
      have h2 : X.mg s = none := by
        simp only [Bool.or_eq_true] at hf
        rcases hf with hf | hf <;> (have hs' := beq_iff_eq.mp hf; subst hs'; exact hx.F.bi _ (by decide +kernel))
      rw [hm] at h2
      cases h2
    · simp only [Bool.or_eq_true] at hf
      rcases hf with hf | hf
      · have hs' := beq_iff_eq.mp hf
        subst hs'
        have n1 : (("list" : Str) == ("isinstance" : Str)) = false := by decide +kernel
        rw [n1] at h
        simp only [Bool.false_eq_true, if_false] at h
        split at h
        · rename_i hgc
          have h1 := hx.F.gcd _ (List.contains_iff_mem.mp hgc)
          have h2 := hx.F.bi ("list" : Str) (by decide +kernel)
          rw [h2] at h1
          cases h1
        · split at h <;> first | (cases h; done) | skip
          rename_i bb a as hb
          have e3 : cBI ("list" : Str) = some .list := rfl
          rw [e3] at hb
          cases hb
          cases e1 : mapO (cE Γ m sc N) (a :: as) with
          | none => rw [e1] at h; cases h
          | some xs =>
            rw [e1] at h
            cases h
            exact .inl (f_list hx hg (by simp) (mapO_plain e1) (mapO_pad (fun e il => ih.e hx) e1))
      · have hs' := beq_iff_eq.mp hf
        subst hs'
        have n1 : (("sorted" : Str) == ("isinstance" : Str)) = false := by decide +kernel
        rw [n1] at h
        simp only [Bool.false_eq_true, if_false] at h
        split at h
        · rename_i hgc
          have h1 := hx.F.gcd _ (List.contains_iff_mem.mp hgc)
          have h2 := hx.F.bi ("sorted" : Str) (by decide +kernel)
          rw [h2] at h1
          cases h1
        · split at h <;> first | (cases h; done) | skip
          rename_i bb a as hb
          have e3 : cBI ("sorted" : Str) = some .sorted := rfl
          rw [e3] at hb
          cases hb
          cases e1 : mapO (cE Γ m sc N) (a :: as) with
          | none => rw [e1] at h; cases h
          | some xs =>
            rw [e1] at h
            cases h
            exact .inl (f_sorted hx hg (by simp) (mapO_plain e1) (mapO_pad (fun e il => ih.e hx) e1))
  · rename_i es p
    simp only [cE] at h
    cases e1 : mapO (cE Γ m sc N) es with
    | none => rw [e1] at h; cases h
    | some xs => rw [e1] at h; cases h; exact .inl (f_lst (mapO_pad (fun e il => ih.e hx) e1))

/-! ### the state, changed -/
variable {K : PySem.W.Frag} {sp0 sp : Option Addr} {B0 H0 B H : Hp} {s : Sta} {σ : L2.St} {il : E} {d : D} {k : Ky}
theorem mem_filter_ne {i j : Nat} {mu : List Nat} : j ∈ mu.filter (· != i) ↔ j ∈ mu ∧ j ≠ i := by
  rw [List.mem_filter]
  simp
theorem RS.put {v : V} (r : RS K sp0 B0 H0 s sp B σ H) (i : Nat) (rv : Rep K sp B v d) : RS K sp0 B0 H0 (s.put i d) sp B (σ.set i (some v)) H := by
  refine ⟨r.ge, r.spot, ⟨by simp [Sta.put, r.ri.1], fun j d' hj hd => ?_⟩, fun j hj => ?_, fun j j' a hj hj' h1 h2 => ?_⟩
  · by_cases hji : j = i
    · subst hji
      have hl : j < s.ρ.length := by
        by_cases hl : j < s.ρ.length
        · exact hl
        · have hd' : (s.ρ.set j (some d))[j]? = some (some d') := hd
          rw [List.getElem?_eq_none (by simpa using hl)] at hd'
          cases hd'
      have hd' : (s.ρ.set j (some d))[j]? = some (some d') := hd
      rw [List.getElem?_set_self hl] at hd'
      cases hd'
      exact ⟨v, List.getElem?_set_self (by rw [r.ri.1]; exact hl), rv⟩
    · have hd' : (s.ρ.set i (some d))[j]? = some (some d') := hd
      rw [List.getElem?_set_ne (Ne.symm hji)] at hd'
      rw [List.getElem?_set_ne (Ne.symm hji)]
      exact r.ri.2 j d' (fun hm => hj (mem_filter_ne.mpr ⟨hm, hji⟩)) hd'
  · obtain ⟨hm, hji⟩ := mem_filter_ne.mp hj
    obtain ⟨a, vs, ds, h1, h2, h3⟩ := r.own j hm
    exact ⟨a, vs, ds, by rw [List.getElem?_set_ne (Ne.symm hji)]; exact h1, by show (s.ρ.set i _)[j]? = _; rw [List.getElem?_set_ne (Ne.symm hji)]; exact h2, h3⟩
  · obtain ⟨hm, hji⟩ := mem_filter_ne.mp hj
    obtain ⟨hm', hji'⟩ := mem_filter_ne.mp hj'
    rw [List.getElem?_set_ne (Ne.symm hji)] at h1
    rw [List.getElem?_set_ne (Ne.symm hji')] at h2
    exact r.apart j j' a hm hm' h1 h2
/-- a new list in a slot -/
theorem RS.putNew {p : Addr} {vs : List V} {dl : List D} (r : RS K sp0 B0 H0 s sp B σ H) (i : Nat) (hi : i < s.ρ.length) (hl : H p = some (.lst vs)) (hb : B p = none) (h0 : H0 p = none) (hsp : sp ≠ some p) (rv : RepL K sp B vs dl)
    (hn : ∀ j a, j ∈ s.mu → σ[j]? = some (some (.ref a)) → a ≠ p) : RS K sp0 B0 H0 { ρ := s.ρ.set i (some (.lst dl)), mu := i :: s.mu.filter (· != i), k := s.k } sp B (σ.set i (some (.ref p))) H := by
  have hiσ : i < σ.length := by rw [r.ri.1]; exact hi
  refine ⟨r.ge, r.spot, ⟨by simp [r.ri.1], fun j d' hj hd => ?_⟩, fun j hj => ?_, fun j j' a hj hj' h1 h2 => ?_⟩
  · simp only [List.mem_cons, not_or] at hj
    have hd' : (s.ρ.set i (some (.lst dl)))[j]? = some (some d') := hd
    rw [List.getElem?_set_ne (Ne.symm hj.1)] at hd' ⊢
    exact r.ri.2 j d' (fun hm => hj.2 (mem_filter_ne.mpr ⟨hm, hj.1⟩)) hd'
  · rcases List.mem_cons.mp hj with rfl | hj
    · exact ⟨p, vs, dl, List.getElem?_set_self hiσ, List.getElem?_set_self hi, hl, rv, hb, h0, hsp⟩
    · obtain ⟨hm, hji⟩ := mem_filter_ne.mp hj
      obtain ⟨a, vs, ds, h1, h2, h3⟩ := r.own j hm
      exact ⟨a, vs, ds, by rw [List.getElem?_set_ne (Ne.symm hji)]; exact h1, by show (s.ρ.set i _)[j]? = _; rw [List.getElem?_set_ne (Ne.symm hji)]; exact h2, h3⟩
  · rcases List.mem_cons.mp hj with rfl | hj
    · rcases List.mem_cons.mp hj' with rfl | hj'
      · rfl
      · obtain ⟨hm', hji'⟩ := mem_filter_ne.mp hj'
        rw [List.getElem?_set_self hiσ] at h1
        rw [List.getElem?_set_ne (Ne.symm hji')] at h2
        cases h1
        exact (hn j' _ hm' h2 rfl).elim
    · obtain ⟨hm, hji⟩ := mem_filter_ne.mp hj
      rw [List.getElem?_set_ne (Ne.symm hji)] at h1
      rcases List.mem_cons.mp hj' with rfl | hj'
      · rw [List.getElem?_set_self hiσ] at h2
        cases h2
        exact (hn j _ hm h1 rfl).elim
      · obtain ⟨hm', hji'⟩ := mem_filter_ne.mp hj'
        rw [List.getElem?_set_ne (Ne.symm hji')] at h2
        exact r.apart j j' a hm hm' h1 h2
/-- a mutable list changed -/
theorem RS.wr {a : Addr} {vs vs' : List V} {dl dl' : List D} {i : Nat} (r : RS K sp0 B0 H0 s sp B σ H) (hi : i ∈ s.mu) (ha : σ[i]? = some (some (.ref a))) (hd : s.ρ[i]? = some (some (.lst dl))) (rv : RepL K sp B vs' dl') : RS K sp0 B0 H0 { s with ρ := s.ρ.set i (some (.lst dl')) } sp B σ (upd H a (.lst vs')) := by
  obtain ⟨a', vs0, ds0, g1, g2, g3, g4, g5, g6, g7⟩ := r.own i hi
  rw [ha] at g1
  cases g1
  have hil : i < s.ρ.length := (List.getElem?_eq_some_iff.mp hd).1
  have ge' : Ge sp B0 H0 B (upd H a (.lst vs')) := by
    refine ⟨fun x o hne hx => ?_, r.ge.2.bb, ⟨fun x o hx => ?_, r.wd.spn⟩, r.ge.2.old⟩
    · rw [upd_ne (ne_of_none hx g6)]; exact r.ge.2.hh x o hne hx
    · rw [upd_ne (ne_of_none hx g5)]; exact r.wd.sub x o hx
  refine ⟨⟨r.ge.1, ge'⟩, ?_, ⟨by simp [r.ri.1], fun j d' hj hd' => ?_⟩, fun j hj => ?_, r.apart⟩
  · have hs := r.spot
    cases sp with
    | none => cases hk : s.k with
      | none => trivial
      | some m => rw [hk] at hs; exact hs
    | some p => cases hk : s.k with
      | none => rw [hk] at hs; exact hs
      | some m =>
        rw [hk] at hs
        show upd H a _ p = _
        rw [upd_ne (fun e => g7 (by rw [e]))]
        exact hs
  · have hji : j ≠ i := fun e => hj (by rw [e]; exact hi)
    have hd'' : (s.ρ.set i (some (.lst dl')))[j]? = some (some d') := hd'
    rw [List.getElem?_set_ne (Ne.symm hji)] at hd''
    exact r.ri.2 j d' hj hd''
  · by_cases hji : j = i
    · subst hji
      exact ⟨a, vs', dl', ha, List.getElem?_set_self hil, upd_same, rv, g5, g6, g7⟩
    · obtain ⟨b, ws, es, h1, h2, h3, h4, h5, h6, h7⟩ := r.own j hj
      have hne : b ≠ a := fun e => hji (r.apart j i a hj hi (by rw [h1, e]) ha)
      exact ⟨b, ws, es, h1, by show (s.ρ.set i _)[j]? = _; rw [List.getElem?_set_ne (Ne.symm hji)]; exact h2, by rw [upd_ne hne]; exact h3, h4, h5, h6, h7⟩
/-- a new flat list comes -/
theorem ev_fresh {dl : List D} {Q : VK} (r : RS K sp0 B0 H0 s sp B σ H) (he : evE c il s.ρ s.k = some (.lst dl, k)) (hn : noLs dl = true) (q : ∀ p vs B' H', RS K sp0 B0 H0 { s with k := k } sp B' σ H' → Ext B B' → H p = none → H' p = some (.lst vs) → B' p = none → H0 p = none → sp ≠ some p → (∀ j a, j ∈ s.mu → σ[j]? = some (some (.ref a)) → a ≠ p) → RepL K sp B' vs dl → Q (.ref p) H') : tFU K c il σ H Q := by
  obtain ⟨B1, r1, x1, f1, f2⟩ := r.freeze [] (fun _ h => by cases h)
  refine ⟨s.ρ, [], s.k, dl, k, he, avE_all [] il (fun _ h => (by cases h)), sp, B1, r1.wd, r.spot, r1.ri, fun p vs B2 H2 hp g2 s2 hl hb r2 => ?_⟩
  obtain ⟨B3, r3, x3, g3, h4, h3⟩ := r.thaw (fun i a h1 h2 => f1 i a h1 (by simp) h2) (fun a hb => (f2 a hb).imp id fun ⟨i, h1, _, h2⟩ => ⟨i, h1, h2⟩) x1 g2 s2
  have hsp : sp ≠ some p := r.spot.ne hp
  refine q p vs B3 H2 r3 x3 hp hl (by rw [h4 p hp]; exact hb) ?_ hsp (fun j a hj ha e => ?_) (repl_mask h3 dl vs hn r2)
  · cases e : H0 p with
    | none => rfl
    | some o =>
      have := r.ge.2.hh p o hsp e
      rw [hp] at this
      cases this
  · subst e
    obtain ⟨a', vs', ds', g1, g2', g3', _⟩ := r.own j hj
    rw [ha] at g1
    cases g1
    rw [hp] at g3'
    cases g3'
theorem ev_freshAny {dl : List D} {Q : VK} (r : RS K sp0 B0 H0 s sp B σ H) (he : evE c il s.ρ s.k = some (.lst dl, k)) (q : ∀ v B' H', RS K sp0 B0 H0 (s.keep (fun m => avE m il) k) sp B' σ H' → Ext B B' → Rep K sp B' v (.lst dl) → Q v H') : tFU K c il σ H Q := by
  obtain ⟨ρ, mu, k0, d0, k1, h1, h2, h3⟩ := ev_any (K := K) (Q := Q) r he q
  obtain ⟨B1, r1, x1, f1, f2⟩ := r.freeze (s.mu.filter fun i => avE [i] il) (fun i h => (List.mem_filter.mp h).1)
  exact ⟨s.ρ, _, s.k, dl, k, he, avE_all (s.mu.filter fun i => avE [i] il) il fun i h => (List.mem_filter.mp h).2, tFr_of ⟨sp, B1, r1.wd, r.spot, r1.ri, fun v B2 H2 g2 s2 r2 => q v B2 H2 (r1.step g2 s2) (x1.trans g2.bb) r2⟩⟩
end
end Mini
namespace Mini
open PySem PySem.Spec PyProof.Rows L2

def Fin' (K : PySem.W.Frag) (sp0 : Option Addr) (B0 H0 : Hp) (sp : Option Addr) (B : Hp) (o : O) (D : Ends) : Prop :=
  match o with
  | .nx s' => ∀ sp' B' σ' H', SpLe sp sp' → Ext B B' → RS K sp0 B0 H0 s' sp' B' σ' H' → D.nx σ' H'
  | .bk s' => ∀ sp' B' σ' H', SpLe sp sp' → Ext B B' → RS K sp0 B0 H0 s' sp' B' σ' H' → D.bk σ' H'
  | .ct s' => ∀ sp' B' σ' H', SpLe sp sp' → Ext B B' → RS K sp0 B0 H0 s' sp' B' σ' H' → D.ct σ' H'
  | .rt d k => ∀ sp' v B' H', GeS sp0 sp' B0 H0 B' H' → SpotAt sp' k H' → Rep K sp' B' v d → D.rt v H'
theorem Fin'.mono {K : PySem.W.Frag} {sp0 sp sp1 : Option Addr} {B0 H0 B B1 : Hp} {o : O} {D : Ends} (f : Fin' K sp0 B0 H0 sp B o D) (h : SpLe sp sp1) (e : Ext B B1) : Fin' K sp0 B0 H0 sp1 B1 o D := by
  cases o with
  | nx s => exact fun sp' B' σ' H' h' e' r => f sp' B' σ' H' (h.trans h') (e.trans e') r
  | bk s => exact fun sp' B' σ' H' h' e' r => f sp' B' σ' H' (h.trans h') (e.trans e') r
  | ct s => exact fun sp' B' σ' H' h' e' r => f sp' B' σ' H' (h.trans h') (e.trans e') r
  | rt d k => exact f
def tSU (K : PySem.W.Frag) (c : Call) (w : Nat) (il : S) : TS := fun D σ H => ∃ sp0 B0 H0 s o sp B, evS c w il s = some o ∧ RS K sp0 B0 H0 s sp B σ H ∧ Fin' K sp0 B0 H0 sp B o D
def tSsU (K : PySem.W.Frag) (c : Call) (w : Nat) (il : Ss) : TS := fun D σ H => ∃ sp0 B0 H0 s o sp B, evSs c w il s = some o ∧ RS K sp0 B0 H0 s sp B σ H ∧ Fin' K sp0 B0 H0 sp B o D
theorem _root_.L2.PS.wk {X : Cx} {st : Stmt} {t t' : TS} (h : PS X st t) (w : ∀ D σ H, t' D σ H → t D σ H) : PS X st t' := ⟨fun pins s σ H D I hw => h.run pins s σ H D I (w _ _ _ hw)⟩
theorem _root_.L2.PSs.wk {X : Cx} {st : List Stmt} {t t' : TS} (h : PSs X st t) (w : ∀ D σ H, t' D σ H → t D σ H) : PSs X st t' := ⟨fun pins s σ H D I hw => h.run pins s σ H D I (w _ _ _ hw)⟩

structure XS (Γ : CT) (w0 : Nat) (ds : List Def) (n : Nat) (sc : Scope) (N : List Str) (X : Cx) : Prop where
  x : XF Γ w0 ds n sc N X
  fn : ∀ s, X.fn s = true
  po : PassesOwn (model X.prog X.w) X.A X.env X.xe
section
variable {X : Cx} {c : Call} {w : Nat} {Γ : CT} {w0 n : Nat} {ds : List Def} {sc : Scope} {N : List Str}
variable {a b e t : Expr} {x y z : E} {pos : Pos} {es : List Expr} {xs : Es}
theorem tok_of (hx : XS Γ w0 ds n sc N X) : TOk X sc := by
  intro s hs
  refine ⟨?_, .inl (hx.fn s)⟩
  unfold L2.Loc
  rw [hx.x.sc]
  unfold isLoc at hs
  split at hs
  · exact .inl (by assumption)
  · exact .inr (by assumption)
  · cases hs
theorem loc_of (hx : XS Γ w0 ds n sc N X) {s : Str} {i : Nat} (h : slotL sc N s = some i) : X.N.Nodup ∧ X.N[i]? = some s ∧ Loc X.env.scope s ∧ (X.fn s = true ∨ X.env.scope.names.lookup s = some .local) := by
  obtain ⟨h1, h2⟩ := slotL_of h
  exact ⟨by rw [hx.x.nn]; exact hx.x.nd, by rw [hx.x.nn]; exact h2, (tok_of hx s h1).1, (tok_of hx s h1).2⟩
theorem noSw {e : Expr} (h : isComp e = false) (h0 : plainE e = true) (tg : Option Expr) (l : Nat) (env : Env) : swapsWith e tg l env = pure false := by
  cases e <;> first | rfl | (simp [plainE] at h0; done) | (simp [isComp] at h; done)

theorem tgMu_mem : ∀ (tg : Tg) (mu : List Nat) (j : Nat), j ∈ tgMu tg mu ↔ j ∈ mu ∧ j ∉ tgSlots tg := by
  intro tg
  exact Tg.rec (motive_1 := fun tg => ∀ (mu : List Nat) (j : Nat), j ∈ tgMu tg mu ↔ j ∈ mu ∧ j ∉ tgSlots tg) (motive_2 := fun ts => ∀ (mu : List Nat) (j : Nat), j ∈ tgsMu ts mu ↔ j ∈ mu ∧ j ∉ tgsSlots ts)
    (fun i mu j => by simp only [tgMu, tgSlots, mem_filter_ne, List.mem_singleton])
    (fun ts ih mu j => by simp only [tgMu, tgSlots]; exact ih mu j)
    (fun mu j => by simp [tgsMu, tgsSlots])
    (fun t ts ih1 ih2 mu j => by simp only [tgsMu, tgsSlots, ih2, ih1, List.mem_append, not_or, and_assoc]) tg
theorem RS.updT {K : PySem.W.Frag} {sp0 sp : Option Addr} {B0 H0 B H : Hp} {s : Sta} {σ σ' : L2.St} {tg : Tg} {ρ' : Rho} (r : RS K sp0 B0 H0 s sp B σ H) (u : Upd' K sp B (tgSlots tg) s.ρ ρ' σ σ') : RS K sp0 B0 H0 { ρ := ρ', mu := tgMu tg s.mu, k := s.k } sp B σ' H := by
  refine ⟨r.ge, r.spot, ⟨by rw [u.l1, u.l2]; exact r.ri.1, fun j d hj hd => ?_⟩, fun j hj => ?_, fun j j' a hj hj' h1 h2 => ?_⟩
  · by_cases ht : j ∈ tgSlots tg
    · exact u.new j d ht hd
    · have o := u.old j ht
      have hd' : ρ'[j]? = some (some d) := hd
      rw [o.2] at hd'
      rw [o.1]
      exact r.ri.2 j d (fun hm => hj ((tgMu_mem tg s.mu j).mpr ⟨hm, ht⟩)) hd'
  · obtain ⟨hm, ht⟩ := (tgMu_mem tg s.mu j).mp hj
    obtain ⟨a, vs, dl, g1, g2, g3⟩ := r.own j hm
    have o := u.old j ht
    exact ⟨a, vs, dl, o.1.trans g1, o.2.trans g2, g3⟩
  · obtain ⟨hm, ht⟩ := (tgMu_mem tg s.mu j).mp hj
    obtain ⟨hm', ht'⟩ := (tgMu_mem tg s.mu j').mp hj'
    rw [(u.old j ht).1] at h1
    rw [(u.old j' ht').1] at h2
    exact r.apart j j' a hm hm' h1 h2
theorem s_set (hx : XS Γ w0 ds n sc N X) {s : Str} {p : Pos} {i : Nat} (hi : slotL sc N s = some i) (hc : isComp e = false) (h0 : plainE e = true) (he : PED X c e x) : PS X (.Assign [.Name s p] e pos) (tSU X.K c w (.set i x)) := by
  obtain ⟨h1, h2, h3, h4⟩ := loc_of hx hi
  refine (ps_set h1 h2 h3 (peU he) (noSw hc h0 _ _ _) h4).wk fun D σ H ⟨sp0, B0, H0, s, o, sp, B, ev, r, f⟩ => ?_
  simp only [evS] at ev
  split at ev
  · cases ev
  rename_i d s1 e1
  cases ev
  show tDU X.K c x σ H fun v H1 => D.nx (σ.set i (some v)) H1
  exact ev_st r e1 fun v B' H' r' x' rv => f sp B' _ H' (.refl _) x' (r'.put i rv)
/-- name = a new flat list -/
theorem new_rd {K : PySem.W.Frag} {i : Nat} {il : E} {D : Ends} {σ : L2.St} {H : Hp} (h : tSU K c w (.new i il) D σ H) : tFU K c il σ H fun v H1 => D.nx (σ.set i (some v)) H1 := by
  obtain ⟨sp0, B0, H0, s, o, sp, B, ev, r, f⟩ := h
  simp only [evS] at ev
  split at ev <;> first | (cases ev; done) | skip
  rename_i dl k e1
  split at ev
  · rename_i hn
    cases ev
    simp only [Bool.and_eq_true, decide_eq_true_eq] at hn
    refine ev_fresh r e1 hn.1 fun p vs B' H' r' x' hp hl hb h0 hsp hne rv => ?_
    exact f sp B' _ H' (.refl _) x' (r'.putNew i hn.2 hl hb h0 hsp rv hne)
  · cases ev
    exact ev_freshAny r e1 fun v B' H' r' x' rv => f sp B' _ H' (.refl _) x' (r'.put i rv)
theorem s_new (hx : XS Γ w0 ds n sc N X) {s : Str} {p : Pos} {i : Nat} (hi : slotL sc N s = some i) (hc : isComp e = false) (h0 : plainE e = true) (he : PE X e (tFU X.K c x)) : PS X (.Assign [.Name s p] e pos) (tSU X.K c w (.new i x)) := by
  obtain ⟨h1, h2, h3, h4⟩ := loc_of hx hi
  exact (ps_set h1 h2 h3 he (noSw hc h0 _ _ _) h4).wk fun D σ H h => new_rd h
theorem sw_of (hx : XS Γ w0 ds n sc N X) {s : Str} {p : Pos} {elt : Expr} {gs : List Comprehension} {scope : Scope} {pc : Pos} (h : swOk sc s p (.ListComp elt gs scope pc) = true) (l : Nat) : X.env.scope.names.lookup s = some .local ∧ swapsWith (.ListComp elt gs scope pc) (some (.Name s p)) l X.env = pure true := by
  simp only [swOk, Bool.and_eq_true, Bool.not_eq_true'] at h
  obtain ⟨⟨⟨h1, h2⟩, h3⟩, h4⟩ := h
  have h1' : sc.kind = .function := by
    cases hk : sc.kind <;> rw [hk] at h1 <;> first | rfl | (exact absurd h1 (by decide))
  have h2' : sc.names.lookup s = some .local := by simpa using h2
  refine ⟨by rw [hx.x.sc]; exact h2', sw_true (by rw [hx.x.sc]; exact h1') (by rw [hx.x.sc]; exact h2') h3 h4⟩
theorem s_newc0 (hx : XS Γ w0 ds n sc N X) {s : Str} {p pc : Pos} {i : Nat} {scope : Scope} {tg it elt : Expr} {tgd : Tg} {itd : I} {eltd : E} (hi : slotL sc N s = some i) (hs : swOk sc s p (.ListComp elt [⟨tg, it, [], 0⟩] scope pc) = true) (hit : plainE it = true) (P : CParts X c N scope tg it elt tgd itd eltd) :
    PS X (.Assign [.Name s p] (.ListComp elt [⟨tg, it, [], 0⟩] scope pc) pos) (tSU X.K c w (.new i (.comp0 eltd tgd itd ((ownOf N scope.names).map (·.2))))) := by
  obtain ⟨h1, h2, h3, h4⟩ := loc_of hx hi
  obtain ⟨h5, h6⟩ := sw_of hx hs pos.line
  refine (ps_setLc (g := gU X.K tgd) (tt := tYes) (te := tDU X.K c eltd) hx.x.calm h1 h2 h5 h6 (piU P.itr) P.ok (fun s H C cl fp => pgU (P.tgt s H C cl fp)) (fun s H C cl fp => pts_nil) (fun s H C cl fp => peU (P.elt s H C cl fp)) (noSet_of hit X.env)).wk fun D σ H h => ?_
  obtain ⟨ρ, mu, k, dl, k', he, hav, h⟩ := new_rd h
  obtain ⟨ys, e1, hr⟩ := comp0_rd P he hav
  cases e1
  exact hr σ H _ h
theorem s_newc1 (hx : XS Γ w0 ds n sc N X) {s : Str} {p pc : Pos} {i : Nat} {scope : Scope} {tg it elt q : Expr} {tgd : Tg} {itd : I} {eltd : E} {qd : T} (hi : slotL sc N s = some i) (hs : swOk sc s p (.ListComp elt [⟨tg, it, [q], 0⟩] scope pc) = true) (hit : plainE it = true) (P : CParts X c N scope tg it elt tgd itd eltd)
    (hq : ∀ (s : Shared) (H : Hp) (C : Addr) (cl : List (Str × Addr)) (fp : List Addr), PTD (X.blk s H scope (compEnvC scope cl C X.env) fp) c q qd) :
    PS X (.Assign [.Name s p] (.ListComp elt [⟨tg, it, [q], 0⟩] scope pc) pos) (tSU X.K c w (.new i (.comp1 eltd tgd itd qd ((ownOf N scope.names).map (·.2))))) := by
  obtain ⟨h1, h2, h3, h4⟩ := loc_of hx hi
  obtain ⟨h5, h6⟩ := sw_of hx hs pos.line
  refine (ps_setLc (g := gU X.K tgd) (tt := tTU X.K c qd) (te := tDU X.K c eltd) hx.x.calm h1 h2 h5 h6 (piU P.itr) P.ok (fun s H C cl fp => pgU (P.tgt s H C cl fp)) (fun s H C cl fp => pts_one (ptU (hq s H C cl fp))) (fun s H C cl fp => peU (P.elt s H C cl fp)) (noSet_of hit X.env)).wk fun D σ H h => ?_
  obtain ⟨ρ, mu, k, dl, k', he, hav, h⟩ := new_rd h
  obtain ⟨ys, e1, hr⟩ := comp1_rd P he hav
  cases e1
  exact hr σ H _ h
/-- the counter is made -/
theorem s_spot (hx : XS Γ w0 ds n sc N X) {s : Str} {p p1 p2 : Pos} {j i : Nat} (hi : slotL sc N s = some i) : PS X (.Assign [.Name s p] (.List [.Constant (.int 0) j p1] p2) pos) (tSU X.K c w (.spot i)) := by
  obtain ⟨h1, h2, h3, h4⟩ := loc_of hx hi
  refine (ps_set h1 h2 h3 (pe_lst (pa_cons pe_int pa_nil rfl)) rfl h4).wk fun D σ H ⟨sp0, B0, H0, s, o, sp, B, ev, r, f⟩ => ?_
  simp only [evS] at ev
  split at ev <;> first | (cases ev; done) | skip
  rename_i hk
  cases ev
  refine ⟨by show 1 ≤ 2 ^ 24; decide, fun q hq => ?_⟩
  have hsp : sp = none := by
    have := r.spot
    rw [hk] at this
    cases sp with
    | none => rfl
    | some a => exact this.elim
  subst hsp
  have hb : B q = none := B_none r.wd hq
  have h0 : H0 q = none := by
    cases e : H0 q with
    | none => rfl
    | some o =>
      have := r.ge.2.hh q o (by simp) e
      rw [hq] at this
      cases this
  have hsp0 : sp0 = none := by
    rcases r.ge.1 with h | ⟨h, _⟩
    · exact h.symm
    · exact h
  subst hsp0
  refine f (some q) B _ _ (.inr rfl) (Ext.refl _) ?_
  have r' := r.put (d := .spot) (v := .ref q) (K := X.K) i
  -- the state over the new list
  have key : RS X.K none B0 H0 { s with k := some 0 } (some q) B σ (upd H q (.lst [.int 0])) := by
    refine ⟨⟨.inr ⟨rfl, q, rfl, h0⟩, ⟨fun x o _ hx => ?_, r.ge.2.bb, ⟨fun x o hx => ?_, fun x hx => by cases hx; exact hb⟩, r.ge.2.old⟩⟩, upd_same, ⟨r.ri.1, fun j d hj hd => ?_⟩, fun j hj => ?_, r.apart⟩
    · rw [upd_ne (ne_of_none hx h0)]; exact r.ge.2.hh x o (by simp) hx
    · rw [upd_ne (ne_of_none (r.wd.sub x o hx) hq)]; exact r.wd.sub x o hx
    · obtain ⟨v, g1, g2⟩ := r.ri.2 j d hj hd
      exact ⟨v, g1, Rep.sp d v g2⟩
    · obtain ⟨a, vs, dl, g1, g2, g3, g4, g5, g6, g7⟩ := r.own j hj
      exact ⟨a, vs, dl, g1, g2, by rw [upd_ne (ne_of_none g3 hq)]; exact g3, RepL.sp dl vs g4, g5, g6, fun e => by cases e; rw [hq] at g3; cases g3⟩
  exact key.put i (.spot rfl)
theorem s_asg (hx : XS Γ w0 ds n sc N X) {ts : List Expr} {j : Nat} {p : Pos} {tg : Tg} (hg : cTg sc N 9 (.Tuple ts j p) = some tg) (h0 : plainE e = true) (hne : isTupE e = false) (he : PED X c e x) : PS X (.Assign [.Tuple ts j p] e pos) (tSU X.K c w (.asg tg x)) := by
  have G := cTg_ok hx.x.nn hx.x.nd hx.x.calm (tok_of hx) 9 _ _ hg
  refine (ps_asg (peU he) (pgU G) (by cases e <;> first | rfl | (simp [plainE] at h0; done)) (by cases e <;> first | rfl | (simp [plainE] at h0; done) | (simp [isTupE] at hne; done)) rfl).wk fun D σ H ⟨sp0, B0, H0, s, o, sp, B, ev, r, f⟩ => ?_
  simp only [evS] at ev
  split at ev
  · cases ev
  rename_i d s1 e1
  cases e2 : asg tg d s1.ρ with
  | none => rw [e2] at ev; cases ev
  | some ρ' =>
    rw [e2] at ev
    cases ev
    refine ev_st r e1 fun v B' H' r' x' rv => ⟨sp, B', d, s1.ρ, ρ', r'.wd.sub, r'.ri.1, rv, e2, fun σ' u => f sp B' σ' H' (.refl _) x' ?_⟩
    exact r'.updT u
/-- name op= e -/
theorem aug_ok {op : Operator} {o : BO} (ho : cBO op = some o) {x y z : D} (h : augSem o x y = some z) : ∃ r, OpR X (inplaceOp op) r ∧ RD X.K r x y z := by
  cases op <;> simp [cBO] at ho <;> subst ho
  · cases x <;> cases y <;> simp only [augSem] at h <;> first | (cases h; done) | skip
    · cases h; exact ⟨_, iop_add, rd_int fun _ _ => .int _⟩
    · split at h <;> cases h
      rename_i a b hz
      refine ⟨_, iop_add_str, fun sp B H k vx vy Q w s rx ry q => ?_⟩
      cases rx
      cases ry
      exact ⟨a, b, rfl, rfl, line_of hz, fin_d w s (.str _) q⟩
  · cases x <;> cases y <;> simp only [augSem] at h <;> first | (cases h; done) | skip
    cases h; exact ⟨_, iop_sub, rd_int fun _ _ => .int _⟩
  · cases x <;> cases y <;> simp only [augSem] at h <;> first | (cases h; done) | skip
    split at h <;> cases h
    rename_i hm
    simp only [small64, Bool.or_eq_true, Bool.and_eq_true, decide_eq_true_eq] at hm
    refine ⟨_, iop_mul, rd_intC ?_ fun _ _ => .int _⟩
    rcases hm with hm | hm
    · exact .inl ⟨by omega, by omega⟩
    · exact .inr ⟨by omega, by omega⟩
  · cases x <;> cases y <;> simp only [augSem] at h <;> cases h
  · cases x <;> cases y <;> simp only [augSem] at h <;> cases h
  · cases x <;> cases y <;> simp only [augSem] at h <;> cases h
theorem augSem_noL {o : BO} {x y z : D} (h : augSem o x y = some z) : noL x = true ∧ noL y = true := by
  cases o <;> cases x <;> cases y <;> simp only [augSem] at h <;> first | (cases h; done) | exact ⟨rfl, rfl⟩
theorem s_aug (hx : XS Γ w0 ds n sc N X) {s : Str} {p : Pos} {i : Nat} {op : Operator} {o : BO} (hi : slotL sc N s = some i) (ho : cBO op = some o) (he : PED X c e x) : PS X (.AugAssign (.Name s p) op e pos) (tSU X.K c w (.aug i o x)) := by
  obtain ⟨h1, h2, h3, h4⟩ := loc_of hx hi
  refine ⟨fun pins sh σ H D I h => ?_⟩
  obtain ⟨sp0, B0, H0, s, o', sp, B, ev, r, f⟩ := h
  simp only [evS] at ev
  split at ev <;> first | (cases ev; done) | skip
  rename_i d0 hd0
  split at ev
  · cases ev
  rename_i d1 k1 e1
  cases e2 : augSem o d0 d1 with
  | none => rw [e2] at ev; cases ev
  | some z =>
    rw [e2] at ev
    cases ev
    obtain ⟨rr, hop, hrd⟩ := aug_ok (X := X) ho e2
    obtain ⟨n0, n1⟩ := augSem_noL e2
    have hmu : i ∉ s.mu := fun hm => by
      obtain ⟨a, vs, dl, g1, g2, _⟩ := r.own i hm
      rw [hd0] at g2
      cases g2
      simp [noL] at n0
    obtain ⟨v0, hv0, rv0⟩ := r.ri.2 i d0 hmu hd0
    refine (ps_aug h1 h2 h3 (peU he) (ti := rr) hop h4).run pins sh σ H D I ⟨v0, hv0, ?_⟩
    refine ev_pure r e1 n1 fun v B' H' r' x' g rv => ?_
    refine hrd sp B' H' _ v0 v _ r'.wd r'.spot (Rep.ext x' _ _ rv0) rv fun v2 B2 H2 g2 s2 r2 => ?_
    exact f sp B2 _ H2 (.refl _) (x'.trans g2.bb) ((r'.step g2 s2).put i r2)
end
end Mini
namespace Mini
open PySem PySem.Spec PyProof.Rows L2
section
variable {K : PySem.W.Frag} {sp0 sp : Option Addr} {B0 H0 B H : Hp} {s : Sta} {σ : L2.St}
/-- the counter is set -/
theorem RS.wrSpot {p : Addr} {m : Int} (r : RS K sp0 B0 H0 s (some p) B σ H) (hk : s.k.isSome = true) : RS K sp0 B0 H0 { s with k := some m } (some p) B σ (upd H p (.lst [.int m])) := by
  have hbp : B p = none := r.wd.spn p rfl
  have ge' : Ge (some p) B0 H0 B (upd H p (.lst [.int m])) := by
    refine ⟨fun x o hne hx => ?_, r.ge.2.bb, ⟨fun x o hx => ?_, r.wd.spn⟩, r.ge.2.old⟩
    · rw [upd_ne (fun e => hne (by rw [e]))]; exact r.ge.2.hh x o hne hx
    · rw [upd_ne (ne_of_none hx hbp)]; exact r.wd.sub x o hx
  refine ⟨⟨r.ge.1, ge'⟩, upd_same, r.ri, fun j hj => ?_, r.apart⟩
  obtain ⟨b, ws, es, h1, h2, h3, h4, h5, h6, h7⟩ := r.own j hj
  exact ⟨b, ws, es, h1, h2, by rw [upd_ne (fun e => h7 (by rw [e]))]; exact h3, h4, h5, h6, h7⟩
end
section
variable {X : Cx} {c : Call} {w : Nat} {Γ : CT} {w0 n : Nat} {ds : List Def} {sc : Scope} {N : List Str}
variable {a b e t : Expr} {x y z : E} {pos : Pos} {es : List Expr} {xs : Es}
theorem slot_of {s : Str} {i : Nat} (hx : XS Γ w0 ds n sc N X) (h : slot sc N s = some i) (p : Pos) : PE X (.Name s p) (tVar i) := by
  unfold slot at h
  split at h
  · rename_i hv
    simp only [okName, Bool.and_eq_true, Bool.not_eq_true'] at hv
    have hN : X.N[i]? = some s := by rw [hx.x.nn]; exact ix_get h
    have hvis : Vis X.env.scope s := by
      rw [hx.x.sc]
      have h1 := hv.1
      unfold isVis at h1
      unfold Vis
      split at h1
      · exact .inl (by assumption)
      · exact .inr (.inl (by assumption))
      · exact .inr (.inr (by assumption))
      · cases h1
    exact pe_var hN hvis hv.2.1.1 hv.2.1.2
  · cases h
theorem s_app (hx : XS Γ w0 ds n sc N X) {s : Str} {p ap cp : Pos} {i : Nat} (hi : slot sc N s = some i) (h0 : plainE e = true) (hl : (ap.endLine == cp.line) = true) (he : PED X c e x) :
    PS X (.Expr (.Call (.Attribute (.Name s p) ("append" : Str) ap) [e] [] cp) pos) (tSU X.K c w (.app i x)) := by
  have hs : ∀ es', starEach (e :: es') X.env = (false, eval e X.env) :: starEach es' X.env := fun es' => star_of h0 es' X.env
  refine (ps_expr (pe_bm PySem.F.plainAttrs_list PySem.F.slot_list_append PySem.F.type_list_append mt_append (slot_of hx hi p) (pa_cons (peU he) pa_nil (hs [])) rfl (by rw [hs]; rfl) hl (hs []) rfl)).wk fun D σ H ⟨sp0, B0, H0, s, o, sp, B, ev, r, f⟩ => ?_
  simp only [evS] at ev
  split at ev <;> first | (cases ev; done) | skip
  rename_i dl hd
  split at ev
  · cases ev
  rename_i d k e1
  split at ev
  · rename_i hc
    cases ev
    simp only [Bool.and_eq_true, decide_eq_true_eq, List.contains_iff_mem] at hc
    obtain ⟨⟨hm, hn⟩, hz⟩ := hc
    obtain ⟨q, vs, dl', g1, g2, g3, g4, g5, g6, g7⟩ := r.own i hm
    rw [hd] at g2
    cases g2
    refine ⟨_, g1, .inl ⟨rfl, vs, .inl (.inl g3)⟩, ?_⟩
    refine ev_pure r e1 hn fun v B' H' r' x' g rv => ?_
    refine ⟨q, vs, v, rfl, rfl, g.hh q _ g7 g3, by rw [g4.len]; exact hz, ?_⟩
    exact f sp B' _ _ (.refl _) x' (r'.wr (vs := vs) (dl := dl) hm g1 hd ((RepL.ext x' _ _ g4).append (.cons rv .nil)))
  · cases ev
theorem s_pop (hx : XS Γ w0 ds n sc N X) {s : Str} {p ap cp : Pos} {i : Nat} (hi : slot sc N s = some i) (hl : (ap.endLine == cp.line) = true) :
    PS X (.Expr (.Call (.Attribute (.Name s p) ("pop" : Str) ap) [] [] cp) pos) (tSU X.K c w (.pop i)) := by
  refine (ps_expr (pe_bm0 PySem.F.plainAttrs_list PySem.F.slot_list_pop PySem.F.type_list_pop mt_pop (slot_of hx hi p) rfl hl)).wk fun D σ H ⟨sp0, B0, H0, s, o, sp, B, ev, r, f⟩ => ?_
  simp only [evS] at ev
  split at ev <;> first | (cases ev; done) | skip
  rename_i dl hd
  split at ev
  · rename_i hc
    cases ev
    simp only [Bool.and_eq_true, List.contains_iff_mem, Bool.not_eq_true', List.isEmpty_eq_false_iff] at hc
    obtain ⟨hm, hne⟩ := hc
    obtain ⟨q, vs, dl', g1, g2, g3, g4, g5, g6, g7⟩ := r.own i hm
    rw [hd] at g2
    cases g2
    have hne' : vs ≠ [] := fun e => by subst e; cases g4; exact hne rfl
    refine ⟨_, g1, .inl ⟨rfl, vs, .inl (.inl g3)⟩, ⟨q, vs, vs.getLast hne', rfl, rfl, g3, ?_, ?_⟩⟩
    · rw [List.getLast_eq_getElem]; exact List.getElem?_eq_getElem _
    · refine f sp B _ _ (.refl _) (Ext.refl _) (r.wr (vs := vs) (dl := dl) hm g1 hd ?_)
      rw [List.dropLast_eq_take, List.dropLast_eq_take, g4.len]
      exact g4.take _
  · cases ev
theorem s_setI (hx : XS Γ w0 ds n sc N X) {s : Str} {p p2 : Pos} {i : Nat} {ie : Expr} (hi : slot sc N s = some i) (h0 : plainE e = true) (h1 : plainE ie = true) (he : PED X c e x) (hie : PED X c ie y) (hc0 : isComp e = false) :
    PS X (.Assign [.Subscript (.Name s p) ie p2] e pos) (tSU X.K c w (.setI i y x)) := by
  refine (ps_asg (peU he) (pg_sub (slot_of hx hi p) (peU hie) set_list (by intro v; cases ie <;> first | rfl | (simp [plainE] at h1; done))) (by cases e <;> first | rfl | (simp [plainE] at h0; done) | (simp [isComp] at hc0; done)) (by cases e <;> first | rfl | (simp [plainE] at h0; done)) rfl).wk fun D σ H ⟨sp0, B0, H0, s, o, sp, B, ev, r, f⟩ => ?_
  simp only [evS] at ev
  split at ev
  · cases ev
  rename_i d k1 e1
  split at ev <;> first | (cases ev; done) | skip
  rename_i j k2 e2
  split at ev <;> first | (cases ev; done) | skip
  · rename_i m hd
    split at ev
    · rename_i hj
      cases ev
      simp only [Bool.and_eq_true, decide_eq_true_eq] at hj
      obtain ⟨rfl, hk⟩ := hj
      refine ev_pure r e1 rfl fun v B1 H1 r1 x1 g1 rv => ?_
      cases rv
      have hmu : i ∉ s.mu := fun hm => by
        obtain ⟨_, _, _, _, q, _⟩ := r.own i hm
        rw [hd] at q
        cases q
      obtain ⟨v0, hv0, rv0⟩ := r1.ri.2 i .spot hmu hd
      cases rv0 with
      | spot hsp =>
      rename_i q
      subst hsp
      refine ⟨_, hv0, ?_⟩
      refine ev_pure r1 e2 rfl fun v2 B2 H2 r2 x2 g2 rv2 => ?_
      cases rv2
      have hs2 := r2.spot
      cases k2 with
      | none => cases hk
      | some m0 =>
        exact ⟨q, [.int m0], 0, 0, rfl, rfl, hs2, rfl, f (some q) B2 _ _ (.refl _) (x1.trans x2) (r2.wrSpot rfl)⟩
    · cases ev
  · rename_i dl hd
    split at ev
    · rename_i hc
      simp only [Bool.and_eq_true, List.contains_iff_mem] at hc
      obtain ⟨hm, hn⟩ := hc
      cases e3 : ixN dl.length j with
      | none => rw [e3] at ev; cases ev
      | some jj =>
        rw [e3] at ev
        cases ev
        refine ev_pure r e1 hn fun v B1 H1 r1 x1 g1 rv => ?_
        obtain ⟨q, vs, dl', q1, q2, q3, q4, q5, q6, q7⟩ := r.own i hm
        rw [hd] at q2
        cases q2
        refine ⟨_, q1, ?_⟩
        refine ev_pure r1 e2 rfl fun v2 B2 H2 r2 x2 g2 rv2 => ?_
        cases rv2
        refine ⟨q, vs, j, jj, rfl, rfl, g2.hh q _ q7 (g1.hh q _ q7 q3), by rw [q4.len]; exact e3, ?_⟩
        refine f sp B2 _ _ (.refl _) (x1.trans x2) (r2.wr (vs := vs) (dl := dl) hm q1 hd ?_)
        exact (RepL.ext (x1.trans x2) _ _ q4).set jj (Rep.ext x2 _ _ rv)
    · cases ev
theorem s_par (hx : XS Γ w0 ds n sc N X) {s1 s2 : Str} {px py pt pt2 : Pos} {kt k2 : Nat} {i j : Nat} (hi : slotL sc N s1 = some i) (hj : slotL sc N s2 = some j) (hp : parOk sc s1 s2 px py a b = true) (ha0 : plainE a = true) (hb0 : plainE b = true) (ha : PED X c a x) (hb : PED X c b y) :
    PS X (.Assign [.Tuple [.Name s1 px, .Name s2 py] kt pt] (.Tuple [a, b] k2 pt2) pos) (tSU X.K c w (.par i j x y)) := by
  simp only [parOk, Bool.and_eq_true, Bool.not_eq_true', beq_eq_false_iff_ne] at hp
  obtain ⟨⟨⟨⟨⟨⟨p0, p1⟩, p2⟩, p3⟩, p4⟩, p5⟩, p6⟩ := hp
  have p1' : X.env.scope.names.lookup s1 = some .local := by rw [hx.x.sc]; simpa using p1
  have p2' : X.env.scope.names.lookup s2 = some .local := by rw [hx.x.sc]; simpa using p2
  have p0' : X.env.scope.kind = .function := by
    rw [hx.x.sc]
    cases hk : sc.kind <;> rw [hk] at p0 <;> first | rfl | (exact absurd p0 (by decide))
  obtain ⟨n1, n2, _, _⟩ := loc_of hx hi
  obtain ⟨_, n3, _, _⟩ := loc_of hx hj
  have hij : i ≠ j := fun e => by subst e; rw [n2] at n3; cases n3; exact p4 rfl
  have hsw : swappedStores [.Tuple [.Name s1 px, .Name s2 py] kt pt] (.Tuple [a, b] k2 pt2) X.env = pure (some [s1, s2]) := by
    have hst : ([a, b].any fun | .Starred .. => true | _ => false) = false := by
      cases a <;> cases b <;> first | rfl | (simp [plainE] at ha0 hb0; done)
    have hk1 : X.env.kindOf s1 = some .local := p1'
    have hk2 : X.env.kindOf s2 = some .local := p2'
    have hbk : X.env.blockKind = .function := by unfold Env.blockKind; rw [p0']; rfl
    have hne : s2 ≠ s1 := fun e => p4 e.symm
    have hf : ([a, b].all (foldedForSure 8)) = false := by simpa using p5
    have hc : ([a, b].all (constantsAlone 8)) = false := by simpa using p6
    have p3' : py.line = px.line := by have := beq_iff_eq.mp p3; exact this.symm
    unfold swappedStores
    simp [hk1, hk2, hbk, hst, hf, hc, Expr.pos, p3', List.eraseDups_cons, hne]
    intro h
    rcases h with h | h
    · cases a <;> first | (cases h; done) | (simp [plainE] at ha0; done)
    · cases b <;> first | (cases h; done) | (simp [plainE] at hb0; done)
  refine (ps_par hx.x.calm n1 n2 n3 hij p1' p2' (pa_cons (peU ha) (pa_cons (peU hb) pa_nil (star_of hb0 [] X.env)) (star_of ha0 _ X.env)) hsw rfl).wk fun D σ H ⟨sp0, B0, H0, s, o, sp, B, ev, r, f⟩ => ?_
  simp only [evS] at ev
  split at ev
  · cases ev
  rename_i d1 k1 e1
  split at ev
  · cases ev
  rename_i d2 k2 e2
  split at ev
  · rename_i hn
    cases ev
    simp only [Bool.and_eq_true] at hn
    refine ev_pure r e1 hn.1 fun v B1 H1 r1 x1 g1 rv => ?_
    refine ev_pure r1 e2 hn.2 fun v2 B2 H2 r2 x2 g2 rv2 => ?_
    exact ⟨v, v2, rfl, f sp B2 _ _ (.refl _) (x1.trans x2) ((r2.put i (Rep.ext x2 _ _ rv)).put j rv2)⟩
  · cases ev
end
end Mini
namespace Mini
open PySem PySem.Spec PyProof.Rows L2
section
variable {X : Cx} {c : Call} {w : Nat} {Γ : CT} {w0 n : Nat} {ds : List Def} {sc : Scope} {N : List Str}
variable {a b e t : Expr} {x y z : E} {pos : Pos} {es : List Expr} {xs : Es}
theorem s_ret (he : PED X c e x) : PS X (.Return (some e) pos) (tSU X.K c w (.ret x)) := by
  refine (ps_ret (peU he)).wk fun D σ H ⟨sp0, B0, H0, s, o, sp, B, ev, r, f⟩ => ?_
  simp only [evS] at ev
  split at ev
  · cases ev
  rename_i d k e1
  cases ev
  exact ev_any r e1 fun v B' H' r' x' rv => f sp v B' H' r'.ge r'.spot rv
theorem s_retN : PS X (.Return none pos) (tSU X.K c w .retN) := by
  refine ps_retN.wk fun D σ H ⟨sp0, B0, H0, s, o, sp, B, ev, r, f⟩ => ?_
  simp only [evS, Option.some.injEq] at ev
  subst ev
  exact f sp .non B H r.ge r.spot .non
theorem s_pass : PS X (.Pass pos) (tSU X.K c w .pass) := by
  refine ps_pass.wk fun D σ H ⟨sp0, B0, H0, s, o, sp, B, ev, r, f⟩ => ?_
  simp only [evS, Option.some.injEq] at ev
  subst ev
  exact f sp B σ H (.refl _) (Ext.refl _) r
theorem s_doc {x : Str} {j : Nat} {p1 : Pos} : PS X (.Expr (.Constant (.str x) j p1) pos) (tSU X.K c w .pass) := by
  refine ps_doc.wk fun D σ H ⟨sp0, B0, H0, s, o, sp, B, ev, r, f⟩ => ?_
  simp only [evS, Option.some.injEq] at ev
  subst ev
  exact f sp B σ H (.refl _) (Ext.refl _) r
theorem s_brk : PS X (.Break pos) (tSU X.K c w .brk) := by
  refine ps_break.wk fun D σ H ⟨sp0, B0, H0, s, o, sp, B, ev, r, f⟩ => ?_
  simp only [evS, Option.some.injEq] at ev
  subst ev
  exact f sp B σ H (.refl _) (Ext.refl _) r
theorem s_cnt : PS X (.Continue pos) (tSU X.K c w .cnt) := by
  refine ps_continue.wk fun D σ H ⟨sp0, B0, H0, s, o, sp, B, ev, r, f⟩ => ?_
  simp only [evS, Option.some.injEq] at ev
  subst ev
  exact f sp B σ H (.refl _) (Ext.refl _) r
theorem s_never {st : Stmt} : PS X st (tSU X.K c w .never) := by
  refine ps_never.wk fun D σ H ⟨sp0, B0, H0, s, o, sp, B, ev, r, f⟩ => ?_
  simp only [evS] at ev
  cases ev
theorem s_expr (h0 : plainE e = true) (hc : isComp e = false) (he : PED X c e x) : PS X (.Expr e pos) (tSU X.K c w (.expr x)) := by
  refine (ps_expr (peU he) (noSw hc h0 _ _ _)).wk fun D σ H ⟨sp0, B0, H0, s, o, sp, B, ev, r, f⟩ => ?_
  simp only [evS] at ev
  split at ev
  · cases ev
  rename_i d k e1
  cases ev
  exact ev_drop r e1 fun v B' H' r' x' => f sp B' σ H' (.refl _) x' r'
theorem s_ite {tt : T} {a b : List Stmt} {u v : Ss} (ht : PTD X c t tt) (ha : PSs X a (tSsU X.K c w u)) (hb : PSs X b (tSsU X.K c w v)) : PS X (.If t a b pos) (tSU X.K c w (.ite tt u v)) := by
  refine (ps_if (ptU ht) ha hb).wk fun D σ H ⟨sp0, B0, H0, s, o, sp, B, ev, r, f⟩ => ?_
  simp only [evS] at ev
  split at ev
  · cases ev
  · rename_i k e1
    refine ev_test r e1 fun B' H' r' x' => ?_
    exact iteT ⟨sp0, B0, H0, _, o, sp, B', ev, r', f.mono (.refl _) x'⟩
  · rename_i k e1
    refine ev_test r e1 fun B' H' r' x' => ?_
    exact iteF ⟨sp0, B0, H0, _, o, sp, B', ev, r', f.mono (.refl _) x'⟩
theorem s_nil : PSs X [] (tSsU X.K c w .nil) := by
  refine pss_nil.wk fun D σ H ⟨sp0, B0, H0, s, o, sp, B, ev, r, f⟩ => ?_
  simp only [evSs, Option.some.injEq] at ev
  subst ev
  exact f sp B σ H (.refl _) (Ext.refl _) r
theorem s_cons {st : Stmt} {rest : List Stmt} {u : S} {v : Ss} (h1 : PS X st (tSU X.K c w u)) (h2 : PSs X rest (tSsU X.K c w v)) : PSs X (st :: rest) (tSsU X.K c w (.cons u v)) := by
  refine (pss_cons h1 h2).wk fun D σ H ⟨sp0, B0, H0, s, o, sp, B, ev, r, f⟩ => ?_
  simp only [evSs] at ev
  cases e1 : evS c w u s with
  | none => rw [e1] at ev; cases ev
  | some o1 =>
    rw [e1] at ev
    refine ⟨sp0, B0, H0, s, o1, sp, B, e1, r, ?_⟩
    cases o1 with
    | nx s1 => exact fun sp' B' σ' H' h' x' r' => ⟨sp0, B0, H0, s1, o, sp', B', ev, r', f.mono h' x'⟩
    | rt d k => cases ev; exact f
    | bk s1 => cases ev; exact f
    | ct s1 => cases ev; exact f
theorem s_while (hx : XS Γ w0 ds n sc N X) {tt : T} {a : List Stmt} {u : Ss} (ht : PTD X c t tt) (ha : PSs X a (tSsU X.K c w u)) : PS X (.While t a [] pos) (tSU X.K c w (.while tt u)) := by
  refine (ps_while hx.po (ptU ht) ha).wk fun D σ H ⟨sp0, B0, H0, s, o, sp, B, ev, r, f⟩ => ?_
  simp only [evS] at ev
  refine ⟨fun m σ' H' => ∃ s' sp' B', SpLe sp sp' ∧ Ext B B' ∧ RS X.K sp0 B0 H0 s' sp' B' σ' H' ∧ whileD (fun s => evT c tt s.ρ s.k) (fun s => evSs c w u s) m s' = some o, ⟨w, s, sp, B, .refl _, Ext.refl _, r, ev⟩, ?_⟩
  rintro m σ1 H1 ⟨s1, sp1, B1, l1, x1, r1, ev1⟩
  cases m with
  | zero => simp [whileD] at ev1
  | succ m =>
    simp only [whileD] at ev1
    split at ev1
    · cases ev1
    · rename_i k e1
      cases ev1
      refine ev_test r1 e1 fun B' H' r' x' => ?_
      exact iteF (f sp1 B' σ1 H' l1 (x1.trans x') r')
    · rename_i k e1
      refine ev_test r1 e1 fun B' H' r' x' => ?_
      refine iteT ?_
      cases e2 : evSs c w u { s1 with k := k } with
      | none => rw [e2] at ev1; cases ev1
      | some o1 =>
        rw [e2] at ev1
        refine ⟨_, fun σ' H' h => ⟨m, Nat.lt_succ_self m, h⟩, ⟨sp0, B0, H0, _, o1, sp1, B', e2, r', ?_⟩⟩
        cases o1 with
        | nx s2 => exact fun sp' B2 σ' H2 h' x2 r2 => ⟨s2, sp', B2, l1.trans h', (x1.trans x').trans x2, r2, ev1⟩
        | ct s2 => exact fun sp' B2 σ' H2 h' x2 r2 => ⟨s2, sp', B2, l1.trans h', (x1.trans x').trans x2, r2, ev1⟩
        | bk s2 => cases ev1; exact fun sp' B2 σ' H2 h' x2 r2 => f sp' B2 σ' H2 (l1.trans h') ((x1.trans x').trans x2) r2
        | rt d k => cases ev1; exact f
theorem s_for (hx : XS Γ w0 ds n sc N X) {tge ite : Expr} {tg : Tg} {it : I} {a : List Stmt} {u : Ss} (hg : PGD X tge tg) (h0 : plainE ite = true) (hi : PID X c tge ite it) (ha : PSs X a (tSsU X.K c w u)) : PS X (.For tge ite a [] pos) (tSU X.K c w (.for tg it u)) := by
  refine (ps_for hx.po hx.x.calm (piU hi) (pgU hg) ha (noSet_of h0 X.env)).wk fun D σ H ⟨sp0, B0, H0, s, o, sp, B, ev, r, f⟩ => ?_
  simp only [evS] at ev
  split at ev
  · cases ev
  rename_i es k e1
  obtain ⟨B1, r1, x1, f1, f2⟩ := r.freeze (s.mu.filter fun i => avI [i] it) (fun i h => (List.mem_filter.mp h).1)
  refine ⟨s.ρ, _, s.k, es, k, e1, avI_all (s.mu.filter fun i => avI [i] it) it fun i h => (List.mem_filter.mp h).2, sp, B1, r1.wd, r.spot, r1.ri, fun J B2 H2 g2 s2 hJ => ?_⟩
  have r2 : RS X.K sp0 B0 H0 (s.keep (fun m => avI m it) k) sp B2 σ H2 := r1.step g2 s2
  have x2 : Ext B B2 := x1.trans g2.bb
  refine ⟨fun i m σ' H' => m = es.length - i ∧ i ≤ es.length ∧ ∃ si spi Bi, SpLe sp spi ∧ Ext B2 Bi ∧ RS X.K sp0 B0 H0 si spi Bi σ' H' ∧ forD tg (fun s => evSs c w u s) (es.drop i) si = some o, ⟨es.length, rfl, Nat.zero_le _, _, sp, B2, .refl _, Ext.refl _, r2, ev⟩, ?_⟩
  rintro i m σ3 H3 ⟨rfl, hile, si, spi, Bi, li, xi, ri, ei⟩
  by_cases hlt : i < es.length
  · refine .inr ?_
    have hdi : es[i]? = some es[i] := List.getElem?_eq_getElem hlt
    obtain ⟨hgo, hy⟩ := (hJ spi Bi H3 si.k ⟨li, xi, ri.wd⟩ ri.spot).1 i _ hdi
    have hdrop : es.drop i = es[i] :: es.drop (i + 1) := List.drop_eq_getElem_cons hlt
    rw [hdrop] at ei
    simp only [forD] at ei
    split at ei
    · cases ei
    rename_i ρ1 easg
    refine ⟨hgo, fun σ' H' => i + 1 ≤ es.length ∧ ∃ sj spj Bj, SpLe sp spj ∧ Ext B2 Bj ∧ RS X.K sp0 B0 H0 sj spj Bj σ' H' ∧ forD tg (fun s => evSs c w u s) (es.drop (i + 1)) sj = some o, fun σ' H' hH' => ⟨es.length - (i + 1), by omega, rfl, hH'⟩, fun v H4 hyld => ?_⟩
    obtain ⟨B4, g4, s4, r4⟩ := hy v H4 hyld
    have r5 : RS X.K sp0 B0 H0 si spi B4 σ3 H4 := ri.step g4 s4
    cases e2 : evSs c w u { ρ := ρ1, mu := tgMu tg si.mu, k := si.k } with
    | none => rw [e2] at ei; cases ei
    | some o1 =>
      rw [e2] at ei
      refine ⟨spi, B4, _, si.ρ, ρ1, g4.wd.sub, r5.ri.1, r4, easg, fun σ5 u5 => ⟨sp0, B0, H0, _, o1, spi, B4, e2, r5.updT u5, ?_⟩⟩
      cases o1 with
      | nx s6 => exact fun sp' B6 σ' H6 h' x6 r6 => ⟨hlt, s6, sp', B6, li.trans h', (xi.trans g4.bb).trans x6, r6, ei⟩
      | ct s6 => exact fun sp' B6 σ' H6 h' x6 r6 => ⟨hlt, s6, sp', B6, li.trans h', (xi.trans g4.bb).trans x6, r6, ei⟩
      | bk s6 => cases ei; exact fun sp' B6 σ' H6 h' x6 r6 => f sp' B6 σ' H6 (li.trans h') (x2.trans ((xi.trans g4.bb).trans x6)) r6
      | rt d k => cases ei; exact f
  · refine .inl ?_
    have hi : i = es.length := by omega
    subst hi
    refine ⟨(hJ spi Bi H3 si.k ⟨li, xi, ri.wd⟩ ri.spot).2, ?_⟩
    rw [List.drop_length] at ei
    simp only [forD, Option.some.injEq] at ei
    subst ei
    exact f spi Bi σ3 H3 li (x2.trans xi) ri
end
end Mini
namespace Mini
open PySem PySem.Spec PyProof.Rows L2
section
variable {X : Cx} {w : Nat} {Γ : CT} {w0 n : Nat} {ds : List Def} {sc : Scope} {N : List Str}
theorem swOk_pos {sc : Scope} {s : Str} {p : Pos} {e : Expr} (h : swOk sc s p e = true) : isComp e = true := by
  cases e <;> first | rfl | (simp [swOk] at h; done)
theorem comp_noset (hx : XS Γ w0 ds n sc N X) {m : Nat} {s : Str} {p pos : Pos} {i : Nat} {e : Expr} {y : E} (hi : slotL sc N s = some i) (hs : swOk sc s p e = true) (h : cE Γ m sc N e = some y) : PS X (.Assign [.Name s p] e pos) (tSU X.K (run w0 ds n) w (.new i y)) := by
  have hc := swOk_pos hs
  cases e <;> simp only [isComp, Bool.false_eq_true] at hc
  rename_i elt gens scope pc
  cases m with
  | zero => simp [cE] at h
  | succ m =>
    simp only [cE] at h
    split at h <;> first | (cases h; done) | skip
    rename_i tg it ifs asy
    split at h <;> first | (cases h; done) | skip
    rename_i hb
    simp only [Bool.and_eq_true, beq_iff_eq] at hb
    obtain ⟨ha, hb⟩ := hb
    subst ha
    split at h <;> first | (cases h; done) | skip
    rename_i tgd itd eltd h1 h2 h3
    have P := parts_of (ih_at m) hx.x hb h1 h2 h3
    have hpl := ((ih_at m).i hx.x h2).2
    split at h <;> first | (cases h; done) | skip
    · cases h
      exact s_newc0 hx hi hs hpl P
    · rename_i q
      cases h4 : cT Γ m (relS scope sc) N q with
      | none => rw [h4] at h; cases h
      | some qd =>
        rw [h4] at h
        cases h
        exact s_newc1 hx hi hs hpl P (fun s H C cl fp => (ih_at m).t (xf_blk hx.x s H C cl fp) h4)
theorem fresh_not {e : Expr} (h : isComp e = false) (m : Nat) {X : Cx} {y : E} (hx : XS Γ w0 ds n sc N X) (hf : freshShape e = true) (he : cE Γ m sc N e = some y) : PE X e (tFU X.K (run w0 ds n) y) := by
  cases m with
  | zero => simp [cE] at he
  | succ m =>
    rcases fresh_e hx.x rfl he hf with h1 | h1
    · exact h1
    · rw [h] at h1; cases h1
theorem cS_ok (hx : XS Γ w0 ds n sc N X) : ∀ m, (∀ st il, cS Γ sc N m st = some il → PS X st (tSU X.K (run w0 ds n) w il)) := by
  intro m
  induction m with
  | zero => intro st il h; simp [cS] at h
  | succ m ih =>
    have ihs : ∀ l ys, mapO (cS Γ sc N m) l = some ys → PSs X l (tSsU X.K (run w0 ds n) w (toSs ys)) := by
      intro l
      induction l with
      | nil => intro ys h; cases h; exact s_nil
      | cons st l ihl =>
        intro ys h
        obtain ⟨y, zs, h1, h2, rfl⟩ := mapO_cons h
        exact s_cons (ih st y h1) (ihl zs h2)
    have E : ∀ {e : Expr} {y : E}, cE Γ m sc N e = some y → PED X (run w0 ds n) e y := fun h => (ih_at m).e hx.x h
    intro st il h
    cases st <;> try (simp only [cS] at h; first | (cases h; done) | skip)
    case Assign tgs e pos =>
      split at h
      · rename_i s py
        split at h
        · cases h
        rename_i i hi
        split at h
        · rename_i hsp
          cases h
          simp only [Bool.and_eq_true] at hsp
          obtain ⟨_, h2⟩ := hsp
          unfold isSpotE at h2
          split at h2
          · exact s_spot hx hi
          · cases h2
        · split at h
          · cases h
          · rename_i hcs
            cases e1 : cE Γ m sc N e with
            | none => rw [e1] at h; cases h
            | some y =>
              rw [e1] at h
              simp only [Option.map_some, Option.some.injEq] at h
              by_cases hc : isComp e = true
              · have hs : swOk sc s py e = true := by
                  cases hq : swOk sc s py e with
                  | true => rfl
                  | false => simp [hc, hq] at hcs
                have hf : freshShape e = true := by
                  cases e <;> simp [isComp] at hc <;> rfl
                rw [if_pos hf] at h
                subst h
                exact comp_noset hx hi hs e1
              · have hc' : isComp e = false := by simpa using hc
                by_cases hf : freshShape e = true
                · rw [if_pos hf] at h
                  subst h
                  exact s_new hx hi hc' (cE_shape e1) (fresh_not hc' m hx hf e1)
                · rw [if_neg hf] at h
                  subst h
                  exact s_set hx hi hc' (cE_shape e1) (E e1)
      · rename_i ts tk tp
        split at h
        · rename_i vs k2 tp2
          split at h
          · rename_i s1 px s2 py a b
            split at h
            · rename_i hp
              split at h
              · rename_i i j u v hi hj h1 h2
                cases h
                exact s_par hx hi hj hp (cE_shape h1) (cE_shape h2) (E h1) (E h2)
              · cases h
            · cases h
          · cases h
        · rename_i hnt
          split at h
          · rename_i u y h1 h2
            cases h
            refine s_asg hx h1 (cE_shape h2) ?_ (E h2)
            cases e <;> first | rfl | exact (hnt _ _ _ rfl).elim
          · cases h
      · rename_i s p ie p2
        split at h
        · cases h
        rename_i hc
        split at h
        · rename_i i u y hi h1 h2
          cases h
          exact s_setI hx hi (cE_shape h2) (cE_shape h1) (E h2) (E h1) (by simpa using hc)
        · cases h
      · cases h
    case AugAssign tg op e pos =>
      cases tg <;> simp only [cS] at h <;> first | (cases h; done) | skip
      split at h
      · rename_i i o y hi ho h1
        cases h
        exact s_aug hx hi ho (E h1)
      · cases h
    case Return o pos =>
      split at h
      · cases h; exact s_retN
      · rename_i e
        cases e1 : cE Γ m sc N e with
        | none => rw [e1] at h; cases h
        | some y => rw [e1] at h; cases h; exact s_ret (E e1)
    case If t a b pos =>
      split at h
      · rename_i u y z h1 h2 h3
        cases h
        exact s_ite ((ih_at m).t hx.x h1) (ihs _ _ h2) (ihs _ _ h3)
      · cases h
    case For tg it body els pos =>
      cases els with
      | cons _ _ => simp [cS] at h
      | nil =>
        simp only [cS] at h
        split at h
        · rename_i u y z h1 h2 h3
          cases h
          obtain ⟨q1, q2⟩ := (ih_at m).i hx.x h2
          exact s_for hx (cTg_ok hx.x.nn hx.x.nd hx.x.calm (tok_of hx) 8 _ _ h1) q2 q1 (ihs _ _ h3)
        · cases h
    case While t body els pos =>
      cases els with
      | cons _ _ => simp [cS] at h
      | nil =>
        simp only [cS] at h
        split at h
        · rename_i u y h1 h2
          cases h
          exact s_while hx ((ih_at m).t hx.x h1) (ihs _ _ h2)
        · cases h
    case Expr e pos =>
      split at h
      · cases h; exact s_doc
      · rename_i s p mm ap args cp
        split at h
        · cases h
        · rename_i hl
          have hl' : (ap.endLine == cp.line) = true := by simpa using hl
          split at h
          · rename_i hm
            have hm' := beq_iff_eq.mp hm
            subst hm'
            split at h <;> first | (cases h; done) | skip
            split at h <;> first | (cases h; done) | skip
            rename_i i y hi h1
            cases h
            exact s_app hx hi (cE_shape h1) hl' (E h1)
          · split at h
            · rename_i hm
              have hm' := beq_iff_eq.mp hm
              subst hm'
              split at h <;> first | (cases h; done) | skip
              cases e1 : slot sc N s with
              | none => rw [e1] at h; cases h
              | some i => rw [e1] at h; cases h; exact s_pop hx e1 hl'
            · cases h
      · rename_i s p args kw q
        cases e1 : cE Γ m sc N (.Call (.Name s p) args kw q) with
        | none => rw [e1] at h; cases h
        | some y => rw [e1] at h; cases h; exact s_expr rfl rfl (E e1)
      · cases h
    case Pass pos => cases h; exact s_pass
    case Break pos => cases h; exact s_brk
    case Continue pos => cases h; exact s_cnt
    case Raise => cases h; exact s_never
theorem cSs_ok (hx : XS Γ w0 ds n sc N X) {m : Nat} {l : List Stmt} {il : Ss} (h : cSs Γ sc N m l = some il) : PSs X l (tSsU X.K (run w0 ds n) w il) := by
  unfold cSs at h
  cases e : mapO (cS Γ sc N m) l with
  | none => rw [e] at h; cases h
  | some ys =>
    rw [e] at h
    cases h

    induction l generalizing ys with
    | nil => cases e; exact s_nil
    | cons st l ihl =>
      obtain ⟨y, zs, h1, h2, rfl⟩ := mapO_cons e
      exact s_cons (cS_ok hx m st y h1) (ihl zs h2)
end
end Mini
namespace Mini
open PySem PySem.Spec PyProof.Rows L2
section
variable {P : Program} {wd : World} {K : PySem.W.Frag} {mg : Str → Option Value} {base : Heap} {Γ : CT} {ds : List Def} {w0 n : Nat}
theorem repl_start {sp : Option Addr} {H : Hp} {ps ns : Nat} {vs : List V} {as : List D} (r : RepL K sp H vs as) (N : List Str) (hl : as.length = ps) : RI K sp H [] (as.map some ++ List.replicate (N.length - ps) none) (L2.start N vs) := by
  refine ⟨by simp [L2.start, r.len, hl], fun i d hi hd => ?_⟩
  unfold L2.start
  rw [List.getElem?_append] at hd ⊢
  rw [List.length_map] at hd ⊢
  rw [r.len]
  by_cases h : i < as.length
  · rw [if_pos h] at hd ⊢
    rw [List.getElem?_map] at hd ⊢
    cases e : as[i]? with
    | none => rw [e] at hd; cases hd
    | some d' =>
      rw [e] at hd
      cases hd
      obtain ⟨v, h1, h2⟩ := r.get e
      exact ⟨v, by rw [h1]; rfl, h2⟩
  · rw [if_neg h] at hd
    rw [List.getElem?_replicate] at hd
    split at hd <;> cases hd
theorem endK_ok {sp sp' : Option Addr} {B H B' H' : Hp} {k k1 k' : Ky} {x d : D} {v : V} {Q : VK} (w : Wd sp B H) (s : SpotAt sp k H) (g : GeS sp sp' B H B' H') (s' : SpotAt sp' k1 H') (r : Rep K sp' B' v x) (h : endK k x k1 = some (d, k'))
    (q : ∀ v B' H', Ge sp B H B' H' → SpotAt sp k' H' → Rep K sp B' v d → Q v H') : Q v H' := by
  obtain ⟨h1 | ⟨h1, a, h2, h3⟩, g1⟩ := g
  · subst h1
    have : d = x ∧ k' = k1 := by
      cases sp' with
      | none =>
        cases k <;> cases k1 <;> first | exact s.elim | exact s'.elim | skip
        simp [endK] at h
        exact ⟨h.1.symm, h.2.symm⟩
      | some b =>
        cases k <;> cases k1 <;> first | exact s.elim | exact s'.elim | skip
        cases x <;> simp [endK] at h <;> exact ⟨h.1.symm, h.2.symm⟩
    obtain ⟨rfl, rfl⟩ := this
    exact q v B' H' g1 s' r
  · subst h1
    subst h2
    cases k with
    | some _ => exact s.elim
    | none =>
      cases k1 with
      | none => exact s'.elim
      | some m =>
        have g2 : Ge none B H B' H' := ⟨fun x o _ hx => g1.hh x o (fun e => by cases e; rw [h3] at hx; cases hx) hx, g1.bb, ⟨g1.wd.sub, fun _ e => by cases e⟩, g1.old⟩
        cases x <;> simp only [endK, Option.some.injEq, Prod.mk.injEq] at h <;> first | (cases h; done) | skip
        obtain ⟨rfl, rfl⟩ := h
        cases r
        exact q _ B' H' g2 trivial (.bl _)
theorem fn_ok {x qual : Str} {st : Stmt} {f : Addr} {fd : FuncData} {N ps : List Str} {m i : Nat} {body : Ss} (Fc : Facts Γ P wd K mg base n w0 ds) (F : Fun K x qual st f fd) (S : FnScope N ps (defScope st)) (hc : cSs Γ (defScope st) N m (defBody st) = some body)
    (hi : ds[i]? = some ⟨ps.length, N.length, body⟩) : FnOk P wd K mg base CX0 (n + 1) f fd ps (spOf K w0 ds (n + 1) i) := by
  have shape : ∀ {as : List D} {k k' : Ky} {d : D}, run w0 ds (n + 1) i as k = some (d, k') → as.length = ps.length ∧ (match evSs (run w0 ds n) w0 body { ρ := as.map some ++ List.replicate (N.length - ps.length) none, mu := [], k := k } with
        | some (.nx s) => endK k .non s.k
        | some (.rt x k') => endK k x k'
        | _ => none) = some (d, k') := by
    intro as k k' d h
    simp only [run, hi] at h
    split at h
    · rename_i hl
      exact ⟨beq_iff_eq.mp hl, h⟩
    · cases h
  refine F.ok S (fun vs H Q E h => ?_) (fun cdv A outer s H vs Q E hr h => ?_)
  · obtain ⟨sp, B, k, as, d, k', _, _, r, hrun, _⟩ := h
    rw [r.len]
    exact (shape hrun).1
  · obtain ⟨sp, B, k, as, d, k', w, s', r, hrun, q⟩ := h
    obtain ⟨hl, hrun⟩ := shape hrun
    have hx : XS Γ w0 ds n (defScope st) N (cxOf CX0 P wd K mg base N qual (defScope st) f cdv A outer s H E).nox := ⟨⟨Fc, rfl, rfl, S.nd, rfl, hr⟩, fun _ => rfl, PassesOwn.never⟩
    refine ⟨_, cSs_ok (w := w0) hx hc, ?_⟩
    cases e : evSs (run w0 ds n) w0 body { ρ := as.map some ++ List.replicate (N.length - ps.length) none, mu := [], k := k } with
    | none => rw [e] at hrun; cases hrun
    | some o =>
      rw [e] at hrun
      refine ⟨sp, B, H, _, o, sp, B, e, ⟨⟨.inl rfl, Ge.refl w⟩, s', repl_start (ns := 0) r N hl, fun j hj => (by cases hj), fun j j' a hj => (by cases hj)⟩, ?_⟩
      cases o with
      | nx s1 => exact fun sp' B' σ' H' h' x' r' => endK_ok (K := K) w s' r'.ge r'.spot (x := .non) .non hrun q
      | rt d1 k1 => exact fun sp' v B' H' g s1 r1 => endK_ok w s' g s1 r1 hrun q
      | bk s1 => cases hrun
      | ct s1 => cases hrun
theorem run_zero {i : Nat} {as : List D} {k : Ky} : run w0 ds 0 i as k = none := rfl
structure DefFact (Γ : CT) (K : PySem.W.Frag) (mg : Str → Option Value) (ds : List Def) (x : Str) (i : Nat) : Prop where
  ex : ∃ (qual : Str) (st : Stmt) (f : Addr) (fd : FuncData) (N ps : List Str) (m : Nat) (body : Ss), Fun K x qual st f fd ∧ FnScope N ps (defScope st) ∧ cSs Γ (defScope st) N m (defBody st) = some body ∧ ds[i]? = some ⟨ps.length, N.length, body⟩ ∧ mg x = some (.ref f) ∧ Binds K fd ps []
structure Base (Γ : CT) (K : PySem.W.Frag) (mg : Str → Option Value) (ds : List Def) : Prop where
  fns : ∀ p ∈ Γ.fns, DefFact Γ K mg ds p.1 p.2
  consts : ∀ p ∈ Γ.consts, ∃ v u, mg p.1 = some u ∧ RelV v u ∧ ∀ sp H, Rep K sp H v p.2
  gcd : ∀ x ∈ Γ.gcd, mg x = some (.builtin "math.gcd")
  bi : ∀ x ∈ biNames, mg x = none
theorem lookup_in {α : Type} {x : Str} {i : α} : ∀ {l : List (Str × α)}, l.lookup x = some i → (x, i) ∈ l
  | [], h => by cases h
  | (y, j) :: l, h => by
    unfold List.lookup at h
    split at h
    · rename_i e
      cases h
      rw [beq_iff_eq.mp e]
      exact List.mem_cons_self
    · exact List.mem_cons_of_mem _ (lookup_in h)
theorem facts (b : Base Γ K mg ds) : ∀ n, Facts Γ P wd K mg base n w0 ds := by
  intro n
  induction n with
  | zero =>
    refine ⟨fun x i h => ?_, fun x d h => b.consts _ (lookup_in h), b.gcd, b.bi⟩
    obtain ⟨qual, st, f, fd, N, ps, m, body, F, S, hc, hi, hm, hb⟩ := (b.fns _ (lookup_in h)).ex
    refine ⟨f, fd, ps, ⟨fun vs H Q E h => ?_, fun A outer s H args us vs Q E hr he hb' hv h => ?_⟩, hm, F.kp, hb⟩
    · obtain ⟨_, _, _, _, _, _, _, _, _, h, _⟩ := h
      cases h
    · obtain ⟨_, _, _, _, _, _, _, _, _, h, _⟩ := h
      cases h
  | succ n ih =>
    refine ⟨fun x i h => ?_, fun x d h => b.consts _ (lookup_in h), b.gcd, b.bi⟩
    obtain ⟨qual, st, f, fd, N, ps, m, body, F, S, hc, hi, hm, hb⟩ := (b.fns _ (lookup_in h)).ex
    exact ⟨f, fd, ps, fn_ok ih F S hc hi, hm, F.kp, hb⟩
/-- the law's own promise -/
def spLaw (w0 : Nat) (ds : List Def) (n i : Nat) (K : PySem.W.Frag) : Sp := spOf K w0 ds n i
theorem law_end {w0 : Nat} {ds : List Def} {n i m : Nat} (h : ∀ ns : List Int, ns.length ≤ m → ∃ k, run w0 ds n i [.scr (ns.map .int)] none = some (.bl true, k)) (K : PySem.W.Frag) (H : Hp) (a : Addr) (ns : List Int) (hl : ns.length ≤ m) (_ : Only H) (hS : SqL K H a (ns.map V.int)) :
    spLaw w0 ds n i K [.ref a] H (fun v _ => v = .bl true) fun _ _ _ => False := by
  obtain ⟨k, hk⟩ := h ns hl
  exact ⟨none, H, none, _, _, _, ⟨Ext.refl _, fun _ e => by cases e⟩, trivial, .cons (.scr hS (repl_ints ns)) .nil, hk, fun v B' H' _ _ r => by cases r; rfl⟩
end
end Mini
namespace Mini
open PySem PySem.Spec PyProof.Rows L2
/-! ### how the evaluator answers -/
def fin (k : Ky) : Option O → Option (D × Ky)
  | some (.nx s) => endK k .non s.k
  | some (.rt x k') => endK k x k'
  | _ => none
/-- the fuel of a while -/
def WF : Nat := 1000000
/-- what runs defs -/
structure Rn where
  go : Nat → Call
/-- rn runs the defs ds -/
class Runs (rn : Rn) (ds : outParam (List Def)) : Prop where
  eq : ∀ (n f : Nat) (as : List D) (k : Ky) (d : Def), ds[f]? = some d → as.length = d.ps → rn.go (n + 1) f as k = fin k (evSs (rn.go n) WF d.body { ρ := as.map some ++ List.replicate (d.ns - d.ps) none, mu := [], k := k })
instance runs_run {ds : List Def} : Runs ⟨run WF ds⟩ ds := ⟨fun n f as k d h hl => by
  simp only [run, h, hl, beq_self_eq_true, if_true]
  rfl⟩
theorem run_eq {rn : Rn} {ds : List Def} [Runs rn ds] {n f : Nat} {as : List D} {k : Ky} {d : Def} (h : ds[f]? = some d) (hl : as.length = d.ps) : rn.go (n + 1) f as k = fin k (evSs (rn.go n) WF d.body { ρ := as.map some ++ List.replicate (d.ns - d.ps) none, mu := [], k := k }) := Runs.eq n f as k d h hl
theorem endK_same (k : Ky) (d : D) : endK k d k = some (d, k) := by
  cases k <;> cases d <;> rfl
theorem fin_rt (k : Ky) (d : D) : fin k (some (.rt d k)) = some (d, k) := endK_same k d
theorem fin_nx (k : Ky) (s : Sta) (h : s.k = k) : fin k (some (.nx s)) = some (.non, k) := by subst h; exact endK_same _ _
theorem forD_inv {tg : Tg} {body : Sta → Option O} {I : Nat → Sta → Prop} {J : Sta → Prop} : ∀ (ds : List D) (m : Nat) (s : Sta),
    (∀ i d s, ds[i]? = some d → I (m + i) s → ∃ ρ o, asg tg d s.ρ = some ρ ∧ body { ρ := ρ, mu := tgMu tg s.mu, k := s.k } = some o ∧ (match o with | .nx s' => I (m + i + 1) s' | .ct s' => I (m + i + 1) s' | .bk s' => J s' | .rt _ _ => False)) →
    (∀ s, I (m + ds.length) s → J s) → I m s → ∃ s', forD tg body ds s = some (.nx s') ∧ J s'
  | [], m, s, _, h2, h3 => ⟨s, rfl, h2 s h3⟩
  | d :: ds, m, s, h1, h2, h3 => by
    obtain ⟨ρ, o, e1, e2, h⟩ := h1 0 d s rfl h3
    have next : ∀ s', I (m + 1) s' → ∃ s'', forD tg body ds s' = some (.nx s'') ∧ J s'' := fun s' hs' =>
      forD_inv ds (m + 1) s' (fun i d s hd hs => by
        have := h1 (i + 1) d s (by simpa using hd) (by rw [show m + (i + 1) = m + 1 + i by omega]; exact hs)
        rw [show m + (i + 1) = m + 1 + i by omega] at this
        exact this) (fun s hs => h2 s (by rw [List.length_cons, show m + (ds.length + 1) = m + 1 + ds.length by omega]; exact hs)) hs'
    simp only [forD, e1, e2]
    cases o with
    | nx s' => exact next s' h
    | ct s' => exact next s' h
    | bk s' => exact ⟨s', rfl, h⟩
    | rt d k => exact h.elim
theorem compD_pure {f : Rho → Ky → Option (D × Ky)} {g : Rho → Ky → Option (Bool × Ky)} {tg : Tg} {ρ : Rho} {k : Ky} (r : D → Rho) (p : D → Bool) (h : D → D) : ∀ (xs : List D),
    (∀ x ∈ xs, asg tg x ρ = some (r x) ∧ g (r x) k = some (p x, k) ∧ (p x = true → f (r x) k = some (h x, k))) → compD f g tg ρ xs k = some ((xs.filter p).map h, k)
  | [], _ => rfl
  | x :: xs, hh => by
    obtain ⟨h1, h2, h3⟩ := hh x List.mem_cons_self
    have ih := compD_pure r p h xs fun y hy => hh y (List.mem_cons_of_mem _ hy)
    simp only [compD, h1, h2]
    cases hp : p x with
    | false => simp only [ih, List.filter_cons, hp]; rfl
    | true => simp only [h3 hp, ih, List.filter_cons, hp]; rfl
/-! ### the draws -/
def bDraw : Ss := (.cons (.ite (.val (.cmp .lt (.var 1) (.bi .len (.cons (.var 0) .nil)))) (.cons (.ret (.bin .mod (.bi .int (.cons (.idx (.var 0) (.var 1)) .nil)) (.var 2))) .nil) .nil) (.cons (.set 3 (.bin .mod (.bi .int (.cons (.bin .add (.bin .add (.bin .mul (.idx (.var 0) (.bin .mod (.bi .int (.cons (.var 1) .nil)) (.bi .len (.cons (.var 0) .nil)))) (.cst (.int 40692))) (.bin .mul (.var 1) (.cst (.int 7919)))) (.cst (.int 3))) .nil)) (.cst (.int 2147483399)))) (.cons (.ret (.bin .mod (.bi .int (.cons (.bin .mod (.bi .int (.cons (.bin .add (.bin .mul (.var 3) (.cst (.int 48271))) (.var 1)) .nil)) (.cst (.int 2147483647))) .nil)) (.var 2))) .nil)))
def bTake (dr : Nat) : Ss := (.cons (.setI 1 (.cst (.int 0)) (.bin .add (.idx (.var 1) (.cst (.int 0))) (.cst (.int 1)))) (.cons (.ret (.call dr (.cons (.var 0) (.cons (.bin .sub (.idx (.var 1) (.cst (.int 0))) (.cst (.int 1))) (.cons (.var 2) .nil))))) .nil))
def body1 : Ss := (.cons (.ite (.val (.cmp .eq (.var 3) (.cst (.int 0)))) (.cons .brk .nil) .nil) (.cons (.app 1 (.bin .mod (.bi .int (.cons (.var 3) .nil)) (.cst (.int 997)))) (.cons (.set 3 (.bin .fdiv (.var 3) (.cst (.int 997)))) .nil)))
def body2 : Ss := (.cons (.set 5 (.bin .mod (.bi .int (.cons (.bin .add (.bin .add (.bin .mul (.var 2) (.cst (.int 48271))) (.bin .mul (.var 4) (.cst (.int 69621)))) (.cst (.int 11))) .nil)) (.cst (.int 2147483647)))) (.cons (.app 1 (.bin .mod (.bi .int (.cons (.bin .add (.bin .mul (.var 5) (.cst (.int 16807))) (.var 4)) .nil)) (.cst (.int 2147483629)))) .nil))
def bodyO : Ss := (.cons (.ite (.val (.cmp .ge (.var 2) (.bin .pow (.cst (.int 10)) (.cst (.int 18))))) (.cons (.set 3 (.var 2)) (.cons (.for (.name 4) (.rng (.cons (.cst (.int 60)) .nil)) body1) .nil)) (.cons (.for (.name 4) (.rng (.cons (.cst (.int 4)) .nil)) body2) .nil)) .nil)
def bNumbers : Ss := (.cons (.new 1 (.lst .nil)) (.cons (.for (.name 2) (.seq (.sli 2 (.var 0) (.cst .non) (.cst (.int 63)))) bodyO) (.cons (.ite (.val (.cmp .eq (.bi .len (.cons (.var 1) .nil)) (.cst (.int 0)))) (.cons (.app 1 (.cst (.int 0))) .nil) .nil) (.cons (.ret (.var 1)) .nil))))
section
variable {rn : Rn} {w : Nat} {ds : List Def} [Runs rn ds] {n : Nat} {k : Ky}
theorem atI_map {α β : Type} (f : α → β) (xs : List α) (i : Int) : atI (xs.map f) i = (atI xs i).map f := by
  unfold atI
  rw [List.length_map]
  cases ixN xs.length i <;> simp
theorem atI_in {α : Type} {xs : List α} {i : Int} (h0 : 0 ≤ i) (h1 : i < xs.length) : ∃ x, atI xs i = some x ∧ x ∈ xs := by
  unfold atI ixN
  rw [if_pos h0, if_pos h1]
  have : i.toNat < xs.length := by omega
  exact ⟨xs[i.toNat], by simp [List.getElem?_eq_getElem this], List.getElem_mem this⟩
theorem draw_ok {f : Nat} (hf : ds[f]? = some ⟨3, 4, bDraw⟩) (row : List Int) (hr : row ≠ []) (a lim : Int) (ha : 0 ≤ a) (hl : 0 < lim) : ∃ v : Int, rn.go (n + 1) f [.lst (row.map .int), .int a, .int lim] k = some (.int v, k) ∧ 0 ≤ v ∧ v < lim := by
  rw [run_eq (rn := rn) hf rfl]
  have hlen : 0 < row.length := List.length_pos_iff.mpr hr
  by_cases hlt : a < row.length
  · obtain ⟨x, hx, _⟩ := atI_in (xs := row) ha hlt
    refine ⟨x % lim, ?_, Int.emod_nonneg _ (by omega), Int.emod_lt_of_pos _ hl⟩
    simp [bDraw, evSs, evS, evE, evT, evEs, biSem, boSem, coSem, truth, idxSem, atI_map, hx, hlt, hl, fin_rt]
  · have hm0 : 0 ≤ a % (row.length : Int) := Int.emod_nonneg _ (by omega)
    have hm1 : a % (row.length : Int) < row.length := Int.emod_lt_of_pos _ (by omega)
    obtain ⟨x, hx, _⟩ := atI_in (xs := row) hm0 hm1
    have hlen' : (0 : Int) < row.length := by omega
    refine ⟨((x * 40692 + a * 7919 + 3) % 2147483399 * 48271 + a) % 2147483647 % lim, ?_, Int.emod_nonneg _ (by omega), Int.emod_lt_of_pos _ hl⟩
    simp [bDraw, evSs, evS, evE, evT, evEs, biSem, boSem, coSem, truth, idxSem, atI_map, hx, hlt, hl, fin_rt, hlen', stE, noL, Sta.put, mulOk, small64, hlen]
theorem take_ok {f dr : Nat} (hf : ds[f]? = some ⟨3, 3, bTake dr⟩) (hd : ds[dr]? = some ⟨3, 4, bDraw⟩) (row : List Int) (hr : row ≠ []) (m lim : Int) (hm : 0 ≤ m) (hl : 0 < lim) : ∃ v : Int, rn.go (n + 2) f [.lst (row.map .int), .spot, .int lim] (some m) = some (.int v, some (m + 1)) ∧ 0 ≤ v ∧ v < lim := by
  obtain ⟨v, hv, h1, h2⟩ := draw_ok (rn := rn) (n := n) (k := some (m + 1)) hd row hr m lim hm hl
  refine ⟨v, ?_, h1, h2⟩
  rw [run_eq (rn := rn) hf rfl]
  simp [bTake, evSs, evS, evE, evT, evEs, biSem, boSem, idxSem, fin_rt, hv]
  rfl
end
end Mini
namespace Mini
open PySem PySem.Spec PyProof.Rows L2
section
variable {rn : Rn} {w : Nat} {ds : List Def} [Runs rn ds] {n : Nat} {k : Ky} {c : Call}
theorem body1_ok (a x4 x5 : Option D) (row : List Int) (x l : Int) (hl : row.length < 16777216) : evSs c w body1 ⟨[a, some (.lst (row.map .int)), some (.int x), some (.int l), x4, x5], [1], k⟩ = if l = 0 then some (.bk ⟨[a, some (.lst (row.map .int)), some (.int x), some (.int l), x4, x5], [1], k⟩) else some (.nx ⟨[a, some (.lst ((row ++ [l % 997]).map .int)), some (.int x), some (.int (l / 997)), x4, x5], [1], k⟩) := by
  by_cases h : l = 0
  · subst h
    simp [body1, evSs, evS, evE, evT, evEs, coSem, eqD, truth]
  · simp [body1, evSs, evS, evE, evT, evEs, coSem, eqD, truth, h, biSem, boSem, noL, hl, divOk, small64, stE, Sta.put]
theorem body2_ok (a x3 x5 : Option D) (row : List Int) (x l : Int) (hl : row.length < 16777216) : ∃ y z : Int, evSs c w body2 ⟨[a, some (.lst (row.map .int)), some (.int x), x3, some (.int l), x5], [1], k⟩ = some (.nx ⟨[a, some (.lst ((row ++ [y]).map .int)), some (.int x), x3, some (.int l), some (.int z)], [1], k⟩) := by
  refine ⟨((x * 48271 + l * 69621 + 11) % 2147483647 * 16807 + l) % 2147483629, (x * 48271 + l * 69621 + 11) % 2147483647, ?_⟩
  simp [body2, evSs, evS, evE, evT, evEs, coSem, eqD, truth, biSem, boSem, noL, hl, mulOk, small64, stE, Sta.put]
theorem numbers_ok {f : Nat} (hf : ds[f]? = some ⟨1, 6, bNumbers⟩) (ns : List Int) : ∃ row : List Int, row ≠ [] ∧ rn.go (n + 1) f [.scr (ns.map .int)] k = some (.lst (row.map .int), k) := by
  rw [run_eq (rn := rn) hf rfl]
  let J : Sta → Prop := fun s => ∃ (row : List Int) (x2 x3 x4 x5 : Option D), s = ⟨[some (.scr (ns.map .int)), some (.lst (row.map .int)), x2, x3, x4, x5], [1], k⟩ ∧ row.length ≤ 10000
  let I : Nat → Sta → Prop := fun i s => ∃ (row : List Int) (x2 x3 x4 x5 : Option D), s = ⟨[some (.scr (ns.map .int)), some (.lst (row.map .int)), x2, x3, x4, x5], [1], k⟩ ∧ row.length ≤ 60 * i
  have hcut : ∃ ms : List Int, cutD (ns.map .int) none (some 63) = ms.map .int ∧ ms.length ≤ 63 := by
    refine ⟨(ns.drop (HT.sIx ns.length 0 none)).take (HT.sIx ns.length ns.length (some 63) - HT.sIx ns.length 0 none), ?_, ?_⟩
    · unfold cutD
      rw [List.map_take, List.map_drop, List.length_map]
    · rw [List.length_take, HT.sIx_none, show HT.sIx ns.length ns.length (some 63) = min 63 ns.length from HT.sIx_nat ns.length ns.length 63]
      omega
  obtain ⟨ms, hms, hml⟩ := hcut
  have loop := forD_inv (tg := .name 2) (I := I) (J := J) (body := fun s => evSs (rn.go n) WF bodyO s) (ms.map .int) 0 ⟨[some (.scr (ns.map .int)), some (.lst []), none, none, none, none], [1], k⟩
    (fun i d s hd hI => ?_) (fun s hs => ?_) ⟨[], none, none, none, none, rfl, by simp⟩
  · obtain ⟨s1, e1, row, x2, x3, x4, x5, rfl, hrl⟩ := loop
    refine ⟨if row = [] then [0] else row, by split <;> simp_all, ?_⟩
    have e0 : evSs (rn.go n) WF bNumbers ⟨[some (.scr (ns.map .int)), none, none, none, none, none], [], k⟩ = some (.rt (.lst ((if row = [] then [0] else row).map .int)) k) := by
      have e1' := e1
      by_cases h0 : row = []
      · subst h0
        simp only [bNumbers]
        simp [evSs, evS, evE, evT, evEs, evI, sliSem, items, hms, noLs, Sta.keep, avI, avE, avEs, lineOk, e1', coSem, eqD, truth, biSem, noL]
      · have h1 : ¬ (row.length : Int) = 0 := by
          cases row with
          | nil => exact (h0 rfl).elim
          | cons _ _ => simp; omega
        simp only [bNumbers]
        simp [evSs, evS, evE, evT, evEs, evI, sliSem, items, hms, noLs, Sta.keep, avI, avE, avEs, lineOk, e1', coSem, eqD, truth, biSem, noL, h0, h1]
    show fin k (evSs _ _ bNumbers ⟨[some (.scr (ns.map .int)), none, none, none, none, none], [], k⟩) = _
    rw [e0, fin_rt]
  · obtain ⟨row, x2, x3, x4, x5, rfl, hrl⟩ := hI
    rw [List.getElem?_map] at hd
    cases hx : ms[i]? with
    | none => rw [hx] at hd; cases hd
    | some x =>
      rw [hx] at hd
      cases hd
      have hi : i < 63 := by
        have := (List.getElem?_eq_some_iff.mp hx).1
        omega
      by_cases hbig : (1000000000000000000 : Int) ≤ x
      · have l1 := forD_inv (tg := .name 4) (body := fun s => evSs (rn.go n) WF body1 s) (I := fun j s => ∃ (row' : List Int) (x3 : Int) (x4 x5 : Option D), s = ⟨[some (.scr (ns.map .int)), some (.lst (row'.map .int)), some (.int x), some (.int x3), x4, x5], [1], k⟩ ∧ row'.length ≤ 60 * i + j)
          (J := fun s => ∃ (row' : List Int) (x3 : Int) (x4 x5 : Option D), s = ⟨[some (.scr (ns.map .int)), some (.lst (row'.map .int)), some (.int x), some (.int x3), x4, x5], [1], k⟩ ∧ row'.length ≤ 60 * (i + 1)) (rngL 0 1 60) 0 ⟨[some (.scr (ns.map .int)), some (.lst (row.map .int)), some (.int x), some (.int x), x4, x5], [1], k⟩
          (fun j d s hd' hI' => ?_) (fun s hs => ?_) ⟨row, x, x4, x5, rfl, by omega⟩
        · obtain ⟨s2, e2, row', x3', x4', x5', rfl, hr'⟩ := l1
          refine ⟨_, .nx ⟨[some (.scr (ns.map .int)), some (.lst (row'.map .int)), some (.int x), some (.int x3'), x4', x5'], [1], k⟩, rfl, ?_, ⟨row', _, _, _, _, rfl, by omega⟩⟩
          have e2' : forD (.name 4) (fun s => evSs (rn.go n) WF body1 s) (rngL 0 1 60) ⟨[some (.scr (ns.map .int)), some (.lst (row.map .int)), some (.int x), some (.int x), x4, x5], [1], k⟩ = _ := e2
          simp [bodyO, evSs, evS, evE, evT, evEs, evI, boSem, coSem, truth, hbig, tgMu, small64, stE, noL, Sta.put, rngSem, rng62, Sta.keep, avI, avE, avEs, e2']
        · obtain ⟨row', l', x4', x5', rfl, hr'⟩ := hI'
          have hj : j < 60 := by
            have := (List.getElem?_eq_some_iff.mp hd').1
            simpa [rngL] using this
          have hb := body1_ok (w := WF) (c := rn.go n) (k := k) (some (.scr (ns.map .int))) (some d) x5' row' x l' (by omega)
          by_cases h0 : l' = 0
          · rw [if_pos h0] at hb
            exact ⟨_, _, rfl, hb, ⟨row', l', _, _, rfl, by omega⟩⟩
          · rw [if_neg h0] at hb
            exact ⟨_, _, rfl, hb, ⟨_, _, _, _, rfl, by simp; omega⟩⟩
        · obtain ⟨row', l', x4', x5', rfl, hr'⟩ := hs
          exact ⟨row', l', x4', x5', rfl, by simpa [rngL, Nat.mul_add] using hr'⟩
      · have l1 := forD_inv (tg := .name 4) (body := fun s => evSs (rn.go n) WF body2 s) (I := fun j s => ∃ (row' : List Int) (x4 x5 : Option D), s = ⟨[some (.scr (ns.map .int)), some (.lst (row'.map .int)), some (.int x), x3, x4, x5], [1], k⟩ ∧ row'.length ≤ 60 * i + j)
          (J := fun s => ∃ (row' : List Int) (x4 x5 : Option D), s = ⟨[some (.scr (ns.map .int)), some (.lst (row'.map .int)), some (.int x), x3, x4, x5], [1], k⟩ ∧ row'.length ≤ 60 * (i + 1)) (rngL 0 1 4) 0 ⟨[some (.scr (ns.map .int)), some (.lst (row.map .int)), some (.int x), x3, x4, x5], [1], k⟩
          (fun j d s hd' hI' => ?_) (fun s hs => ?_) ⟨row, x4, x5, rfl, by omega⟩
        · obtain ⟨s2, e2, row', x4', x5', rfl, hr'⟩ := l1
          refine ⟨_, .nx ⟨[some (.scr (ns.map .int)), some (.lst (row'.map .int)), some (.int x), x3, x4', x5'], [1], k⟩, rfl, ?_, ⟨row', _, _, _, _, rfl, by omega⟩⟩
          have e2' : forD (.name 4) (fun s => evSs (rn.go n) WF body2 s) (rngL 0 1 4) ⟨[some (.scr (ns.map .int)), some (.lst (row.map .int)), some (.int x), x3, x4, x5], [1], k⟩ = _ := e2
          simp [bodyO, evSs, evS, evE, evT, evEs, evI, boSem, coSem, truth, hbig, tgMu, small64, stE, noL, Sta.put, rngSem, rng62, Sta.keep, avI, avE, avEs, e2']
        · obtain ⟨row', x4', x5', rfl, hr'⟩ := hI'
          have hj : j < 4 := by
            have := (List.getElem?_eq_some_iff.mp hd').1
            simpa [rngL] using this
          unfold rngL at hd'
          rw [List.getElem?_map] at hd'
          cases hq : (List.range 4)[j]? with
          | none => rw [hq] at hd'; cases hd'
          | some q =>
            rw [hq] at hd'
            cases hd'
            obtain ⟨y, z, hb⟩ := body2_ok (w := WF) (c := rn.go n) (k := k) (some (.scr (ns.map .int))) x3 x5' row' x (0 + (q : Int) * 1) (by omega)
            exact ⟨_, _, rfl, hb, ⟨_, _, _, rfl, by simp; omega⟩⟩
        · obtain ⟨row', x4', x5', rfl, hr'⟩ := hs
          exact ⟨row', x4', x5', rfl, by have : row'.length ≤ 60 * i + (0 + 4) := by simpa [rngL] using hr'
                                         omega⟩
  · obtain ⟨row, x2, x3, x4, x5, rfl, hrl⟩ := hs
    refine ⟨row, x2, x3, x4, x5, rfl, ?_⟩
    rw [List.length_map] at hrl
    omega

theorem seq_nx {a : S} {b : Ss} {s s' : Sta} (h : evS c w a s = some (.nx s')) : evSs c w (.cons a b) s = evSs c w b s' := by simp only [evSs, h]
theorem mulOk_l {i j : Int} (h1 : -18446744073709551616 < i) (h2 : i < 18446744073709551616) : mulOk i j = true := by
  simp only [mulOk, small64, decide_eq_true h1, decide_eq_true h2]; rfl
theorem mulOk_r {i j : Int} (h1 : -18446744073709551616 < j) (h2 : j < 18446744073709551616) : mulOk i j = true := by
  simp only [mulOk, small64, decide_eq_true h1, decide_eq_true h2]
  simp
theorem divOk_of {j : Int} (h1 : 0 < j) (h2 : j < 18446744073709551616) : divOk j = true := by
  have h3 : (-18446744073709551616 : Int) < j := by omega
  simp only [divOk, small64, decide_eq_true h1, decide_eq_true h2, decide_eq_true h3]; rfl
theorem rng62_of {j : Int} (h1 : -4611686018427387904 ≤ j) (h2 : j < 4611686018427387904) : rng62 j = true := by
  simp only [rng62, decide_eq_true h1, decide_eq_true h2]; rfl
theorem lineOk_of {n : Nat} (h : n ≤ 16777216) : lineOk n = true := decide_eq_true h
theorem compD_int {f : Rho → Ky → Option (D × Ky)} {g : Rho → Ky → Option (Bool × Ky)} {tg : Tg} {ρ : Rho} {k : Ky} (r : Int → Rho) (p : Int → Bool) (h : Int → D) : ∀ (xs : List Int),
    (∀ x ∈ xs, asg tg (.int x) ρ = some (r x) ∧ g (r x) k = some (p x, k) ∧ (p x = true → f (r x) k = some (h x, k))) → compD f g tg ρ (xs.map .int) k = some ((xs.filter p).map h, k)
  | [], _ => rfl
  | x :: xs, hh => by
    obtain ⟨h1, h2, h3⟩ := hh x List.mem_cons_self
    have ih := compD_int r p h xs fun y hy => hh y (List.mem_cons_of_mem _ hy)
    simp only [List.map_cons, compD, h1, h2]
    cases hp : p x with
    | false => simp only [ih, List.filter_cons, hp]; rfl
    | true => simp only [h3 hp, ih, List.filter_cons, hp]; rfl
def R (n : Nat) : List Int := (List.range n).map fun (t : Nat) => (t : Int)
theorem rngL_R (n : Nat) : rngL 0 1 n = (R n).map .int := by
  simp only [rngL, R, List.map_map]
  congr 1
  funext t
  simp
theorem mem_R {n : Nat} {x : Int} (h : x ∈ R n) : 0 ≤ x ∧ x < n := by
  simp only [R, List.mem_map, List.mem_range] at h
  obtain ⟨t, h1, rfl⟩ := h
  omega
theorem anyEq_int (x : Int) : ∀ ys : List Int, anyEq (.int x) (ys.map .int) = some (decide (x ∈ ys))
  | [] => by simp [anyEq]
  | y :: ys => by
    simp only [List.map_cons, anyEq, eqD]
    by_cases h : y = x
    · subst h
      simp [anyEq_int y ys]
    · simp [h, anyEq_int x ys, Ne.symm h, fun e : x = y => h e.symm]
theorem fine_int (x : Int) : (D.int x).fine 60 = true := rfl
/-! ### _law_so -/
def bSoL (f : Nat) : Ss := (.cons (.ite (.not (.val (.call f (.cons (.idx (.var 0) (.var 2)) (.cons (.idx (.var 1) (.var 2)) .nil))))) (.cons (.ret (.cst (.bl false))) .nil) .nil) .nil)
def bSo (f : Nat) : Ss := (.cons (.ite (.val (.isN (.var 1))) (.cons (.ret (.isN (.var 0))) .nil) .nil) (.cons (.ite (.val (.isi (.var 1) [4])) (.cons (.ite (.or (.not (.val (.isi (.var 0) [4]))) (.val (.cmp .ne (.bi .len (.cons (.var 0) .nil)) (.bi .len (.cons (.var 1) .nil))))) (.cons (.ret (.cst (.bl false))) .nil) .nil) (.cons (.for (.name 2) (.rng (.cons (.bi .len (.cons (.var 1) .nil)) .nil)) (bSoL f)) (.cons (.ret (.cst (.bl true))) .nil))) .nil) (.cons (.ite (.or (.val (.isi (.var 1) [1])) (.val (.isi (.var 0) [1]))) (.cons (.ret (.and (.isi (.var 1) [1]) (.and (.isi (.var 0) [1]) (.cmp .eq (.var 0) (.var 1))))) .nil) .nil) (.cons (.ite (.val (.isi (.var 1) [0])) (.cons (.ret (.and (.isi (.var 0) [0]) (.cmp .eq (.var 0) (.var 1)))) .nil) .nil) (.cons (.ret (.and (.isi (.var 1) [2]) (.and (.isi (.var 0) [2]) (.cmp .eq (.var 0) (.var 1))))) .nil)))))
theorem rngL_get {lo st : Int} {m i : Nat} {d : D} (h : (rngL lo st m)[i]? = some d) : i < m ∧ d = .int (lo + i * st) := by
  unfold rngL at h
  rw [List.getElem?_map] at h
  by_cases hi : i < m
  · rw [List.getElem?_range hi] at h
    cases h
    exact ⟨hi, rfl⟩
  · rw [List.getElem?_eq_none (by simpa using hi)] at h
    cases h
theorem atI_get {α : Type} {xs : List α} {i : Nat} {x : α} (h : xs[i]? = some x) : atI xs (i : Int) = some x := by
  have hl := (List.getElem?_eq_some_iff.mp h).1
  unfold atI ixN
  rw [if_pos (by omega), if_pos (by omega)]
  simpa using h
theorem so_int {f : Nat} (hf : ds[f]? = some ⟨2, 3, bSo f⟩) (a : Int) : rn.go (n + 1) f [.int a, .int a] k = some (.bl true, k) := by
  rw [run_eq (rn := rn) hf rfl]
  simp [bSo, evSs, evS, evE, evT, evEs, isOfs, isOf, truth, coSem, eqD, fin_rt]
theorem so_pair {f : Nat} (hf : ds[f]? = some ⟨2, 3, bSo f⟩) (a b : Int) : rn.go (n + 2) f [.tup [.int a, .int b], .tup [.int a, .int b]] k = some (.bl true, k) := by
  rw [run_eq (rn := rn) hf rfl]
  have h1 : ∀ x, evSs (rn.go (n + 1)) WF (bSoL f) ⟨[some (.tup [.int a, .int b]), some (.tup [.int a, .int b]), some (.int 0)], x, k⟩ = some (.nx ⟨[some (.tup [.int a, .int b]), some (.tup [.int a, .int b]), some (.int 0)], x, k⟩) := by
    intro x
    simp [bSoL, evSs, evS, evE, evT, evEs, idxSem, atI, ixN, so_int hf, truth]
  have h2 : ∀ x, evSs (rn.go (n + 1)) WF (bSoL f) ⟨[some (.tup [.int a, .int b]), some (.tup [.int a, .int b]), some (.int 1)], x, k⟩ = some (.nx ⟨[some (.tup [.int a, .int b]), some (.tup [.int a, .int b]), some (.int 1)], x, k⟩) := by
    intro x
    simp [bSoL, evSs, evS, evE, evT, evEs, idxSem, atI, ixN, so_int hf, truth]
  have hr : rngL 0 1 2 = [.int 0, .int 1] := rfl
  simp [bSo, evSs, evS, evE, evT, evEs, evI, isOfs, isOf, truth, coSem, eqD, fin_rt, biSem, rngSem, rng62, hr, forD, asg, h1, h2, Sta.keep, tgMu]
end
end Mini
namespace Mini
open PySem PySem.Spec PyProof.Rows L2
/-! ### the laws' own fractions -/
def bGcdL : Ss := (.cons (.ite (.val (.cmp .eq (.var 3) (.cst (.int 0)))) (.cons .brk .nil) .nil) (.cons (.set 5 (.bin .mod (.bi .int (.cons (.var 2) .nil)) (.var 3))) (.cons (.set 2 (.var 3)) (.cons (.set 3 (.var 5)) .nil))))
def bGcd : Ss := (.cons (.set 2 (.ite (.val (.cmp .ge (.var 0) (.cst (.int 0)))) (.var 0) (.neg (.var 0)))) (.cons (.set 3 (.ite (.val (.cmp .ge (.var 1) (.cst (.int 0)))) (.var 1) (.neg (.var 1)))) (.cons (.for (.name 4) (.rng (.cons (.cst (.int 20000)) .nil)) bGcdL) (.cons (.ret (.var 2)) .nil))))
def bRed (f g : Nat) : Ss := (.cons (.ite (.val (.cmp .lt (.var 1) (.cst (.int 0)))) (.cons (.ret (.call f (.cons (.neg (.var 0)) (.cons (.neg (.var 1)) .nil)))) .nil) .nil) (.cons (.set 2 (.call g (.cons (.var 0) (.cons (.var 1) .nil)))) (.cons (.ite (.val (.cmp .eq (.var 2) (.cst (.int 0)))) (.cons (.ret (.tup (.cons (.cst (.int 0)) (.cons (.cst (.int 1)) .nil)))) .nil) .nil) (.cons (.ret (.tup (.cons (.bin .fdiv (.var 0) (.var 2)) (.cons (.bin .fdiv (.var 1) (.var 2)) .nil)))) .nil))))
section
variable {rn : Rn} {w : Nat} {ds : List Def} [Runs rn ds] {n : Nat} {k : Ky} {c : Call}
theorem gcdL_zero (x0 x1 x4 x5 : Option D) (l : Int) : evSs c w bGcdL ⟨[x0, x1, some (.int l), some (.int 0), x4, x5], [], k⟩ = some (.bk ⟨[x0, x1, some (.int l), some (.int 0), x4, x5], [], k⟩) := by
  simp [bGcdL, evSs, evS, evE, evT, evEs, coSem, eqD, truth]
theorem gcdL_pos (x0 x1 x4 x5 : Option D) (l r : Int) (h : 0 < r) : evSs c w bGcdL ⟨[x0, x1, some (.int l), some (.int r), x4, x5], [], k⟩ = some (.nx ⟨[x0, x1, some (.int r), some (.int (l % r)), x4, some (.int (l % r))], [], k⟩) := by
  have : ¬ r = 0 := by omega
  simp [bGcdL, evSs, evS, evE, evT, evEs, coSem, eqD, truth, biSem, boSem, stE, noL, Sta.put, h, this]
theorem euclid_step {l r B i : Nat} (hr : 0 < r) (hl : r ≤ l) (h : l * r * 2 ^ i ≤ B) : r * (l % r) * 2 ^ (i + 1) ≤ B := by
  have h1 : l % r < r := Nat.mod_lt _ hr
  have h2 : 2 * (l % r) ≤ l := by
    have := Nat.div_add_mod l r
    have hq : 1 ≤ l / r := Nat.div_pos hl hr
    have : r * 1 ≤ r * (l / r) := Nat.mul_le_mul_left r hq
    omega
  calc r * (l % r) * 2 ^ (i + 1) = r * (2 * (l % r)) * 2 ^ i := by rw [Nat.pow_succ]; ac_rfl
    _ ≤ r * l * 2 ^ i := Nat.mul_le_mul_right _ (Nat.mul_le_mul_left _ h2)
    _ = l * r * 2 ^ i := by rw [Nat.mul_comm r l]
    _ ≤ B := h
/-- the largest that the loops are shown for -/
def HUGE : Nat := 2 ^ 8000
theorem huge_sq {n : Nat} (h : n < HUGE) : n * n < 2 ^ 16000 := by
  have h1 : n * n < HUGE * HUGE := Nat.mul_lt_mul'' h h
  have h2 : HUGE * HUGE = 2 ^ 16000 := by unfold HUGE; rw [← Nat.pow_add]
  omega
theorem huge_of {n : Nat} (h : n < 18446744073709551616) : n < HUGE := by
  have : (2 : Nat) ^ 64 ≤ HUGE := Nat.pow_le_pow_right (by omega) (by omega)
  have e : (2 : Nat) ^ 64 = 18446744073709551616 := by decide
  omega
theorem huge_log {n : Nat} (h : n < HUGE) : n.log2 < 8001 := by
  rcases Nat.eq_zero_or_pos n with h0 | h0
  · subst h0; decide
  · have h2 := (Nat.log2_lt (by omega)).mpr (show n < 2 ^ 8000 from h)
    omega
theorem divOk_huge {j : Int} (h1 : 0 < j) (h2 : j.natAbs < HUGE) : divOk j = true := by
  have h3 := huge_log h2
  have h4 : j.natAbs.log2 < 9000 := by omega
  simp only [divOk, decide_eq_true h1, decide_eq_true h4, Bool.or_true]
  rfl
theorem mulOk_huge {i j : Int} (h1 : i.natAbs < HUGE) (h2 : j.natAbs < HUGE) : mulOk i j = true := by
  have h3 := huge_log h1
  have h4 := huge_log h2
  have h5 : i.natAbs.log2 + j.natAbs.log2 < 1000000 := by omega
  simp only [mulOk, decide_eq_true h5, Bool.or_true]
theorem gcd_ok {f : Nat} (hf : ds[f]? = some ⟨2, 6, bGcd⟩) (a b : Int) (hb : b.natAbs < HUGE) : rn.go (n + 1) f [.int a, .int b] k = some (.int (Nat.gcd a.natAbs b.natAbs : Nat), k) := by
  rw [run_eq (rn := rn) hf rfl]
  have loop := forD_inv (tg := .name 4) (body := fun s => evSs (rn.go n) WF bGcdL s)
    (I := fun i s => ∃ (l r : Nat) (x4 x5 : Option D), s = ⟨[some (.int a), some (.int b), some (.int l), some (.int r), x4, x5], [], k⟩ ∧ Nat.gcd l r = Nat.gcd a.natAbs b.natAbs ∧ (r = 0 ∨ (i = 0 ∧ r = b.natAbs) ∨ (0 < i ∧ r ≤ l ∧ l * r * 2 ^ (i - 1) ≤ b.natAbs * b.natAbs)))
    (J := fun s => ∃ (l : Nat) (x4 x5 : Option D), s = ⟨[some (.int a), some (.int b), some (.int l), some (.int 0), x4, x5], [], k⟩ ∧ l = Nat.gcd a.natAbs b.natAbs)
    (rngL 0 1 20000) 0 ⟨[some (.int a), some (.int b), some (.int (a.natAbs : Nat)), some (.int (b.natAbs : Nat)), none, none], [], k⟩
    (fun i d s hd hI => by
      obtain ⟨l, r, x4, x5, rfl, hg, hc⟩ := hI
      by_cases h0 : r = 0
      · subst h0
        exact ⟨_, _, rfl, gcdL_zero _ _ _ _ _, ⟨l, _, _, rfl, by simpa using hg⟩⟩
      · have hr : 0 < r := by omega
        refine ⟨_, _, rfl, gcdL_pos _ _ _ _ _ _ (by omega), ⟨r, l % r, _, _, by rw [Int.natCast_emod], ?_, ?_⟩⟩
        · rw [← hg, Nat.gcd_comm l r, Nat.gcd_rec r l, Nat.gcd_comm]
        · right; right
          refine ⟨by omega, Nat.le_of_lt (Nat.mod_lt _ hr), ?_⟩
          rcases hc with hc | ⟨hi, hc⟩ | ⟨hi, hl, hc⟩
          · exact (h0 hc).elim
          · rw [hi, hc]
            have : l % b.natAbs ≤ b.natAbs := Nat.le_of_lt (Nat.mod_lt _ (by omega))
            simpa using Nat.mul_le_mul_left b.natAbs this
          · have := euclid_step (i := 0 + i - 1) hr hl hc
            rw [show 0 + i + 1 - 1 = 0 + i - 1 + 1 by omega]
            exact this)
    (fun s hs => by
      obtain ⟨l, r, x4, x5, rfl, hg, hc⟩ := hs
      have hlen : (rngL 0 1 20000).length = 20000 := by simp [rngL]
      have h0 : r = 0 := by
        rcases hc with hc | ⟨hi, hc⟩ | ⟨hi, hl, hc⟩
        · exact hc
        · rw [hlen] at hi; omega
        · rw [hlen] at hc
          rcases Nat.eq_zero_or_pos r with h | h
          · exact h
          · exfalso
            have h1 : 1 ≤ l * r := Nat.mul_pos (by omega) h
            have h2 : 2 ^ 16000 ≤ 2 ^ (0 + 20000 - 1) := Nat.pow_le_pow_right (by omega) (by omega)
            have h3 : b.natAbs * b.natAbs < 2 ^ 16000 := huge_sq hb
            have h4 : 1 * 2 ^ (0 + 20000 - 1) ≤ l * r * 2 ^ (0 + 20000 - 1) := Nat.mul_le_mul_right _ h1
            exact absurd (Nat.lt_of_lt_of_le h3 h2) (Nat.not_lt.mpr (by rw [Nat.one_mul] at h4; exact Nat.le_trans h4 hc))
      subst h0
      exact ⟨l, _, _, rfl, by simpa using hg⟩) ⟨a.natAbs, b.natAbs, none, none, rfl, rfl, .inr (.inl ⟨rfl, rfl⟩)⟩
  obtain ⟨s1, e1, l, x4, x5, rfl, hl⟩ := loop
  have s1 : evS (rn.go n) WF (.set 2 (.ite (.val (.cmp .ge (.var 0) (.cst (.int 0)))) (.var 0) (.neg (.var 0)))) ⟨[some (.int a), some (.int b), none, none, none, none], [], k⟩ = some (.nx ⟨[some (.int a), some (.int b), some (.int (a.natAbs : Nat)), none, none, none], [], k⟩) := by
    by_cases h : 0 ≤ a
    · have : (a.natAbs : Int) = a := by omega
      simp [evS, stE, evE, evT, coSem, truth, h, noL, Sta.put, this]
    · have : (a.natAbs : Int) = -a := by omega
      simp [evS, stE, evE, evT, coSem, truth, h, noL, Sta.put, this]
  have s2 : evS (rn.go n) WF (.set 3 (.ite (.val (.cmp .ge (.var 1) (.cst (.int 0)))) (.var 1) (.neg (.var 1)))) ⟨[some (.int a), some (.int b), some (.int (a.natAbs : Nat)), none, none, none], [], k⟩ = some (.nx ⟨[some (.int a), some (.int b), some (.int (a.natAbs : Nat)), some (.int (b.natAbs : Nat)), none, none], [], k⟩) := by
    by_cases h : 0 ≤ b
    · have : (b.natAbs : Int) = b := by omega
      simp [evS, stE, evE, evT, coSem, truth, h, noL, Sta.put, this]
    · have : (b.natAbs : Int) = -b := by omega
      simp [evS, stE, evE, evT, coSem, truth, h, noL, Sta.put, this]
  have s3 : evS (rn.go n) WF (.for (.name 4) (.rng (.cons (.cst (.int 20000)) .nil)) bGcdL) ⟨[some (.int a), some (.int b), some (.int (a.natAbs : Nat)), some (.int (b.natAbs : Nat)), none, none], [], k⟩ = some (.nx ⟨[some (.int a), some (.int b), some (.int l), some (.int 0), x4, x5], [], k⟩) := by
    have r1 : rngSem [.int 20000] = some (rngL 0 1 20000) := by
      have : rng62 20000 = true := rfl
      simp only [rngSem, this, if_true]
      rfl
    simp only [evS, evI, evE, evEs, r1, Option.map_some, Sta.keep, List.filter_nil]
    exact e1
  show fin k (evSs (rn.go n) WF bGcd ⟨[some (.int a), some (.int b), none, none, none, none], [], k⟩) = _
  unfold bGcd
  rw [seq_nx s1, seq_nx s2, seq_nx s3]
  simp only [evSs, evS, evE, List.getElem?_cons_succ, List.getElem?_cons_zero, fin_rt, hl]
/-- n over d in lowest terms, d > 0 -/
def fr (p q : Int) : D := .tup [.int p, .int q]
def rdc (a b : Int) : D := fr (a / (Nat.gcd a.natAbs b.natAbs : Nat)) (b / (Nat.gcd a.natAbs b.natAbs : Nat))
theorem red_pos {f g : Nat} (hf : ds[f]? = some ⟨2, 3, bRed f g⟩) (hg : ds[g]? = some ⟨2, 6, bGcd⟩) (a b : Int) (h : 0 < b) (hb : b.natAbs < HUGE) : rn.go (n + 2) f [.int a, .int b] k = some (rdc a b, k) := by
  rw [run_eq (rn := rn) hf rfl]
  have h1 : ¬ b < 0 := by omega
  have hgp : 0 < Nat.gcd a.natAbs b.natAbs := Nat.gcd_pos_of_pos_right _ (by omega)
  have hgl : Nat.gcd a.natAbs b.natAbs ≤ b.natAbs := Nat.gcd_le_right _ (by omega)
  have e := gcd_ok (rn := rn) (n := n) (k := k) hg a b hb
  generalize hG : Nat.gcd a.natAbs b.natAbs = G at *
  have h2 : ¬ ((G : Int) = 0) := by omega
  have h3 : divOk (G : Int) = true := divOk_huge (by omega) (Nat.lt_of_le_of_lt (by rw [Int.natAbs_natCast]; exact hgl) hb)
  have hl : lineOk 2 = true := rfl
  have hG0 : ¬ G = 0 := by omega
  simp [bRed, evSs, evS, stE, evE, evEs, evT, coSem, eqD, truth, h1, e, noL, Sta.put, boSem, h3, fin_rt, hl, rdc, fr, hG, hG0]
theorem red_neg {f g : Nat} (hf : ds[f]? = some ⟨2, 3, bRed f g⟩) (hg : ds[g]? = some ⟨2, 6, bGcd⟩) (a b : Int) (h : b < 0) (hb : b.natAbs < HUGE) : rn.go (n + 3) f [.int a, .int b] k = some (rdc (-a) (-b), k) := by
  rw [run_eq (rn := rn) hf rfl]
  have e := red_pos (rn := rn) (n := n) (k := k) hf hg (-a) (-b) (by omega) (by rw [Int.natAbs_neg]; exact hb)
  simp [bRed, evSs, evS, stE, evE, evEs, evT, coSem, eqD, truth, h, e, fin_rt]
end
end Mini
namespace Mini
open PySem PySem.Spec PyProof.Rows L2
section
variable {rn : Rn} {w : Nat} {ds : List Def} [Runs rn ds] {n : Nat} {k : Ky} {c : Call}
/-! ### they are the rationals -/
def ofR (x : Rat) : D := fr x.num x.den
/-- small enough for all that is done -/
def SM : Nat := 2 ^ 2000
theorem sm_sq {a b : Nat} (h1 : a < SM) (h2 : b < SM) : a * b < HUGE := by
  have h : a * b < SM * SM := Nat.mul_lt_mul'' h1 h2
  have e : SM * SM = 2 ^ 4000 := by unfold SM; rw [← Nat.pow_add]
  have : (2 : Nat) ^ 4000 ≤ HUGE := Nat.pow_le_pow_right (by omega) (by omega)
  omega
theorem sm_64 : 18446744073709551616 ≤ SM := by
  have : (2 : Nat) ^ 64 ≤ SM := Nat.pow_le_pow_right (by omega) (by omega)
  have e : (2 : Nat) ^ 64 = 18446744073709551616 := by decide
  omega
theorem sm_huge {a : Nat} (h1 : a < SM) : a < HUGE := by
  have := sm_sq h1 (show 1 < SM by have := sm_64; omega)
  omega
def sm (x : Rat) : Prop := x.num.natAbs < SM ∧ x.den < SM
theorem rdc_norm (a : Int) (d : Nat) (h : d ≠ 0) : rdc a d = ofR (Rat.normalize a d h) := by
  rw [Rat.normalize_eq]
  simp only [rdc, ofR, fr, Int.natAbs_natCast, Int.natCast_ediv]
def bAdd (r : Nat) : Ss := (.cons (.ret (.call r (.cons (.bin .add (.bin .mul (.idx (.var 0) (.cst (.int 0))) (.idx (.var 1) (.cst (.int 1)))) (.bin .mul (.idx (.var 1) (.cst (.int 0))) (.idx (.var 0) (.cst (.int 1))))) (.cons (.bin .mul (.idx (.var 0) (.cst (.int 1))) (.idx (.var 1) (.cst (.int 1)))) .nil)))) .nil)
def bSub (r : Nat) : Ss := (.cons (.ret (.call r (.cons (.bin .sub (.bin .mul (.idx (.var 0) (.cst (.int 0))) (.idx (.var 1) (.cst (.int 1)))) (.bin .mul (.idx (.var 1) (.cst (.int 0))) (.idx (.var 0) (.cst (.int 1))))) (.cons (.bin .mul (.idx (.var 0) (.cst (.int 1))) (.idx (.var 1) (.cst (.int 1)))) .nil)))) .nil)
def bMul (r : Nat) : Ss := (.cons (.ret (.call r (.cons (.bin .mul (.idx (.var 0) (.cst (.int 0))) (.idx (.var 1) (.cst (.int 0)))) (.cons (.bin .mul (.idx (.var 0) (.cst (.int 1))) (.idx (.var 1) (.cst (.int 1)))) .nil)))) .nil)
def bLess : Ss := (.cons (.ret (.cmp .lt (.bin .mul (.idx (.var 0) (.cst (.int 0))) (.idx (.var 1) (.cst (.int 1)))) (.bin .mul (.idx (.var 1) (.cst (.int 0))) (.idx (.var 0) (.cst (.int 1)))))) .nil)
/-- a def that takes n, d > 0 to lowest terms -/
def RedOk (rn : Rn) (m r : Nat) : Prop := ∀ (n : Nat) (k : Ky) (a : Int) (d : Nat) (h : d ≠ 0), d < HUGE → rn.go (n + m) r [.int a, .int d] k = some (ofR (Rat.normalize a d h), k)
theorem red_ok {f g : Nat} (hf : ds[f]? = some ⟨2, 3, bRed f g⟩) (hg : ds[g]? = some ⟨2, 6, bGcd⟩) : RedOk rn 2 f := by
  intro n k a d h hd
  rw [← rdc_norm]
  exact red_pos hf hg a d (by omega) (by rw [Int.natAbs_natCast]; exact hd)
theorem den_mul {x y : Rat} (hx : sm x) (hy : sm y) : x.den * y.den ≠ 0 ∧ x.den * y.den < HUGE :=
  ⟨Nat.mul_ne_zero x.den_nz y.den_nz, sm_sq hx.2 hy.2⟩
theorem sm_mul {x y : Rat} (hx : sm x) (hy : sm y) : mulOk x.num (y.den : Int) = true ∧ mulOk x.num y.num = true ∧ mulOk (x.den : Int) (y.den : Int) = true ∧ mulOk (x.den : Int) y.num = true := by
  have h1 : ((x.den : Int)).natAbs < HUGE := by rw [Int.natAbs_natCast]; exact sm_huge hx.2
  have h2 : ((y.den : Int)).natAbs < HUGE := by rw [Int.natAbs_natCast]; exact sm_huge hy.2
  exact ⟨mulOk_huge (sm_huge hx.1) h2, mulOk_huge (sm_huge hx.1) (sm_huge hy.1), mulOk_huge h1 h2, mulOk_huge h1 (sm_huge hy.1)⟩
theorem at0 (a b : D) : atI [a, b] 0 = some a := rfl
theorem at1 (a b : D) : atI [a, b] 1 = some b := rfl
theorem ev_add (c : Call) (x y : Rat) (hx : sm x) (hy : sm y) : evE c (.bin .add (.bin .mul (.idx (.var 0) (.cst (.int 0))) (.idx (.var 1) (.cst (.int 1)))) (.bin .mul (.idx (.var 1) (.cst (.int 0))) (.idx (.var 0) (.cst (.int 1))))) [some (ofR x), some (ofR y)] k = some (.int (x.num * y.den + y.num * x.den), k) := by
  simp only [evE, List.getElem?_cons_succ, List.getElem?_cons_zero, ofR, fr, idxSem, at0, at1, boSem, (sm_mul hx hy).1, (sm_mul hx hy).2.1, (sm_mul hx hy).2.2.1, (sm_mul hy hx).1, if_true, Option.map_some]
theorem ev_sub (c : Call) (x y : Rat) (hx : sm x) (hy : sm y) : evE c (.bin .sub (.bin .mul (.idx (.var 0) (.cst (.int 0))) (.idx (.var 1) (.cst (.int 1)))) (.bin .mul (.idx (.var 1) (.cst (.int 0))) (.idx (.var 0) (.cst (.int 1))))) [some (ofR x), some (ofR y)] k = some (.int (x.num * y.den - y.num * x.den), k) := by
  simp only [evE, List.getElem?_cons_succ, List.getElem?_cons_zero, ofR, fr, idxSem, at0, at1, boSem, (sm_mul hx hy).1, (sm_mul hx hy).2.1, (sm_mul hx hy).2.2.1, (sm_mul hy hx).1, if_true, Option.map_some]
theorem ev_mul (c : Call) (x y : Rat) (hx : sm x) (hy : sm y) : evE c (.bin .mul (.idx (.var 0) (.cst (.int 0))) (.idx (.var 1) (.cst (.int 0)))) [some (ofR x), some (ofR y)] k = some (.int (x.num * y.num), k) := by
  simp only [evE, List.getElem?_cons_succ, List.getElem?_cons_zero, ofR, fr, idxSem, at0, at1, boSem, (sm_mul hx hy).1, (sm_mul hx hy).2.1, (sm_mul hx hy).2.2.1, (sm_mul hy hx).1, if_true, Option.map_some]
theorem ev_den (c : Call) (x y : Rat) (hx : sm x) (hy : sm y) : evE c (.bin .mul (.idx (.var 0) (.cst (.int 1))) (.idx (.var 1) (.cst (.int 1)))) [some (ofR x), some (ofR y)] k = some (.int ((x.den : Int) * y.den), k) := by
  simp only [evE, List.getElem?_cons_succ, List.getElem?_cons_zero, ofR, fr, idxSem, at0, at1, boSem, (sm_mul hx hy).1, (sm_mul hx hy).2.1, (sm_mul hx hy).2.2.1, (sm_mul hy hx).1, if_true, Option.map_some]
theorem ev_call (c : Call) (r : Nat) (a b : E) (u v : Int) (ρ : Rho) (dd : D) (h1 : evE c a ρ k = some (.int u, k)) (h2 : evE c b ρ k = some (.int v, k)) (e : c r [.int u, .int v] k = some (dd, k)) : fin k (evSs c w (.cons (.ret (.call r (.cons a (.cons b .nil)))) .nil) ⟨ρ, [], k⟩) = some (dd, k) := by
  simp only [evSs, evS, evE, evEs, h1, h2, e, fin_rt]
theorem add_ok {f r m : Nat} (hf : ds[f]? = some ⟨2, 2, bAdd r⟩) (hr : RedOk rn m r) (x y : Rat) (hx : sm x) (hy : sm y) : rn.go (n + m + 1) f [ofR x, ofR y] k = some (ofR (x + y), k) := by
  obtain ⟨h0, h1⟩ := den_mul hx hy
  have e := hr n k (x.num * y.den + y.num * x.den) (x.den * y.den) h0 h1
  rw [Int.natCast_mul] at e
  rw [Rat.add_def, run_eq (rn := rn) hf rfl]
  exact ev_call _ r _ _ _ _ _ _ (ev_add _ x y hx hy) (ev_den _ x y hx hy) e
theorem sub_ok {f r m : Nat} (hf : ds[f]? = some ⟨2, 2, bSub r⟩) (hr : RedOk rn m r) (x y : Rat) (hx : sm x) (hy : sm y) : rn.go (n + m + 1) f [ofR x, ofR y] k = some (ofR (x - y), k) := by
  obtain ⟨h0, h1⟩ := den_mul hx hy
  have e := hr n k (x.num * y.den - y.num * x.den) (x.den * y.den) h0 h1
  rw [Int.natCast_mul] at e
  rw [Rat.sub_def, run_eq (rn := rn) hf rfl]
  exact ev_call _ r _ _ _ _ _ _ (ev_sub _ x y hx hy) (ev_den _ x y hx hy) e
theorem mul_ok {f r m : Nat} (hf : ds[f]? = some ⟨2, 2, bMul r⟩) (hr : RedOk rn m r) (x y : Rat) (hx : sm x) (hy : sm y) : rn.go (n + m + 1) f [ofR x, ofR y] k = some (ofR (x * y), k) := by
  obtain ⟨h0, h1⟩ := den_mul hx hy
  have e := hr n k (x.num * y.num) (x.den * y.den) h0 h1
  rw [Int.natCast_mul] at e
  rw [Rat.mul_def, run_eq (rn := rn) hf rfl]
  exact ev_call _ r _ _ _ _ _ _ (ev_mul _ x y hx hy) (ev_den _ x y hx hy) e
theorem less_ok {f : Nat} (hf : ds[f]? = some ⟨2, 2, bLess⟩) (x y : Rat) (hx : sm x) (hy : sm y) : rn.go (n + 1) f [ofR x, ofR y] k = some (.bl (decide (x < y)), k) := by
  rw [run_eq (rn := rn) hf rfl]
  show fin k (evSs _ _ bLess ⟨[some (ofR x), some (ofR y)], [], k⟩) = _
  have e : decide (x < y) = decide (x.num * (y.den : Int) < y.num * (x.den : Int)) := decide_eq_decide.mpr (Rat.lt_iff x y)
  rw [e]
  simp only [bLess, evSs, evS, evE, evEs, List.getElem?_cons_succ, List.getElem?_cons_zero, ofR, fr, idxSem, at0, at1, boSem, (sm_mul hx hy).1, (sm_mul hy hx).1, if_true, Option.map_some, coSem, fin_rt]
end
end Mini
namespace Mini
open PySem PySem.Spec PyProof.Rows L2
/-! ### walking: what holds behind -/
/-- a phantom: what stands in a type is not rewritten -/
def Wt {β : Type} (Q : β) : Type := Unit
def OPQd {α : Type} (o : Option α) (Q : α → Prop) : Prop := match o with | none => False | some x => Q x
def VEd (c : Call) (e : E) (ρ : Rho) (k : Ky) (Q : D → Ky → Prop) : Prop := OPQd (evE c e ρ k) fun p => Q p.1 p.2
def VTd (c : Call) (t : T) (ρ : Rho) (k : Ky) (Q : Bool → Ky → Prop) : Prop := OPQd (evT c t ρ k) fun p => Q p.1 p.2
def VSd (c : Call) (es : Es) (ρ : Rho) (k : Ky) (Q : List D → Ky → Prop) : Prop := OPQd (evEs c es ρ k) fun p => Q p.1 p.2
def VId (c : Call) (it : I) (ρ : Rho) (k : Ky) (Q : List D → Ky → Prop) : Prop := OPQd (evI c it ρ k) fun p => Q p.1 p.2
def WPd (c : Call) (w : Nat) (ss : Ss) (s : Sta) (Q : O → Prop) : Prop := OPQd (evSs c w ss s) Q
def WSd (c : Call) (w : Nat) (st : S) (s : Sta) (Q : O → Prop) : Prop := OPQd (evS c w st s) Q
def FRd (c : Call) (w : Nat) (tg : Tg) (body : Ss) (ds : List D) (s : Sta) (Q : O → Prop) : Prop := OPQd (forD tg (fun s => evSs c w body s) ds s) Q
def WHd (c : Call) (w : Nat) (t : T) (body : Ss) (n : Nat) (s : Sta) (Q : O → Prop) : Prop := OPQd (whileD (fun s => evT c t s.ρ s.k) (fun s => evSs c w body s) n s) Q
def CMd (c : Call) (e : E) (tg : Tg) (ds : List D) (ρ : Rho) (k : Ky) (Q : List D → Ky → Prop) : Prop := OPQd (compD (fun ρ k => evE c e ρ k) (fun _ k => some (true, k)) tg ρ ds k) fun p => Q p.1 p.2
def CNd (c : Call) (e : E) (t : T) (tg : Tg) (ds : List D) (ρ : Rho) (k : Ky) (Q : List D → Ky → Prop) : Prop := OPQd (compD (fun ρ k => evE c e ρ k) (fun ρ k => evT c t ρ k) tg ρ ds k) fun p => Q p.1 p.2
def nxtd (o : O) (P : Sta → Prop) (r : Prop) : Prop := match o with | .nx s => P s | _ => r
def slotv (ρ : Rho) (i : Nat) : Option D := match ρ[i]? with | some (some d) => some d | _ => none
def lslot (ρ : Rho) (i : Nat) : Option (List D) := match ρ[i]? with | some (some (.lst ds)) => some ds | _ => none
def isNonD : D → Bool | .non => true | _ => false
def negD : D → Option D | .int i => some (.int (-i)) | _ => none
def blD : D → Option Bool | .bl b => some b | _ => none
def enumD : D → Option (List D) | .lst ds => some (enumL 0 ds) | _ => none
def zipD : D → D → Option (List D) | .lst xs, .lst ys => some (zipL xs ys) | .tup xs, .tup ys => some (zipL xs ys) | _, _ => none
def revD : D → Option (List D) | .lst ds => some ds.reverse | .tup ds => some ds.reverse | _ => none
def VBd (c : Call) (b : Bool) (e : E) (ρ : Rho) (k : Ky) (Q : Option Int → Ky → Prop) : Prop := if b = true then VEd c e ρ k (fun x k => OPQd (toInt x) fun i => Q (some i) k) else Q none k
def keepM (d : D) (e : E) (mu : List Nat) : List Nat := if noL d = true then mu else mu.filter fun i => avE [i] e
def newS (s : Sta) (e : E) (i : Nat) (d : D) (k : Ky) : Option O := match d with
  | .lst ds => if (noLs ds && decide (i < s.ρ.length)) = true then some (.nx ⟨s.ρ.set i (some (.lst ds)), i :: s.mu.filter (· != i), k⟩) else some (.nx ⟨s.ρ.set i (some (.lst ds)), (s.mu.filter fun j => avE [j] e).filter (· != i), k⟩)
  | _ => none
def spotS (s : Sta) (i : Nat) : Option O := match s.k with
  | none => some (.nx ⟨s.ρ.set i (some .spot), s.mu.filter (· != i), some 0⟩)
  | some _ => none
def setIS (s : Sta) (i : Nat) (d j : D) (k : Ky) : Option O := match j with
  | .int j => match s.ρ[i]?, d with
    | some (some .spot), .int m => if decide (j = 0) && k.isSome then some (.nx { ρ := s.ρ, mu := s.mu, k := some m }) else none
    | some (some (.lst ds)), _ => if s.mu.contains i && noL d then (ixN ds.length j).map fun j => .nx { s with ρ := s.ρ.set i (some (.lst (ds.set j d))), k := k } else none
    | _, _ => none
  | _ => none
section
variable {c : Call} {w : Nat} {ρ : Rho} {k : Ky} {s : Sta}
@[simp] theorem opq_some_d {α : Type} (x : α) (Q : α → Prop) : OPQd (some x) Q ↔ Q x := Iff.rfl
@[simp] theorem opq_none_d {α : Type} (Q : α → Prop) : OPQd (none : Option α) Q ↔ False := Iff.rfl
@[simp] theorem opq_ite_d {α : Type} (b : Prop) [Decidable b] (x : α) (Q : α → Prop) : OPQd (if b then some x else none) Q ↔ b ∧ Q x := by
  by_cases h : b <;> simp [h, OPQd]
@[simp] theorem opq_map_d {α β : Type} (f : α → β) (o : Option α) (Q : β → Prop) : OPQd (o.map f) Q ↔ OPQd o fun x => Q (f x) := by
  cases o <;> rfl
@[simp] theorem nxt_nx_d (P : Sta → Prop) (r : Prop) : nxtd (.nx s) P r = P s := rfl
@[simp] theorem nxt_rt_d (d : D) (P : Sta → Prop) (r : Prop) : nxtd (.rt d k) P r = r := rfl
@[simp] theorem nxt_bk_d (P : Sta → Prop) (r : Prop) : nxtd (.bk s) P r = r := rfl
@[simp] theorem nxt_ct_d (P : Sta → Prop) (r : Prop) : nxtd (.ct s) P r = r := rfl
@[simp] theorem slotv_succ_d (x : Option D) (i : Nat) : slotv (x :: ρ) (i + 1) = slotv ρ i := by simp [slotv]
@[simp] theorem slotv_zero_d (d : D) : slotv (some d :: ρ) 0 = some d := rfl
@[simp] theorem lslot_succ_d (x : Option D) (i : Nat) : lslot (x :: ρ) (i + 1) = lslot ρ i := by simp [lslot]
@[simp] theorem lslot_zero_d (ds : List D) : lslot (some (.lst ds) :: ρ) 0 = some ds := rfl
/-! ### expressions -/
variable {Q : D → Ky → Prop} {QB : Bool → Ky → Prop} {QL : List D → Ky → Prop} {QO : O → Prop}
theorem ve_var_d (i : Nat) : VEd c (.var i) ρ k Q ↔ OPQd (slotv ρ i) fun d => Q d k := by
  unfold VEd slotv
  simp only [evE]
  cases ρ[i]? with
  | none => rfl
  | some o => cases o <;> rfl
theorem ve_cst_d (d : D) : VEd c (.cst d) ρ k Q ↔ Q d k := Iff.rfl
theorem ve_bin_d (op : BO) (a b : E) : VEd c (.bin op a b) ρ k Q ↔ VEd c a ρ k fun x k1 => VEd c b ρ k1 fun y k2 => OPQd (boSem op x y) fun z => Q z k2 := by
  unfold VEd
  simp only [evE]
  cases evE c a ρ k with
  | none => rfl
  | some p => obtain ⟨x, k1⟩ := p; simp only [opq_some_d]; cases evE c b ρ k1 with
    | none => rfl
    | some q => obtain ⟨y, k2⟩ := q; simp only [opq_some_d]; cases boSem op x y <;> rfl
theorem ve_neg_d (a : E) : VEd c (.neg a) ρ k Q ↔ VEd c a ρ k fun x k1 => OPQd (negD x) fun z => Q z k1 := by
  unfold VEd
  simp only [evE]
  cases evE c a ρ k with
  | none => rfl
  | some p => obtain ⟨x, k1⟩ := p; cases x <;> rfl
theorem ve_cmp_d (op : CO) (a b : E) : VEd c (.cmp op a b) ρ k Q ↔ VEd c a ρ k fun x k1 => VEd c b ρ k1 fun y k2 => OPQd (coSem op x y) fun z => Q (.bl z) k2 := by
  unfold VEd
  simp only [evE]
  cases evE c a ρ k with
  | none => rfl
  | some p => obtain ⟨x, k1⟩ := p; simp only [opq_some_d]; cases evE c b ρ k1 with
    | none => rfl
    | some q => obtain ⟨y, k2⟩ := q; simp only [opq_some_d]; cases coSem op x y <;> rfl
theorem ve_chain_d (op op' : CO) (a b e : E) : VEd c (.chain op op' a b e) ρ k Q ↔ VEd c a ρ k fun x k1 => VEd c b ρ k1 fun y k2 => OPQd (coSem op x y) fun t => if t = true then VEd c e ρ k2 fun z k3 => OPQd (coSem op' y z) fun u => Q (.bl u) k3 else Q (.bl false) k2 := by
  unfold VEd
  simp only [evE]
  cases evE c a ρ k with
  | none => rfl
  | some p => obtain ⟨x, k1⟩ := p; simp only [opq_some_d]; cases evE c b ρ k1 with
    | none => rfl
    | some q =>
      obtain ⟨y, k2⟩ := q
      simp only [opq_some_d]
      cases coSem op x y with
      | none => rfl
      | some t =>
        cases t
        · simp
        · simp only [opq_some_d, if_true]
          cases evE c e ρ k2 with
          | none => rfl
          | some r => obtain ⟨z, k3⟩ := r; simp only [opq_some_d]; cases coSem op' y z <;> rfl
theorem ve_isN_d (a : E) : VEd c (.isN a) ρ k Q ↔ VEd c a ρ k fun x k1 => Q (.bl (isNonD x)) k1 := by
  unfold VEd
  simp only [evE]
  cases evE c a ρ k with
  | none => rfl
  | some p => obtain ⟨x, k1⟩ := p; cases x <;> rfl
theorem ve_notN_d (a : E) : VEd c (.notN a) ρ k Q ↔ VEd c a ρ k fun x k1 => Q (.bl (!isNonD x)) k1 := by
  unfold VEd
  simp only [evE]
  cases evE c a ρ k with
  | none => rfl
  | some p => obtain ⟨x, k1⟩ := p; cases x <;> rfl
theorem ve_and_d (a b : E) : VEd c (.and a b) ρ k Q ↔ VEd c a ρ k fun x k1 => OPQd (blD x) fun t => if t = true then VEd c b ρ k1 Q else Q (.bl false) k1 := by
  unfold VEd
  simp only [evE]
  cases evE c a ρ k with
  | none => rfl
  | some p => obtain ⟨x, k1⟩ := p; cases x <;> simp only [opq_some_d, blD, opq_none_d] <;> try rfl
              rename_i b; cases b <;> simp
theorem ve_or_d (a b : E) : VEd c (.or a b) ρ k Q ↔ VEd c a ρ k fun x k1 => OPQd (blD x) fun t => if t = true then Q (.bl true) k1 else VEd c b ρ k1 Q := by
  unfold VEd
  simp only [evE]
  cases evE c a ρ k with
  | none => rfl
  | some p => obtain ⟨x, k1⟩ := p; cases x <;> simp only [opq_some_d, blD, opq_none_d] <;> try rfl
              rename_i b; cases b <;> simp
theorem ve_not_d (a : E) : VEd c (.not a) ρ k Q ↔ VEd c a ρ k fun x k1 => OPQd (blD x) fun t => Q (.bl (!t)) k1 := by
  unfold VEd
  simp only [evE]
  cases evE c a ρ k with
  | none => rfl
  | some p => obtain ⟨x, k1⟩ := p; cases x <;> rfl
theorem ve_ite_d (t : T) (a b : E) : VEd c (.ite t a b) ρ k Q ↔ VTd c t ρ k fun x k1 => if x = true then VEd c a ρ k1 Q else VEd c b ρ k1 Q := by
  unfold VEd VTd
  simp only [evE]
  cases evT c t ρ k with
  | none => rfl
  | some p => obtain ⟨x, k1⟩ := p; cases x <;> simp
theorem ve_tup_d (es : Es) : VEd c (.tup es) ρ k Q ↔ VSd c es ρ k fun ds k1 => lineOk ds.length = true ∧ Q (.tup ds) k1 := by
  unfold VEd VSd
  simp only [evE]
  cases evEs c es ρ k with
  | none => rfl
  | some p => obtain ⟨x, k1⟩ := p; simp only [Option.bind_some, opq_some_d, opq_ite_d]
theorem ve_lst_d (es : Es) : VEd c (.lst es) ρ k Q ↔ VSd c es ρ k fun ds k1 => lineOk ds.length = true ∧ Q (.lst ds) k1 := by
  unfold VEd VSd
  simp only [evE]
  cases evEs c es ρ k with
  | none => rfl
  | some p => obtain ⟨x, k1⟩ := p; simp only [Option.bind_some, opq_some_d, opq_ite_d]
theorem ve_idx_d (a b : E) : VEd c (.idx a b) ρ k Q ↔ VEd c a ρ k fun x k1 => VEd c b ρ k1 fun y k2 => OPQd (idxSem k2 x y) fun z => Q z k2 := by
  unfold VEd
  simp only [evE]
  cases evE c a ρ k with
  | none => rfl
  | some p => obtain ⟨x, k1⟩ := p; simp only [opq_some_d]; cases evE c b ρ k1 with
    | none => rfl
    | some q => obtain ⟨y, k2⟩ := q; simp only [opq_some_d]; cases idxSem k2 x y <;> rfl
theorem ve_sli_d (m : Nat) (a lo hi : E) : VEd c (.sli m a lo hi) ρ k Q ↔ VEd c a ρ k fun x k1 => VBd c (m == 1 || m == 3) lo ρ k1 fun l k2 => VBd c (m == 2 || m == 3) hi ρ k2 fun h k3 => OPQd (sliSem x l h) fun d => Q d k3 := by
  have key : ∀ (b : Bool) (e : E) (k : Ky) (P : Option Int → Ky → Prop), VBd c b e ρ k P ↔ OPQd (if b then (match evE c e ρ k with
        | some (.int i, k2) => some (some i, k2)
        | _ => none) else some (none, k) : Option (Option Int × Ky)) fun p => P p.1 p.2 := by
    intro b e k P
    cases b
    · simp [VBd]
    · simp only [VBd, if_true, VEd]
      cases evE c e ρ k with
      | none => rfl
      | some p => obtain ⟨x, k1⟩ := p; cases x <;> rfl
  unfold VEd
  simp only [evE]
  cases evE c a ρ k with
  | none => rfl
  | some p =>
    obtain ⟨x, k1⟩ := p
    simp only [opq_some_d, key]
    generalize (if (m == 1 || m == 3) = true then (match evE c lo ρ k1 with
        | some (.int i, k2) => some (some i, k2)
        | _ => none) else some (none, k1) : Option (Option Int × Ky)) = o1
    cases o1 with
    | none => rfl
    | some q =>
      obtain ⟨l, k2⟩ := q
      simp only [opq_some_d, key]
      generalize (if (m == 2 || m == 3) = true then (match evE c hi ρ k2 with
          | some (.int i, k3) => some (some i, k3)
          | _ => none) else some (none, k2) : Option (Option Int × Ky)) = o2
      cases o2 with
      | none => rfl
      | some q => obtain ⟨h, k3⟩ := q; simp only [opq_some_d]; cases sliSem x l h <;> rfl
@[simp] theorem vb_false_d (e : E) (P : Option Int → Ky → Prop) : VBd c false e ρ k P ↔ P none k := by simp [VBd]
@[simp] theorem vb_true_d (e : E) (P : Option Int → Ky → Prop) : VBd c true e ρ k P ↔ VEd c e ρ k (fun x k => OPQd (toInt x) fun i => P (some i) k) := by simp [VBd]
theorem ve_call_d (f : Nat) (es : Es) : VEd c (.call f es) ρ k Q ↔ VSd c es ρ k fun ds k1 => OPQd (c f ds k1) fun p => Q p.1 p.2 := by
  unfold VEd VSd
  simp only [evE]
  cases evEs c es ρ k with
  | none => rfl
  | some p => obtain ⟨x, k1⟩ := p; rfl
theorem ve_bi_d (f : BI) (es : Es) : VEd c (.bi f es) ρ k Q ↔ VSd c es ρ k fun ds k1 => OPQd (biSem f ds) fun d => Q d k1 := by
  unfold VEd VSd
  simp only [evE]
  cases evEs c es ρ k with
  | none => rfl
  | some p => obtain ⟨x, k1⟩ := p; simp only [opq_some_d]; cases biSem f x <;> rfl
theorem ve_isi_d (a : E) (ts : List Nat) : VEd c (.isi a ts) ρ k Q ↔ VEd c a ρ k fun x k1 => OPQd (isOfs x ts) fun b => Q (.bl b) k1 := by
  unfold VEd
  simp only [evE]
  cases evE c a ρ k with
  | none => rfl
  | some p => obtain ⟨x, k1⟩ := p; simp only [opq_some_d]; cases isOfs x ts <;> rfl
theorem ve_comp0_d (e : E) (tg : Tg) (it : I) (own : List Nat) : VEd c (.comp0 e tg it own) ρ k Q ↔ VId c it ρ k fun ds k1 => lineOk ds.length = true ∧ CMd c e tg ds (wipeR ρ own) k1 fun ys k2 => Q (.lst ys) k2 := by
  unfold VEd VId CMd
  simp only [evE]
  cases evI c it ρ k with
  | none => rfl
  | some p =>
    obtain ⟨x, k1⟩ := p
    simp only [opq_some_d]
    by_cases h : lineOk x.length = true
    · simp only [h, if_true, true_and]
      generalize compD _ _ _ _ _ _ = o
      cases o <;> rfl
    · simp [h]
theorem ve_comp1_d (e : E) (tg : Tg) (it : I) (t : T) (own : List Nat) : VEd c (.comp1 e tg it t own) ρ k Q ↔ VId c it ρ k fun ds k1 => lineOk ds.length = true ∧ CNd c e t tg ds (wipeR ρ own) k1 fun ys k2 => Q (.lst ys) k2 := by
  unfold VEd VId CNd
  simp only [evE]
  cases evI c it ρ k with
  | none => rfl
  | some p =>
    obtain ⟨x, k1⟩ := p
    simp only [opq_some_d]
    by_cases h : lineOk x.length = true
    · simp only [h, if_true, true_and]
      generalize compD _ _ _ _ _ _ = o
      cases o <;> rfl
    · simp [h]
/-! ### tests, lists of expressions, iterables -/
theorem vt_val_d (e : E) : VTd c (.val e) ρ k QB ↔ VEd c e ρ k fun x k1 => OPQd (truth x) fun b => QB b k1 := by
  unfold VTd VEd
  simp only [evT]
  cases evE c e ρ k with
  | none => rfl
  | some p => obtain ⟨x, k1⟩ := p; simp only [opq_some_d]; cases truth x <;> rfl
theorem vt_not_d (t : T) : VTd c (.not t) ρ k QB ↔ VTd c t ρ k fun b k1 => QB (!b) k1 := by
  unfold VTd
  simp only [evT]
  cases evT c t ρ k with
  | none => rfl
  | some p => rfl
theorem vt_and_d (a b : T) : VTd c (.and a b) ρ k QB ↔ VTd c a ρ k fun x k1 => if x = true then VTd c b ρ k1 QB else QB false k1 := by
  unfold VTd
  simp only [evT]
  cases evT c a ρ k with
  | none => rfl
  | some p => obtain ⟨x, k1⟩ := p; cases x <;> simp
theorem vt_or_d (a b : T) : VTd c (.or a b) ρ k QB ↔ VTd c a ρ k fun x k1 => if x = true then QB true k1 else VTd c b ρ k1 QB := by
  unfold VTd
  simp only [evT]
  cases evT c a ρ k with
  | none => rfl
  | some p => obtain ⟨x, k1⟩ := p; cases x <;> simp
theorem vt_ite_d (t a b : T) : VTd c (.ite t a b) ρ k QB ↔ VTd c t ρ k fun x k1 => if x = true then VTd c a ρ k1 QB else VTd c b ρ k1 QB := by
  unfold VTd
  simp only [evT]
  cases evT c t ρ k with
  | none => rfl
  | some p => obtain ⟨x, k1⟩ := p; cases x <;> simp
theorem vs_nil_d : VSd c .nil ρ k QL ↔ QL [] k := Iff.rfl
theorem vs_cons_d (e : E) (es : Es) : VSd c (.cons e es) ρ k QL ↔ VEd c e ρ k fun x k1 => VSd c es ρ k1 fun xs k2 => QL (x :: xs) k2 := by
  unfold VSd VEd
  simp only [evEs]
  cases evE c e ρ k with
  | none => rfl
  | some p => obtain ⟨x, k1⟩ := p; simp only [opq_some_d]; cases evEs c es ρ k1 <;> rfl
theorem vi_seq_d (e : E) : VId c (.seq e) ρ k QL ↔ VEd c e ρ k fun x k1 => OPQd (items x) fun l => QL l k1 := by
  unfold VId VEd
  simp only [evI]
  cases evE c e ρ k with
  | none => rfl
  | some p => obtain ⟨x, k1⟩ := p; simp only [opq_some_d]; cases items x <;> rfl
theorem vi_rng_d (es : Es) : VId c (.rng es) ρ k QL ↔ VSd c es ρ k fun as k1 => OPQd (rngSem as) fun l => QL l k1 := by
  unfold VId VSd
  simp only [evI]
  cases evEs c es ρ k with
  | none => rfl
  | some p => obtain ⟨x, k1⟩ := p; simp only [opq_some_d]; cases rngSem x <;> rfl
theorem vi_enum_d (e : E) : VId c (.enum e) ρ k QL ↔ VEd c e ρ k fun x k1 => OPQd (enumD x) fun l => QL l k1 := by
  unfold VId VEd
  simp only [evI]
  cases evE c e ρ k with
  | none => rfl
  | some p => obtain ⟨x, k1⟩ := p; cases x <;> rfl
theorem vi_zip_d (a b : E) : VId c (.zip a b) ρ k QL ↔ VEd c a ρ k fun x k1 => VEd c b ρ k1 fun y k2 => OPQd (zipD x y) fun l => QL l k2 := by
  unfold VId VEd
  simp only [evI]
  cases evE c a ρ k with
  | none => rfl
  | some p => obtain ⟨x, k1⟩ := p; simp only [opq_some_d]; cases evE c b ρ k1 with
    | none => rfl
    | some q => obtain ⟨y, k2⟩ := q; cases x <;> cases y <;> rfl
theorem vi_rev_d (e : E) : VId c (.rev e) ρ k QL ↔ VEd c e ρ k fun x k1 => OPQd (revD x) fun l => QL l k1 := by
  unfold VId VEd
  simp only [evI]
  cases evE c e ρ k with
  | none => rfl
  | some p => obtain ⟨x, k1⟩ := p; cases x <;> rfl
/-! ### statements -/
theorem wp_nil_d : WPd c w .nil s QO ↔ QO (.nx s) := Iff.rfl
theorem wp_cons_d (a : S) (b : Ss) : WPd c w (.cons a b) s QO ↔ WSd c w a s fun o => nxtd o (fun s' => WPd c w b s' QO) (QO o) := by
  unfold WPd WSd
  simp only [evSs]
  cases evS c w a s with
  | none => rfl
  | some o => cases o <;> rfl
theorem keep_nil_d (f : List Nat → Bool) (s : Sta) (k : Ky) (h : s.mu = []) : s.keep f k = { s with k := k } := by
  simp [Sta.keep, h]
theorem ws_set_d (i : Nat) (e : E) : WSd c w (.set i e) s QO ↔ VEd c e s.ρ s.k fun d k => QO (.nx ⟨s.ρ.set i (some d), (keepM d e s.mu).filter (· != i), k⟩) := by
  unfold WSd VEd
  simp only [evS, stE]
  cases evE c e s.ρ s.k with
  | none => rfl
  | some p =>
    obtain ⟨d, k⟩ := p
    by_cases h : noL d = true <;> simp [h, Sta.put, keepM, Sta.keep]
@[simp] theorem keepM_nil_d (d : D) (e : E) : keepM d e [] = [] := by simp [keepM]
theorem ws_new_d (i : Nat) (e : E) : WSd c w (.new i e) s QO ↔ VEd c e s.ρ s.k fun d k => OPQd (newS s e i d k) QO := by
  unfold WSd VEd
  simp only [evS]
  cases evE c e s.ρ s.k with
  | none => rfl
  | some p =>
    obtain ⟨d, k⟩ := p
    cases d <;> try rfl
theorem ws_spot_d (i : Nat) : WSd c w (.spot i) s QO ↔ OPQd (spotS s i) QO := by
  unfold WSd spotS
  simp only [evS]
  cases s.k <;> rfl
theorem ws_par_d (i j : Nat) (a b : E) : WSd c w (.par i j a b) s QO ↔ VEd c a s.ρ s.k fun x k1 => VEd c b s.ρ k1 fun y k2 => (noL x && noL y) = true ∧ QO (.nx ⟨(s.ρ.set i (some x)).set j (some y), (s.mu.filter (· != i)).filter (· != j), k2⟩) := by
  unfold WSd VEd
  simp only [evS]
  cases evE c a s.ρ s.k with
  | none => rfl
  | some p => obtain ⟨x, k1⟩ := p; simp only [opq_some_d]; cases evE c b s.ρ k1 with
    | none => rfl
    | some q =>
      obtain ⟨y, k2⟩ := q
      simp only [opq_some_d, opq_ite_d]
      rfl
theorem ws_asg_d (t : Tg) (e : E) : WSd c w (.asg t e) s QO ↔ VEd c e s.ρ s.k fun d k => OPQd (Mini.asg t d s.ρ) fun ρ => QO (.nx ⟨ρ, tgMu t (keepM d e s.mu), k⟩) := by
  unfold WSd VEd
  simp only [evS, stE]
  cases evE c e s.ρ s.k with
  | none => rfl
  | some p =>
    obtain ⟨d, k⟩ := p
    by_cases h : noL d = true <;> simp [h, keepM, Sta.keep] <;> (generalize Mini.asg t d s.ρ = o; cases o <;> simp [h])
theorem ws_aug_d (i : Nat) (op : BO) (e : E) : WSd c w (.aug i op e) s QO ↔ OPQd (slotv s.ρ i) fun x => VEd c e s.ρ s.k fun y k => OPQd (augSem op x y) fun z => QO (.nx ⟨s.ρ.set i (some z), s.mu.filter (· != i), k⟩) := by
  unfold WSd VEd slotv
  simp only [evS]
  cases s.ρ[i]? with
  | none => rfl
  | some o => cases o with
    | none => rfl
    | some x =>
      simp only [opq_some_d]
      cases evE c e s.ρ s.k with
      | none => rfl
      | some p => obtain ⟨y, k⟩ := p; simp only [opq_some_d]; cases augSem op x y <;> rfl
theorem ws_setI_d (i : Nat) (x e : E) : WSd c w (.setI i x e) s QO ↔ VEd c e s.ρ s.k fun d k1 => VEd c x s.ρ k1 fun j k2 => OPQd (setIS s i d j k2) QO := by
  unfold WSd VEd
  simp only [evS]
  cases evE c e s.ρ s.k with
  | none => rfl
  | some p => obtain ⟨d, k1⟩ := p; simp only [opq_some_d]; cases evE c x s.ρ k1 with
    | none => rfl
    | some q =>
      obtain ⟨j, k2⟩ := q
      cases j <;> try rfl
theorem ws_app_d (i : Nat) (e : E) : WSd c w (.app i e) s QO ↔ OPQd (lslot s.ρ i) fun ds => VEd c e s.ρ s.k fun d k => (s.mu.contains i && noL d && decide (ds.length < 16777216)) = true ∧ QO (.nx ⟨s.ρ.set i (some (.lst (ds ++ [d]))), s.mu, k⟩) := by
  unfold WSd VEd lslot
  simp only [evS]
  cases s.ρ[i]? with
  | none => rfl
  | some o => cases o with
    | none => rfl
    | some x =>
      cases x <;> try rfl
      simp only [opq_some_d]
      cases evE c e s.ρ s.k with
      | none => rfl
      | some p => obtain ⟨y, k⟩ := p; simp only [opq_some_d, opq_ite_d]
theorem ws_pop_d (i : Nat) : WSd c w (.pop i) s QO ↔ OPQd (lslot s.ρ i) fun ds => (s.mu.contains i && !ds.isEmpty) = true ∧ QO (.nx ⟨s.ρ.set i (some (.lst ds.dropLast)), s.mu, s.k⟩) := by
  unfold WSd lslot
  simp only [evS]
  cases s.ρ[i]? with
  | none => rfl
  | some o => cases o with
    | none => rfl
    | some x =>
      cases x <;> try rfl
      simp only [opq_some_d, opq_ite_d]
theorem ws_ret_d (e : E) : WSd c w (.ret e) s QO ↔ VEd c e s.ρ s.k fun d k => QO (.rt d k) := by
  unfold WSd VEd
  simp only [evS]
  cases evE c e s.ρ s.k with
  | none => rfl
  | some p => rfl
theorem ws_retN_d : WSd c w .retN s QO ↔ QO (.rt .non s.k) := Iff.rfl
theorem ws_ite_d (t : T) (a b : Ss) : WSd c w (.ite t a b) s QO ↔ VTd c t s.ρ s.k fun x k => if x = true then WPd c w a ⟨s.ρ, s.mu, k⟩ QO else WPd c w b ⟨s.ρ, s.mu, k⟩ QO := by
  unfold WSd VTd WPd
  simp only [evS]
  cases evT c t s.ρ s.k with
  | none => rfl
  | some p => obtain ⟨x, k⟩ := p; cases x <;> simp
theorem ws_for_d (tg : Tg) (it : I) (body : Ss) : WSd c w (.for tg it body) s QO ↔ VId c it s.ρ s.k fun ds k => FRd c w tg body ds ⟨s.ρ, s.mu.filter fun i => avI [i] it, k⟩ QO := by
  unfold WSd VId FRd
  simp only [evS]
  cases evI c it s.ρ s.k with
  | none => rfl
  | some p => rfl
theorem ws_while_d (t : T) (body : Ss) : WSd c w (.while t body) s QO ↔ WHd c w t body w s QO := Iff.rfl
theorem ws_expr_d (e : E) : WSd c w (.expr e) s QO ↔ VEd c e s.ρ s.k fun _ k => QO (.nx ⟨s.ρ, s.mu, k⟩) := by
  unfold WSd VEd
  simp only [evS]
  cases evE c e s.ρ s.k with
  | none => rfl
  | some p => rfl
theorem ws_brk_d : WSd c w .brk s QO ↔ QO (.bk s) := Iff.rfl
theorem ws_cnt_d : WSd c w .cnt s QO ↔ QO (.ct s) := Iff.rfl
theorem ws_pass_d : WSd c w .pass s QO ↔ QO (.nx s) := Iff.rfl
theorem ws_never_d : WSd c w .never s QO ↔ False := Iff.rfl
end

theorem opq_ex0 : ∃ f : (α : Type) → Option α → (α → Prop) → Prop, f = @OPQd := ⟨_, rfl⟩
/-- not to be unfolded, by the kernel neither -/
noncomputable def OPQ {α : Type} (o : Option α) (Q : α → Prop) (_ : Wt Q := ()) : Prop := Classical.choose opq_ex0 α o Q
theorem OPQ_def {α : Type} (o : Option α) (Q : α → Prop) : OPQ o Q = OPQd o Q := congrFun (congrFun (congrFun (Classical.choose_spec opq_ex0) α) o) Q
theorem VE_ex0 : ∃ f, f = @VEd := ⟨_, rfl⟩
noncomputable def VE (c : Call) (e : E) (ρ : Rho) (k : Ky) (Q : D → Ky → Prop) (_ : Wt Q := ()) : Prop := Classical.choose VE_ex0 c e ρ k Q
theorem VE_def (c : Call) (e : E) (ρ : Rho) (k : Ky) (Q : D → Ky → Prop) : VE c e ρ k Q = VEd c e ρ k Q := congrFun (congrFun (congrFun (congrFun (congrFun (Classical.choose_spec VE_ex0) c) e) ρ) k) Q
theorem VT_ex0 : ∃ f, f = @VTd := ⟨_, rfl⟩
noncomputable def VT (c : Call) (t : T) (ρ : Rho) (k : Ky) (Q : Bool → Ky → Prop) (_ : Wt Q := ()) : Prop := Classical.choose VT_ex0 c t ρ k Q
theorem VT_def (c : Call) (t : T) (ρ : Rho) (k : Ky) (Q : Bool → Ky → Prop) : VT c t ρ k Q = VTd c t ρ k Q := congrFun (congrFun (congrFun (congrFun (congrFun (Classical.choose_spec VT_ex0) c) t) ρ) k) Q
theorem VS_ex0 : ∃ f, f = @VSd := ⟨_, rfl⟩
noncomputable def VS (c : Call) (es : Es) (ρ : Rho) (k : Ky) (Q : List D → Ky → Prop) (_ : Wt Q := ()) : Prop := Classical.choose VS_ex0 c es ρ k Q
theorem VS_def (c : Call) (es : Es) (ρ : Rho) (k : Ky) (Q : List D → Ky → Prop) : VS c es ρ k Q = VSd c es ρ k Q := congrFun (congrFun (congrFun (congrFun (congrFun (Classical.choose_spec VS_ex0) c) es) ρ) k) Q
theorem VI_ex0 : ∃ f, f = @VId := ⟨_, rfl⟩
noncomputable def VI (c : Call) (it : I) (ρ : Rho) (k : Ky) (Q : List D → Ky → Prop) (_ : Wt Q := ()) : Prop := Classical.choose VI_ex0 c it ρ k Q
theorem VI_def (c : Call) (it : I) (ρ : Rho) (k : Ky) (Q : List D → Ky → Prop) : VI c it ρ k Q = VId c it ρ k Q := congrFun (congrFun (congrFun (congrFun (congrFun (Classical.choose_spec VI_ex0) c) it) ρ) k) Q
theorem WP_ex0 : ∃ f, f = @WPd := ⟨_, rfl⟩
noncomputable def WP (c : Call) (w : Nat) (ss : Ss) (s : Sta) (Q : O → Prop) (_ : Wt Q := ()) : Prop := Classical.choose WP_ex0 c w ss s Q
theorem WP_def (c : Call) (w : Nat) (ss : Ss) (s : Sta) (Q : O → Prop) : WP c w ss s Q = WPd c w ss s Q := congrFun (congrFun (congrFun (congrFun (congrFun (Classical.choose_spec WP_ex0) c) w) ss) s) Q
theorem WS_ex0 : ∃ f, f = @WSd := ⟨_, rfl⟩
noncomputable def WS (c : Call) (w : Nat) (st : S) (s : Sta) (Q : O → Prop) (_ : Wt Q := ()) : Prop := Classical.choose WS_ex0 c w st s Q
theorem WS_def (c : Call) (w : Nat) (st : S) (s : Sta) (Q : O → Prop) : WS c w st s Q = WSd c w st s Q := congrFun (congrFun (congrFun (congrFun (congrFun (Classical.choose_spec WS_ex0) c) w) st) s) Q
theorem FR_ex0 : ∃ f, f = @FRd := ⟨_, rfl⟩
noncomputable def FR (c : Call) (w : Nat) (tg : Tg) (body : Ss) (ds : List D) (s : Sta) (Q : O → Prop) (_ : Wt Q := ()) : Prop := Classical.choose FR_ex0 c w tg body ds s Q
theorem FR_def (c : Call) (w : Nat) (tg : Tg) (body : Ss) (ds : List D) (s : Sta) (Q : O → Prop) : FR c w tg body ds s Q = FRd c w tg body ds s Q := congrFun (congrFun (congrFun (congrFun (congrFun (congrFun (congrFun (Classical.choose_spec FR_ex0) c) w) tg) body) ds) s) Q
theorem WH_ex0 : ∃ f, f = @WHd := ⟨_, rfl⟩
noncomputable def WH (c : Call) (w : Nat) (t : T) (body : Ss) (n : Nat) (s : Sta) (Q : O → Prop) (_ : Wt Q := ()) : Prop := Classical.choose WH_ex0 c w t body n s Q
theorem WH_def (c : Call) (w : Nat) (t : T) (body : Ss) (n : Nat) (s : Sta) (Q : O → Prop) : WH c w t body n s Q = WHd c w t body n s Q := congrFun (congrFun (congrFun (congrFun (congrFun (congrFun (congrFun (Classical.choose_spec WH_ex0) c) w) t) body) n) s) Q
theorem CM_ex0 : ∃ f, f = @CMd := ⟨_, rfl⟩
noncomputable def CM (c : Call) (e : E) (tg : Tg) (ds : List D) (ρ : Rho) (k : Ky) (Q : List D → Ky → Prop) (_ : Wt Q := ()) : Prop := Classical.choose CM_ex0 c e tg ds ρ k Q
theorem CM_def (c : Call) (e : E) (tg : Tg) (ds : List D) (ρ : Rho) (k : Ky) (Q : List D → Ky → Prop) : CM c e tg ds ρ k Q = CMd c e tg ds ρ k Q := congrFun (congrFun (congrFun (congrFun (congrFun (congrFun (congrFun (Classical.choose_spec CM_ex0) c) e) tg) ds) ρ) k) Q
theorem CN_ex0 : ∃ f, f = @CNd := ⟨_, rfl⟩
noncomputable def CN (c : Call) (e : E) (t : T) (tg : Tg) (ds : List D) (ρ : Rho) (k : Ky) (Q : List D → Ky → Prop) (_ : Wt Q := ()) : Prop := Classical.choose CN_ex0 c e t tg ds ρ k Q
theorem CN_def (c : Call) (e : E) (t : T) (tg : Tg) (ds : List D) (ρ : Rho) (k : Ky) (Q : List D → Ky → Prop) : CN c e t tg ds ρ k Q = CNd c e t tg ds ρ k Q := congrFun (congrFun (congrFun (congrFun (congrFun (congrFun (congrFun (congrFun (Classical.choose_spec CN_ex0) c) e) t) tg) ds) ρ) k) Q
def nxt (o : O) (P : Sta → Prop) (r : Prop) (_ : Wt (P, r) := ()) : Prop := nxtd o P r
theorem nxt_def (o : O) (P : Sta → Prop) (r : Prop) : nxt o P r = nxtd o P r := rfl
theorem VB_ex0 : ∃ f, f = @VBd := ⟨_, rfl⟩
noncomputable def VB (c : Call) (b : Bool) (e : E) (ρ : Rho) (k : Ky) (Q : Option Int → Ky → Prop) (_ : Wt Q := ()) : Prop := Classical.choose VB_ex0 c b e ρ k Q
theorem VB_def (c : Call) (b : Bool) (e : E) (ρ : Rho) (k : Ky) (Q : Option Int → Ky → Prop) : VB c b e ρ k Q = VBd c b e ρ k Q := congrFun (congrFun (congrFun (congrFun (congrFun (congrFun (Classical.choose_spec VB_ex0) c) b) e) ρ) k) Q
section
variable {c : Call} {w : Nat} {ρ : Rho} {k : Ky} {s : Sta}
@[simp] theorem opq_some {α : Type} (x : α) (Q : α → Prop) : OPQ (some x) Q ↔ Q x := by
  first
    | (simp only [OPQ_def, VE_def, VT_def, VS_def, VI_def, WP_def, WS_def, FR_def, WH_def, CM_def, CN_def, VB_def, nxt_def]; exact opq_some_d ..)
    | simp only [OPQ_def, VE_def, VT_def, VS_def, VI_def, WP_def, WS_def, FR_def, WH_def, CM_def, CN_def, VB_def, nxt_def]
    | (simp only [OPQ_def, VE_def, VT_def, VS_def, VI_def, WP_def, WS_def, FR_def, WH_def, CM_def, CN_def, VB_def, nxt_def, opq_some_d]; done)
@[simp] theorem opq_none {α : Type} (Q : α → Prop) : OPQ (none : Option α) Q ↔ False := by
  first
    | (simp only [OPQ_def, VE_def, VT_def, VS_def, VI_def, WP_def, WS_def, FR_def, WH_def, CM_def, CN_def, VB_def, nxt_def]; exact opq_none_d ..)
    | simp only [OPQ_def, VE_def, VT_def, VS_def, VI_def, WP_def, WS_def, FR_def, WH_def, CM_def, CN_def, VB_def, nxt_def]
    | (simp only [OPQ_def, VE_def, VT_def, VS_def, VI_def, WP_def, WS_def, FR_def, WH_def, CM_def, CN_def, VB_def, nxt_def, opq_none_d]; done)
@[simp] theorem opq_ite {α : Type} (b : Prop) [Decidable b] (x : α) (Q : α → Prop) : OPQ (if b then some x else none) Q ↔ b ∧ Q x := by
  first
    | (simp only [OPQ_def, VE_def, VT_def, VS_def, VI_def, WP_def, WS_def, FR_def, WH_def, CM_def, CN_def, VB_def, nxt_def]; exact opq_ite_d ..)
    | simp only [OPQ_def, VE_def, VT_def, VS_def, VI_def, WP_def, WS_def, FR_def, WH_def, CM_def, CN_def, VB_def, nxt_def]
    | (simp only [OPQ_def, VE_def, VT_def, VS_def, VI_def, WP_def, WS_def, FR_def, WH_def, CM_def, CN_def, VB_def, nxt_def, opq_ite_d]; done)
@[simp] theorem opq_map {α β : Type} (f : α → β) (o : Option α) (Q : β → Prop) : OPQ (o.map f) Q ↔ OPQ o fun x => Q (f x) := by
  first
    | (simp only [OPQ_def, VE_def, VT_def, VS_def, VI_def, WP_def, WS_def, FR_def, WH_def, CM_def, CN_def, VB_def, nxt_def]; exact opq_map_d ..)
    | simp only [OPQ_def, VE_def, VT_def, VS_def, VI_def, WP_def, WS_def, FR_def, WH_def, CM_def, CN_def, VB_def, nxt_def]
    | (simp only [OPQ_def, VE_def, VT_def, VS_def, VI_def, WP_def, WS_def, FR_def, WH_def, CM_def, CN_def, VB_def, nxt_def, opq_map_d]; done)
@[simp] theorem nxt_nx (P : Sta → Prop) (r : Prop) : nxt (.nx s) P r = P s := rfl
@[simp] theorem nxt_rt (d : D) (P : Sta → Prop) (r : Prop) : nxt (.rt d k) P r = r := rfl
@[simp] theorem nxt_bk (P : Sta → Prop) (r : Prop) : nxt (.bk s) P r = r := rfl
@[simp] theorem nxt_ct (P : Sta → Prop) (r : Prop) : nxt (.ct s) P r = r := rfl
@[simp] theorem slotv_succ (x : Option D) (i : Nat) : slotv (x :: ρ) (i + 1) = slotv ρ i := slotv_succ_d ..
@[simp] theorem slotv_zero (d : D) : slotv (some d :: ρ) 0 = some d := slotv_zero_d ..
@[simp] theorem lslot_succ (x : Option D) (i : Nat) : lslot (x :: ρ) (i + 1) = lslot ρ i := lslot_succ_d ..
@[simp] theorem lslot_zero (ds : List D) : lslot (some (.lst ds) :: ρ) 0 = some ds := lslot_zero_d ..
/-! ### expressions -/
variable {Q : D → Ky → Prop} {QB : Bool → Ky → Prop} {QL : List D → Ky → Prop} {QO : O → Prop}
@[simp] theorem ve_var (i : Nat) : VE c (.var i) ρ k Q ↔ OPQ (slotv ρ i) fun d => Q d k := by
  first
    | (simp only [OPQ_def, VE_def, VT_def, VS_def, VI_def, WP_def, WS_def, FR_def, WH_def, CM_def, CN_def, VB_def, nxt_def]; exact ve_var_d ..)
    | simp only [OPQ_def, VE_def, VT_def, VS_def, VI_def, WP_def, WS_def, FR_def, WH_def, CM_def, CN_def, VB_def, nxt_def]
    | (simp only [OPQ_def, VE_def, VT_def, VS_def, VI_def, WP_def, WS_def, FR_def, WH_def, CM_def, CN_def, VB_def, nxt_def, ve_var_d]; done)
@[simp] theorem ve_cst (d : D) : VE c (.cst d) ρ k Q ↔ Q d k := by
  first
    | (simp only [OPQ_def, VE_def, VT_def, VS_def, VI_def, WP_def, WS_def, FR_def, WH_def, CM_def, CN_def, VB_def, nxt_def]; exact ve_cst_d ..)
    | simp only [OPQ_def, VE_def, VT_def, VS_def, VI_def, WP_def, WS_def, FR_def, WH_def, CM_def, CN_def, VB_def, nxt_def]
    | (simp only [OPQ_def, VE_def, VT_def, VS_def, VI_def, WP_def, WS_def, FR_def, WH_def, CM_def, CN_def, VB_def, nxt_def, ve_cst_d]; done)
@[simp] theorem ve_bin (op : BO) (a b : E) : VE c (.bin op a b) ρ k Q ↔ VE c a ρ k fun x k1 => VE c b ρ k1 fun y k2 => OPQ (boSem op x y) fun z => Q z k2 := by
  first
    | (simp only [OPQ_def, VE_def, VT_def, VS_def, VI_def, WP_def, WS_def, FR_def, WH_def, CM_def, CN_def, VB_def, nxt_def]; exact ve_bin_d ..)
    | simp only [OPQ_def, VE_def, VT_def, VS_def, VI_def, WP_def, WS_def, FR_def, WH_def, CM_def, CN_def, VB_def, nxt_def]
    | (simp only [OPQ_def, VE_def, VT_def, VS_def, VI_def, WP_def, WS_def, FR_def, WH_def, CM_def, CN_def, VB_def, nxt_def, ve_bin_d]; done)
@[simp] theorem ve_neg (a : E) : VE c (.neg a) ρ k Q ↔ VE c a ρ k fun x k1 => OPQ (negD x) fun z => Q z k1 := by
  first
    | (simp only [OPQ_def, VE_def, VT_def, VS_def, VI_def, WP_def, WS_def, FR_def, WH_def, CM_def, CN_def, VB_def, nxt_def]; exact ve_neg_d ..)
    | simp only [OPQ_def, VE_def, VT_def, VS_def, VI_def, WP_def, WS_def, FR_def, WH_def, CM_def, CN_def, VB_def, nxt_def]
    | (simp only [OPQ_def, VE_def, VT_def, VS_def, VI_def, WP_def, WS_def, FR_def, WH_def, CM_def, CN_def, VB_def, nxt_def, ve_neg_d]; done)
@[simp] theorem ve_cmp (op : CO) (a b : E) : VE c (.cmp op a b) ρ k Q ↔ VE c a ρ k fun x k1 => VE c b ρ k1 fun y k2 => OPQ (coSem op x y) fun z => Q (.bl z) k2 := by
  first
    | (simp only [OPQ_def, VE_def, VT_def, VS_def, VI_def, WP_def, WS_def, FR_def, WH_def, CM_def, CN_def, VB_def, nxt_def]; exact ve_cmp_d ..)
    | simp only [OPQ_def, VE_def, VT_def, VS_def, VI_def, WP_def, WS_def, FR_def, WH_def, CM_def, CN_def, VB_def, nxt_def]
    | (simp only [OPQ_def, VE_def, VT_def, VS_def, VI_def, WP_def, WS_def, FR_def, WH_def, CM_def, CN_def, VB_def, nxt_def, ve_cmp_d]; done)
@[simp] theorem ve_chain (op op' : CO) (a b e : E) : VE c (.chain op op' a b e) ρ k Q ↔ VE c a ρ k fun x k1 => VE c b ρ k1 fun y k2 => OPQ (coSem op x y) fun t => if t = true then VE c e ρ k2 fun z k3 => OPQ (coSem op' y z) fun u => Q (.bl u) k3 else Q (.bl false) k2 := by
  first
    | (simp only [OPQ_def, VE_def, VT_def, VS_def, VI_def, WP_def, WS_def, FR_def, WH_def, CM_def, CN_def, VB_def, nxt_def]; exact ve_chain_d ..)
    | simp only [OPQ_def, VE_def, VT_def, VS_def, VI_def, WP_def, WS_def, FR_def, WH_def, CM_def, CN_def, VB_def, nxt_def]
    | (simp only [OPQ_def, VE_def, VT_def, VS_def, VI_def, WP_def, WS_def, FR_def, WH_def, CM_def, CN_def, VB_def, nxt_def, ve_chain_d]; done)
@[simp] theorem ve_isN (a : E) : VE c (.isN a) ρ k Q ↔ VE c a ρ k fun x k1 => Q (.bl (isNonD x)) k1 := by
  first
    | (simp only [OPQ_def, VE_def, VT_def, VS_def, VI_def, WP_def, WS_def, FR_def, WH_def, CM_def, CN_def, VB_def, nxt_def]; exact ve_isN_d ..)
    | simp only [OPQ_def, VE_def, VT_def, VS_def, VI_def, WP_def, WS_def, FR_def, WH_def, CM_def, CN_def, VB_def, nxt_def]
    | (simp only [OPQ_def, VE_def, VT_def, VS_def, VI_def, WP_def, WS_def, FR_def, WH_def, CM_def, CN_def, VB_def, nxt_def, ve_isN_d]; done)
@[simp] theorem ve_notN (a : E) : VE c (.notN a) ρ k Q ↔ VE c a ρ k fun x k1 => Q (.bl (!isNonD x)) k1 := by
  first
    | (simp only [OPQ_def, VE_def, VT_def, VS_def, VI_def, WP_def, WS_def, FR_def, WH_def, CM_def, CN_def, VB_def, nxt_def]; exact ve_notN_d ..)
    | simp only [OPQ_def, VE_def, VT_def, VS_def, VI_def, WP_def, WS_def, FR_def, WH_def, CM_def, CN_def, VB_def, nxt_def]
    | (simp only [OPQ_def, VE_def, VT_def, VS_def, VI_def, WP_def, WS_def, FR_def, WH_def, CM_def, CN_def, VB_def, nxt_def, ve_notN_d]; done)
@[simp] theorem ve_and (a b : E) : VE c (.and a b) ρ k Q ↔ VE c a ρ k fun x k1 => OPQ (blD x) fun t => if t = true then VE c b ρ k1 Q else Q (.bl false) k1 := by
  first
    | (simp only [OPQ_def, VE_def, VT_def, VS_def, VI_def, WP_def, WS_def, FR_def, WH_def, CM_def, CN_def, VB_def, nxt_def]; exact ve_and_d ..)
    | simp only [OPQ_def, VE_def, VT_def, VS_def, VI_def, WP_def, WS_def, FR_def, WH_def, CM_def, CN_def, VB_def, nxt_def]
    | (simp only [OPQ_def, VE_def, VT_def, VS_def, VI_def, WP_def, WS_def, FR_def, WH_def, CM_def, CN_def, VB_def, nxt_def, ve_and_d]; done)
@[simp] theorem ve_or (a b : E) : VE c (.or a b) ρ k Q ↔ VE c a ρ k fun x k1 => OPQ (blD x) fun t => if t = true then Q (.bl true) k1 else VE c b ρ k1 Q := by
  first
    | (simp only [OPQ_def, VE_def, VT_def, VS_def, VI_def, WP_def, WS_def, FR_def, WH_def, CM_def, CN_def, VB_def, nxt_def]; exact ve_or_d ..)
    | simp only [OPQ_def, VE_def, VT_def, VS_def, VI_def, WP_def, WS_def, FR_def, WH_def, CM_def, CN_def, VB_def, nxt_def]
    | (simp only [OPQ_def, VE_def, VT_def, VS_def, VI_def, WP_def, WS_def, FR_def, WH_def, CM_def, CN_def, VB_def, nxt_def, ve_or_d]; done)
@[simp] theorem ve_not (a : E) : VE c (.not a) ρ k Q ↔ VE c a ρ k fun x k1 => OPQ (blD x) fun t => Q (.bl (!t)) k1 := by
  first
    | (simp only [OPQ_def, VE_def, VT_def, VS_def, VI_def, WP_def, WS_def, FR_def, WH_def, CM_def, CN_def, VB_def, nxt_def]; exact ve_not_d ..)
    | simp only [OPQ_def, VE_def, VT_def, VS_def, VI_def, WP_def, WS_def, FR_def, WH_def, CM_def, CN_def, VB_def, nxt_def]
    | (simp only [OPQ_def, VE_def, VT_def, VS_def, VI_def, WP_def, WS_def, FR_def, WH_def, CM_def, CN_def, VB_def, nxt_def, ve_not_d]; done)
@[simp] theorem ve_ite (t : T) (a b : E) : VE c (.ite t a b) ρ k Q ↔ VT c t ρ k fun x k1 => if x = true then VE c a ρ k1 Q else VE c b ρ k1 Q := by
  first
    | (simp only [OPQ_def, VE_def, VT_def, VS_def, VI_def, WP_def, WS_def, FR_def, WH_def, CM_def, CN_def, VB_def, nxt_def]; exact ve_ite_d ..)
    | simp only [OPQ_def, VE_def, VT_def, VS_def, VI_def, WP_def, WS_def, FR_def, WH_def, CM_def, CN_def, VB_def, nxt_def]
    | (simp only [OPQ_def, VE_def, VT_def, VS_def, VI_def, WP_def, WS_def, FR_def, WH_def, CM_def, CN_def, VB_def, nxt_def, ve_ite_d]; done)
@[simp] theorem ve_tup (es : Es) : VE c (.tup es) ρ k Q ↔ VS c es ρ k fun ds k1 => lineOk ds.length = true ∧ Q (.tup ds) k1 := by
  first
    | (simp only [OPQ_def, VE_def, VT_def, VS_def, VI_def, WP_def, WS_def, FR_def, WH_def, CM_def, CN_def, VB_def, nxt_def]; exact ve_tup_d ..)
    | simp only [OPQ_def, VE_def, VT_def, VS_def, VI_def, WP_def, WS_def, FR_def, WH_def, CM_def, CN_def, VB_def, nxt_def]
    | (simp only [OPQ_def, VE_def, VT_def, VS_def, VI_def, WP_def, WS_def, FR_def, WH_def, CM_def, CN_def, VB_def, nxt_def, ve_tup_d]; done)
@[simp] theorem ve_lst (es : Es) : VE c (.lst es) ρ k Q ↔ VS c es ρ k fun ds k1 => lineOk ds.length = true ∧ Q (.lst ds) k1 := by
  first
    | (simp only [OPQ_def, VE_def, VT_def, VS_def, VI_def, WP_def, WS_def, FR_def, WH_def, CM_def, CN_def, VB_def, nxt_def]; exact ve_lst_d ..)
    | simp only [OPQ_def, VE_def, VT_def, VS_def, VI_def, WP_def, WS_def, FR_def, WH_def, CM_def, CN_def, VB_def, nxt_def]
    | (simp only [OPQ_def, VE_def, VT_def, VS_def, VI_def, WP_def, WS_def, FR_def, WH_def, CM_def, CN_def, VB_def, nxt_def, ve_lst_d]; done)
@[simp] theorem ve_idx (a b : E) : VE c (.idx a b) ρ k Q ↔ VE c a ρ k fun x k1 => VE c b ρ k1 fun y k2 => OPQ (idxSem k2 x y) fun z => Q z k2 := by
  first
    | (simp only [OPQ_def, VE_def, VT_def, VS_def, VI_def, WP_def, WS_def, FR_def, WH_def, CM_def, CN_def, VB_def, nxt_def]; exact ve_idx_d ..)
    | simp only [OPQ_def, VE_def, VT_def, VS_def, VI_def, WP_def, WS_def, FR_def, WH_def, CM_def, CN_def, VB_def, nxt_def]
    | (simp only [OPQ_def, VE_def, VT_def, VS_def, VI_def, WP_def, WS_def, FR_def, WH_def, CM_def, CN_def, VB_def, nxt_def, ve_idx_d]; done)
@[simp] theorem ve_sli (m : Nat) (a lo hi : E) : VE c (.sli m a lo hi) ρ k Q ↔ VE c a ρ k fun x k1 => VB c (m == 1 || m == 3) lo ρ k1 fun l k2 => VB c (m == 2 || m == 3) hi ρ k2 fun h k3 => OPQ (sliSem x l h) fun d => Q d k3 := by
  first
    | (simp only [OPQ_def, VE_def, VT_def, VS_def, VI_def, WP_def, WS_def, FR_def, WH_def, CM_def, CN_def, VB_def, nxt_def]; exact ve_sli_d ..)
    | simp only [OPQ_def, VE_def, VT_def, VS_def, VI_def, WP_def, WS_def, FR_def, WH_def, CM_def, CN_def, VB_def, nxt_def]
    | (simp only [OPQ_def, VE_def, VT_def, VS_def, VI_def, WP_def, WS_def, FR_def, WH_def, CM_def, CN_def, VB_def, nxt_def, ve_sli_d]; done)
@[simp] theorem vb_false (e : E) (P : Option Int → Ky → Prop) : VB c false e ρ k P ↔ P none k := by
  first
    | (simp only [OPQ_def, VE_def, VT_def, VS_def, VI_def, WP_def, WS_def, FR_def, WH_def, CM_def, CN_def, VB_def, nxt_def]; exact vb_false_d ..)
    | simp only [OPQ_def, VE_def, VT_def, VS_def, VI_def, WP_def, WS_def, FR_def, WH_def, CM_def, CN_def, VB_def, nxt_def]
    | (simp only [OPQ_def, VE_def, VT_def, VS_def, VI_def, WP_def, WS_def, FR_def, WH_def, CM_def, CN_def, VB_def, nxt_def, vb_false_d]; done)
@[simp] theorem vb_true (e : E) (P : Option Int → Ky → Prop) : VB c true e ρ k P ↔ VE c e ρ k (fun x k => OPQ (toInt x) fun i => P (some i) k) := by
  first
    | (simp only [OPQ_def, VE_def, VT_def, VS_def, VI_def, WP_def, WS_def, FR_def, WH_def, CM_def, CN_def, VB_def, nxt_def]; exact vb_true_d ..)
    | simp only [OPQ_def, VE_def, VT_def, VS_def, VI_def, WP_def, WS_def, FR_def, WH_def, CM_def, CN_def, VB_def, nxt_def]
    | (simp only [OPQ_def, VE_def, VT_def, VS_def, VI_def, WP_def, WS_def, FR_def, WH_def, CM_def, CN_def, VB_def, nxt_def, vb_true_d]; done)
@[simp] theorem ve_call (f : Nat) (es : Es) : VE c (.call f es) ρ k Q ↔ VS c es ρ k fun ds k1 => OPQ (c f ds k1) fun p => Q p.1 p.2 := by
  first
    | (simp only [OPQ_def, VE_def, VT_def, VS_def, VI_def, WP_def, WS_def, FR_def, WH_def, CM_def, CN_def, VB_def, nxt_def]; exact ve_call_d ..)
    | simp only [OPQ_def, VE_def, VT_def, VS_def, VI_def, WP_def, WS_def, FR_def, WH_def, CM_def, CN_def, VB_def, nxt_def]
    | (simp only [OPQ_def, VE_def, VT_def, VS_def, VI_def, WP_def, WS_def, FR_def, WH_def, CM_def, CN_def, VB_def, nxt_def, ve_call_d]; done)
@[simp] theorem ve_bi (f : BI) (es : Es) : VE c (.bi f es) ρ k Q ↔ VS c es ρ k fun ds k1 => OPQ (biSem f ds) fun d => Q d k1 := by
  first
    | (simp only [OPQ_def, VE_def, VT_def, VS_def, VI_def, WP_def, WS_def, FR_def, WH_def, CM_def, CN_def, VB_def, nxt_def]; exact ve_bi_d ..)
    | simp only [OPQ_def, VE_def, VT_def, VS_def, VI_def, WP_def, WS_def, FR_def, WH_def, CM_def, CN_def, VB_def, nxt_def]
    | (simp only [OPQ_def, VE_def, VT_def, VS_def, VI_def, WP_def, WS_def, FR_def, WH_def, CM_def, CN_def, VB_def, nxt_def, ve_bi_d]; done)
@[simp] theorem ve_isi (a : E) (ts : List Nat) : VE c (.isi a ts) ρ k Q ↔ VE c a ρ k fun x k1 => OPQ (isOfs x ts) fun b => Q (.bl b) k1 := by
  first
    | (simp only [OPQ_def, VE_def, VT_def, VS_def, VI_def, WP_def, WS_def, FR_def, WH_def, CM_def, CN_def, VB_def, nxt_def]; exact ve_isi_d ..)
    | simp only [OPQ_def, VE_def, VT_def, VS_def, VI_def, WP_def, WS_def, FR_def, WH_def, CM_def, CN_def, VB_def, nxt_def]
    | (simp only [OPQ_def, VE_def, VT_def, VS_def, VI_def, WP_def, WS_def, FR_def, WH_def, CM_def, CN_def, VB_def, nxt_def, ve_isi_d]; done)
@[simp] theorem ve_comp0 (e : E) (tg : Tg) (it : I) (own : List Nat) : VE c (.comp0 e tg it own) ρ k Q ↔ VI c it ρ k fun ds k1 => lineOk ds.length = true ∧ CM c e tg ds (wipeR ρ own) k1 fun ys k2 => Q (.lst ys) k2 := by
  first
    | (simp only [OPQ_def, VE_def, VT_def, VS_def, VI_def, WP_def, WS_def, FR_def, WH_def, CM_def, CN_def, VB_def, nxt_def]; exact ve_comp0_d ..)
    | simp only [OPQ_def, VE_def, VT_def, VS_def, VI_def, WP_def, WS_def, FR_def, WH_def, CM_def, CN_def, VB_def, nxt_def]
    | (simp only [OPQ_def, VE_def, VT_def, VS_def, VI_def, WP_def, WS_def, FR_def, WH_def, CM_def, CN_def, VB_def, nxt_def, ve_comp0_d]; done)
@[simp] theorem ve_comp1 (e : E) (tg : Tg) (it : I) (t : T) (own : List Nat) : VE c (.comp1 e tg it t own) ρ k Q ↔ VI c it ρ k fun ds k1 => lineOk ds.length = true ∧ CN c e t tg ds (wipeR ρ own) k1 fun ys k2 => Q (.lst ys) k2 := by
  first
    | (simp only [OPQ_def, VE_def, VT_def, VS_def, VI_def, WP_def, WS_def, FR_def, WH_def, CM_def, CN_def, VB_def, nxt_def]; exact ve_comp1_d ..)
    | simp only [OPQ_def, VE_def, VT_def, VS_def, VI_def, WP_def, WS_def, FR_def, WH_def, CM_def, CN_def, VB_def, nxt_def]
    | (simp only [OPQ_def, VE_def, VT_def, VS_def, VI_def, WP_def, WS_def, FR_def, WH_def, CM_def, CN_def, VB_def, nxt_def, ve_comp1_d]; done)
/-! ### tests, lists of expressions, iterables -/
@[simp] theorem vt_val (e : E) : VT c (.val e) ρ k QB ↔ VE c e ρ k fun x k1 => OPQ (truth x) fun b => QB b k1 := by
  first
    | (simp only [OPQ_def, VE_def, VT_def, VS_def, VI_def, WP_def, WS_def, FR_def, WH_def, CM_def, CN_def, VB_def, nxt_def]; exact vt_val_d ..)
    | simp only [OPQ_def, VE_def, VT_def, VS_def, VI_def, WP_def, WS_def, FR_def, WH_def, CM_def, CN_def, VB_def, nxt_def]
    | (simp only [OPQ_def, VE_def, VT_def, VS_def, VI_def, WP_def, WS_def, FR_def, WH_def, CM_def, CN_def, VB_def, nxt_def, vt_val_d]; done)
@[simp] theorem vt_not (t : T) : VT c (.not t) ρ k QB ↔ VT c t ρ k fun b k1 => QB (!b) k1 := by
  first
    | (simp only [OPQ_def, VE_def, VT_def, VS_def, VI_def, WP_def, WS_def, FR_def, WH_def, CM_def, CN_def, VB_def, nxt_def]; exact vt_not_d ..)
    | simp only [OPQ_def, VE_def, VT_def, VS_def, VI_def, WP_def, WS_def, FR_def, WH_def, CM_def, CN_def, VB_def, nxt_def]
    | (simp only [OPQ_def, VE_def, VT_def, VS_def, VI_def, WP_def, WS_def, FR_def, WH_def, CM_def, CN_def, VB_def, nxt_def, vt_not_d]; done)
@[simp] theorem vt_and (a b : T) : VT c (.and a b) ρ k QB ↔ VT c a ρ k fun x k1 => if x = true then VT c b ρ k1 QB else QB false k1 := by
  first
    | (simp only [OPQ_def, VE_def, VT_def, VS_def, VI_def, WP_def, WS_def, FR_def, WH_def, CM_def, CN_def, VB_def, nxt_def]; exact vt_and_d ..)
    | simp only [OPQ_def, VE_def, VT_def, VS_def, VI_def, WP_def, WS_def, FR_def, WH_def, CM_def, CN_def, VB_def, nxt_def]
    | (simp only [OPQ_def, VE_def, VT_def, VS_def, VI_def, WP_def, WS_def, FR_def, WH_def, CM_def, CN_def, VB_def, nxt_def, vt_and_d]; done)
@[simp] theorem vt_or (a b : T) : VT c (.or a b) ρ k QB ↔ VT c a ρ k fun x k1 => if x = true then QB true k1 else VT c b ρ k1 QB := by
  first
    | (simp only [OPQ_def, VE_def, VT_def, VS_def, VI_def, WP_def, WS_def, FR_def, WH_def, CM_def, CN_def, VB_def, nxt_def]; exact vt_or_d ..)
    | simp only [OPQ_def, VE_def, VT_def, VS_def, VI_def, WP_def, WS_def, FR_def, WH_def, CM_def, CN_def, VB_def, nxt_def]
    | (simp only [OPQ_def, VE_def, VT_def, VS_def, VI_def, WP_def, WS_def, FR_def, WH_def, CM_def, CN_def, VB_def, nxt_def, vt_or_d]; done)
@[simp] theorem vt_ite (t a b : T) : VT c (.ite t a b) ρ k QB ↔ VT c t ρ k fun x k1 => if x = true then VT c a ρ k1 QB else VT c b ρ k1 QB := by
  first
    | (simp only [OPQ_def, VE_def, VT_def, VS_def, VI_def, WP_def, WS_def, FR_def, WH_def, CM_def, CN_def, VB_def, nxt_def]; exact vt_ite_d ..)
    | simp only [OPQ_def, VE_def, VT_def, VS_def, VI_def, WP_def, WS_def, FR_def, WH_def, CM_def, CN_def, VB_def, nxt_def]
    | (simp only [OPQ_def, VE_def, VT_def, VS_def, VI_def, WP_def, WS_def, FR_def, WH_def, CM_def, CN_def, VB_def, nxt_def, vt_ite_d]; done)
@[simp] theorem vs_nil : VS c .nil ρ k QL ↔ QL [] k := by
  first
    | (simp only [OPQ_def, VE_def, VT_def, VS_def, VI_def, WP_def, WS_def, FR_def, WH_def, CM_def, CN_def, VB_def, nxt_def]; exact vs_nil_d ..)
    | simp only [OPQ_def, VE_def, VT_def, VS_def, VI_def, WP_def, WS_def, FR_def, WH_def, CM_def, CN_def, VB_def, nxt_def]
    | (simp only [OPQ_def, VE_def, VT_def, VS_def, VI_def, WP_def, WS_def, FR_def, WH_def, CM_def, CN_def, VB_def, nxt_def, vs_nil_d]; done)
@[simp] theorem vs_cons (e : E) (es : Es) : VS c (.cons e es) ρ k QL ↔ VE c e ρ k fun x k1 => VS c es ρ k1 fun xs k2 => QL (x :: xs) k2 := by
  first
    | (simp only [OPQ_def, VE_def, VT_def, VS_def, VI_def, WP_def, WS_def, FR_def, WH_def, CM_def, CN_def, VB_def, nxt_def]; exact vs_cons_d ..)
    | simp only [OPQ_def, VE_def, VT_def, VS_def, VI_def, WP_def, WS_def, FR_def, WH_def, CM_def, CN_def, VB_def, nxt_def]
    | (simp only [OPQ_def, VE_def, VT_def, VS_def, VI_def, WP_def, WS_def, FR_def, WH_def, CM_def, CN_def, VB_def, nxt_def, vs_cons_d]; done)
@[simp] theorem vi_seq (e : E) : VI c (.seq e) ρ k QL ↔ VE c e ρ k fun x k1 => OPQ (items x) fun l => QL l k1 := by
  first
    | (simp only [OPQ_def, VE_def, VT_def, VS_def, VI_def, WP_def, WS_def, FR_def, WH_def, CM_def, CN_def, VB_def, nxt_def]; exact vi_seq_d ..)
    | simp only [OPQ_def, VE_def, VT_def, VS_def, VI_def, WP_def, WS_def, FR_def, WH_def, CM_def, CN_def, VB_def, nxt_def]
    | (simp only [OPQ_def, VE_def, VT_def, VS_def, VI_def, WP_def, WS_def, FR_def, WH_def, CM_def, CN_def, VB_def, nxt_def, vi_seq_d]; done)
@[simp] theorem vi_rng (es : Es) : VI c (.rng es) ρ k QL ↔ VS c es ρ k fun as k1 => OPQ (rngSem as) fun l => QL l k1 := by
  first
    | (simp only [OPQ_def, VE_def, VT_def, VS_def, VI_def, WP_def, WS_def, FR_def, WH_def, CM_def, CN_def, VB_def, nxt_def]; exact vi_rng_d ..)
    | simp only [OPQ_def, VE_def, VT_def, VS_def, VI_def, WP_def, WS_def, FR_def, WH_def, CM_def, CN_def, VB_def, nxt_def]
    | (simp only [OPQ_def, VE_def, VT_def, VS_def, VI_def, WP_def, WS_def, FR_def, WH_def, CM_def, CN_def, VB_def, nxt_def, vi_rng_d]; done)
@[simp] theorem vi_enum (e : E) : VI c (.enum e) ρ k QL ↔ VE c e ρ k fun x k1 => OPQ (enumD x) fun l => QL l k1 := by
  first
    | (simp only [OPQ_def, VE_def, VT_def, VS_def, VI_def, WP_def, WS_def, FR_def, WH_def, CM_def, CN_def, VB_def, nxt_def]; exact vi_enum_d ..)
    | simp only [OPQ_def, VE_def, VT_def, VS_def, VI_def, WP_def, WS_def, FR_def, WH_def, CM_def, CN_def, VB_def, nxt_def]
    | (simp only [OPQ_def, VE_def, VT_def, VS_def, VI_def, WP_def, WS_def, FR_def, WH_def, CM_def, CN_def, VB_def, nxt_def, vi_enum_d]; done)
@[simp] theorem vi_zip (a b : E) : VI c (.zip a b) ρ k QL ↔ VE c a ρ k fun x k1 => VE c b ρ k1 fun y k2 => OPQ (zipD x y) fun l => QL l k2 := by
  first
    | (simp only [OPQ_def, VE_def, VT_def, VS_def, VI_def, WP_def, WS_def, FR_def, WH_def, CM_def, CN_def, VB_def, nxt_def]; exact vi_zip_d ..)
    | simp only [OPQ_def, VE_def, VT_def, VS_def, VI_def, WP_def, WS_def, FR_def, WH_def, CM_def, CN_def, VB_def, nxt_def]
    | (simp only [OPQ_def, VE_def, VT_def, VS_def, VI_def, WP_def, WS_def, FR_def, WH_def, CM_def, CN_def, VB_def, nxt_def, vi_zip_d]; done)
@[simp] theorem vi_rev (e : E) : VI c (.rev e) ρ k QL ↔ VE c e ρ k fun x k1 => OPQ (revD x) fun l => QL l k1 := by
  first
    | (simp only [OPQ_def, VE_def, VT_def, VS_def, VI_def, WP_def, WS_def, FR_def, WH_def, CM_def, CN_def, VB_def, nxt_def]; exact vi_rev_d ..)
    | simp only [OPQ_def, VE_def, VT_def, VS_def, VI_def, WP_def, WS_def, FR_def, WH_def, CM_def, CN_def, VB_def, nxt_def]
    | (simp only [OPQ_def, VE_def, VT_def, VS_def, VI_def, WP_def, WS_def, FR_def, WH_def, CM_def, CN_def, VB_def, nxt_def, vi_rev_d]; done)
/-! ### statements -/
@[simp] theorem wp_nil : WP c w .nil s QO ↔ QO (.nx s) := by
  first
    | (simp only [OPQ_def, VE_def, VT_def, VS_def, VI_def, WP_def, WS_def, FR_def, WH_def, CM_def, CN_def, VB_def, nxt_def]; exact wp_nil_d ..)
    | simp only [OPQ_def, VE_def, VT_def, VS_def, VI_def, WP_def, WS_def, FR_def, WH_def, CM_def, CN_def, VB_def, nxt_def]
    | (simp only [OPQ_def, VE_def, VT_def, VS_def, VI_def, WP_def, WS_def, FR_def, WH_def, CM_def, CN_def, VB_def, nxt_def, wp_nil_d]; done)
@[simp] theorem wp_cons (a : S) (b : Ss) : WP c w (.cons a b) s QO ↔ WS c w a s fun o => nxt o (fun s' => WP c w b s' QO) (QO o) := by
  first
    | (simp only [OPQ_def, VE_def, VT_def, VS_def, VI_def, WP_def, WS_def, FR_def, WH_def, CM_def, CN_def, VB_def, nxt_def]; exact wp_cons_d ..)
    | simp only [OPQ_def, VE_def, VT_def, VS_def, VI_def, WP_def, WS_def, FR_def, WH_def, CM_def, CN_def, VB_def, nxt_def]
    | (simp only [OPQ_def, VE_def, VT_def, VS_def, VI_def, WP_def, WS_def, FR_def, WH_def, CM_def, CN_def, VB_def, nxt_def, wp_cons_d]; done)
@[simp] theorem ws_set (i : Nat) (e : E) : WS c w (.set i e) s QO ↔ VE c e s.ρ s.k fun d k => QO (.nx ⟨s.ρ.set i (some d), (keepM d e s.mu).filter (· != i), k⟩) := by
  first
    | (simp only [OPQ_def, VE_def, VT_def, VS_def, VI_def, WP_def, WS_def, FR_def, WH_def, CM_def, CN_def, VB_def, nxt_def]; exact ws_set_d ..)
    | simp only [OPQ_def, VE_def, VT_def, VS_def, VI_def, WP_def, WS_def, FR_def, WH_def, CM_def, CN_def, VB_def, nxt_def]
    | (simp only [OPQ_def, VE_def, VT_def, VS_def, VI_def, WP_def, WS_def, FR_def, WH_def, CM_def, CN_def, VB_def, nxt_def, ws_set_d]; done)
@[simp] theorem keepM_nil (d : D) (e : E) : keepM d e [] = [] := keepM_nil_d ..
@[simp] theorem ws_new (i : Nat) (e : E) : WS c w (.new i e) s QO ↔ VE c e s.ρ s.k fun d k => OPQ (newS s e i d k) QO := by
  first
    | (simp only [OPQ_def, VE_def, VT_def, VS_def, VI_def, WP_def, WS_def, FR_def, WH_def, CM_def, CN_def, VB_def, nxt_def]; exact ws_new_d ..)
    | simp only [OPQ_def, VE_def, VT_def, VS_def, VI_def, WP_def, WS_def, FR_def, WH_def, CM_def, CN_def, VB_def, nxt_def]
    | (simp only [OPQ_def, VE_def, VT_def, VS_def, VI_def, WP_def, WS_def, FR_def, WH_def, CM_def, CN_def, VB_def, nxt_def, ws_new_d]; done)
@[simp] theorem ws_spot (i : Nat) : WS c w (.spot i) s QO ↔ OPQ (spotS s i) QO := by
  first
    | (simp only [OPQ_def, VE_def, VT_def, VS_def, VI_def, WP_def, WS_def, FR_def, WH_def, CM_def, CN_def, VB_def, nxt_def]; exact ws_spot_d ..)
    | simp only [OPQ_def, VE_def, VT_def, VS_def, VI_def, WP_def, WS_def, FR_def, WH_def, CM_def, CN_def, VB_def, nxt_def]
    | (simp only [OPQ_def, VE_def, VT_def, VS_def, VI_def, WP_def, WS_def, FR_def, WH_def, CM_def, CN_def, VB_def, nxt_def, ws_spot_d]; done)
@[simp] theorem ws_par (i j : Nat) (a b : E) : WS c w (.par i j a b) s QO ↔ VE c a s.ρ s.k fun x k1 => VE c b s.ρ k1 fun y k2 => (noL x && noL y) = true ∧ QO (.nx ⟨(s.ρ.set i (some x)).set j (some y), (s.mu.filter (· != i)).filter (· != j), k2⟩) := by
  first
    | (simp only [OPQ_def, VE_def, VT_def, VS_def, VI_def, WP_def, WS_def, FR_def, WH_def, CM_def, CN_def, VB_def, nxt_def]; exact ws_par_d ..)
    | simp only [OPQ_def, VE_def, VT_def, VS_def, VI_def, WP_def, WS_def, FR_def, WH_def, CM_def, CN_def, VB_def, nxt_def]
    | (simp only [OPQ_def, VE_def, VT_def, VS_def, VI_def, WP_def, WS_def, FR_def, WH_def, CM_def, CN_def, VB_def, nxt_def, ws_par_d]; done)
@[simp] theorem ws_asg (t : Tg) (e : E) : WS c w (.asg t e) s QO ↔ VE c e s.ρ s.k fun d k => OPQ (Mini.asg t d s.ρ) fun ρ => QO (.nx ⟨ρ, tgMu t (keepM d e s.mu), k⟩) := by
  first
    | (simp only [OPQ_def, VE_def, VT_def, VS_def, VI_def, WP_def, WS_def, FR_def, WH_def, CM_def, CN_def, VB_def, nxt_def]; exact ws_asg_d ..)
    | simp only [OPQ_def, VE_def, VT_def, VS_def, VI_def, WP_def, WS_def, FR_def, WH_def, CM_def, CN_def, VB_def, nxt_def]
    | (simp only [OPQ_def, VE_def, VT_def, VS_def, VI_def, WP_def, WS_def, FR_def, WH_def, CM_def, CN_def, VB_def, nxt_def, ws_asg_d]; done)
@[simp] theorem ws_aug (i : Nat) (op : BO) (e : E) : WS c w (.aug i op e) s QO ↔ OPQ (slotv s.ρ i) fun x => VE c e s.ρ s.k fun y k => OPQ (augSem op x y) fun z => QO (.nx ⟨s.ρ.set i (some z), s.mu.filter (· != i), k⟩) := by
  first
    | (simp only [OPQ_def, VE_def, VT_def, VS_def, VI_def, WP_def, WS_def, FR_def, WH_def, CM_def, CN_def, VB_def, nxt_def]; exact ws_aug_d ..)
    | simp only [OPQ_def, VE_def, VT_def, VS_def, VI_def, WP_def, WS_def, FR_def, WH_def, CM_def, CN_def, VB_def, nxt_def]
    | (simp only [OPQ_def, VE_def, VT_def, VS_def, VI_def, WP_def, WS_def, FR_def, WH_def, CM_def, CN_def, VB_def, nxt_def, ws_aug_d]; done)
@[simp] theorem ws_setI (i : Nat) (x e : E) : WS c w (.setI i x e) s QO ↔ VE c e s.ρ s.k fun d k1 => VE c x s.ρ k1 fun j k2 => OPQ (setIS s i d j k2) QO := by
  first
    | (simp only [OPQ_def, VE_def, VT_def, VS_def, VI_def, WP_def, WS_def, FR_def, WH_def, CM_def, CN_def, VB_def, nxt_def]; exact ws_setI_d ..)
    | simp only [OPQ_def, VE_def, VT_def, VS_def, VI_def, WP_def, WS_def, FR_def, WH_def, CM_def, CN_def, VB_def, nxt_def]
    | (simp only [OPQ_def, VE_def, VT_def, VS_def, VI_def, WP_def, WS_def, FR_def, WH_def, CM_def, CN_def, VB_def, nxt_def, ws_setI_d]; done)
@[simp] theorem ws_app (i : Nat) (e : E) : WS c w (.app i e) s QO ↔ OPQ (lslot s.ρ i) fun ds => VE c e s.ρ s.k fun d k => (s.mu.contains i && noL d && decide (ds.length < 16777216)) = true ∧ QO (.nx ⟨s.ρ.set i (some (.lst (ds ++ [d]))), s.mu, k⟩) := by
  first
    | (simp only [OPQ_def, VE_def, VT_def, VS_def, VI_def, WP_def, WS_def, FR_def, WH_def, CM_def, CN_def, VB_def, nxt_def]; exact ws_app_d ..)
    | simp only [OPQ_def, VE_def, VT_def, VS_def, VI_def, WP_def, WS_def, FR_def, WH_def, CM_def, CN_def, VB_def, nxt_def]
    | (simp only [OPQ_def, VE_def, VT_def, VS_def, VI_def, WP_def, WS_def, FR_def, WH_def, CM_def, CN_def, VB_def, nxt_def, ws_app_d]; done)
@[simp] theorem ws_pop (i : Nat) : WS c w (.pop i) s QO ↔ OPQ (lslot s.ρ i) fun ds => (s.mu.contains i && !ds.isEmpty) = true ∧ QO (.nx ⟨s.ρ.set i (some (.lst ds.dropLast)), s.mu, s.k⟩) := by
  first
    | (simp only [OPQ_def, VE_def, VT_def, VS_def, VI_def, WP_def, WS_def, FR_def, WH_def, CM_def, CN_def, VB_def, nxt_def]; exact ws_pop_d ..)
    | simp only [OPQ_def, VE_def, VT_def, VS_def, VI_def, WP_def, WS_def, FR_def, WH_def, CM_def, CN_def, VB_def, nxt_def]
    | (simp only [OPQ_def, VE_def, VT_def, VS_def, VI_def, WP_def, WS_def, FR_def, WH_def, CM_def, CN_def, VB_def, nxt_def, ws_pop_d]; done)
@[simp] theorem ws_ret (e : E) : WS c w (.ret e) s QO ↔ VE c e s.ρ s.k fun d k => QO (.rt d k) := by
  first
    | (simp only [OPQ_def, VE_def, VT_def, VS_def, VI_def, WP_def, WS_def, FR_def, WH_def, CM_def, CN_def, VB_def, nxt_def]; exact ws_ret_d ..)
    | simp only [OPQ_def, VE_def, VT_def, VS_def, VI_def, WP_def, WS_def, FR_def, WH_def, CM_def, CN_def, VB_def, nxt_def]
    | (simp only [OPQ_def, VE_def, VT_def, VS_def, VI_def, WP_def, WS_def, FR_def, WH_def, CM_def, CN_def, VB_def, nxt_def, ws_ret_d]; done)
@[simp] theorem ws_retN : WS c w .retN s QO ↔ QO (.rt .non s.k) := by
  first
    | (simp only [OPQ_def, VE_def, VT_def, VS_def, VI_def, WP_def, WS_def, FR_def, WH_def, CM_def, CN_def, VB_def, nxt_def]; exact ws_retN_d ..)
    | simp only [OPQ_def, VE_def, VT_def, VS_def, VI_def, WP_def, WS_def, FR_def, WH_def, CM_def, CN_def, VB_def, nxt_def]
    | (simp only [OPQ_def, VE_def, VT_def, VS_def, VI_def, WP_def, WS_def, FR_def, WH_def, CM_def, CN_def, VB_def, nxt_def, ws_retN_d]; done)
@[simp] theorem ws_ite (t : T) (a b : Ss) : WS c w (.ite t a b) s QO ↔ VT c t s.ρ s.k fun x k => if x = true then WP c w a ⟨s.ρ, s.mu, k⟩ QO else WP c w b ⟨s.ρ, s.mu, k⟩ QO := by
  first
    | (simp only [OPQ_def, VE_def, VT_def, VS_def, VI_def, WP_def, WS_def, FR_def, WH_def, CM_def, CN_def, VB_def, nxt_def]; exact ws_ite_d ..)
    | simp only [OPQ_def, VE_def, VT_def, VS_def, VI_def, WP_def, WS_def, FR_def, WH_def, CM_def, CN_def, VB_def, nxt_def]
    | (simp only [OPQ_def, VE_def, VT_def, VS_def, VI_def, WP_def, WS_def, FR_def, WH_def, CM_def, CN_def, VB_def, nxt_def, ws_ite_d]; done)
@[simp] theorem ws_for (tg : Tg) (it : I) (body : Ss) : WS c w (.for tg it body) s QO ↔ VI c it s.ρ s.k fun ds k => FR c w tg body ds ⟨s.ρ, s.mu.filter fun i => avI [i] it, k⟩ QO := by
  first
    | (simp only [OPQ_def, VE_def, VT_def, VS_def, VI_def, WP_def, WS_def, FR_def, WH_def, CM_def, CN_def, VB_def, nxt_def]; exact ws_for_d ..)
    | simp only [OPQ_def, VE_def, VT_def, VS_def, VI_def, WP_def, WS_def, FR_def, WH_def, CM_def, CN_def, VB_def, nxt_def]
    | (simp only [OPQ_def, VE_def, VT_def, VS_def, VI_def, WP_def, WS_def, FR_def, WH_def, CM_def, CN_def, VB_def, nxt_def, ws_for_d]; done)
@[simp] theorem ws_while (t : T) (body : Ss) : WS c w (.while t body) s QO ↔ WH c w t body w s QO := by
  first
    | (simp only [OPQ_def, VE_def, VT_def, VS_def, VI_def, WP_def, WS_def, FR_def, WH_def, CM_def, CN_def, VB_def, nxt_def]; exact ws_while_d ..)
    | simp only [OPQ_def, VE_def, VT_def, VS_def, VI_def, WP_def, WS_def, FR_def, WH_def, CM_def, CN_def, VB_def, nxt_def]
    | (simp only [OPQ_def, VE_def, VT_def, VS_def, VI_def, WP_def, WS_def, FR_def, WH_def, CM_def, CN_def, VB_def, nxt_def, ws_while_d]; done)
@[simp] theorem ws_expr (e : E) : WS c w (.expr e) s QO ↔ VE c e s.ρ s.k fun _ k => QO (.nx ⟨s.ρ, s.mu, k⟩) := by
  first
    | (simp only [OPQ_def, VE_def, VT_def, VS_def, VI_def, WP_def, WS_def, FR_def, WH_def, CM_def, CN_def, VB_def, nxt_def]; exact ws_expr_d ..)
    | simp only [OPQ_def, VE_def, VT_def, VS_def, VI_def, WP_def, WS_def, FR_def, WH_def, CM_def, CN_def, VB_def, nxt_def]
    | (simp only [OPQ_def, VE_def, VT_def, VS_def, VI_def, WP_def, WS_def, FR_def, WH_def, CM_def, CN_def, VB_def, nxt_def, ws_expr_d]; done)
@[simp] theorem ws_brk : WS c w .brk s QO ↔ QO (.bk s) := by
  first
    | (simp only [OPQ_def, VE_def, VT_def, VS_def, VI_def, WP_def, WS_def, FR_def, WH_def, CM_def, CN_def, VB_def, nxt_def]; exact ws_brk_d ..)
    | simp only [OPQ_def, VE_def, VT_def, VS_def, VI_def, WP_def, WS_def, FR_def, WH_def, CM_def, CN_def, VB_def, nxt_def]
    | (simp only [OPQ_def, VE_def, VT_def, VS_def, VI_def, WP_def, WS_def, FR_def, WH_def, CM_def, CN_def, VB_def, nxt_def, ws_brk_d]; done)
@[simp] theorem ws_cnt : WS c w .cnt s QO ↔ QO (.ct s) := by
  first
    | (simp only [OPQ_def, VE_def, VT_def, VS_def, VI_def, WP_def, WS_def, FR_def, WH_def, CM_def, CN_def, VB_def, nxt_def]; exact ws_cnt_d ..)
    | simp only [OPQ_def, VE_def, VT_def, VS_def, VI_def, WP_def, WS_def, FR_def, WH_def, CM_def, CN_def, VB_def, nxt_def]
    | (simp only [OPQ_def, VE_def, VT_def, VS_def, VI_def, WP_def, WS_def, FR_def, WH_def, CM_def, CN_def, VB_def, nxt_def, ws_cnt_d]; done)
@[simp] theorem ws_pass : WS c w .pass s QO ↔ QO (.nx s) := by
  first
    | (simp only [OPQ_def, VE_def, VT_def, VS_def, VI_def, WP_def, WS_def, FR_def, WH_def, CM_def, CN_def, VB_def, nxt_def]; exact ws_pass_d ..)
    | simp only [OPQ_def, VE_def, VT_def, VS_def, VI_def, WP_def, WS_def, FR_def, WH_def, CM_def, CN_def, VB_def, nxt_def]
    | (simp only [OPQ_def, VE_def, VT_def, VS_def, VI_def, WP_def, WS_def, FR_def, WH_def, CM_def, CN_def, VB_def, nxt_def, ws_pass_d]; done)
@[simp] theorem ws_never : WS c w .never s QO ↔ False := by
  first
    | (simp only [OPQ_def, VE_def, VT_def, VS_def, VI_def, WP_def, WS_def, FR_def, WH_def, CM_def, CN_def, VB_def, nxt_def]; exact ws_never_d ..)
    | simp only [OPQ_def, VE_def, VT_def, VS_def, VI_def, WP_def, WS_def, FR_def, WH_def, CM_def, CN_def, VB_def, nxt_def]
    | (simp only [OPQ_def, VE_def, VT_def, VS_def, VI_def, WP_def, WS_def, FR_def, WH_def, CM_def, CN_def, VB_def, nxt_def, ws_never_d]; done)
end
end Mini
namespace Mini
open PySem PySem.Spec PyProof.Rows L2
section
variable {c : Call} {w : Nat} {ρ : Rho} {k : Ky} {s : Sta} {Q : D → Ky → Prop} {QB : Bool → Ky → Prop} {QL : List D → Ky → Prop} {QO : O → Prop}
/-! ### what the primitives give -/
@[simp] theorem bo_add (i j : Int) : boSem .add (.int i) (.int j) = some (.int (i + j)) := rfl
@[simp] theorem bo_sub (i j : Int) : boSem .sub (.int i) (.int j) = some (.int (i - j)) := rfl
@[simp] theorem bo_mul (i j : Int) : boSem .mul (.int i) (.int j) = if mulOk i j then some (.int (i * j)) else none := rfl
@[simp] theorem bo_fdiv (i j : Int) : boSem .fdiv (.int i) (.int j) = if divOk j then some (.int (i / j)) else none := rfl
@[simp] theorem bo_mod (i j : Int) : boSem .mod (.int i) (.int j) = if decide (0 < j) = true then some (.int (i % j)) else none := rfl
@[simp] theorem bo_pow (i j : Int) : boSem .pow (.int i) (.int j) = if (decide (0 ≤ j) && decide (j ≤ 1000) && small64 i) = true then some (.int (i ^ j.toNat)) else none := rfl
@[simp] theorem bo_addL (a b : List D) : boSem .add (.lst a) (.lst b) = if lineOk (a.length + b.length) then some (.lst (a ++ b)) else none := rfl
@[simp] theorem bo_addT (a b : List D) : boSem .add (.tup a) (.tup b) = if lineOk (a.length + b.length) then some (.tup (a ++ b)) else none := rfl
@[simp] theorem bo_addS (a b : Str) : boSem .add (.str a) (.str b) = if lineOk (a.length + b.length) then some (.str (a ++ b)) else none := rfl
@[simp] theorem aug_add (i j : Int) : augSem .add (.int i) (.int j) = some (.int (i + j)) := rfl
@[simp] theorem aug_sub (i j : Int) : augSem .sub (.int i) (.int j) = some (.int (i - j)) := rfl
@[simp] theorem eqD_int (i j : Int) : eqD (.int i) (.int j) = some (decide (i = j)) := rfl
@[simp] theorem eqD_str (i j : Str) : eqD (.str i) (.str j) = some (decide (i = j)) := rfl
@[simp] theorem eqD_bl (i j : Bool) : eqD (.bl i) (.bl j) = some (decide (i = j)) := rfl
@[simp] theorem eqD_non : eqD .non .non = some true := rfl
@[simp] theorem co_eq (x y : D) : coSem .eq x y = eqD x y := rfl
@[simp] theorem co_ne (x y : D) : coSem .ne x y = (eqD x y).map (!·) := rfl
@[simp] theorem co_lt (i j : Int) : coSem .lt (.int i) (.int j) = some (decide (i < j)) := rfl
@[simp] theorem co_le (i j : Int) : coSem .le (.int i) (.int j) = some (decide (i ≤ j)) := rfl
@[simp] theorem co_gt (i j : Int) : coSem .gt (.int i) (.int j) = some (decide (j < i)) := rfl
@[simp] theorem co_ge (i j : Int) : coSem .ge (.int i) (.int j) = some (decide (j ≤ i)) := rfl
@[simp] theorem co_inL (x : D) (ys : List D) : coSem .isin x (.lst ys) = if x.fine 60 then anyEq x ys else none := rfl
@[simp] theorem co_inT (x : D) (ys : List D) : coSem .isin x (.tup ys) = if x.fine 60 then anyEq x ys else none := rfl
@[simp] theorem co_ninL (x : D) (ys : List D) : coSem .notin x (.lst ys) = if x.fine 60 then (anyEq x ys).map (!·) else none := rfl
@[simp] theorem co_ninT (x : D) (ys : List D) : coSem .notin x (.tup ys) = if x.fine 60 then (anyEq x ys).map (!·) else none := rfl
@[simp] theorem tr_non : truth .non = some false := rfl
@[simp] theorem tr_bl (b : Bool) : truth (.bl b) = some b := rfl
@[simp] theorem tr_int (i : Int) : truth (.int i) = some (i != 0) := rfl
@[simp] theorem tr_lst (l : List D) : truth (.lst l) = some (!l.isEmpty) := rfl
@[simp] theorem tr_tup (l : List D) : truth (.tup l) = some (!l.isEmpty) := rfl
@[simp] theorem bi_lenL (l : List D) : biSem .len [.lst l] = some (.int l.length) := rfl
@[simp] theorem bi_lenT (l : List D) : biSem .len [.tup l] = some (.int l.length) := rfl
@[simp] theorem bi_lenR (l : List D) : biSem .len [.scr l] = some (.int l.length) := rfl
@[simp] theorem bi_int (i : Int) : biSem .int [.int i] = some (.int i) := rfl
@[simp] theorem bi_max (i j : Int) : biSem .max [.int i, .int j] = some (.int (if j > i then j else i)) := rfl
@[simp] theorem bi_min (i j : Int) : biSem .min [.int i, .int j] = some (.int (if j < i then j else i)) := rfl
@[simp] theorem bi_abs (i : Int) : biSem .abs [.int i] = some (.int (if i < 0 then -i else i)) := rfl
@[simp] theorem bi_tupL (l : List D) : biSem .tuple [.lst l] = some (.tup l) := rfl
@[simp] theorem bi_tupT (l : List D) : biSem .tuple [.tup l] = some (.tup l) := rfl
@[simp] theorem bi_lstL (l : List D) : biSem .list [.lst l] = some (.lst l) := rfl
@[simp] theorem bi_lstT (l : List D) : biSem .list [.tup l] = some (.lst l) := rfl
@[simp] theorem bi_gcd (i j : Int) : biSem .gcd [.int i, .int j] = some (.int ((Nat.gcd i.natAbs j.natAbs : Nat) : Int)) := rfl
@[simp] theorem bi_sum (l : List D) : biSem .sum [.lst l] = (toInts l).map fun ns => .int ns.sum := rfl
@[simp] theorem bi_all (l : List D) : biSem .all [.lst l] = (toBls l).map fun bs => .bl (bs.all id) := rfl
@[simp] theorem bi_any (l : List D) : biSem .any [.lst l] = (toBls l).map fun bs => .bl (bs.any id) := rfl
@[simp] theorem toInts_mapI (l : List Int) : toInts (l.map .int) = some l := by induction l with | nil => rfl | cons a l ih => simp [toInts, ih]
@[simp] theorem toInts_mapf {α : Type} (f : α → Int) (l : List α) : toInts (l.map fun a => .int (f a)) = some (l.map f) := by induction l with | nil => rfl | cons a l ih => simp [toInts, ih]
@[simp] theorem toInts_nil : toInts [] = some [] := rfl
@[simp] theorem toInts_cons (i : Int) (l : List D) : toInts (.int i :: l) = (toInts l).map (i :: ·) := rfl
@[simp] theorem toBls_mapI (l : List Bool) : toBls (l.map .bl) = some l := by induction l with | nil => rfl | cons a l ih => simp [toBls, ih]
@[simp] theorem toBls_mapf {α : Type} (f : α → Bool) (l : List α) : toBls (l.map fun a => .bl (f a)) = some (l.map f) := by induction l with | nil => rfl | cons a l ih => simp [toBls, ih]
@[simp] theorem toBls_nil : toBls [] = some [] := rfl
@[simp] theorem toBls_cons (i : Bool) (l : List D) : toBls (.bl i :: l) = (toBls l).map (i :: ·) := rfl
@[simp] theorem toInt_int (i : Int) : toInt (.int i) = some i := rfl
@[simp] theorem negD_int (i : Int) : negD (.int i) = some (.int (-i)) := rfl
@[simp] theorem blD_bl (b : Bool) : blD (.bl b) = some b := rfl
@[simp] theorem items_lst (l : List D) : items (.lst l) = some l := rfl
@[simp] theorem items_tup (l : List D) : items (.tup l) = some l := rfl
@[simp] theorem items_scr (l : List D) : items (.scr l) = some l := rfl
@[simp] theorem enumD_lst (l : List D) : enumD (.lst l) = some (enumL 0 l) := rfl
@[simp] theorem zipD_lst (l m : List D) : zipD (.lst l) (.lst m) = some (zipL l m) := rfl
@[simp] theorem zipD_tup (l m : List D) : zipD (.tup l) (.tup m) = some (zipL l m) := rfl
@[simp] theorem revD_lst (l : List D) : revD (.lst l) = some l.reverse := rfl
@[simp] theorem revD_tup (l : List D) : revD (.tup l) = some l.reverse := rfl
@[simp] theorem isNon_non : isNonD .non = true := rfl
@[simp] theorem isNon_int (i : Int) : isNonD (.int i) = false := rfl
@[simp] theorem isNon_bl (i : Bool) : isNonD (.bl i) = false := rfl
@[simp] theorem isNon_tup (i : List D) : isNonD (.tup i) = false := rfl
@[simp] theorem isNon_lst (i : List D) : isNonD (.lst i) = false := rfl
@[simp] theorem isNon_str (i : Str) : isNonD (.str i) = false := rfl
@[simp] theorem noL_non : noL .non = true := rfl
@[simp] theorem noL_int (i : Int) : noL (.int i) = true := rfl
@[simp] theorem noL_bl (i : Bool) : noL (.bl i) = true := rfl
@[simp] theorem noL_str (i : Str) : noL (.str i) = true := rfl
@[simp] theorem noL_spot : noL .spot = true := rfl
@[simp] theorem noL_tup (i : List D) : noL (.tup i) = noLs i := rfl
@[simp] theorem noL_lst (i : List D) : noL (.lst i) = false := rfl
@[simp] theorem noLs_nil : noLs [] = true := rfl
@[simp] theorem noLs_cons (x : D) (i : List D) : noLs (x :: i) = (noL x && noLs i) := rfl
@[simp] theorem noLs_mapI (l : List Int) : noLs (l.map .int) = true := by induction l with | nil => rfl | cons a l ih => simp [ih]
@[simp] theorem noLs_append (l m : List D) : noLs (l ++ m) = (noLs l && noLs m) := by induction l with | nil => rfl | cons a l ih => simp [ih, Bool.and_assoc]
theorem noLs_map {α : Type} {f : α → D} (h : ∀ a, noL (f a) = true) (l : List α) : noLs (l.map f) = true := by induction l with | nil => rfl | cons a l ih => simp [ih, h]
theorem noLs_of {l : List D} (h : ∀ d ∈ l, noL d = true) : noLs l = true := by
  induction l with
  | nil => rfl
  | cons a l ih => simp only [noLs_cons, h a List.mem_cons_self, ih fun d hd => h d (List.mem_cons_of_mem _ hd), Bool.and_self]
@[simp] theorem isOfs_nil (d : D) : isOfs d [] = some false := rfl
@[simp] theorem isOfs_int (i : Int) (t : Nat) (ts : List Nat) : isOfs (.int i) (t :: ts) = if t = 0 then some true else isOfs (.int i) ts := by
  by_cases h : t = 0
  · subst h; rfl
  · have h' : (t == 0) = false := by simpa using h
    simp only [isOfs, isOf, h', h, if_false]
@[simp] theorem isOfs_bl (i : Bool) (t : Nat) (ts : List Nat) : isOfs (.bl i) (t :: ts) = if t = 0 ∨ t = 1 then some true else isOfs (.bl i) ts := by
  by_cases h : t = 0 ∨ t = 1
  · rcases h with rfl | rfl <;> rfl
  · have h' : (t == 0 || t == 1) = false := by simpa using h
    simp only [isOfs, isOf, h', h, if_false]
@[simp] theorem isOfs_str (i : Str) (t : Nat) (ts : List Nat) : isOfs (.str i) (t :: ts) = if t = 2 then some true else isOfs (.str i) ts := by
  by_cases h : t = 2
  · subst h; rfl
  · have h' : (t == 2) = false := by simpa using h
    simp only [isOfs, isOf, h', h, if_false]
@[simp] theorem isOfs_lst (i : List D) (t : Nat) (ts : List Nat) : isOfs (.lst i) (t :: ts) = if t = 3 then some true else isOfs (.lst i) ts := by
  by_cases h : t = 3
  · subst h; rfl
  · have h' : (t == 3) = false := by simpa using h
    simp only [isOfs, isOf, h', h, if_false]
@[simp] theorem isOfs_tup (i : List D) (t : Nat) (ts : List Nat) : isOfs (.tup i) (t :: ts) = if t = 4 then some true else isOfs (.tup i) ts := by
  by_cases h : t = 4
  · subst h; rfl
  · have h' : (t == 4) = false := by simpa using h
    simp only [isOfs, isOf, h', h, if_false]
@[simp] theorem isOfs_non (t : Nat) (ts : List Nat) : isOfs .non (t :: ts) = isOfs .non ts := by simp [isOfs, isOf]
@[simp] theorem ix_lst (l : List D) (i : Int) : idxSem k (.lst l) (.int i) = atI l i := rfl
@[simp] theorem ix_tup (l : List D) (i : Int) : idxSem k (.tup l) (.int i) = atI l i := rfl
@[simp] theorem ix_scr (l : List D) (i : Int) : idxSem k (.scr l) (.int i) = atI l i := rfl
@[simp] theorem ix_spot (m : Int) : idxSem (some m) .spot (.int 0) = some (.int m) := rfl
@[simp] theorem atI_0 {α : Type} (a : α) (l : List α) : atI (a :: l) 0 = some a := by simp [atI, ixN]
theorem atI_nat {α : Type} (l : List α) (n : Nat) : atI l (n : Int) = l[n]? := by
  unfold atI ixN
  rw [if_pos (by omega)]
  by_cases h : (n : Int) < l.length
  · rw [if_pos h]; simp
  · rw [if_neg h, List.getElem?_eq_none (by omega)]; rfl
@[simp] theorem atI_1 {α : Type} (a b : α) (l : List α) : atI (a :: b :: l) 1 = some b := atI_nat _ 1
@[simp] theorem atI_2 {α : Type} (a b e : α) (l : List α) : atI (a :: b :: e :: l) 2 = some e := atI_nat _ 2
@[simp] theorem atI_3 {α : Type} (a b e f : α) (l : List α) : atI (a :: b :: e :: f :: l) 3 = some f := atI_nat _ 3
theorem atI_of {α : Type} {l : List α} {i : Int} {x : α} (h0 : 0 ≤ i) (h : l[i.toNat]? = some x) : atI l i = some x := by
  have := atI_nat l i.toNat
  rw [Int.toNat_of_nonneg h0] at this
  rw [this, h]
theorem atI_neg1 {α : Type} (l : List α) : atI l (-1) = l.getLast? := by
  unfold atI ixN
  rw [if_neg (by omega)]
  by_cases h : 0 < l.length
  · rw [if_pos (by omega), List.getLast?_eq_getElem?]
    simp only [Option.bind_some]
    congr 1
    omega
  · have : l = [] := List.length_eq_zero_iff.mp (by omega)
    subst this
    rfl
@[simp] theorem rng1 (j : Int) : rngSem [.int j] = if rng62 j then some (rngL 0 1 j.toNat) else none := rfl
@[simp] theorem rng2 (i j : Int) : rngSem [.int i, .int j] = if (rng62 i && rng62 j) = true then some (rngL i 1 (j - i).toNat) else none := rfl
@[simp] theorem asg_name (i : Nat) (d : D) : asg (.name i) d ρ = some (ρ.set i (some d)) := by simp only [asg]
@[simp] theorem asg_tup (ts : Tgs) (l : List D) : asg (.tup ts) (.tup l) ρ = asgs ts l ρ := by simp only [asg]
@[simp] theorem asgs_nil : asgs .nil [] ρ = some ρ := by simp only [asgs]
@[simp] theorem asgs_cons (t : Tg) (ts : Tgs) (d : D) (l : List D) : asgs (.cons t ts) (d :: l) ρ = (asg t d ρ).bind (asgs ts l) := by simp only [asgs]
@[simp] theorem tgMu_name (i : Nat) (mu : List Nat) : tgMu (.name i) mu = mu.filter (· != i) := rfl
@[simp] theorem tgMu_tup (ts : Tgs) (mu : List Nat) : tgMu (.tup ts) mu = tgsMu ts mu := rfl
@[simp] theorem tgsMu_nil (mu : List Nat) : tgsMu .nil mu = mu := rfl
@[simp] theorem tgsMu_cons (t : Tg) (ts : Tgs) (mu : List Nat) : tgsMu (.cons t ts) mu = tgsMu ts (tgMu t mu) := rfl
@[simp] theorem lineOk_lit (n : Nat) (h : n ≤ 16777216) : lineOk n = true := lineOk_of h
@[simp] theorem mulOk_natL (n : Nat) (h : n < 18446744073709551616) (j : Int) : mulOk (no_index (OfNat.ofNat n)) j = true := mulOk_l (by
  show (-18446744073709551616 : Int) < (n : Int)
  omega) (by
  show (n : Int) < 18446744073709551616
  omega)
@[simp] theorem mulOk_natR (n : Nat) (h : n < 18446744073709551616) (j : Int) : mulOk j (no_index (OfNat.ofNat n)) = true := mulOk_r (by
  show (-18446744073709551616 : Int) < (n : Int)
  omega) (by
  show (n : Int) < 18446744073709551616
  omega)
@[simp] theorem wipe_nil : wipeR ρ [] = ρ := rfl
@[simp] theorem wipe_cons (i : Nat) (is : List Nat) : wipeR ρ (i :: is) = (wipeR ρ is).set i none := rfl
/-! ### which slots are named -/
section
variable (mu : List Nat)
@[simp] theorem avE_var (i : Nat) : avE mu (.var i) = !mu.contains i := by simp only [avE]
@[simp] theorem avE_cst (d : D) : avE mu (.cst d) = true := by simp only [avE]
@[simp] theorem avE_bin (o : BO) (a b : E) : avE mu (.bin o a b) = (avE mu a && avE mu b) := by simp only [avE]
@[simp] theorem avE_neg (a : E) : avE mu (.neg a) = avE mu a := by simp only [avE]
@[simp] theorem avE_cmp (o : CO) (a b : E) : avE mu (.cmp o a b) = (avE mu a && avE mu b) := by simp only [avE]
@[simp] theorem avE_chain (o p : CO) (a b c : E) : avE mu (.chain o p a b c) = (avE mu a && avE mu b && avE mu c) := by simp only [avE]
@[simp] theorem avE_isN (a : E) : avE mu (.isN a) = avE mu a := by simp only [avE]
@[simp] theorem avE_notN (a : E) : avE mu (.notN a) = avE mu a := by simp only [avE]
@[simp] theorem avE_and (a b : E) : avE mu (.and a b) = (avE mu a && avE mu b) := by simp only [avE]
@[simp] theorem avE_or (a b : E) : avE mu (.or a b) = (avE mu a && avE mu b) := by simp only [avE]
@[simp] theorem avE_not (a : E) : avE mu (.not a) = avE mu a := by simp only [avE]
@[simp] theorem avE_ite (t : T) (a b : E) : avE mu (.ite t a b) = (avT mu t && avE mu a && avE mu b) := by simp only [avE]
@[simp] theorem avE_tup (es : Es) : avE mu (.tup es) = avEs mu es := by simp only [avE]
@[simp] theorem avE_lst (es : Es) : avE mu (.lst es) = avEs mu es := by simp only [avE]
@[simp] theorem avE_idx (a b : E) : avE mu (.idx a b) = (avE mu a && avE mu b) := by simp only [avE]
@[simp] theorem avE_sli (m : Nat) (a b c : E) : avE mu (.sli m a b c) = (avE mu a && avE mu b && avE mu c) := by simp only [avE]
@[simp] theorem avE_call (f : Nat) (es : Es) : avE mu (.call f es) = avEs mu es := by simp only [avE]
@[simp] theorem avE_bi (f : BI) (es : Es) : avE mu (.bi f es) = avEs mu es := by simp only [avE]
@[simp] theorem avE_isi (a : E) (ts : List Nat) : avE mu (.isi a ts) = avE mu a := by simp only [avE]
@[simp] theorem avE_comp0 (a : E) (tg : Tg) (it : I) (o : List Nat) : avE mu (.comp0 a tg it o) = (avE mu a && avI mu it) := by simp only [avE]
@[simp] theorem avE_comp1 (a : E) (tg : Tg) (it : I) (t : T) (o : List Nat) : avE mu (.comp1 a tg it t o) = (avE mu a && avI mu it && avT mu t) := by simp only [avE]
@[simp] theorem avT_val (a : E) : avT mu (.val a) = avE mu a := by simp only [avT]
@[simp] theorem avT_not (a : T) : avT mu (.not a) = avT mu a := by simp only [avT]
@[simp] theorem avT_and (a b : T) : avT mu (.and a b) = (avT mu a && avT mu b) := by simp only [avT]
@[simp] theorem avT_or (a b : T) : avT mu (.or a b) = (avT mu a && avT mu b) := by simp only [avT]
@[simp] theorem avT_ite (a b c : T) : avT mu (.ite a b c) = (avT mu a && avT mu b && avT mu c) := by simp only [avT]
@[simp] theorem avEs_nil : avEs mu .nil = true := by simp only [avEs]
@[simp] theorem avEs_cons (e : E) (es : Es) : avEs mu (.cons e es) = (avE mu e && avEs mu es) := by simp only [avEs]
@[simp] theorem avI_seq (a : E) : avI mu (.seq a) = avE mu a := by simp only [avI]
@[simp] theorem avI_rng (a : Es) : avI mu (.rng a) = avEs mu a := by simp only [avI]
@[simp] theorem avI_enum (a : E) : avI mu (.enum a) = avE mu a := by simp only [avI]
@[simp] theorem avI_zip (a b : E) : avI mu (.zip a b) = (avE mu a && avE mu b) := by simp only [avI]
@[simp] theorem avI_rev (a : E) : avI mu (.rev a) = avE mu a := by simp only [avI]
end
/-! ### defs, loops, comprehensions -/
theorem opq_ex {α : Type} {o : Option α} {P : α → Prop} (h : OPQ o P) : ∃ x, o = some x ∧ P x := by
  cases o with
  | none => exact ((opq_none P).mp h).elim
  | some x => exact ⟨x, rfl, (opq_some x P).mp h⟩
theorem opq_of {α : Type} {o : Option α} {x : α} {P : α → Prop} (h : o = some x) (hp : P x) : OPQ o P := by rw [h]; exact (opq_some x P).mpr hp
theorem OPQd_eq {α : Type} (o : Option α) (Q : α → Prop) : OPQd o Q = OPQ o Q := (OPQ_def o Q).symm
theorem wp_ex {ss : Ss} (h : WP c w ss s QO) : ∃ o, evSs c w ss s = some o ∧ QO o := by
  rw [WP_def] at h; unfold WPd at h; rw [OPQd_eq] at h; exact opq_ex h
theorem ve_ex {e : E} (h : VE c e ρ k Q) : ∃ d k', evE c e ρ k = some (d, k') ∧ Q d k' := by
  rw [VE_def] at h; unfold VEd at h; rw [OPQd_eq] at h
  obtain ⟨⟨d, k'⟩, h1, h2⟩ := opq_ex h
  exact ⟨d, k', h1, h2⟩
theorem vt_ex {t : T} (h : VT c t ρ k QB) : ∃ b k', evT c t ρ k = some (b, k') ∧ QB b k' := by
  rw [VT_def] at h; unfold VTd at h; rw [OPQd_eq] at h
  obtain ⟨⟨d, k'⟩, h1, h2⟩ := opq_ex h
  exact ⟨d, k', h1, h2⟩
theorem cm_ex {e : E} {tg : Tg} {ds : List D} (h : CM c e tg ds ρ k QL) : ∃ ys k', compD (fun ρ k => evE c e ρ k) (fun _ k => some (true, k)) tg ρ ds k = some (ys, k') ∧ QL ys k' := by
  rw [CM_def] at h; unfold CMd at h; rw [OPQd_eq] at h
  obtain ⟨⟨d, k'⟩, h1, h2⟩ := opq_ex h
  exact ⟨d, k', h1, h2⟩
theorem fr_of {tg : Tg} {body : Ss} {ds : List D} {o : O} (h : forD tg (fun s => evSs c w body s) ds s = some o) (q : QO o) : FR c w tg body ds s QO := by
  rw [FR_def]; unfold FRd; rw [OPQd_eq]; exact opq_of h q
theorem fr_ex {tg : Tg} {body : Ss} {ds : List D} (h : FR c w tg body ds s QO) : ∃ o, forD tg (fun s => evSs c w body s) ds s = some o ∧ QO o := by
  rw [FR_def] at h; unfold FRd at h; rw [OPQd_eq] at h; exact opq_ex h
theorem wh_of {t : T} {body : Ss} {n : Nat} {o : O} (h : whileD (fun s => evT c t s.ρ s.k) (fun s => evSs c w body s) n s = some o) (q : QO o) : WH c w t body n s QO := by
  rw [WH_def]; unfold WHd; rw [OPQd_eq]; exact opq_of h q
theorem wh_ex {t : T} {body : Ss} {n : Nat} (h : WH c w t body n s QO) : ∃ o, whileD (fun s => evT c t s.ρ s.k) (fun s => evSs c w body s) n s = some o ∧ QO o := by
  rw [WH_def] at h; unfold WHd at h; rw [OPQd_eq] at h; exact opq_ex h
theorem cm_of {e : E} {tg : Tg} {ds ys : List D} {k' : Ky} (h : compD (fun ρ k => evE c e ρ k) (fun _ k => some (true, k)) tg ρ ds k = some (ys, k')) (q : QL ys k') : CM c e tg ds ρ k QL := by
  rw [CM_def]; unfold CMd; rw [OPQd_eq]; exact opq_of h q
theorem cn_of {e : E} {t : T} {tg : Tg} {ds ys : List D} {k' : Ky} (h : compD (fun ρ k => evE c e ρ k) (fun ρ k => evT c t ρ k) tg ρ ds k = some (ys, k')) (q : QL ys k') : CN c e t tg ds ρ k QL := by
  rw [CN_def]; unfold CNd; rw [OPQd_eq]; exact opq_of h q
theorem run_wp {rn : Rn} {ds : List Def} [Runs rn ds] {n f : Nat} {as : List D} {d : Def} {x : D} {k' : Ky} (h : ds[f]? = some d) (hl : as.length = d.ps) (H : WP (rn.go n) WF d.body ⟨as.map some ++ List.replicate (d.ns - d.ps) none, [], k⟩ fun o => fin k (some o) = some (x, k')) : rn.go (n + 1) f as k = some (x, k') := by
  rw [run_eq (rn := rn) h hl]
  obtain ⟨o, e, H⟩ := wp_ex H
  rw [e]
  exact H
theorem run_wpE {rn : Rn} {ds : List Def} [Runs rn ds] {n f : Nat} {as : List D} {d : Def} {P : D → Ky → Prop} (h : ds[f]? = some d) (hl : as.length = d.ps) (H : WP (rn.go n) WF d.body ⟨as.map some ++ List.replicate (d.ns - d.ps) none, [], k⟩ fun o => OPQ (fin k (some o)) fun p => P p.1 p.2) : OPQ (rn.go (n + 1) f as k) fun p => P p.1 p.2 := by
  rw [run_eq (rn := rn) h hl]
  obtain ⟨o, e, H⟩ := wp_ex H
  rw [e]
  exact H
@[simp] theorem fin_rt' (d : D) : fin k (some (.rt d k)) = some (d, k) := fin_rt k d
@[simp] theorem fin_rtS (d : D) (m m' : Int) : fin (some m) (some (.rt d (some m'))) = some (d, some m') := by cases d <;> rfl
@[simp] theorem fin_rtN (b : Bool) (m : Int) : fin none (some (.rt (.bl b) (some m))) = some (.bl b, none) := rfl
@[simp] theorem fin_nx' (ρ : Rho) (mu : List Nat) : fin k (some (.nx ⟨ρ, mu, k⟩)) = some (.non, k) := endK_same k .non
theorem opq_mono {α : Type} {o : Option α} {P P' : α → Prop} (h : OPQ o P) (i : ∀ x, P x → P' x) : OPQ o P' := by
  obtain ⟨x, e, h⟩ := opq_ex h
  exact opq_of e (i x h)
/-- a wall that simp does not look behind -/
def Wp (p : Prop) : Type := Unit
structure Hold (p : Prop) (u : Wp p := ()) : Prop where
  get : p
def stp (I : Sta → Prop) (J : O → Prop) (_ : Wt (I, J) := ()) (o : O) : Prop := match o with | .nx s => Hold (I s) | .ct s => Hold (I s) | .bk s => J (.nx s) | .rt d k => J (.rt d k)
@[simp] theorem stp_nx (I : Sta → Prop) (J : O → Prop) : stp I J () (.nx s) ↔ Hold (I s) := Iff.rfl
@[simp] theorem stp_ct (I : Sta → Prop) (J : O → Prop) : stp I J () (.ct s) ↔ Hold (I s) := Iff.rfl
@[simp] theorem stp_bk (I : Sta → Prop) (J : O → Prop) : stp I J () (.bk s) ↔ J (.nx s) := Iff.rfl
@[simp] theorem stp_rt (I : Sta → Prop) (J : O → Prop) (d : D) : stp I J () (.rt d k) ↔ J (.rt d k) := Iff.rfl
/-- a loop over the items f a -/
theorem fr_list {α : Type} {tg : Tg} {body : Ss} (f : α → D) (I : List α → Sta → Prop) (J : O → Prop) : ∀ (l : List α) (s : Sta), I l s →
    (∀ a r s, I (a :: r) s → OPQ (asg tg (f a) s.ρ) fun ρ => WP c w body ⟨ρ, tgMu tg s.mu, s.k⟩ (stp (I r) J)) →
    (∀ s, I [] s → J (.nx s)) → FR c w tg body (l.map f) s J
  | [], s, h, _, he => fr_of rfl (he s h)
  | a :: r, s, h, hs, he => by
    obtain ⟨ρ, e1, h1⟩ := opq_ex (hs a r s h)
    obtain ⟨o, e2, h2⟩ := wp_ex h1
    have ih := fun s' hs' => fr_ex (fr_list f I J r s' hs' hs he)
    cases o with
    | nx s' =>
      obtain ⟨o', e3, h3⟩ := ih s' h2.get
      exact fr_of (by simp only [List.map_cons, forD, e1, e2]; exact e3) h3
    | ct s' =>
      obtain ⟨o', e3, h3⟩ := ih s' h2.get
      exact fr_of (by simp only [List.map_cons, forD, e1, e2]; exact e3) h3
    | bk s' => exact fr_of (by simp only [List.map_cons, forD, e1, e2]) h2
    | rt d k => exact fr_of (by simp only [List.map_cons, forD, e1, e2]) h2
theorem fr_D {tg : Tg} {body : Ss} (I : List D → Sta → Prop) (J : O → Prop) (l : List D) (s : Sta) (h0 : I l s)
    (hs : ∀ a r s, I (a :: r) s → OPQ (asg tg a s.ρ) fun ρ => WP c w body ⟨ρ, tgMu tg s.mu, s.k⟩ (stp (I r) J))
    (he : ∀ s, I [] s → J (.nx s)) : FR c w tg body l s J := by
  have := fr_list (c := c) (w := w) (tg := tg) (body := body) (fun d : D => d) I J l s h0 hs he
  rwa [List.map_id'] at this
/-- a loop over a range -/
theorem fr_rng {tg : Tg} {body : Ss} (a : Int) (n : Nat) (I : Nat → Sta → Prop) (J : O → Prop) (s : Sta) (h0 : I 0 s)
    (hs : ∀ (i : Nat) s, i < n → I i s → OPQ (asg tg (.int (a + i)) s.ρ) fun ρ => WP c w body ⟨ρ, tgMu tg s.mu, s.k⟩ (stp (I (i + 1)) J))
    (he : ∀ s, I n s → J (.nx s)) : FR c w tg body (rngL a 1 n) s J := by
  have e : rngL a 1 n = (List.range n).map fun t : Nat => D.int (a + t) := by
    unfold rngL
    congr 1
    funext t
    simp
  rw [e]
  have key : ∀ (m i : Nat), i + m = n → ∀ s, I i s → FR c w tg body ((List.range' i m).map fun t : Nat => D.int (a + t)) s J := by
    intro m
    induction m with
    | zero => intro i hi s h; exact fr_of rfl (he s (by rw [show n = i by omega]; exact h))
    | succ m ih =>
      intro i hi s h
      obtain ⟨ρ, e1, h1⟩ := opq_ex (hs i s (by omega) h)
      obtain ⟨o, e2, h2⟩ := wp_ex h1
      have ih' := fun s h => fr_ex (ih (i + 1) (by omega) s h)
      cases o with
      | nx s' =>
        obtain ⟨o', e3, h3⟩ := ih' s' h2.get
        exact fr_of (by simp only [List.range'_succ, List.map_cons, forD, e1, e2]; exact e3) h3
      | ct s' =>
        obtain ⟨o', e3, h3⟩ := ih' s' h2.get
        exact fr_of (by simp only [List.range'_succ, List.map_cons, forD, e1, e2]; exact e3) h3
      | bk s' => exact fr_of (by simp only [List.range'_succ, List.map_cons, forD, e1, e2]) h2
      | rt d k => exact fr_of (by simp only [List.range'_succ, List.map_cons, forD, e1, e2]) h2
  have := key n 0 (by omega) s h0
  rwa [← List.range_eq_range'] at this
theorem wh_inv {t : T} {body : Ss} (I : Sta → Prop) (m : Sta → Nat) (J : O → Prop) : ∀ (n : Nat) (s : Sta), I s → m s < n →
    (∀ s, I s → VT c t s.ρ s.k fun b k => if b = true then WP c w body ⟨s.ρ, s.mu, k⟩ (stp (fun s' => I s' ∧ m s' < m s) J) else J (.nx ⟨s.ρ, s.mu, k⟩)) → WH c w t body n s J
  | 0, s, _, h, _ => by omega
  | n + 1, s, hi, hm, hs => by
    have h0 := hs s hi
    obtain ⟨b, k, e1, h1⟩ := vt_ex h0
    have ih := fun s' (h : I s') (h2 : m s' < n) => wh_ex (wh_inv I m J n s' h h2 hs)
    cases b with
    | false => exact wh_of (o := .nx ⟨s.ρ, s.mu, k⟩) (by simp only [whileD, e1]) (by simpa using h1)
    | true =>
      simp only [if_true] at h1
      obtain ⟨o, e2, h2⟩ := wp_ex h1
      cases o with
      | nx s' =>
        obtain ⟨o', e3, h3⟩ := ih s' h2.get.1 (by have := h2.get.2; omega)
        exact wh_of (by simp only [whileD, e1, e2]; exact e3) h3
      | ct s' =>
        obtain ⟨o', e3, h3⟩ := ih s' h2.get.1 (by have := h2.get.2; omega)
        exact wh_of (by simp only [whileD, e1, e2]; exact e3) h3
      | bk s' => exact wh_of (by simp only [whileD, e1, e2]) h2
      | rt d k => exact wh_of (by simp only [whileD, e1, e2]) h2
theorem cm_map {e : E} {tg : Tg} {α : Type} (f : α → D) (h : α → D) (l : List α) (hh : ∀ a ∈ l, OPQ (asg tg (f a) ρ) fun ρ1 => VE c e ρ1 k fun d k1 => d = h a ∧ k1 = k) (hq : QL (l.map h) k) : CM c e tg (l.map f) ρ k QL := by
  have : compD (fun ρ k => evE c e ρ k) (fun _ k => some (true, k)) tg ρ (l.map f) k = some (l.map h, k) := by
    clear hq
    induction l with
    | nil => rfl
    | cons a l ih =>
      obtain ⟨ρ1, e1, h1⟩ := opq_ex (hh a List.mem_cons_self)
      obtain ⟨d, k1, e2, h2, h3⟩ := ve_ex h1
      subst h2 h3
      simp only [List.map_cons, compD, e1, e2, ih fun b hb => hh b (List.mem_cons_of_mem _ hb)]
  exact cm_of this hq
theorem cn_map {e : E} {t : T} {tg : Tg} {α : Type} (f : α → D) (p : α → Bool) (h : α → D) (l : List α) (hh : ∀ a ∈ l, OPQ (asg tg (f a) ρ) fun ρ1 => VT c t ρ1 k fun b k1 => b = p a ∧ k1 = k ∧ (p a = true → VE c e ρ1 k fun d k2 => d = h a ∧ k2 = k)) (hq : QL ((l.filter p).map h) k) : CN c e t tg (l.map f) ρ k QL := by
  have : compD (fun ρ k => evE c e ρ k) (fun ρ k => evT c t ρ k) tg ρ (l.map f) k = some ((l.filter p).map h, k) := by
    clear hq
    induction l with
    | nil => rfl
    | cons a l ih =>
      obtain ⟨ρ1, e1, h1⟩ := opq_ex (hh a List.mem_cons_self)
      obtain ⟨b, k1, e2, h2, h3, h4⟩ := vt_ex h1
      subst h3
      have ih' := ih fun b hb => hh b (List.mem_cons_of_mem _ hb)
      cases hp : p a with
      | false =>
        rw [hp] at h2
        subst h2
        simp only [List.map_cons, compD, e1, e2, ih', List.filter_cons, hp]
        rfl
      | true =>
        rw [hp] at h2
        subst h2
        obtain ⟨d, k2, e3, h5, h6⟩ := ve_ex (h4 hp)
        subst h5 h6
        simp only [List.map_cons, compD, e1, e2, e3, ih', List.filter_cons, hp, if_true]
  exact cn_of this hq
theorem cm_D {e : E} {tg : Tg} (h : D → D) (l : List D) (hh : ∀ a ∈ l, OPQ (asg tg a ρ) fun ρ1 => VE c e ρ1 k fun d k1 => d = h a ∧ k1 = k) (hq : QL (l.map h) k) : CM c e tg l ρ k QL := by
  have := cm_map (c := c) (e := e) (tg := tg) (ρ := ρ) (k := k) (QL := QL) (fun x => x) h l hh hq
  rwa [List.map_id'] at this
theorem cn_D {e : E} {t : T} {tg : Tg} (p : D → Bool) (h : D → D) (l : List D) (hh : ∀ a ∈ l, OPQ (asg tg a ρ) fun ρ1 => VT c t ρ1 k fun b k1 => b = p a ∧ k1 = k ∧ (p a = true → VE c e ρ1 k fun d k2 => d = h a ∧ k2 = k)) (hq : QL ((l.filter p).map h) k) : CN c e t tg l ρ k QL := by
  have := cn_map (c := c) (e := e) (t := t) (tg := tg) (ρ := ρ) (k := k) (QL := QL) (fun x => x) p h l hh hq
  rwa [List.map_id'] at this
theorem cm_rng {e : E} {tg : Tg} (a : Int) (n : Nat) (h : Int → D) (hh : ∀ i : Nat, i < n → OPQ (asg tg (.int (a + i)) ρ) fun ρ1 => VE c e ρ1 k fun d k1 => d = h (a + i) ∧ k1 = k) (hq : QL ((List.range n).map fun i : Nat => h (a + i)) k) : CM c e tg (rngL a 1 n) ρ k QL := by
  have e : rngL a 1 n = (List.range n).map fun t : Nat => D.int (a + t) := by
    unfold rngL
    congr 1
    funext t
    simp
  rw [e]
  exact cm_map (fun t : Nat => D.int (a + t)) (fun i : Nat => h (a + i)) _ (fun i hi => hh i (List.mem_range.mp hi)) hq
theorem cn_rng {e : E} {t : T} {tg : Tg} (a : Int) (n : Nat) (p : Int → Bool) (h : Int → D) (hh : ∀ i : Nat, i < n → OPQ (asg tg (.int (a + i)) ρ) fun ρ1 => VT c t ρ1 k fun b k1 => b = p (a + i) ∧ k1 = k ∧ (p (a + i) = true → VE c e ρ1 k fun d k2 => d = h (a + i) ∧ k2 = k)) (hq : QL (((List.range n).filter fun i : Nat => p (a + i)).map fun i : Nat => h (a + i)) k) : CN c e t tg (rngL a 1 n) ρ k QL := by
  have e : rngL a 1 n = (List.range n).map fun t : Nat => D.int (a + t) := by
    unfold rngL
    congr 1
    funext t
    simp
  rw [e]
  exact cn_map (fun t : Nat => D.int (a + t)) (fun i : Nat => p (a + i)) (fun i : Nat => h (a + i)) _ (fun i hi => hh i (List.mem_range.mp hi)) hq
/-- a comprehension whose items draw: I says what stands for the items that are left and those made -/
theorem cm_inv {e : E} {tg : Tg} {α : Type} (f : α → D) (I : List α → List D → Ky → Prop) : ∀ (l : List α) (k : Ky) (done : List D) (QL : List D → Ky → Prop), I l done k →
    (∀ a r done k, I (a :: r) done k → OPQ (asg tg (f a) ρ) fun ρ1 => VE c e ρ1 k fun d k1 => Hold (I r (done ++ [d]) k1)) → (∀ made k, I [] (done ++ made) k → QL made k) → CM c e tg (l.map f) ρ k QL
  | [], k, done, QL, h, _, hq => by
    exact cm_of (ys := []) (k' := k) rfl (hq [] k (by rwa [List.append_nil]))
  | a :: l, k, done, QL, h, hs, hq => by
    obtain ⟨ρ1, e1, h1⟩ := opq_ex (hs a l done k h)
    obtain ⟨d, k1, e2, h2⟩ := ve_ex h1
    have ih := cm_inv f I l k1 (done ++ [d]) (fun made k => QL (d :: made) k) h2.get hs (fun made k hm => hq (d :: made) k (by rw [List.append_assoc] at hm; exact hm))
    obtain ⟨ys, k3, e3, h3⟩ := cm_ex ih
    exact cm_of (by simp only [List.map_cons, compD, e1, e2, e3]) h3
theorem opq_take {rn : Rn} {ds : List Def} [Runs rn ds] {n : Nat} {f dr : Nat} (hf : ds[f]? = some ⟨3, 3, bTake dr⟩) (hd : ds[dr]? = some ⟨3, 4, bDraw⟩) {row : List Int} (hr : row ≠ []) {m lim : Int} (hm : 0 ≤ m) (hl : 0 < lim) {P : D × Ky → Prop} (h : ∀ v, 0 ≤ v → v < lim → P (.int v, some (m + 1))) : OPQ (rn.go (n + 2) f [.lst (row.map .int), .spot, .int lim] (some m)) P := by
  obtain ⟨v, e, h0, h1⟩ := take_ok (rn := rn) (n := n) hf hd row hr m lim hm hl
  exact opq_of e (h v h0 h1)
end
end Mini
namespace Mini
open PySem PySem.Spec PyProof.Rows L2
/-! ### the checks -/
def bNeed : Ss := (.cons (.ite (.not (.val (.var 0))) (.cons .never .nil) .nil) .nil)
def bIsInt : Ss := (.cons (.ret (.and (.isi (.var 0) [0]) (.not (.isi (.var 0) [1])))) .nil)
def bWhole (i : Nat) : Ss := (.cons (.ret (.and (.call i (.cons (.var 0) .nil)) (.chain .le .le (.var 1) (.var 0) (.var 2)))) .nil)
def bWholeF (i : Nat) : Ss := (.cons (.ret (.and (.call i (.cons (.var 0) .nil)) (.cmp .ge (.var 0) (.var 1)))) .nil)
def bSeq : Ss := (.cons (.ret (.and (.isi (.var 0) [3, 4]) (.chain .le .le (.var 1) (.bi .len (.cons (.var 0) .nil)) (.var 2)))) .nil)
def bPair (q : Nat) : Ss := (.cons (.ret (.call q (.cons (.var 0) (.cons (.cst (.int 2)) (.cons (.cst (.int 2)) .nil))))) .nil)
def eRow (i : Nat) : E := (.call i (.cons (.var 2) (.cons (.var 3) (.cons (.var 4) .nil))))
def bRow (q i : Nat) : Ss := (.cons (.ite (.not (.val (.call q (.cons (.var 0) (.cons (.bi .len (.cons (.var 1) .nil)) (.cons (.bi .len (.cons (.var 1) .nil)) .nil)))))) (.cons (.ret (.cst (.bl false))) .nil) .nil) (.cons (.ret (.bi .all (.cons (.comp0 (eRow i) (.tup (.cons (.name 2) (.cons (.tup (.cons (.name 3) (.cons (.name 4) .nil))) .nil))) (.zip (.var 0) (.var 1)) [2, 3, 4]) .nil))) .nil))
def eRows (r : Nat) : E := (.call r (.cons (.var 4) (.cons (.var 3) .nil)))
def bRows (q r : Nat) : Ss := (.cons (.ite (.not (.val (.call q (.cons (.var 0) (.cons (.var 1) (.cons (.var 2) .nil)))))) (.cons (.ret (.cst (.bl false))) .nil) .nil) (.cons (.ret (.bi .all (.cons (.comp0 (eRows r) (.name 4) (.seq (.var 0)) [4]) .nil))) .nil))
def eRising : E := (.cmp .lt (.idx (.var 0) (.bin .sub (.var 1) (.cst (.int 1)))) (.idx (.var 0) (.var 1)))
def bRising : Ss := (.cons (.ret (.bi .all (.cons (.comp0 eRising (.name 1) (.rng (.cons (.cst (.int 1)) (.cons (.bi .len (.cons (.var 0) .nil)) .nil))) [1]) .nil))) .nil)
def bAnyFr (p i j : Nat) : Ss := (.cons (.ite (.or (.not (.val (.call p (.cons (.var 0) .nil)))) (.or (.not (.val (.call i (.cons (.idx (.var 0) (.cst (.int 0))) .nil)))) (.not (.val (.call j (.cons (.idx (.var 0) (.cst (.int 1))) (.cons (.cst (.int 1)) .nil))))))) (.cons (.ret (.cst (.bl false))) .nil) .nil) (.cons (.ret (.cmp .eq (.bi .gcd (.cons (.idx (.var 0) (.cst (.int 0))) (.cons (.idx (.var 0) (.cst (.int 1))) .nil))) (.cst (.int 1)))) .nil))
def bFrac (a i : Nat) : Ss := (.cons (.ite (.not (.val (.call a (.cons (.var 0) .nil)))) (.cons (.ret (.cst (.bl false))) .nil) .nil) (.cons (.ret (.and (.call i (.cons (.idx (.var 0) (.cst (.int 0))) (.cons (.neg (.cst (.int 1000000))) (.cons (.cst (.int 1000000)) .nil)))) (.cmp .le (.idx (.var 0) (.cst (.int 1))) (.cst (.int 1000000))))) .nil))
def eFrozen (f : Nat) : E := (.call f (.cons (.var 1) .nil))
def bFrozen (f : Nat) : Ss := (.cons (.ite (.val (.isi (.var 0) [3, 4])) (.cons (.ret (.bi .tuple (.cons (.comp0 (eFrozen f) (.name 1) (.seq (.var 0)) [1]) .nil))) .nil) .nil) (.cons (.ret (.var 0)) .nil))
def eWholes (i : Nat) : E := (.call i (.cons (.var 5) (.cons (.var 3) (.cons (.var 4) .nil))))
def bWholes (q i : Nat) : Ss := (.cons (.ite (.not (.val (.call q (.cons (.var 0) (.cons (.var 1) (.cons (.var 2) .nil)))))) (.cons (.ret (.cst (.bl false))) .nil) .nil) (.cons (.ret (.bi .all (.cons (.comp0 (eWholes i) (.name 5) (.seq (.var 0)) [5]) .nil))) .nil))
/-! ### the fractions -/
def bReduced : Ss := (.cons (.ite (.val (.cmp .lt (.var 1) (.cst (.int 0)))) (.cons (.par 0 1 (.neg (.var 0)) (.neg (.var 1))) .nil) .nil) (.cons (.set 2 (.bi .gcd (.cons (.var 0) (.cons (.var 1) .nil)))) (.cons (.ret (.tup (.cons (.bin .fdiv (.var 0) (.var 2)) (.cons (.bin .fdiv (.var 1) (.var 2)) .nil)))) .nil)))
def bFw : Ss := (.cons (.ret (.tup (.cons (.var 0) (.cons (.cst (.int 1)) .nil)))) .nil)
def bDiv (r : Nat) : Ss := (.cons (.ret (.call r (.cons (.bin .mul (.idx (.var 0) (.cst (.int 0))) (.idx (.var 1) (.cst (.int 1)))) (.cons (.bin .mul (.idx (.var 0) (.cst (.int 1))) (.idx (.var 1) (.cst (.int 0)))) .nil)))) .nil)
def bAtMost : Ss := (.cons (.ret (.cmp .le (.bin .mul (.idx (.var 0) (.cst (.int 0))) (.idx (.var 1) (.cst (.int 1)))) (.bin .mul (.idx (.var 1) (.cst (.int 0))) (.idx (.var 0) (.cst (.int 1)))))) .nil)
def bFmin (l : Nat) : Ss := (.cons (.ite (.val (.call l (.cons (.var 1) (.cons (.var 0) .nil)))) (.cons (.ret (.var 1)) .nil) .nil) (.cons (.ret (.var 0)) .nil))
def bFmax (l : Nat) : Ss := (.cons (.ite (.val (.call l (.cons (.var 0) (.cons (.var 1) .nil)))) (.cons (.ret (.var 1)) .nil) .nil) (.cons (.ret (.var 0)) .nil))
section
variable {rn : Rn} {w : Nat} {ds : List Def} [Runs rn ds] {n f : Nat} {k : Ky}
theorem x_need (hf : ds[f]? = some ⟨2, 2, bNeed⟩) (x : D) : rn.go (n + 1) f [.bl true, x] k = some (.non, k) := by
  refine run_wp hf rfl ?_
  simp [bNeed]
theorem x_int (hf : ds[f]? = some ⟨1, 1, bIsInt⟩) (i : Int) : rn.go (n + 1) f [.int i] k = some (.bl true, k) := by
  refine run_wp hf rfl ?_
  simp [bIsInt]
theorem x_whole {i : Nat} (hf : ds[f]? = some ⟨3, 3, bWhole i⟩) (hi : ds[i]? = some ⟨1, 1, bIsInt⟩) (v a b : Int) : rn.go (n + 2) f [.int v, .int a, .int b] k = some (.bl (decide (a ≤ v) && decide (v ≤ b)), k) := by
  refine run_wp hf rfl ?_
  simp [bWhole, x_int hi]
  by_cases h : a ≤ v <;> simp [h]
theorem x_wholeF {i : Nat} (hf : ds[f]? = some ⟨2, 2, bWholeF i⟩) (hi : ds[i]? = some ⟨1, 1, bIsInt⟩) (v a : Int) : rn.go (n + 2) f [.int v, .int a] k = some (.bl (decide (a ≤ v)), k) := by
  refine run_wp hf rfl ?_
  simp [bWholeF, x_int hi]
theorem x_seq (hf : ds[f]? = some ⟨3, 3, bSeq⟩) (es : List D) (a b : Int) : rn.go (n + 1) f [.tup es, .int a, .int b] k = some (.bl (decide (a ≤ es.length) && decide ((es.length : Int) ≤ b)), k) := by
  refine run_wp hf rfl ?_
  simp [bSeq]
  by_cases h : a ≤ es.length <;> simp [h]
theorem x_seqL (hf : ds[f]? = some ⟨3, 3, bSeq⟩) (es : List D) (a b : Int) : rn.go (n + 1) f [.lst es, .int a, .int b] k = some (.bl (decide (a ≤ es.length) && decide ((es.length : Int) ≤ b)), k) := by
  refine run_wp hf rfl ?_
  simp [bSeq]
  by_cases h : a ≤ es.length <;> simp [h]
theorem x_pair {q : Nat} (hf : ds[f]? = some ⟨1, 1, bPair q⟩) (hq : ds[q]? = some ⟨3, 3, bSeq⟩) (x y : D) : rn.go (n + 2) f [.tup [x, y]] k = some (.bl true, k) := by
  refine run_wp hf rfl ?_
  simp [bPair, x_seq hq]
def pairD (p : Int × Int) : D := .tup [.int p.1, .int p.2]
theorem zipL_map {α β : Type} (g : α → D) (h : β → D) : ∀ (l : List α) (m : List β), zipL (l.map g) (m.map h) = (l.zip m).map fun p => .tup [g p.1, h p.2]
  | [], _ => rfl
  | _ :: _, [] => rfl
  | a :: l, b :: m => by simp only [List.map_cons, zipL, List.zip_cons_cons, zipL_map g h l m]
theorem x_row {q i j : Nat} (hf : ds[f]? = some ⟨2, 5, bRow q i⟩) (hq : ds[q]? = some ⟨3, 3, bSeq⟩) (hi : ds[i]? = some ⟨3, 3, bWhole j⟩) (hj : ds[j]? = some ⟨1, 1, bIsInt⟩) (vs : List Int) (bs : List (Int × Int)) (hl : vs.length = bs.length) (hs : vs.length ≤ 1000) :
    rn.go (n + 3) f [.tup (vs.map .int), .tup (bs.map pairD)] k = some (.bl ((vs.zip bs).all fun p => decide (p.2.1 ≤ p.1) && decide (p.1 ≤ p.2.2)), k) := by
  refine run_wp hf rfl ?_
  simp [bRow, x_seq hq, hl, zipL_map, lineOk_of (show bs.length ≤ 16777216 by omega)]
  refine cm_map (fun p : Int × Int × Int => D.tup [.int p.1, pairD p.2]) (fun p => .bl (decide (p.2.1 ≤ p.1) && decide (p.1 ≤ p.2.2))) (vs.zip bs) (fun p hp => ?_) ?_
  · simp [pairD, eRow, x_whole hi hj]
  · simp [List.all_map]
theorem x_rows {q r i j : Nat} (hf : ds[f]? = some ⟨4, 5, bRows q r⟩) (hr : ds[r]? = some ⟨2, 5, bRow q i⟩) (hq : ds[q]? = some ⟨3, 3, bSeq⟩) (hi : ds[i]? = some ⟨3, 3, bWhole j⟩) (hj : ds[j]? = some ⟨1, 1, bIsInt⟩) {α : Type} (g : α → List Int) (l : List α) (a b : Int) (bs : List (Int × Int)) (hb : bs.length ≤ 1000) (hg : ∀ x ∈ l, (g x).length = bs.length)
    (h1 : a ≤ l.length) (h2 : (l.length : Int) ≤ b) (h3 : l.length ≤ 100000) (hok : ∀ x ∈ l, ((g x).zip bs).all (fun p => decide (p.2.1 ≤ p.1) && decide (p.1 ≤ p.2.2)) = true) :
    rn.go (n + 4) f [.tup (l.map fun x => .tup ((g x).map .int)), .int a, .int b, .tup (bs.map pairD)] k = some (.bl true, k) := by
  refine run_wp hf rfl ?_
  simp [bRows, x_seq hq, h1, h2, lineOk_of (show l.length ≤ 16777216 by omega)]
  refine cm_map (fun x => D.tup ((g x).map .int)) (fun x => .bl true) l (fun x hx => ?_) ?_
  · simp [eRows, x_row hr hq hi hj (g x) bs (hg x hx) (by rw [hg x hx]; omega)]
    simpa using hok x hx
  · simp
theorem x_rising (hf : ds[f]? = some ⟨1, 2, bRising⟩) (l : List Int) (hl : l.length ≤ 100000) (h : ∀ i (_ : i + 1 < l.length), l[i] < l[i + 1]) : rn.go (n + 1) f [.lst (l.map .int)] k = some (.bl true, k) := by
  refine run_wp hf rfl ?_
  have h62 : rng62 (l.length : Int) = true := rng62_of (by omega) (by omega)
  simp [bRising, h62, show rng62 1 = true from rfl, rngL, lineOk_of (show l.length - 1 ≤ 16777216 by omega)]
  refine cm_map (fun t : Nat => D.int (1 + (t : Int))) (fun _ => .bl true) _ (fun t ht => ?_) ?_
  · have ht' : t + 1 < l.length := by simp at ht; omega
    have e1 : atI (l.map D.int) (t : Int) = some (.int l[t]) := by rw [atI_nat]; simp [List.getElem?_eq_getElem (show t < l.length by omega)]
    have e2 : atI (l.map D.int) (1 + (t : Int)) = some (.int l[t + 1]) := by
      rw [show (1 + (t : Int)) = ((t + 1 : Nat) : Int) by omega, atI_nat]
      simp [List.getElem?_eq_getElem ht']
    have e3 : (1 + (t : Int) - 1) = t := by omega
    simp [eRising, e3, e1, e2, h t ht']
  · simp
theorem x_anyFr {p i j q : Nat} (hf : ds[f]? = some ⟨1, 1, bAnyFr p i j⟩) (hp : ds[p]? = some ⟨1, 1, bPair q⟩) (hq : ds[q]? = some ⟨3, 3, bSeq⟩) (hi : ds[i]? = some ⟨1, 1, bIsInt⟩) (hj : ds[j]? = some ⟨2, 2, bWholeF i⟩) (x : Rat) : rn.go (n + 3) f [ofR x] k = some (.bl true, k) := by
  refine run_wp hf rfl ?_
  have h1 := x.den_pos
  have h2 := x.reduced
  unfold Nat.Coprime at h2
  simp [bAnyFr, ofR, fr, x_pair hp hq, x_int hi, x_wholeF hj hi, show (1 : Int) ≤ (x.den : Int) by omega, h2]
theorem x_frac {a i p m j q : Nat} (hf : ds[f]? = some ⟨1, 1, bFrac a m⟩) (ha : ds[a]? = some ⟨1, 1, bAnyFr p i j⟩) (hm : ds[m]? = some ⟨3, 3, bWhole i⟩) (hp : ds[p]? = some ⟨1, 1, bPair q⟩) (hq : ds[q]? = some ⟨3, 3, bSeq⟩) (hi : ds[i]? = some ⟨1, 1, bIsInt⟩) (hj : ds[j]? = some ⟨2, 2, bWholeF i⟩) (x : Rat) (h1 : -1000000 ≤ x.num) (h2 : x.num ≤ 1000000) (h3 : x.den ≤ 1000000) : rn.go (n + 4) f [ofR x] k = some (.bl true, k) := by
  refine run_wp hf rfl ?_
  simp [bFrac, x_anyFr ha hp hq hi hj]
  simp [ofR, fr, x_whole hm hi, h1, h2, show (x.den : Int) ≤ 1000000 by omega]
/-- data that stand as they are, so deep at most -/
inductive FZ : Nat → D → Prop
  | int {m : Nat} (i : Int) : FZ (m + 1) (.int i)
  | non {m : Nat} : FZ (m + 1) .non
  | bl {m : Nat} (b : Bool) : FZ (m + 1) (.bl b)
  | str {m : Nat} (s : Str) : FZ (m + 1) (.str s)
  | tup {m : Nat} {es : List D} (hl : es.length ≤ 16777216) (h : ∀ d ∈ es, FZ m d) : FZ (m + 1) (.tup es)
theorem x_frozen (hf : ds[f]? = some ⟨1, 2, bFrozen f⟩) : ∀ {m : Nat} {d : D}, FZ m d → ∀ {n : Nat} {k : Ky}, rn.go (n + m) f [d] k = some (d, k) := by
  intro m d h
  induction h with
  | @int m i => intro n k; refine run_wp (n := n + m) hf rfl ?_; simp [bFrozen]
  | @non m => intro n k; refine run_wp (n := n + m) hf rfl ?_; simp [bFrozen]
  | @bl m i => intro n k; refine run_wp (n := n + m) hf rfl ?_; simp [bFrozen]
  | @str m i => intro n k; refine run_wp (n := n + m) hf rfl ?_; simp [bFrozen]
  | @tup m es hl h ih =>
    intro n k
    refine run_wp (n := n + m) hf rfl ?_
    simp [bFrozen, lineOk_of hl]
    refine cm_D (fun x => x) es (fun a ha => ?_) ?_
    · simp [eFrozen, ih a ha]
    · simp
theorem FZ.up {m : Nat} {d : D} (h : FZ m d) : FZ (m + 1) d := by
  induction h with
  | int i => exact .int i
  | non => exact .non
  | bl b => exact .bl b
  | str s => exact .str s
  | tup hl h ih => exact .tup hl ih
theorem FZ.fr {m : Nat} (x : Rat) : FZ (m + 2) (ofR x) := .tup (by simp) (by
  intro d hd
  simp at hd
  rcases hd with rfl | rfl
  · exact .int _
  · exact .int _)
theorem FZ.pair {m : Nat} (p : Int × Int) : FZ (m + 2) (pairD p) := .tup (by simp) (by
  intro d hd
  simp at hd
  rcases hd with rfl | rfl
  · exact .int _
  · exact .int _)
theorem FZ.map {m : Nat} {α : Type} {g : α → D} {l : List α} (hl : l.length ≤ 16777216) (h : ∀ a ∈ l, FZ m (g a)) : FZ (m + 1) (.tup (l.map g)) := .tup (by simpa using hl) (by
  intro d hd
  obtain ⟨a, ha, rfl⟩ := List.mem_map.mp hd
  exact h a ha)
theorem x_wholes {q i j : Nat} (hf : ds[f]? = some ⟨5, 6, bWholes q i⟩) (hq : ds[q]? = some ⟨3, 3, bSeq⟩) (hi : ds[i]? = some ⟨3, 3, bWhole j⟩) (hj : ds[j]? = some ⟨1, 1, bIsInt⟩) (l : List Int) (a b lo hi' : Int) (h1 : a ≤ l.length) (h2 : (l.length : Int) ≤ b) (h3 : l.length ≤ 100000) (hok : ∀ x ∈ l, lo ≤ x ∧ x ≤ hi') :
    rn.go (n + 3) f [.tup (l.map .int), .int a, .int b, .int lo, .int hi'] k = some (.bl true, k) := by
  refine run_wp hf rfl ?_
  simp [bWholes, x_seq hq, h1, h2, lineOk_of (show l.length ≤ 16777216 by omega)]
  refine cm_map (fun x => D.int x) (fun _ => .bl true) l (fun x hx => ?_) ?_
  · simp [eWholes, x_whole hi hj, hok x hx]
  · simp
theorem x_wholesL {q i j : Nat} (hf : ds[f]? = some ⟨5, 6, bWholes q i⟩) (hq : ds[q]? = some ⟨3, 3, bSeq⟩) (hi : ds[i]? = some ⟨3, 3, bWhole j⟩) (hj : ds[j]? = some ⟨1, 1, bIsInt⟩) (l : List Int) (a b lo hi' : Int) (h1 : a ≤ l.length) (h2 : (l.length : Int) ≤ b) (h3 : l.length ≤ 100000) (hok : ∀ x ∈ l, lo ≤ x ∧ x ≤ hi') :
    rn.go (n + 3) f [.lst (l.map .int), .int a, .int b, .int lo, .int hi'] k = some (.bl true, k) := by
  refine run_wp hf rfl ?_
  simp [bWholes, x_seqL hq, h1, h2, lineOk_of (show l.length ≤ 16777216 by omega)]
  refine cm_map (fun x => D.int x) (fun _ => .bl true) l (fun x hx => ?_) ?_
  · simp [eWholes, x_whole hi hj, hok x hx]
  · simp
/-! _law_so of equal data -/
theorem x_so (hf : ds[f]? = some ⟨2, 3, bSo f⟩) : ∀ {m : Nat} {d : D}, FZ m d → ∀ {n : Nat} {k : Ky}, rn.go (n + m) f [d, d] k = some (.bl true, k) := by
  intro m d h
  induction h with
  | @int m i => intro n k; refine run_wp (n := n + m) hf rfl ?_; simp [bSo]
  | @non m => intro n k; refine run_wp (n := n + m) hf rfl ?_; simp [bSo]
  | @bl m i => intro n k; refine run_wp (n := n + m) hf rfl ?_; simp [bSo]
  | @str m i => intro n k; refine run_wp (n := n + m) hf rfl ?_; simp [bSo]
  | @tup m es hl h ih =>
    intro n k
    refine run_wp (n := n + m) hf rfl ?_
    have h62 : rng62 (es.length : Int) = true := rng62_of (by omega) (by omega)
    simp [bSo, h62]
    refine fr_rng 0 es.length (fun i s => ∃ x, s = ⟨[some (.tup es), some (.tup es), x], [], k⟩) _ _ ⟨none, rfl⟩ ?_ ?_
    · rintro i _ hi ⟨x, rfl⟩
      have e1 : atI es (0 + (i : Int)) = some es[i] := by rw [Int.zero_add, atI_nat, List.getElem?_eq_getElem hi]
      have e2 := ih es[i] (List.getElem_mem hi) (n := n) (k := k)
      rw [Int.zero_add] at e1
      simp [bSoL, e1, e2]
      exact ⟨⟨_, rfl⟩⟩
    · rintro _ ⟨x, rfl⟩
      simp
/-! fractions -/
theorem x_reduced (hf : ds[f]? = some ⟨2, 3, bReduced⟩) : RedOk rn 1 f := by
  intro n k a d h hd
  rw [← rdc_norm]
  refine run_wp hf rfl ?_
  have h1 : ¬ (d : Int) < 0 := by omega
  have hgp : 0 < Nat.gcd a.natAbs d := Nat.gcd_pos_of_pos_right _ (by omega)
  have hgl : Nat.gcd a.natAbs d ≤ d := Nat.gcd_le_right _ (by omega)
  have h3 : divOk ((Nat.gcd a.natAbs d : Nat) : Int) = true := divOk_huge (by omega) (Nat.lt_of_le_of_lt (by rw [Int.natAbs_natCast]; exact hgl) hd)
  simp [bReduced, h1, h3, rdc, fr]
theorem x_fwhole (hf : ds[f]? = some ⟨1, 1, bFw⟩) (v : Int) : rn.go (n + 1) f [.int v] k = some (ofR v, k) := by
  refine run_wp hf rfl ?_
  simp [bFw, ofR, fr]
theorem x_atmost (hf : ds[f]? = some ⟨2, 2, bAtMost⟩) (x y : Rat) (hx : sm x) (hy : sm y) : rn.go (n + 1) f [ofR x, ofR y] k = some (.bl (decide (x ≤ y)), k) := by
  refine run_wp hf rfl ?_
  have e : decide (x ≤ y) = decide (x.num * (y.den : Int) ≤ y.num * (x.den : Int)) := decide_eq_decide.mpr (Rat.le_iff x y)
  simp [bAtMost, ofR, fr, (sm_mul hx hy).1, (sm_mul hy hx).1, e]
theorem x_fmin {l : Nat} (hf : ds[f]? = some ⟨2, 2, bFmin l⟩) (hl : ds[l]? = some ⟨2, 2, bLess⟩) (x y : Rat) (hx : sm x) (hy : sm y) : rn.go (n + 2) f [ofR x, ofR y] k = some (ofR (if y < x then y else x), k) := by
  refine run_wp hf rfl ?_
  simp [bFmin, less_ok hl y x hy hx]
  split <;> simp
theorem x_fmax {l : Nat} (hf : ds[f]? = some ⟨2, 2, bFmax l⟩) (hl : ds[l]? = some ⟨2, 2, bLess⟩) (x y : Rat) (hx : sm x) (hy : sm y) : rn.go (n + 2) f [ofR x, ofR y] k = some (ofR (if x < y then y else x), k) := by
  refine run_wp hf rfl ?_
  simp [bFmax, less_ok hl x y hx hy]
  split <;> simp
/-- no list within a fraction -/
@[simp] theorem noL_ofR (x : Rat) : noL (ofR x) = true := rfl
@[simp] theorem noL_pairD (x : Int × Int) : noL (pairD x) = true := rfl
@[simp] theorem isNon_ofR (x : Rat) : isNonD (ofR x) = false := rfl
/-! ### small fractions -/
theorem sm_int {i : Int} (h1 : -18446744073709551616 < i) (h2 : i < 18446744073709551616) : sm (i : Rat) := by
  have := sm_64
  exact ⟨by rw [Rat.num_intCast]; omega, by rw [Rat.den_intCast]; omega⟩
end
end Mini
namespace Mini
open PySem PySem.Spec PyProof.Rows L2
/-! ### fractions: quotients, sizes -/
theorem normalize_div (a : Int) (d : Nat) (h : d ≠ 0) : Rat.normalize a d h = (a : Rat) / (d : Rat) := by
  rw [Rat.normalize_eq_mkRat, Rat.mkRat_eq_div]
/-- a def that takes n, d ≠ 0 to lowest terms -/
def RdcOk (rn : Rn) (m r : Nat) : Prop := ∀ (n : Nat) (k : Ky) (a d : Int), d ≠ 0 → d.natAbs < HUGE → rn.go (n + m) r [.int a, .int d] k = some (ofR ((a : Rat) / (d : Rat)), k)
theorem div_neg_neg (a d : Int) : ((-a : Int) : Rat) / ((-d : Int) : Rat) = (a : Rat) / (d : Rat) := by
  rw [← Rat.divInt_eq_div, ← Rat.divInt_eq_div, Rat.neg_divInt_neg]
theorem rdc_law {rn : Rn} {ds : List Def} [Runs rn ds] {f g : Nat} (hf : ds[f]? = some ⟨2, 3, bRed f g⟩) (hg : ds[g]? = some ⟨2, 6, bGcd⟩) : RdcOk rn 3 f := by
  intro n k a d h h1
  by_cases hp : 0 < d
  · have e := red_ok hf hg (n + 1) k a d.toNat (by omega) (by rw [show d.toNat = d.natAbs by omega]; exact h1) (rn := rn)
    have ed : ((d.toNat : Nat) : Int) = d := by omega
    rw [ed, normalize_div] at e
    rw [show n + 3 = n + 1 + 2 by omega, e]
    have : ((d.toNat : Nat) : Rat) = (d : Rat) := by rw [← Rat.intCast_natCast, ed]
    rw [this]
  · have e := red_neg (rn := rn) (n := n) (k := k) hf hg a d (by omega) h1
    have ed : (((-d).toNat : Nat) : Int) = -d := by omega
    have e2 := rdc_norm (-a) (-d).toNat (by omega)
    rw [ed, normalize_div] at e2
    rw [e, e2]
    have : (((-d).toNat : Nat) : Rat) = ((-d : Int) : Rat) := by rw [← Rat.intCast_natCast, ed]
    rw [this, div_neg_neg]
theorem rdc_prog {rn : Rn} {ds : List Def} [Runs rn ds] {f : Nat} (hf : ds[f]? = some ⟨2, 3, bReduced⟩) : RdcOk rn 1 f := by
  intro n k a d h h1
  by_cases hp : 0 < d
  · have e := x_reduced hf n k a d.toNat (by omega) (by rw [show d.toNat = d.natAbs by omega]; exact h1) (rn := rn)
    have ed : ((d.toNat : Nat) : Int) = d := by omega
    rw [ed, normalize_div] at e
    rw [e]
    have : ((d.toNat : Nat) : Rat) = (d : Rat) := by rw [← Rat.intCast_natCast, ed]
    rw [this]
  · refine run_wp hf rfl ?_
    have hd : d < 0 := by omega
    have hgp : 0 < Nat.gcd a.natAbs d.natAbs := Nat.gcd_pos_of_pos_right _ (by omega)
    have hgl : Nat.gcd a.natAbs d.natAbs ≤ d.natAbs := Nat.gcd_le_right _ (by omega)
    have h3 : divOk ((Nat.gcd a.natAbs d.natAbs : Nat) : Int) = true := divOk_huge (by omega) (Nat.lt_of_le_of_lt (by rw [Int.natAbs_natCast]; exact hgl) h1)
    have ed : (((-d).toNat : Nat) : Int) = -d := by omega
    have e2 := rdc_norm (-a) (-d).toNat (by omega)
    rw [ed, normalize_div] at e2
    have e3 : (((-d).toNat : Nat) : Rat) = ((-d : Int) : Rat) := by rw [← Rat.intCast_natCast, ed]
    rw [e3, div_neg_neg] at e2
    rw [← e2]
    simp [bReduced, hd, h3, rdc, fr]
theorem div_den_dvd (a b : Int) (hb : b ≠ 0) : ((a : Rat) / (b : Rat)).den ∣ b.natAbs := by
  rw [← Rat.divInt_eq_div, Rat.den_divInt, if_neg hb]
  refine Nat.div_dvd_of_dvd ?_
  have := Int.gcd_dvd_left (a := b) (b := a)
  exact Int.ofNat_dvd_left.mp this
theorem add_den_dvd (x y : Rat) : (x + y).den ∣ x.den * y.den := by
  rw [Rat.den_add]
  exact Nat.div_dvd_of_dvd (Nat.gcd_dvd_right _ _)
theorem mul_den_dvd (x y : Rat) : (x * y).den ∣ x.den * y.den := by
  rw [Rat.den_mul]
  exact Nat.div_dvd_of_dvd (Nat.gcd_dvd_right _ _)
theorem sub_den_dvd (x y : Rat) : (x - y).den ∣ x.den * y.den := by
  have := add_den_dvd x (-y)
  rwa [← Rat.sub_eq_add_neg, Rat.neg_den] at this
theorem den_le {x : Rat} {m : Nat} (h : x.den ∣ m) (hm : 0 < m) : x.den ≤ m := Nat.le_of_dvd hm h
/-- bounded: value and denominator -/
structure Bd (A : Int) (M : Nat) (x : Rat) : Prop where
  lo : -(A : Rat) ≤ x
  hi : x ≤ (A : Int)
  den : x.den ≤ M
theorem Bd.num {A : Int} {M : Nat} {x : Rat} (h : Bd A M x) (hA : 0 ≤ A) : -(A * M) ≤ x.num ∧ x.num ≤ A * M := by
  have h1 := (Rat.le_iff _ _).mp h.hi
  have h2 := (Rat.le_iff _ _).mp (by rw [Rat.intCast_neg]; exact h.lo : ((-A : Int) : Rat) ≤ x)
  simp only [Rat.num_intCast, Rat.den_intCast] at h1 h2
  have h3 : (x.den : Int) ≤ M := by have := h.den; omega
  have h4 : A * (x.den : Int) ≤ A * M := Int.mul_le_mul_of_nonneg_left h3 hA
  have h5 : -A * (x.den : Int) = -(A * x.den) := by rw [Int.neg_mul]
  omega
theorem Bd.sm {A : Int} {M : Nat} {x : Rat} (h : Bd A M x) (hA : 0 ≤ A) (h1 : A * M < 18446744073709551616) (h2 : M < 18446744073709551616) : sm x := by
  have := h.num hA
  have := h.den
  have := sm_64
  exact ⟨by omega, by omega⟩
theorem Bd.mono {A A' : Int} {M M' : Nat} {x : Rat} (h : Bd A M x) (h1 : A ≤ A') (h2 : M ≤ M') : Bd A' M' x := by
  have a1 := Rat.intCast_le_intCast.mpr h1
  exact ⟨by have := h.lo; grind, Rat.le_trans h.hi a1, Nat.le_trans h.den h2⟩
theorem Bd.add {A B : Int} {M N : Nat} {x y : Rat} (h : Bd A M x) (g : Bd B N y) : Bd (A + B) (M * N) (x + y) := by
  refine ⟨?_, ?_, ?_⟩
  · have := h.lo; have := g.lo
    rw [Rat.intCast_add]
    grind
  · have := h.hi; have := g.hi
    rw [Rat.intCast_add]
    grind
  · exact Nat.le_trans (den_le (add_den_dvd x y) (Nat.mul_pos x.den_pos y.den_pos)) (Nat.mul_le_mul h.den g.den)
theorem Bd.neg {A : Int} {M : Nat} {x : Rat} (h : Bd A M x) : Bd A M (-x) := by
  refine ⟨?_, ?_, by rw [Rat.neg_den]; exact h.den⟩
  · have := h.hi
    grind
  · have := h.lo
    grind
theorem Bd.sub {A B : Int} {M N : Nat} {x y : Rat} (h : Bd A M x) (g : Bd B N y) : Bd (A + B) (M * N) (x - y) := by
  rw [Rat.sub_eq_add_neg]
  exact h.add g.neg
theorem Bd.int {A : Int} {i : Int} (h1 : -A ≤ i) (h2 : i ≤ A) : Bd A 1 (i : Rat) :=
  ⟨by rw [← Rat.intCast_neg]; exact Rat.intCast_le_intCast.mpr h1, Rat.intCast_le_intCast.mpr h2, by rw [Rat.den_intCast]; exact Nat.le_refl _⟩
theorem ofR_inj {x y : Rat} (h : ofR x = ofR y) : x = y := by
  simp only [ofR, fr, D.tup.injEq, List.cons.injEq, D.int.injEq, and_true] at h
  exact Rat.ext h.1 (by omega)
theorem ofR_ne {x y : Rat} (h : x ≠ y) : ofR x ≠ ofR y := fun e => h (ofR_inj e)
theorem eqD_ofR (x y : Rat) : eqD (ofR x) (ofR y) = some (decide (x = y)) := by
  have h1 : (ofR x).fine 60 = true := rfl
  have h2 : (ofR y).fine 60 = true := rfl
  have : eqD (ofR x) (ofR y) = some (PyData.eqv (ofR x).py (ofR y).py) := by
    show (if (ofR x).fine 60 && (ofR y).fine 60 then some (PyData.eqv (ofR x).py (ofR y).py) else none) = _
    rw [h1, h2]; rfl
  rw [this]
  congr 1
  have e : PyData.eqv (ofR x).py (ofR y).py = ((x.num == y.num) && (((x.den : Int) == (y.den : Int)) && true)) := rfl
  rw [e]
  by_cases h : x = y
  · subst h; simp
  · have : ¬ (x.num = y.num ∧ (x.den : Int) = y.den) := fun ⟨a, b⟩ => h (Rat.ext a (by omega))
    simp [h]
    intro a b
    exact this ⟨a, by omega⟩
end Mini
namespace Mini.Win
/-! ### a line through knots, and where it is high -/
abbrev Kn := Int × Int
abbrev Sp := Rat × Rat
def hgt (a b : Kn) (x : Rat) : Rat := (a.2 : Rat) + (x - (a.1 : Rat)) * (((b.2 - a.2 : Int) : Rat) / ((b.1 - a.1 : Int) : Rat))
def crossR (a b : Kn) (c : Int) : Rat := (a.1 : Rat) + (((c - a.2) * (b.1 - a.1) : Int) : Rat) / ((b.2 - a.2 : Int) : Rat)
def partOf (a b : Kn) (c : Int) : Option Sp := if a.2 < c ∧ b.2 < c then none else some (if a.2 < c then crossR a b c else (a.1 : Rat), if b.2 < c then crossR a b c else (b.1 : Rat))
def push (S : List Sp) (o : Option Sp) : List Sp := match o with
  | none => S
  | some p => match S.getLast? with
    | some q => if q.2 = p.1 then S.dropLast ++ [(q.1, p.2)] else S ++ [p]
    | none => S ++ [p]
def spansTo (kn : Nat → Kn) (c : Int) : Nat → List Sp
  | 0 => []
  | i + 1 => push (spansTo kn c i) (partOf (kn i) (kn (i + 1)) c)
theorem push_none (S : List Sp) : push S none = S := rfl
theorem push_nil (p : Sp) : push [] (some p) = [p] := rfl
theorem push_cat (S : List Sp) (q p : Sp) : push (S ++ [q]) (some p) = if q.2 = p.1 then S ++ [(q.1, p.2)] else S ++ [q] ++ [p] := by
  simp [push]
theorem mul_div_eq {a b : Rat} (hb : b ≠ 0) : a / b * b = a := Rat.div_mul_cancel hb
theorem cast_pos {i : Int} (h : 0 < i) : (0 : Rat) < (i : Rat) := Rat.intCast_pos.mpr h
theorem cast_lt {i j : Int} (h : i < j) : (i : Rat) < (j : Rat) := Rat.intCast_lt_intCast.mpr h
theorem cast_le {i j : Int} (h : i ≤ j) : (i : Rat) ≤ (j : Rat) := Rat.intCast_le_intCast.mpr h
theorem le_div {a b x : Rat} (hb : 0 < b) : a / b ≤ x ↔ a ≤ x * b := by
  rw [← Rat.not_lt, ← Rat.not_lt, Rat.lt_div_iff hb]
theorem div_le {a b x : Rat} (hb : 0 < b) : x ≤ a / b ↔ x * b ≤ a := by
  rw [← Rat.not_lt, ← Rat.not_lt, Rat.div_lt_iff hb]
/-- the height, without a quotient -/
theorem hgt_ge {a b : Kn} (h : a.1 < b.1) (c : Int) (x : Rat) : (c : Rat) ≤ hgt a b x ↔ ((c : Rat) - a.2) * ((b.1 : Rat) - a.1) ≤ (x - a.1) * ((b.2 : Rat) - a.2) := by
  have hd : (0 : Rat) < (b.1 : Rat) - a.1 := by have := cast_lt h; grind
  have hd' : (b.1 : Rat) - a.1 ≠ 0 := by grind
  unfold hgt
  rw [Rat.intCast_sub, Rat.intCast_sub]
  have e : (x - (a.1 : Rat)) * (((b.2 : Rat) - a.2) / ((b.1 : Rat) - a.1)) * ((b.1 : Rat) - a.1) = (x - a.1) * ((b.2 : Rat) - a.2) := by
    rw [Rat.mul_assoc, mul_div_eq hd']
  generalize (x - (a.1 : Rat)) * (((b.2 : Rat) - a.2) / ((b.1 : Rat) - a.1)) = y at e ⊢
  rw [← e]
  constructor
  · intro hy
    exact Rat.mul_le_mul_of_nonneg_right (by grind) (by grind)
  · intro hy
    have := Rat.le_of_mul_le_mul_right hy hd
    grind
theorem cross_up {a b : Kn} {c : Int} (h : a.2 < b.2) (x : Rat) : crossR a b c ≤ x ↔ ((c : Rat) - a.2) * ((b.1 : Rat) - a.1) ≤ (x - a.1) * ((b.2 : Rat) - a.2) := by
  have hd : (0 : Rat) < (b.2 : Rat) - a.2 := by have := cast_lt h; grind
  unfold crossR
  rw [Rat.intCast_mul, Rat.intCast_sub, Rat.intCast_sub, Rat.intCast_sub]
  have := le_div (a := ((c : Rat) - a.2) * ((b.1 : Rat) - a.1)) (x := x - a.1) hd
  rw [← this]
  constructor <;> intro h <;> grind
theorem cross_dn {a b : Kn} {c : Int} (h : b.2 < a.2) (x : Rat) : x ≤ crossR a b c ↔ ((c : Rat) - a.2) * ((b.1 : Rat) - a.1) ≤ (x - a.1) * ((b.2 : Rat) - a.2) := by
  have hd : (0 : Rat) < (a.2 : Rat) - b.2 := by have := cast_lt h; grind
  unfold crossR
  rw [← div_neg_neg, Rat.intCast_neg, Rat.intCast_neg, Rat.intCast_mul, Rat.intCast_sub, Rat.intCast_sub, Rat.intCast_sub]
  have := div_le (a := -(((c : Rat) - a.2) * ((b.1 : Rat) - a.1))) (x := x - a.1) hd
  have e : -((b.2 : Rat) - a.2) = (a.2 : Rat) - b.2 := by grind
  rw [e]
  have e2 : (((c : Rat) - a.2) * ((b.1 : Rat) - a.1) ≤ (x - a.1) * ((b.2 : Rat) - a.2)) ↔ ((x - a.1) * ((a.2 : Rat) - b.2) ≤ -(((c : Rat) - a.2) * ((b.1 : Rat) - a.1))) := by
    constructor <;> intro h <;> grind
  rw [e2, ← this]
  constructor <;> intro h <;> grind
/-- all that is to be known of a part -/
theorem part_none {a b : Kn} {c : Int} (hab : a.1 < b.1) (h : partOf a b c = none) : a.2 < c ∧ b.2 < c ∧ ∀ x : Rat, (a.1 : Rat) ≤ x → x ≤ (b.1 : Rat) → ¬ (c : Rat) ≤ hgt a b x := by
  unfold partOf at h
  split at h
  · rename_i hc
    refine ⟨hc.1, hc.2, fun x h1 h2 h3 => ?_⟩
    rw [hgt_ge hab] at h3
    have p1 := cast_lt hc.1
    have p2 := cast_lt hc.2
    have p3 := cast_lt hab
    have q1 : 0 ≤ ((c : Rat) - a.2) * ((b.1 : Rat) - x) := Rat.mul_nonneg (by grind) (by grind)
    have q2 : 0 ≤ ((c : Rat) - b.2) * (x - a.1) := Rat.mul_nonneg (by grind) (by grind)
    -- the sum of both is positive
    have e : ((c : Rat) - a.2) * ((b.1 : Rat) - a.1) - (x - a.1) * ((b.2 : Rat) - a.2) = ((c : Rat) - a.2) * ((b.1 : Rat) - x) + ((c : Rat) - b.2) * (x - a.1) := by grind
    by_cases hx : x = b.1
    · have : 0 < ((c : Rat) - b.2) * (x - a.1) := Rat.mul_pos (by grind) (by grind)
      grind
    · have : 0 < ((c : Rat) - a.2) * ((b.1 : Rat) - x) := Rat.mul_pos (by grind) (by grind)
      grind
  · cases h
structure PartOk (a b : Kn) (c : Int) (p : Sp) : Prop where
  l1 : (a.1 : Rat) ≤ p.1
  l2 : p.1 ≤ p.2
  l3 : p.2 ≤ (b.1 : Rat)
  lo : c ≤ a.2 ↔ p.1 = (a.1 : Rat)
  hi : c ≤ b.2 ↔ p.2 = (b.1 : Rat)
  cov : ∀ x : Rat, (a.1 : Rat) ≤ x → x ≤ (b.1 : Rat) → ((c : Rat) ≤ hgt a b x ↔ p.1 ≤ x ∧ x ≤ p.2)
theorem part_some {a b : Kn} {c : Int} {p : Sp} (hab : a.1 < b.1) (h : partOf a b c = some p) : PartOk a b c p := by
  have p3 := cast_lt hab
  have d0 : (0 : Rat) < (b.1 : Rat) - a.1 := by grind
  unfold partOf at h
  split at h
  · cases h
  rename_i hc
  simp only [Option.some.injEq] at h
  subst h
  by_cases h1 : a.2 < c
  · have h2 : ¬ b.2 < c := fun h2 => hc ⟨h1, h2⟩
    simp only [h1, h2, if_true, if_false]
    have up : a.2 < b.2 := by omega
    have k1 := cast_lt h1
    have k2 : (c : Rat) ≤ b.2 := cast_le (by omega)
    have k3 := cast_lt up
    have c1 : (a.1 : Rat) < crossR a b c := by
      rw [← Rat.not_le, cross_up up]
      have : 0 < ((c : Rat) - a.2) * ((b.1 : Rat) - a.1) := Rat.mul_pos (by grind) d0
      grind
    have c2 : crossR a b c ≤ (b.1 : Rat) := by
      rw [cross_up up]
      have : ((c : Rat) - a.2) * ((b.1 : Rat) - a.1) ≤ ((b.2 : Rat) - a.2) * ((b.1 : Rat) - a.1) := Rat.mul_le_mul_of_nonneg_right (by grind) (by grind)
      grind
    refine ⟨Rat.le_of_lt c1, c2, Rat.le_refl, ⟨fun h => by omega, fun h => ?_⟩, ⟨fun _ => rfl, fun _ => by omega⟩, fun x h1 h2 => ?_⟩
    · simp only at h; rw [h] at c1; exact (Rat.lt_irrefl c1).elim
    · rw [hgt_ge hab, ← cross_up up]
      exact ⟨fun h => ⟨h, h2⟩, fun h => h.1⟩
  · by_cases h2 : b.2 < c
    · simp only [h1, h2, if_true, if_false]
      have dn : b.2 < a.2 := by omega
      have k1 : (c : Rat) ≤ a.2 := cast_le (by omega)
      have k2 := cast_lt h2
      have k3 := cast_lt dn
      have c1 : (a.1 : Rat) ≤ crossR a b c := by
        rw [cross_dn dn]
        have : 0 ≤ ((a.2 : Rat) - c) * ((b.1 : Rat) - a.1) := Rat.mul_nonneg (by grind) (by grind)
        grind
      have c2 : crossR a b c < (b.1 : Rat) := by
        rw [← Rat.not_le, cross_dn dn]
        have : 0 < ((c : Rat) - b.2) * ((b.1 : Rat) - a.1) := Rat.mul_pos (by grind) d0
        grind
      refine ⟨Rat.le_refl, c1, Rat.le_of_lt c2, ⟨fun _ => rfl, fun _ => by omega⟩, ⟨fun h => by omega, fun h => ?_⟩, fun x h1 h2 => ?_⟩
      · simp only at h; rw [h] at c2; exact (Rat.lt_irrefl c2).elim
      · rw [hgt_ge hab, ← cross_dn dn]
        exact ⟨fun h => ⟨h1, h⟩, fun h => h.2⟩
    · simp only [h1, h2, if_false]
      have k1 : (c : Rat) ≤ a.2 := cast_le (by omega)
      have k2 : (c : Rat) ≤ b.2 := cast_le (by omega)
      refine ⟨Rat.le_refl, Rat.le_of_lt p3, Rat.le_refl, ⟨fun _ => rfl, fun _ => by omega⟩, ⟨fun _ => rfl, fun _ => by omega⟩, fun x h1 h2 => ⟨fun _ => ⟨h1, h2⟩, fun _ => ?_⟩⟩
      rw [hgt_ge hab]
      have q1 : 0 ≤ ((a.2 : Rat) - c) * ((b.1 : Rat) - x) := Rat.mul_nonneg (by grind) (by grind)
      have q2 : 0 ≤ ((b.2 : Rat) - c) * (x - a.1) := Rat.mul_nonneg (by grind) (by grind)
      have e : (x - a.1) * ((b.2 : Rat) - a.2) - ((c : Rat) - a.2) * ((b.1 : Rat) - a.1) = ((a.2 : Rat) - c) * ((b.1 : Rat) - x) + ((b.2 : Rat) - c) * (x - a.1) := by grind
      grind
structure Inv (kn : Nat → Kn) (c : Int) (i : Nat) (S : List Sp) : Prop where
  rng : ∀ s ∈ S, s.1 ≤ s.2 ∧ ((kn 0).1 : Rat) ≤ s.1 ∧ s.2 ≤ ((kn i).1 : Rat)
  dis : S.Pairwise fun s t => s.2 < t.1
  cov : ∀ j, j < i → ∀ x : Rat, ((kn j).1 : Rat) ≤ x → x ≤ ((kn (j + 1)).1 : Rat) → ((c : Rat) ≤ hgt (kn j) (kn (j + 1)) x ↔ ∃ s ∈ S, s.1 ≤ x ∧ x ≤ s.2)
  top : 0 < i → (c ≤ (kn i).2 ↔ ∃ s ∈ S, s.2 = ((kn i).1 : Rat))
  e0 : i = 0 → S = []
theorem mono_kn {kn : Nat → Kn} {n : Nat} (hm : ∀ j, j < n → (kn j).1 < (kn (j + 1)).1) : ∀ (i j : Nat), i ≤ j → j ≤ n → ((kn i).1 : Rat) ≤ ((kn j).1 : Rat) := by
  intro i j hij hj
  refine cast_le ?_
  induction j with
  | zero => have : i = 0 := by omega
            subst this; exact Int.le_refl _
  | succ j ih =>
    by_cases h : i = j + 1
    · subst h; exact Int.le_refl _
    · have := ih (by omega) (by omega)
      have := hm j (by omega)
      omega
theorem inv_all {kn : Nat → Kn} {n : Nat} {c : Int} (hm : ∀ j, j < n → (kn j).1 < (kn (j + 1)).1) : ∀ i, i ≤ n → Inv kn c i (spansTo kn c i) := by
  intro i
  induction i with
  | zero =>
    intro _
    exact ⟨fun s h => by simp [spansTo] at h, List.Pairwise.nil, fun j h => by omega, fun h => by omega, fun _ => rfl⟩
  | succ i ih =>
    intro hi
    have I := ih (by omega)
    have hlt := hm i (by omega)
    have hltR := cast_lt hlt
    have m0 := mono_kn hm 0 i (by omega) (by omega)
    simp only [spansTo]
    generalize spansTo kn c i = S at I ⊢
    have top : ∀ s ∈ S, s.2 = ((kn i).1 : Rat) → c ≤ (kn i).2 := by
      intro s hs h
      by_cases h0 : 0 < i
      · exact (I.top h0).mpr ⟨s, hs, h⟩
      · rw [I.e0 (by omega)] at hs; cases hs
    cases hp : partOf (kn i) (kn (i + 1)) c with
    | none =>
      obtain ⟨a1, a2, a3⟩ := part_none hlt hp
      rw [push_none]
      have lo : ∀ s ∈ S, s.2 < ((kn i).1 : Rat) := by
        intro s hs
        rw [← Rat.not_le]
        intro h
        have := top s hs (Rat.le_antisymm (I.rng s hs).2.2 h)
        omega
      refine ⟨fun s hs => ?_, I.dis, fun j hj x h1 h2 => ?_, fun _ => ⟨fun h => by omega, fun ⟨s, hs, h⟩ => ?_⟩, fun h => by omega⟩
      · have := I.rng s hs
        exact ⟨this.1, this.2.1, by grind⟩
      · by_cases hji : j = i
        · subst hji
          refine ⟨fun h => (a3 x h1 h2 h).elim, fun ⟨s, hs, h3, h4⟩ => ?_⟩
          have := lo s hs
          grind
        · exact I.cov j (by omega) x h1 h2
      · have := lo s hs
        grind
    | some p =>
      have P := part_some hlt hp
      have P1 := P.l1
      have P2 := P.l2
      have P3 := P.l3
      rcases List.eq_nil_or_concat S with rfl | ⟨S0, q, rfl⟩
      · -- the first
        rw [push_nil]
        refine ⟨fun s hs => ?_, List.pairwise_singleton _ _, fun j hj x h1 h2 => ?_, fun _ => ⟨fun h => ⟨p, by simp, P.hi.mp h⟩, fun ⟨s, hs, h⟩ => ?_⟩, fun h => by omega⟩
        · simp only [List.mem_singleton] at hs
          subst hs
          exact ⟨P2, by grind, P3⟩
        · by_cases hji : j = i
          · subst hji
            rw [P.cov x h1 h2]
            exact ⟨fun h => ⟨p, by simp, h⟩, fun ⟨s, hs, h⟩ => by simp only [List.mem_singleton] at hs; subst hs; exact h⟩
          · have h0 := I.cov j (by omega) x h1 h2
            have hx : x ≤ ((kn i).1 : Rat) := Rat.le_trans h2 (mono_kn hm (j + 1) i (by omega) (by omega))
            refine ⟨fun h => (by obtain ⟨s, hs, _⟩ := h0.mp h; cases hs), fun ⟨s, hs, h3, h4⟩ => ?_⟩
            simp only [List.mem_singleton] at hs
            subst hs
            -- x is the knot: but there nothing ended
            have : c ≤ (kn i).2 := P.lo.mpr (Rat.le_antisymm (Rat.le_trans h3 hx) P1)
            obtain ⟨s', hs', _⟩ := (I.top (by omega)).mp this
            cases hs'
        · simp only [List.mem_singleton] at hs
          subst hs
          exact P.hi.mpr h
      · rw [List.concat_eq_append] at *
        rw [push_cat]
        have hq := I.rng q (by simp)
        have d0 := (List.pairwise_append.mp I.dis)
        have dq : ∀ s ∈ S0, s.2 < q.1 := fun s hs => d0.2.2 s hs q (by simp)
        by_cases hm2 : q.2 = p.1
        · rw [if_pos hm2]
          have e1 : q.2 = ((kn i).1 : Rat) := Rat.le_antisymm hq.2.2 (by rw [hm2]; exact P1)
          refine ⟨fun s hs => ?_, ?_, fun j hj x h1 h2 => ?_, fun _ => ⟨fun h => ⟨(q.1, p.2), by simp, P.hi.mp h⟩, fun ⟨s, hs, h⟩ => ?_⟩, fun h => by omega⟩
          · rcases List.mem_append.mp hs with hs | hs
            · have := I.rng s (by simp [hs])
              exact ⟨this.1, this.2.1, by grind⟩
            · simp only [List.mem_singleton] at hs
              subst hs
              exact ⟨by show q.1 ≤ p.2; grind, hq.2.1, P3⟩
          · rw [List.pairwise_append]
            refine ⟨d0.1, List.pairwise_singleton _ _, fun s hs t ht => ?_⟩
            simp only [List.mem_singleton] at ht
            subst ht
            exact dq s hs
          · by_cases hji : j = i
            · subst hji
              rw [P.cov x h1 h2]
              refine ⟨fun h => ⟨(q.1, p.2), by simp, by show q.1 ≤ x; grind, h.2⟩, fun ⟨s, hs, h3, h4⟩ => ?_⟩
              rcases List.mem_append.mp hs with hs | hs
              · have := dq s hs
                grind
              · simp only [List.mem_singleton] at hs
                subst hs
                exact ⟨by rw [← hm2, e1]; exact h1, h4⟩
            · rw [I.cov j (by omega) x h1 h2]
              have hx : x ≤ ((kn i).1 : Rat) := Rat.le_trans h2 (mono_kn hm (j + 1) i (by omega) (by omega))
              refine ⟨fun ⟨s, hs, h3, h4⟩ => ?_, fun ⟨s, hs, h3, h4⟩ => ?_⟩
              · rcases List.mem_append.mp hs with hs | hs
                · exact ⟨s, by simp [hs], h3, h4⟩
                · simp only [List.mem_singleton] at hs
                  subst hs
                  exact ⟨(s.1, p.2), by simp, h3, by show x ≤ p.2; grind⟩
              · rcases List.mem_append.mp hs with hs | hs
                · exact ⟨s, by simp [hs], h3, h4⟩
                · simp only [List.mem_singleton] at hs
                  subst hs
                  exact ⟨q, by simp, h3, by rw [e1]; exact hx⟩
          · rcases List.mem_append.mp hs with hs | hs
            · have := (I.rng s (by simp [hs])).2.2
              grind
            · simp only [List.mem_singleton] at hs
              subst hs
              exact P.hi.mpr h
        · rw [if_neg hm2]
          have lo : ∀ s ∈ S0 ++ [q], s.2 < p.1 := by
            intro s hs
            have r := (I.rng s hs).2.2
            rcases List.mem_append.mp hs with hs | hs
            · have := dq s hs
              grind
            · simp only [List.mem_singleton] at hs
              subst hs
              exact Rat.lt_of_le_of_ne (Rat.le_trans r P1) hm2
          have hi0 : 0 < i := by
            rcases Nat.eq_zero_or_pos i with h | h
            · have := I.e0 h; simp at this
            · exact h
          refine ⟨fun s hs => ?_, ?_, fun j hj x h1 h2 => ?_, fun _ => ⟨fun h => ⟨p, by simp, P.hi.mp h⟩, fun ⟨s, hs, h⟩ => ?_⟩, fun h => by omega⟩
          · rcases List.mem_append.mp hs with hs | hs
            · have := I.rng s hs
              exact ⟨this.1, this.2.1, by grind⟩
            · simp only [List.mem_singleton] at hs
              subst hs
              exact ⟨P2, by grind, P3⟩
          · rw [List.pairwise_append]
            refine ⟨I.dis, List.pairwise_singleton _ _, fun s hs t ht => ?_⟩
            simp only [List.mem_singleton] at ht
            subst ht
            exact lo s hs
          · by_cases hji : j = i
            · subst hji
              rw [P.cov x h1 h2]
              refine ⟨fun h => ⟨p, by simp, h⟩, fun ⟨s, hs, h3, h4⟩ => ?_⟩
              rcases List.mem_append.mp hs with hs | hs
              · have r := (I.rng s hs).2.2
                have e1 : s.2 = ((kn j).1 : Rat) := Rat.le_antisymm r (Rat.le_trans h1 h4)
                have e2 := P.lo.mp (top s hs e1)
                have := lo s hs
                grind
              · simp only [List.mem_singleton] at hs
                subst hs
                exact ⟨h3, h4⟩
            · rw [I.cov j (by omega) x h1 h2]
              have hx : x ≤ ((kn i).1 : Rat) := Rat.le_trans h2 (mono_kn hm (j + 1) i (by omega) (by omega))
              refine ⟨fun ⟨s, hs, h⟩ => ⟨s, by simp only [List.mem_append] at hs ⊢; exact .inl hs, h⟩, fun ⟨s, hs, h3, h4⟩ => ?_⟩
              rcases List.mem_append.mp hs with hs | hs
              · exact ⟨s, hs, h3, h4⟩
              · simp only [List.mem_singleton] at hs
                subst hs
                have e1 : s.1 = ((kn i).1 : Rat) := Rat.le_antisymm (Rat.le_trans h3 hx) P1
                obtain ⟨s', hs', h5⟩ := (I.top hi0).mp (P.lo.mpr e1)
                have := lo s' hs'
                grind
          · rcases List.mem_append.mp hs with hs | hs
            · have := (I.rng s hs).2.2
              grind
            · simp only [List.mem_singleton] at hs
              subst hs
              exact P.hi.mpr h
end Mini.Win
namespace Mini
open PySem PySem.Spec PyProof.Rows L2
/-! ### sizes by powers of two -/
structure pb (e : Nat) (x : Rat) : Prop where
  n : x.num.natAbs < 2 ^ e
  d : x.den < 2 ^ e
theorem pb.mono {e f : Nat} {x : Rat} (h : pb e x) (hf : e ≤ f) : pb f x := by
  have := Nat.pow_le_pow_right (n := 2) (by omega) hf
  exact ⟨Nat.lt_of_lt_of_le h.n this, Nat.lt_of_lt_of_le h.d this⟩
theorem pb.sm {e : Nat} {x : Rat} (h : pb e x) (he : e ≤ 2000) : sm x := by
  have := h.mono he
  exact ⟨this.n, this.d⟩
theorem natAbs_ediv_le (a b : Int) (hb : 0 ≤ b) : (a / b).natAbs ≤ a.natAbs + 0 ∨ b = 0 ∨ ¬ b ∣ a := by
  by_cases h0 : b = 0
  · exact .inr (.inl h0)
  · by_cases hd : b ∣ a
    · left
      obtain ⟨c, rfl⟩ := hd
      rw [Int.mul_ediv_cancel_left _ h0, Int.natAbs_mul]
      have : 1 ≤ b.natAbs := by omega
      have := Nat.mul_le_mul_right c.natAbs this
      omega
    · exact .inr (.inr hd)
theorem natAbs_div_dvd {a : Int} {g : Nat} (hg : g ≠ 0) (hd : (g : Int) ∣ a) : (a / (g : Int)).natAbs ≤ a.natAbs := by
  rcases natAbs_ediv_le a g (by omega) with h | h | h
  · omega
  · omega
  · exact (h hd).elim
theorem pb.norm {e : Nat} {a : Int} {d : Nat} (hd : d ≠ 0) (h1 : a.natAbs < 2 ^ e) (h2 : d < 2 ^ e) : pb e (Rat.normalize a d hd) := by
  have hg : Nat.gcd a.natAbs d ≠ 0 := Nat.pos_iff_ne_zero.mp (Nat.gcd_pos_of_pos_right _ (by omega))
  refine ⟨?_, ?_⟩
  · rw [Rat.num_normalize]
    refine Nat.lt_of_le_of_lt (natAbs_div_dvd hg ?_) h1
    exact Int.ofNat_dvd_left.mpr (Nat.gcd_dvd_left _ _)
  · rw [Rat.den_normalize]
    exact Nat.lt_of_le_of_lt (Nat.div_le_self _ _) h2
theorem pow_add_lt {a b c d e f : Nat} (h1 : a < 2 ^ e) (h2 : b < 2 ^ f) (h3 : c < 2 ^ f) (h4 : d < 2 ^ e) : a * b + c * d < 2 ^ (e + f + 1) := by
  have k1 : a * b < 2 ^ e * 2 ^ f := Nat.mul_lt_mul'' h1 h2
  have k2 : c * d < 2 ^ f * 2 ^ e := Nat.mul_lt_mul'' h3 h4
  rw [Nat.pow_succ, Nat.pow_add]
  have : (2 : Nat) ^ f * 2 ^ e = 2 ^ e * 2 ^ f := Nat.mul_comm _ _
  omega
theorem pb.add {e f : Nat} {x y : Rat} (h : pb e x) (g : pb f y) : pb (e + f + 1) (x + y) := by
  rw [Rat.add_def]
  have k1 : x.den * y.den < 2 ^ e * 2 ^ f := Nat.mul_lt_mul'' h.d g.d
  refine pb.norm _ ?_ ?_
  · refine Nat.lt_of_le_of_lt (Int.natAbs_add_le _ _) ?_
    rw [Int.natAbs_mul, Int.natAbs_mul, Int.natAbs_natCast, Int.natAbs_natCast]
    exact pow_add_lt h.n g.d g.n h.d
  · rw [Nat.pow_succ, Nat.pow_add]
    omega
theorem pb.neg {e : Nat} {x : Rat} (h : pb e x) : pb e (-x) := ⟨by rw [Rat.neg_num, Int.natAbs_neg]; exact h.n, by rw [Rat.neg_den]; exact h.d⟩
theorem pb.sub {e f : Nat} {x y : Rat} (h : pb e x) (g : pb f y) : pb (e + f + 1) (x - y) := by
  rw [Rat.sub_eq_add_neg]
  exact h.add g.neg
theorem pb.mul {e f : Nat} {x y : Rat} (h : pb e x) (g : pb f y) : pb (e + f) (x * y) := by
  rw [Rat.mul_def]
  refine pb.norm _ ?_ ?_
  · rw [Int.natAbs_mul, Nat.pow_add]
    exact Nat.mul_lt_mul'' h.n g.n
  · rw [Nat.pow_add]
    exact Nat.mul_lt_mul'' h.d g.d
theorem pb.int {e : Nat} {i : Int} (h : i.natAbs < 2 ^ e) (he : 1 ≤ e) : pb e (i : Rat) := by
  refine ⟨by rw [Rat.num_intCast]; exact h, ?_⟩
  rw [Rat.den_intCast]
  exact Nat.lt_of_lt_of_le (by decide : 1 < 2 ^ 1) (Nat.pow_le_pow_right (by omega) he)
theorem pb.div {e : Nat} {a d : Int} (h0 : d ≠ 0) (h1 : a.natAbs < 2 ^ e) (h2 : d.natAbs < 2 ^ e) : pb e ((a : Rat) / (d : Rat)) := by
  have key : ∀ (a : Int) (m : Nat), m ≠ 0 → a.natAbs < 2 ^ e → m < 2 ^ e → pb e ((a : Rat) / (m : Rat)) := by
    intro a m hm h1 h2
    rw [← normalize_div a m hm]
    exact pb.norm hm h1 h2
  by_cases hp : 0 < d
  · have e1 : ((d.toNat : Nat) : Rat) = (d : Rat) := by rw [← Rat.intCast_natCast]; congr 1; omega
    rw [← e1]
    exact key a d.toNat (by omega) h1 (by omega)
  · have e1 : (((-d).toNat : Nat) : Rat) = ((-d : Int) : Rat) := by rw [← Rat.intCast_natCast]; congr 1; omega
    rw [← div_neg_neg, ← e1]
    exact key (-a) (-d).toNat (by omega) (by omega) (by omega)
theorem frac_mul (y : Rat) (p q : Int) (hq : q ≠ 0) : ((y.num * p : Int) : Rat) / (((y.den : Int) * q : Int) : Rat) = y * ((p : Rat) / (q : Rat)) := by
  rw [← Rat.divInt_eq_div, ← Rat.divInt_eq_div]
  have := Rat.divInt_mul_divInt y.num p (d₁ := (y.den : Int)) (d₂ := q)
  rw [← this, Rat.num_divInt_den]
section
variable {k : Ky} {ρ : Rho}
@[simp] theorem ix_ofR0 (x : Rat) : idxSem k (ofR x) (.int 0) = some (.int x.num) := rfl
@[simp] theorem ix_ofR1 (x : Rat) : idxSem k (ofR x) (.int 1) = some (.int x.den) := rfl
@[simp] theorem ix_pair0 (p : Int × Int) : idxSem k (pairD p) (.int 0) = some (.int p.1) := rfl
@[simp] theorem ix_pair1 (p : Int × Int) : idxSem k (pairD p) (.int 1) = some (.int p.2) := rfl
def spR (p : Rat × Rat) : D := .tup [ofR p.1, ofR p.2]
@[simp] theorem ix_sp0 (p : Rat × Rat) : idxSem k (spR p) (.int 0) = some (ofR p.1) := rfl
@[simp] theorem ix_sp1 (p : Rat × Rat) : idxSem k (spR p) (.int 1) = some (ofR p.2) := rfl
@[simp] theorem noL_spR (p : Rat × Rat) : noL (spR p) = true := rfl
@[simp] theorem isNon_spR (p : Rat × Rat) : isNonD (spR p) = false := rfl
@[simp] theorem isNon_pairD (p : Int × Int) : isNonD (pairD p) = false := rfl
@[simp] theorem asg_pairD (ts : Tgs) (p : Int × Int) : asg (.tup ts) (pairD p) ρ = asgs ts [.int p.1, .int p.2] ρ := by simp only [pairD, asg_tup]
@[simp] theorem asg_spR (ts : Tgs) (p : Rat × Rat) : asg (.tup ts) (spR p) ρ = asgs ts [ofR p.1, ofR p.2] ρ := by simp only [spR, asg_tup]
theorem noLs_mapf {α : Type} (f : α → D) (h : ∀ a, noL (f a) = true) (l : List α) : noLs (l.map f) = true := noLs_map h l
@[simp] theorem noLs_spR (l : List (Rat × Rat)) : noLs (l.map spR) = true := noLs_map noL_spR l
@[simp] theorem noLs_pairD (l : List (Int × Int)) : noLs (l.map pairD) = true := noLs_map noL_pairD l
@[simp] theorem noLs_ofR (l : List Rat) : noLs (l.map ofR) = true := noLs_map noL_ofR l
theorem eqD_bool {x y : D} {b : Bool} (h : eqD x y = some b) : eqD x y = some b := h
theorem ixN_neg1 (n : Nat) : L2.ixN (n + 1) (-1) = some n := by
  have h : ¬ (0 : Int) ≤ -1 := by decide
  have h2 : -((n + 1 : Nat) : Int) ≤ -1 := by omega
  unfold L2.ixN
  rw [if_neg h, if_pos h2]
  show some (-1 + ((n + 1 : Nat) : Int)).toNat = some n
  have e : (-1 + ((n + 1 : Nat) : Int)).toNat = n := by omega
  rw [e]
theorem set_last (l : List D) (x y : D) : (l ++ [x]).set l.length y = l ++ [y] := by
  rw [List.set_append_right _ _ (Nat.le_refl _)]
  simp
/-- the number in a slot -/
def sInt (ρ : Rho) (i : Nat) : Int := match slotv ρ i with
  | some (.int v) => v
  | _ => 0
@[simp] theorem sInt_succ (x : Option D) (i : Nat) : sInt (x :: ρ) (i + 1) = sInt ρ i := by simp [sInt]
@[simp] theorem sInt_zero (v : Int) : sInt (some (.int v) :: ρ) 0 = v := rfl
end
end Mini
namespace Mini.Win
/-! ### what follows from the windows -/
def firstFrom : List Sp → Rat → Option Rat
  | [], _ => none
  | s :: r, x => if x ≤ s.2 then some (if s.1 < x then x else s.1) else firstFrom r x
def lastTill : List Sp → Rat → Option Rat → Option Rat
  | [], _, f => f
  | s :: r, x, f => lastTill r x (if s.1 ≤ x then some (if x < s.2 then x else s.2) else f)
def inB (x : Rat) (s : Sp) : Bool := decide (s.1 ≤ x) && decide (x ≤ s.2)
theorem ff_ge : ∀ {S : List Sp} {x y : Rat}, firstFrom S x = some y → x ≤ y
  | [], x, y, h => by cases h
  | s :: r, x, y, h => by
    simp only [firstFrom] at h
    split at h
    · cases h
      split <;> grind
    · exact ff_ge h
theorem ff_none : ∀ {S : List Sp} {x : Rat}, firstFrom S x = none → ∀ s ∈ S, ¬ x ≤ s.2
  | [], x, h => fun s hs => by cases hs
  | s :: r, x, h => by
    simp only [firstFrom] at h
    split at h
    · cases h
    · intro t ht
      rcases List.mem_cons.mp ht with rfl | ht
      · assumption
      · exact ff_none h t ht
theorem ff_in : ∀ {S : List Sp} {x : Rat}, S.Pairwise (fun s t => s.2 < t.1) → (∃ s ∈ S, s.1 ≤ x ∧ x ≤ s.2) → firstFrom S x = some x
  | [], x, _, h => by obtain ⟨s, hs, _⟩ := h; cases hs
  | s :: r, x, d, h => by
    simp only [firstFrom]
    obtain ⟨t, ht, h1, h2⟩ := h
    rcases List.mem_cons.mp ht with rfl | ht
    · rw [if_pos h2]
      congr 1
      split <;> grind
    · have := (List.pairwise_cons.mp d).1 t ht
      rw [if_neg (by grind)]
      exact ff_in (List.pairwise_cons.mp d).2 ⟨t, ht, h1, h2⟩
theorem lt_le : ∀ {S : List Sp} {x y : Rat} {f : Option Rat}, (∀ z, f = some z → z ≤ x) → lastTill S x f = some y → y ≤ x
  | [], x, y, f, h0, h => h0 y h
  | s :: r, x, y, f, h0, h => by
    simp only [lastTill] at h
    refine lt_le (fun z hz => ?_) h
    split at hz
    · cases hz
      split <;> grind
    · exact h0 z hz
theorem lt_later : ∀ {S : List Sp} {x : Rat} {f : Option Rat}, (∀ s ∈ S, x < s.1) → lastTill S x f = f
  | [], x, f, _ => rfl
  | s :: r, x, f, h => by
    simp only [lastTill]
    have := h s List.mem_cons_self
    rw [if_neg (by grind)]
    exact lt_later fun t ht => h t (List.mem_cons_of_mem _ ht)
theorem lt_in : ∀ {S : List Sp} {x : Rat} {f : Option Rat}, S.Pairwise (fun s t => s.2 < t.1) → (∃ s ∈ S, s.1 ≤ x ∧ x ≤ s.2) → lastTill S x f = some x
  | [], x, f, _, h => by obtain ⟨s, hs, _⟩ := h; cases hs
  | s :: r, x, f, d, h => by
    simp only [lastTill]
    obtain ⟨t, ht, h1, h2⟩ := h
    rcases List.mem_cons.mp ht with rfl | ht
    · rw [if_pos h1, lt_later fun u hu => by have := (List.pairwise_cons.mp d).1 u hu; grind]
      congr 1
      split <;> grind
    · exact lt_in (List.pairwise_cons.mp d).2 ⟨t, ht, h1, h2⟩
theorem in_none {S : List Sp} {x : Rat} (h : ∀ s ∈ S, x < s.1) : S.filter (inB x) = [] := by
  rw [List.filter_eq_nil_iff]
  intro s hs
  have := h s hs
  simp only [inB, Bool.and_eq_true, decide_eq_true_eq]
  grind
theorem in_one : ∀ {S : List Sp} {x : Rat}, S.Pairwise (fun s t => s.2 < t.1) → (S.filter (inB x)).length ≤ 1
  | [], x, _ => by simp
  | s :: r, x, d => by
    obtain ⟨d1, d2⟩ := List.pairwise_cons.mp d
    rw [List.filter_cons]
    split
    · rename_i h
      simp only [inB, Bool.and_eq_true, decide_eq_true_eq] at h
      rw [in_none fun t ht => by have := d1 t ht; grind]
      simp
    · exact in_one d2
theorem in_pos {S : List Sp} {x : Rat} : 0 < (S.filter (inB x)).length ↔ ∃ s ∈ S, s.1 ≤ x ∧ x ≤ s.2 := by
  rw [List.length_pos_iff_exists_mem]
  constructor
  · rintro ⟨s, hs⟩
    rw [List.mem_filter] at hs
    simp only [inB, Bool.and_eq_true, decide_eq_true_eq] at hs
    exact ⟨s, hs⟩
  · rintro ⟨s, hs, h⟩
    exact ⟨s, List.mem_filter.mpr ⟨hs, by simp only [inB, Bool.and_eq_true, decide_eq_true_eq]; exact h⟩⟩
end Mini.Win
namespace K60
open PySem PySem.Spec PyProof.Rows L2 Mini
def topS (i : Nat) : Stmt := PySem.Challenge.pw_cheesestead_k60_moments_one_by_one.main.body.getD i (.Pass ⟨0, 0, 0, 0⟩)
def ct : CT := ⟨[(("reduced" : Str), 0), (("f_whole" : Str), 1), (("f_add" : Str), 2), (("f_sub" : Str), 3), (("f_less" : Str), 4), (("f_at_most" : Str), 5), (("f_min" : Str), 6), (("f_max" : Str), 7), (("f_total" : Str), 8), (("covers" : Str), 9), (("height_at" : Str), 10), (("height_between" : Str), 11), (("place_between" : Str), 12), (("high_part" : Str), 13), (("high_spans" : Str), 14), (("need" : Str), 15), (("is_integer" : Str), 16), (("is_whole" : Str), 17), (("is_whole_from" : Str), 18), (("is_sequence" : Str), 19), (("is_pair" : Str), 20), (("is_row" : Str), 21), (("is_rows" : Str), 22), (("is_rising" : Str), 23), (("is_any_fraction" : Str), 24), (("is_fraction" : Str), 25), (("frozen" : Str), 26), (("is_table" : Str), 27), (("sour_at" : Str), 28), (("windows" : Str), 29), (("time_for" : Str), 30), (("first_from" : Str), 31), (("last_till" : Str), 32), (("asked" : Str), 33), (("is_span" : Str), 34), (("are_spans" : Str), 35), (("is_leg" : Str), 36), (("are_legs" : Str), 37), (("checked" : Str), 38), (("begin_from" : Str), 39), (("begin_till" : Str), 40), (("travelled" : Str), 41), (("arrives" : Str), 42), (("waits" : Str), 43), (("leaves" : Str), 44), (("_law_so" : Str), 45), (("_law_numbers" : Str), 46), (("_law_draw" : Str), 47), (("_law_take" : Str), 48), (("_law_gcd" : Str), 49), (("_law_red" : Str), 50), (("_law_add" : Str), 51), (("_law_sub" : Str), 52), (("_law_mul" : Str), 53), (("_law_less" : Str), 54), (("_law_sour" : Str), 55), (("law" : Str), 56)], [(("MOST_PARTS" : Str), .int 1000000), (("LEAST_SOUR" : Str), .int (-500)), (("MOST_SOUR" : Str), .int 1500), (("LAST_MINUTE" : Str), .int 1440), (("MOST_LEGS" : Str), .int 10), (("MOST_SPANS" : Str), .int 4), (("LONGEST" : Str), .int 1000), (("LATEST" : Str), .int 10000)], ["gcd"]⟩
abbrev streduced : Stmt := topS 2
def nreduced : List Str := ["top", "bottom", "common"]
abbrev stf_whole : Stmt := topS 3
def nf_whole : List Str := ["number"]
abbrev stf_add : Stmt := topS 4
def nf_add : List Str := ["one", "other"]
abbrev stf_sub : Stmt := topS 5
def nf_sub : List Str := ["one", "other"]
abbrev stf_less : Stmt := topS 6
def nf_less : List Str := ["one", "other"]
abbrev stf_at_most : Stmt := topS 7
def nf_at_most : List Str := ["one", "other"]
abbrev stf_min : Stmt := topS 8
def nf_min : List Str := ["one", "other"]
abbrev stf_max : Stmt := topS 9
def nf_max : List Str := ["one", "other"]
abbrev stf_total : Stmt := topS 10
def nf_total : List Str := ["parts", "found", "part"]
abbrev stcovers : Stmt := topS 12
def ncovers : List Str := ["knots", "place", "first", "last"]
abbrev stheight_at : Stmt := topS 13
def nheight_at : List Str := ["knots", "place", "at"]
abbrev stheight_between : Stmt := topS 14
def nheight_between : List Str := ["one", "other", "place", "behind", "climb"]
abbrev stplace_between : Stmt := topS 15
def nplace_between : List Str := ["one", "other", "height", "climb"]
abbrev sthigh_part : Stmt := topS 16
def nhigh_part : List Str := ["one", "other", "height", "first", "last"]
abbrev sthigh_spans : Stmt := topS 17
def nhigh_spans : List Str := ["knots", "height", "spans", "at", "part"]
abbrev stneed : Stmt := topS 23
def nneed : List Str := ["ok", "at"]
abbrev stis_integer : Stmt := topS 24
def nis_integer : List Str := ["value"]
abbrev stis_whole : Stmt := topS 25
def nis_whole : List Str := ["value", "low", "high"]
abbrev stis_whole_from : Stmt := topS 26
def nis_whole_from : List Str := ["value", "low"]
abbrev stis_sequence : Stmt := topS 27
def nis_sequence : List Str := ["value", "fewest", "most"]
abbrev stis_pair : Stmt := topS 28
def nis_pair : List Str := ["value"]
abbrev stis_row : Stmt := topS 29
def nis_row : List Str := ["value", "bounds", "part", "low", "high"]
abbrev stis_rows : Stmt := topS 30
def nis_rows : List Str := ["value", "fewest", "most", "bounds", "row"]
abbrev stis_rising : Stmt := topS 31
def nis_rising : List Str := ["values", "at"]
abbrev stis_any_fraction : Stmt := topS 32
def nis_any_fraction : List Str := ["value"]
abbrev stis_fraction : Stmt := topS 33
def nis_fraction : List Str := ["value"]
abbrev stfrozen : Stmt := topS 34
def nfrozen : List Str := ["value", "part"]
abbrev stis_table : Stmt := topS 39
def nis_table : List Str := ["value", "row"]
abbrev stsour_at : Stmt := topS 40
def nsour_at : List Str := ["table", "minute", "knots", "moment"]
abbrev stwindows : Stmt := topS 41
def nwindows : List Str := ["table", "least"]
abbrev sttime_for : Stmt := topS 42
def ntime_for : List Str := ["table", "least", "spans", "first", "last"]
abbrev stfirst_from : Stmt := topS 43
def nfirst_from : List Str := ["table", "least", "minute", "spans", "moment", "first", "last"]
abbrev stlast_till : Stmt := topS 44
def nlast_till : List Str := ["table", "least", "minute", "spans", "moment", "found", "first", "last"]
abbrev stasked : Stmt := topS 45
def nasked : List Str := ["table", "least", "minute", "knots", "moment"]
abbrev stis_span : Stmt := topS 51
def nis_span : List Str := ["value", "first", "last"]
abbrev stare_spans : Stmt := topS 52
def nare_spans : List Str := ["value", "span", "at"]
abbrev stis_leg : Stmt := topS 53
def nis_leg : List Str := ["value"]
abbrev stare_legs : Stmt := topS 54
def nare_legs : List Str := ["value", "leg"]
abbrev stchecked : Stmt := topS 55
def nchecked : List Str := ["legs", "minute"]
abbrev stbegin_from : Stmt := topS 56
def nbegin_from : List Str := ["spans", "minute", "first", "last"]
abbrev stbegin_till : Stmt := topS 57
def nbegin_till : List Str := ["spans", "minute", "found", "first", "last"]
abbrev sttravelled : Stmt := topS 58
def ntravelled : List Str := ["legs", "minute", "now", "waited", "minutes", "spans", "begin"]
abbrev starrives : Stmt := topS 59
def narrives : List Str := ["legs", "minute", "told"]
abbrev stwaits : Stmt := topS 60
def nwaits : List Str := ["legs", "minute", "told"]
abbrev stleaves : Stmt := topS 61
def nleaves : List Str := ["legs", "minute", "now", "minutes", "spans"]
abbrev st_law_so : Stmt := topS 63
def n_law_so : List Str := ["found", "meant", "k"]
abbrev st_law_numbers : Stmt := topS 64
def n_law_numbers : List Str := ["script", "row", "single", "left", "k", "stirred"]
abbrev st_law_draw : Stmt := topS 65
def n_law_draw : List Str := ["row", "at", "limit", "stirred"]
abbrev st_law_take : Stmt := topS 66
def n_law_take : List Str := ["row", "spot", "limit"]
abbrev st_law_gcd : Stmt := topS 67
def n_law_gcd : List Str := ["one", "other", "left", "right", "k", "over_by"]
abbrev st_law_red : Stmt := topS 68
def n_law_red : List Str := ["n", "d", "common"]
abbrev st_law_add : Stmt := topS 69
def n_law_add : List Str := ["one", "other"]
abbrev st_law_sub : Stmt := topS 70
def n_law_sub : List Str := ["one", "other"]
abbrev st_law_mul : Stmt := topS 71
def n_law_mul : List Str := ["one", "other"]
abbrev st_law_less : Stmt := topS 72
def n_law_less : List Str := ["one", "other"]
abbrev st_law_sour : Stmt := topS 73
def n_law_sour : List Str := ["table", "minute", "k", "part"]
abbrev stlaw : Stmt := topS 74
def nlaw : List Str := ["script", "row", "spot", "table", "minute", "k", "first", "last", "least", "spans", "step", "moment", "sour", "inside", "span", "later", "ahead", "total", "legs", "start", "clock", "held", "leg", "waited", "turn", "goal", "good"]
def breduced : Ss := (.cons (.ite (.val (.cmp .lt (.var 1) (.cst (.int 0)))) (.cons (.par 0 1 (.neg (.var 0)) (.neg (.var 1))) .nil) .nil) (.cons (.set 2 (.bi .gcd (.cons (.var 0) (.cons (.var 1) .nil)))) (.cons (.ret (.tup (.cons (.bin .fdiv (.var 0) (.var 2)) (.cons (.bin .fdiv (.var 1) (.var 2)) .nil)))) .nil)))
def bf_whole : Ss := (.cons (.ret (.tup (.cons (.var 0) (.cons (.cst (.int 1)) .nil)))) .nil)
def bf_add : Ss := (.cons (.ret (.call 0 (.cons (.bin .add (.bin .mul (.idx (.var 0) (.cst (.int 0))) (.idx (.var 1) (.cst (.int 1)))) (.bin .mul (.idx (.var 1) (.cst (.int 0))) (.idx (.var 0) (.cst (.int 1))))) (.cons (.bin .mul (.idx (.var 0) (.cst (.int 1))) (.idx (.var 1) (.cst (.int 1)))) .nil)))) .nil)
def bf_sub : Ss := (.cons (.ret (.call 0 (.cons (.bin .sub (.bin .mul (.idx (.var 0) (.cst (.int 0))) (.idx (.var 1) (.cst (.int 1)))) (.bin .mul (.idx (.var 1) (.cst (.int 0))) (.idx (.var 0) (.cst (.int 1))))) (.cons (.bin .mul (.idx (.var 0) (.cst (.int 1))) (.idx (.var 1) (.cst (.int 1)))) .nil)))) .nil)
def bf_less : Ss := (.cons (.ret (.cmp .lt (.bin .mul (.idx (.var 0) (.cst (.int 0))) (.idx (.var 1) (.cst (.int 1)))) (.bin .mul (.idx (.var 1) (.cst (.int 0))) (.idx (.var 0) (.cst (.int 1)))))) .nil)
def bf_at_most : Ss := (.cons (.ret (.cmp .le (.bin .mul (.idx (.var 0) (.cst (.int 0))) (.idx (.var 1) (.cst (.int 1)))) (.bin .mul (.idx (.var 1) (.cst (.int 0))) (.idx (.var 0) (.cst (.int 1)))))) .nil)
def bf_min : Ss := (.cons (.ite (.val (.call 4 (.cons (.var 1) (.cons (.var 0) .nil)))) (.cons (.ret (.var 1)) .nil) .nil) (.cons (.ret (.var 0)) .nil))
def bf_max : Ss := (.cons (.ite (.val (.call 4 (.cons (.var 0) (.cons (.var 1) .nil)))) (.cons (.ret (.var 1)) .nil) .nil) (.cons (.ret (.var 0)) .nil))
def bf_total_0 : Ss := (.cons (.set 1 (.call 2 (.cons (.var 1) (.cons (.var 2) .nil)))) .nil)
def bf_total : Ss := (.cons (.set 1 (.tup (.cons (.cst (.int 0)) (.cons (.cst (.int 1)) .nil)))) (.cons (.for (.name 2) (.seq (.var 0)) bf_total_0) (.cons (.ret (.var 1)) .nil)))
def bcovers : Ss := (.cons (.par 2 3 (.call 1 (.cons (.idx (.idx (.var 0) (.cst (.int 0))) (.cst (.int 0))) .nil)) (.call 1 (.cons (.idx (.idx (.var 0) (.neg (.cst (.int 1)))) (.cst (.int 0))) .nil))) (.cons (.ret (.and (.call 5 (.cons (.var 2) (.cons (.var 1) .nil))) (.call 5 (.cons (.var 1) (.cons (.var 3) .nil))))) .nil))
def bheight_at_0 : Ss := (.cons (.aug 2 .add (.cst (.int 1))) .nil)
def bheight_at : Ss := (.cons (.set 2 (.cst (.int 1))) (.cons (.while (.and (.val (.cmp .lt (.var 2) (.bin .sub (.bi .len (.cons (.var 0) .nil)) (.cst (.int 1))))) (.not (.val (.call 5 (.cons (.var 1) (.cons (.call 1 (.cons (.idx (.idx (.var 0) (.var 2)) (.cst (.int 0))) .nil)) .nil)))))) bheight_at_0) (.cons (.ret (.call 11 (.cons (.idx (.var 0) (.bin .sub (.var 2) (.cst (.int 1)))) (.cons (.idx (.var 0) (.var 2)) (.cons (.var 1) .nil))))) .nil)))
def bheight_between : Ss := (.cons (.set 3 (.call 3 (.cons (.var 2) (.cons (.call 1 (.cons (.idx (.var 0) (.cst (.int 0))) .nil)) .nil)))) (.cons (.set 4 (.call 0 (.cons (.bin .mul (.idx (.var 3) (.cst (.int 0))) (.bin .sub (.idx (.var 1) (.cst (.int 1))) (.idx (.var 0) (.cst (.int 1))))) (.cons (.bin .mul (.idx (.var 3) (.cst (.int 1))) (.bin .sub (.idx (.var 1) (.cst (.int 0))) (.idx (.var 0) (.cst (.int 0))))) .nil)))) (.cons (.ret (.call 2 (.cons (.call 1 (.cons (.idx (.var 0) (.cst (.int 1))) .nil)) (.cons (.var 4) .nil)))) .nil)))
def bplace_between : Ss := (.cons (.set 3 (.bin .sub (.var 2) (.idx (.var 0) (.cst (.int 1))))) (.cons (.ret (.call 2 (.cons (.call 1 (.cons (.idx (.var 0) (.cst (.int 0))) .nil)) (.cons (.call 0 (.cons (.bin .mul (.var 3) (.bin .sub (.idx (.var 1) (.cst (.int 0))) (.idx (.var 0) (.cst (.int 0))))) (.cons (.bin .sub (.idx (.var 1) (.cst (.int 1))) (.idx (.var 0) (.cst (.int 1)))) .nil))) .nil)))) .nil))
def bhigh_part : Ss := (.cons (.par 3 4 (.call 1 (.cons (.idx (.var 0) (.cst (.int 0))) .nil)) (.call 1 (.cons (.idx (.var 1) (.cst (.int 0))) .nil))) (.cons (.ite (.and (.val (.cmp .lt (.idx (.var 0) (.cst (.int 1))) (.var 2))) (.val (.cmp .lt (.idx (.var 1) (.cst (.int 1))) (.var 2)))) (.cons (.ret (.cst .non)) .nil) .nil) (.cons (.ite (.val (.cmp .lt (.idx (.var 0) (.cst (.int 1))) (.var 2))) (.cons (.set 3 (.call 12 (.cons (.var 0) (.cons (.var 1) (.cons (.var 2) .nil))))) .nil) .nil) (.cons (.ite (.val (.cmp .lt (.idx (.var 1) (.cst (.int 1))) (.var 2))) (.cons (.set 4 (.call 12 (.cons (.var 0) (.cons (.var 1) (.cons (.var 2) .nil))))) .nil) .nil) (.cons (.ret (.tup (.cons (.var 3) (.cons (.var 4) .nil)))) .nil)))))
def bhigh_spans_0 : Ss := (.cons (.set 4 (.call 13 (.cons (.idx (.var 0) (.bin .sub (.var 3) (.cst (.int 1)))) (.cons (.idx (.var 0) (.var 3)) (.cons (.var 1) .nil))))) (.cons (.ite (.val (.isN (.var 4))) (.cons .cnt .nil) .nil) (.cons (.ite (.and (.val (.var 2)) (.val (.cmp .eq (.idx (.idx (.var 2) (.neg (.cst (.int 1)))) (.cst (.int 1))) (.idx (.var 4) (.cst (.int 0)))))) (.cons (.setI 2 (.neg (.cst (.int 1))) (.tup (.cons (.idx (.idx (.var 2) (.neg (.cst (.int 1)))) (.cst (.int 0))) (.cons (.idx (.var 4) (.cst (.int 1))) .nil)))) .nil) (.cons (.app 2 (.var 4)) .nil)) .nil)))
def bhigh_spans : Ss := (.cons (.new 2 (.lst .nil)) (.cons (.for (.name 3) (.rng (.cons (.cst (.int 1)) (.cons (.bi .len (.cons (.var 0) .nil)) .nil))) bhigh_spans_0) (.cons (.ret (.bi .tuple (.cons (.var 2) .nil))) .nil)))
def bneed : Ss := (.cons (.ite (.not (.val (.var 0))) (.cons .never .nil) .nil) .nil)
def bis_integer : Ss := (.cons (.ret (.and (.isi (.var 0) [0]) (.not (.isi (.var 0) [1])))) .nil)
def bis_whole : Ss := (.cons (.ret (.and (.call 16 (.cons (.var 0) .nil)) (.chain .le .le (.var 1) (.var 0) (.var 2)))) .nil)
def bis_whole_from : Ss := (.cons (.ret (.and (.call 16 (.cons (.var 0) .nil)) (.cmp .ge (.var 0) (.var 1)))) .nil)
def bis_sequence : Ss := (.cons (.ret (.and (.isi (.var 0) [3, 4]) (.chain .le .le (.var 1) (.bi .len (.cons (.var 0) .nil)) (.var 2)))) .nil)
def bis_pair : Ss := (.cons (.ret (.call 19 (.cons (.var 0) (.cons (.cst (.int 2)) (.cons (.cst (.int 2)) .nil))))) .nil)
def eis_row_0 : E := (.call 17 (.cons (.var 2) (.cons (.var 3) (.cons (.var 4) .nil))))
def bis_row : Ss := (.cons (.ite (.not (.val (.call 19 (.cons (.var 0) (.cons (.bi .len (.cons (.var 1) .nil)) (.cons (.bi .len (.cons (.var 1) .nil)) .nil)))))) (.cons (.ret (.cst (.bl false))) .nil) .nil) (.cons (.ret (.bi .all (.cons (.comp0 eis_row_0 (.tup (.cons (.name 2) (.cons (.tup (.cons (.name 3) (.cons (.name 4) .nil))) .nil))) (.zip (.var 0) (.var 1)) [2, 3, 4]) .nil))) .nil))
def eis_rows_0 : E := (.call 21 (.cons (.var 4) (.cons (.var 3) .nil)))
def bis_rows : Ss := (.cons (.ite (.not (.val (.call 19 (.cons (.var 0) (.cons (.var 1) (.cons (.var 2) .nil)))))) (.cons (.ret (.cst (.bl false))) .nil) .nil) (.cons (.ret (.bi .all (.cons (.comp0 eis_rows_0 (.name 4) (.seq (.var 0)) [4]) .nil))) .nil))
def eis_rising_0 : E := (.cmp .lt (.idx (.var 0) (.bin .sub (.var 1) (.cst (.int 1)))) (.idx (.var 0) (.var 1)))
def bis_rising : Ss := (.cons (.ret (.bi .all (.cons (.comp0 eis_rising_0 (.name 1) (.rng (.cons (.cst (.int 1)) (.cons (.bi .len (.cons (.var 0) .nil)) .nil))) [1]) .nil))) .nil)
def bis_any_fraction : Ss := (.cons (.ite (.or (.not (.val (.call 20 (.cons (.var 0) .nil)))) (.or (.not (.val (.call 16 (.cons (.idx (.var 0) (.cst (.int 0))) .nil)))) (.not (.val (.call 18 (.cons (.idx (.var 0) (.cst (.int 1))) (.cons (.cst (.int 1)) .nil))))))) (.cons (.ret (.cst (.bl false))) .nil) .nil) (.cons (.ret (.cmp .eq (.bi .gcd (.cons (.idx (.var 0) (.cst (.int 0))) (.cons (.idx (.var 0) (.cst (.int 1))) .nil))) (.cst (.int 1)))) .nil))
def bis_fraction : Ss := (.cons (.ite (.not (.val (.call 24 (.cons (.var 0) .nil)))) (.cons (.ret (.cst (.bl false))) .nil) .nil) (.cons (.ret (.and (.call 17 (.cons (.idx (.var 0) (.cst (.int 0))) (.cons (.neg (.cst (.int 1000000))) (.cons (.cst (.int 1000000)) .nil)))) (.cmp .le (.idx (.var 0) (.cst (.int 1))) (.cst (.int 1000000))))) .nil))
def efrozen_0 : E := (.call 26 (.cons (.var 1) .nil))
def bfrozen : Ss := (.cons (.ite (.val (.isi (.var 0) [3, 4])) (.cons (.ret (.bi .tuple (.cons (.comp0 efrozen_0 (.name 1) (.seq (.var 0)) [1]) .nil))) .nil) .nil) (.cons (.ret (.var 0)) .nil))
def eis_table_0 : E := (.idx (.var 1) (.cst (.int 0)))
def bis_table : Ss := (.cons (.ite (.not (.val (.call 22 (.cons (.var 0) (.cons (.cst (.int 2)) (.cons (.cst (.int 12)) (.cons (.tup (.cons (.tup (.cons (.cst (.int 0)) (.cons (.cst (.int 1440)) .nil))) (.cons (.tup (.cons (.cst (.int (-500))) (.cons (.cst (.int 1500)) .nil))) .nil))) .nil))))))) (.cons (.ret (.cst (.bl false))) .nil) .nil) (.cons (.ret (.call 23 (.cons (.comp0 eis_table_0 (.name 1) (.seq (.var 0)) [1]) .nil))) .nil))
def bsour_at : Ss := (.cons (.expr (.call 15 (.cons (.call 27 (.cons (.var 0) .nil)) (.cons (.cst (.int 0)) .nil)))) (.cons (.expr (.call 15 (.cons (.call 25 (.cons (.var 1) .nil)) (.cons (.cst (.int 1)) .nil)))) (.cons (.par 2 3 (.call 26 (.cons (.var 0) .nil)) (.call 26 (.cons (.var 1) .nil))) (.cons (.expr (.call 15 (.cons (.call 9 (.cons (.var 2) (.cons (.var 3) .nil))) (.cons (.cst (.int 1)) .nil)))) (.cons (.ret (.call 10 (.cons (.var 2) (.cons (.var 3) .nil)))) .nil)))))
def bwindows : Ss := (.cons (.expr (.call 15 (.cons (.call 27 (.cons (.var 0) .nil)) (.cons (.cst (.int 0)) .nil)))) (.cons (.expr (.call 15 (.cons (.call 17 (.cons (.var 1) (.cons (.cst (.int (-500))) (.cons (.cst (.int 1500)) .nil)))) (.cons (.cst (.int 1)) .nil)))) (.cons (.ret (.call 14 (.cons (.call 26 (.cons (.var 0) .nil)) (.cons (.var 1) .nil)))) .nil)))
def etime_for_0 : E := (.call 3 (.cons (.var 4) (.cons (.var 3) .nil)))
def btime_for : Ss := (.cons (.expr (.call 15 (.cons (.call 27 (.cons (.var 0) .nil)) (.cons (.cst (.int 0)) .nil)))) (.cons (.expr (.call 15 (.cons (.call 17 (.cons (.var 1) (.cons (.cst (.int (-500))) (.cons (.cst (.int 1500)) .nil)))) (.cons (.cst (.int 1)) .nil)))) (.cons (.set 2 (.call 14 (.cons (.call 26 (.cons (.var 0) .nil)) (.cons (.var 1) .nil)))) (.cons (.ret (.call 8 (.cons (.comp0 etime_for_0 (.tup (.cons (.name 3) (.cons (.name 4) .nil))) (.seq (.var 2)) [3, 4]) .nil))) .nil))))
def bfirst_from_0 : Ss := (.cons (.ite (.val (.call 5 (.cons (.var 4) (.cons (.var 6) .nil)))) (.cons (.ret (.call 7 (.cons (.var 5) (.cons (.var 4) .nil)))) .nil) .nil) .nil)
def bfirst_from : Ss := (.cons (.asg (.tup (.cons (.name 3) (.cons (.name 4) .nil))) (.call 33 (.cons (.var 0) (.cons (.var 1) (.cons (.var 2) .nil))))) (.cons (.for (.tup (.cons (.name 5) (.cons (.name 6) .nil))) (.seq (.var 3)) bfirst_from_0) (.cons (.ret (.cst .non)) .nil)))
def blast_till_0 : Ss := (.cons (.ite (.val (.call 5 (.cons (.var 6) (.cons (.var 4) .nil)))) (.cons (.set 5 (.call 6 (.cons (.var 7) (.cons (.var 4) .nil)))) .nil) .nil) .nil)
def blast_till : Ss := (.cons (.asg (.tup (.cons (.name 3) (.cons (.name 4) .nil))) (.call 33 (.cons (.var 0) (.cons (.var 1) (.cons (.var 2) .nil))))) (.cons (.set 5 (.cst .non)) (.cons (.for (.tup (.cons (.name 6) (.cons (.name 7) .nil))) (.seq (.var 3)) blast_till_0) (.cons (.ret (.var 5)) .nil))))
def basked : Ss := (.cons (.expr (.call 15 (.cons (.call 27 (.cons (.var 0) .nil)) (.cons (.cst (.int 0)) .nil)))) (.cons (.expr (.call 15 (.cons (.call 17 (.cons (.var 1) (.cons (.cst (.int (-500))) (.cons (.cst (.int 1500)) .nil)))) (.cons (.cst (.int 1)) .nil)))) (.cons (.expr (.call 15 (.cons (.call 25 (.cons (.var 2) .nil)) (.cons (.cst (.int 2)) .nil)))) (.cons (.par 3 4 (.call 26 (.cons (.var 0) .nil)) (.call 26 (.cons (.var 2) .nil))) (.cons (.expr (.call 15 (.cons (.call 9 (.cons (.var 3) (.cons (.var 4) .nil))) (.cons (.cst (.int 2)) .nil)))) (.cons (.ret (.tup (.cons (.call 14 (.cons (.var 3) (.cons (.var 1) .nil))) (.cons (.var 4) .nil)))) .nil))))))
def bis_span : Ss := (.cons (.ite (.not (.val (.call 20 (.cons (.var 0) .nil)))) (.cons (.ret (.cst (.bl false))) .nil) .nil) (.cons (.asg (.tup (.cons (.name 1) (.cons (.name 2) .nil))) (.var 0)) (.cons (.ret (.and (.call 17 (.cons (.var 1) (.cons (.cst (.int 0)) (.cons (.cst (.int 10000)) .nil)))) (.and (.call 17 (.cons (.var 2) (.cons (.cst (.int 0)) (.cons (.cst (.int 10000)) .nil)))) (.cmp .le (.var 1) (.var 2))))) .nil)))
def eare_spans_0 : E := (.call 34 (.cons (.var 1) .nil))
def eare_spans_1 : E := (.cmp .lt (.idx (.idx (.var 0) (.bin .sub (.var 2) (.cst (.int 1)))) (.cst (.int 1))) (.idx (.idx (.var 0) (.var 2)) (.cst (.int 0))))
def bare_spans : Ss := (.cons (.ite (.or (.not (.val (.call 19 (.cons (.var 0) (.cons (.cst (.int 0)) (.cons (.cst (.int 4)) .nil)))))) (.not (.val (.bi .all (.cons (.comp0 eare_spans_0 (.name 1) (.seq (.var 0)) [1]) .nil))))) (.cons (.ret (.cst (.bl false))) .nil) .nil) (.cons (.ret (.bi .all (.cons (.comp0 eare_spans_1 (.name 2) (.rng (.cons (.cst (.int 1)) (.cons (.bi .len (.cons (.var 0) .nil)) .nil))) [2]) .nil))) .nil))
def bis_leg : Ss := (.cons (.ite (.or (.not (.val (.call 20 (.cons (.var 0) .nil)))) (.not (.val (.call 17 (.cons (.idx (.var 0) (.cst (.int 0))) (.cons (.cst (.int 0)) (.cons (.cst (.int 1000)) .nil))))))) (.cons (.ret (.cst (.bl false))) .nil) .nil) (.cons (.ret (.or (.isN (.idx (.var 0) (.cst (.int 1)))) (.call 35 (.cons (.idx (.var 0) (.cst (.int 1))) .nil)))) .nil))
def eare_legs_0 : E := (.call 36 (.cons (.var 1) .nil))
def bare_legs : Ss := (.cons (.ret (.and (.call 19 (.cons (.var 0) (.cons (.cst (.int 0)) (.cons (.cst (.int 10)) .nil)))) (.bi .all (.cons (.comp0 eare_legs_0 (.name 1) (.seq (.var 0)) [1]) .nil)))) .nil)
def bchecked : Ss := (.cons (.expr (.call 15 (.cons (.call 37 (.cons (.var 0) .nil)) (.cons (.cst (.int 0)) .nil)))) (.cons (.expr (.call 15 (.cons (.call 17 (.cons (.var 1) (.cons (.cst (.int 0)) (.cons (.cst (.int 10000)) .nil)))) (.cons (.cst (.int 1)) .nil)))) (.cons (.ret (.call 26 (.cons (.var 0) .nil))) .nil)))
def bbegin_from_0 : Ss := (.cons (.ite (.val (.cmp .le (.var 1) (.var 3))) (.cons (.ret (.bi .max (.cons (.var 2) (.cons (.var 1) .nil)))) .nil) .nil) .nil)
def bbegin_from : Ss := (.cons (.ite (.val (.isN (.var 0))) (.cons (.ret (.var 1)) .nil) .nil) (.cons (.for (.tup (.cons (.name 2) (.cons (.name 3) .nil))) (.seq (.var 0)) bbegin_from_0) (.cons (.ret (.cst .non)) .nil)))
def bbegin_till_0 : Ss := (.cons (.ite (.val (.cmp .le (.var 3) (.var 1))) (.cons (.set 2 (.bi .min (.cons (.var 4) (.cons (.var 1) .nil)))) .nil) .nil) .nil)
def bbegin_till : Ss := (.cons (.ite (.val (.cmp .lt (.var 1) (.cst (.int 0)))) (.cons (.ret (.cst .non)) .nil) .nil) (.cons (.ite (.val (.isN (.var 0))) (.cons (.ret (.var 1)) .nil) .nil) (.cons (.set 2 (.cst .non)) (.cons (.for (.tup (.cons (.name 3) (.cons (.name 4) .nil))) (.seq (.var 0)) bbegin_till_0) (.cons (.ret (.var 2)) .nil)))))
def btravelled_0 : Ss := (.cons (.set 6 (.call 39 (.cons (.var 5) (.cons (.var 2) .nil)))) (.cons (.ite (.val (.isN (.var 6))) (.cons (.ret (.cst .non)) .nil) .nil) (.cons (.app 3 (.bin .sub (.var 6) (.var 2))) (.cons (.set 2 (.bin .add (.var 6) (.var 4))) .nil))))
def btravelled : Ss := (.cons (.set 2 (.var 1)) (.cons (.new 3 (.lst .nil)) (.cons (.for (.tup (.cons (.name 4) (.cons (.name 5) .nil))) (.seq (.var 0)) btravelled_0) (.cons (.ret (.tup (.cons (.var 2) (.cons (.bi .tuple (.cons (.var 3) .nil)) .nil)))) .nil))))
def barrives : Ss := (.cons (.set 2 (.call 41 (.cons (.call 38 (.cons (.var 0) (.cons (.var 1) .nil))) (.cons (.var 1) .nil)))) (.cons (.ite (.val (.isN (.var 2))) (.cons (.ret (.cst .non)) .nil) .nil) (.cons (.ret (.idx (.var 2) (.cst (.int 0)))) .nil)))
def bwaits : Ss := (.cons (.set 2 (.call 41 (.cons (.call 38 (.cons (.var 0) (.cons (.var 1) .nil))) (.cons (.var 1) .nil)))) (.cons (.ite (.val (.isN (.var 2))) (.cons (.ret (.cst .non)) .nil) .nil) (.cons (.ret (.idx (.var 2) (.cst (.int 1)))) .nil)))
def bleaves_0 : Ss := (.cons (.set 2 (.call 40 (.cons (.var 4) (.cons (.bin .sub (.var 2) (.var 3)) .nil)))) (.cons (.ite (.val (.isN (.var 2))) (.cons (.ret (.cst .non)) .nil) .nil) .nil))
def bleaves : Ss := (.cons (.set 2 (.var 1)) (.cons (.for (.tup (.cons (.name 3) (.cons (.name 4) .nil))) (.rev (.bi .list (.cons (.call 38 (.cons (.var 0) (.cons (.var 1) .nil))) .nil))) bleaves_0) (.cons (.ret (.var 2)) .nil)))
def b_law_so_0 : Ss := (.cons (.ite (.not (.val (.call 45 (.cons (.idx (.var 0) (.var 2)) (.cons (.idx (.var 1) (.var 2)) .nil))))) (.cons (.ret (.cst (.bl false))) .nil) .nil) .nil)
def b_law_so : Ss := (.cons (.ite (.val (.isN (.var 1))) (.cons (.ret (.isN (.var 0))) .nil) .nil) (.cons (.ite (.val (.isi (.var 1) [4])) (.cons (.ite (.or (.not (.val (.isi (.var 0) [4]))) (.val (.cmp .ne (.bi .len (.cons (.var 0) .nil)) (.bi .len (.cons (.var 1) .nil))))) (.cons (.ret (.cst (.bl false))) .nil) .nil) (.cons (.for (.name 2) (.rng (.cons (.bi .len (.cons (.var 1) .nil)) .nil)) b_law_so_0) (.cons (.ret (.cst (.bl true))) .nil))) .nil) (.cons (.ite (.or (.val (.isi (.var 1) [1])) (.val (.isi (.var 0) [1]))) (.cons (.ret (.and (.isi (.var 1) [1]) (.and (.isi (.var 0) [1]) (.cmp .eq (.var 0) (.var 1))))) .nil) .nil) (.cons (.ite (.val (.isi (.var 1) [0])) (.cons (.ret (.and (.isi (.var 0) [0]) (.cmp .eq (.var 0) (.var 1)))) .nil) .nil) (.cons (.ret (.and (.isi (.var 1) [2]) (.and (.isi (.var 0) [2]) (.cmp .eq (.var 0) (.var 1))))) .nil)))))
def b_law_numbers_0 : Ss := (.cons (.ite (.val (.cmp .eq (.var 3) (.cst (.int 0)))) (.cons .brk .nil) .nil) (.cons (.app 1 (.bin .mod (.bi .int (.cons (.var 3) .nil)) (.cst (.int 997)))) (.cons (.set 3 (.bin .fdiv (.var 3) (.cst (.int 997)))) .nil)))
def b_law_numbers_1 : Ss := (.cons (.set 5 (.bin .mod (.bi .int (.cons (.bin .add (.bin .add (.bin .mul (.var 2) (.cst (.int 48271))) (.bin .mul (.var 4) (.cst (.int 69621)))) (.cst (.int 11))) .nil)) (.cst (.int 2147483647)))) (.cons (.app 1 (.bin .mod (.bi .int (.cons (.bin .add (.bin .mul (.var 5) (.cst (.int 16807))) (.var 4)) .nil)) (.cst (.int 2147483629)))) .nil))
def b_law_numbers_2 : Ss := (.cons (.ite (.val (.cmp .ge (.var 2) (.bin .pow (.cst (.int 10)) (.cst (.int 18))))) (.cons (.set 3 (.var 2)) (.cons (.for (.name 4) (.rng (.cons (.cst (.int 60)) .nil)) b_law_numbers_0) .nil)) (.cons (.for (.name 4) (.rng (.cons (.cst (.int 4)) .nil)) b_law_numbers_1) .nil)) .nil)
def b_law_numbers : Ss := (.cons (.new 1 (.lst .nil)) (.cons (.for (.name 2) (.seq (.sli 2 (.var 0) (.cst .non) (.cst (.int 63)))) b_law_numbers_2) (.cons (.ite (.val (.cmp .eq (.bi .len (.cons (.var 1) .nil)) (.cst (.int 0)))) (.cons (.app 1 (.cst (.int 0))) .nil) .nil) (.cons (.ret (.var 1)) .nil))))
def b_law_draw : Ss := (.cons (.ite (.val (.cmp .lt (.var 1) (.bi .len (.cons (.var 0) .nil)))) (.cons (.ret (.bin .mod (.bi .int (.cons (.idx (.var 0) (.var 1)) .nil)) (.var 2))) .nil) .nil) (.cons (.set 3 (.bin .mod (.bi .int (.cons (.bin .add (.bin .add (.bin .mul (.idx (.var 0) (.bin .mod (.bi .int (.cons (.var 1) .nil)) (.bi .len (.cons (.var 0) .nil)))) (.cst (.int 40692))) (.bin .mul (.var 1) (.cst (.int 7919)))) (.cst (.int 3))) .nil)) (.cst (.int 2147483399)))) (.cons (.ret (.bin .mod (.bi .int (.cons (.bin .mod (.bi .int (.cons (.bin .add (.bin .mul (.var 3) (.cst (.int 48271))) (.var 1)) .nil)) (.cst (.int 2147483647))) .nil)) (.var 2))) .nil)))
def b_law_take : Ss := (.cons (.setI 1 (.cst (.int 0)) (.bin .add (.idx (.var 1) (.cst (.int 0))) (.cst (.int 1)))) (.cons (.ret (.call 47 (.cons (.var 0) (.cons (.bin .sub (.idx (.var 1) (.cst (.int 0))) (.cst (.int 1))) (.cons (.var 2) .nil))))) .nil))
def b_law_gcd_0 : Ss := (.cons (.ite (.val (.cmp .eq (.var 3) (.cst (.int 0)))) (.cons .brk .nil) .nil) (.cons (.set 5 (.bin .mod (.bi .int (.cons (.var 2) .nil)) (.var 3))) (.cons (.set 2 (.var 3)) (.cons (.set 3 (.var 5)) .nil))))
def b_law_gcd : Ss := (.cons (.set 2 (.ite (.val (.cmp .ge (.var 0) (.cst (.int 0)))) (.var 0) (.neg (.var 0)))) (.cons (.set 3 (.ite (.val (.cmp .ge (.var 1) (.cst (.int 0)))) (.var 1) (.neg (.var 1)))) (.cons (.for (.name 4) (.rng (.cons (.cst (.int 20000)) .nil)) b_law_gcd_0) (.cons (.ret (.var 2)) .nil))))
def b_law_red : Ss := (.cons (.ite (.val (.cmp .lt (.var 1) (.cst (.int 0)))) (.cons (.ret (.call 50 (.cons (.neg (.var 0)) (.cons (.neg (.var 1)) .nil)))) .nil) .nil) (.cons (.set 2 (.call 49 (.cons (.var 0) (.cons (.var 1) .nil)))) (.cons (.ite (.val (.cmp .eq (.var 2) (.cst (.int 0)))) (.cons (.ret (.tup (.cons (.cst (.int 0)) (.cons (.cst (.int 1)) .nil)))) .nil) .nil) (.cons (.ret (.tup (.cons (.bin .fdiv (.var 0) (.var 2)) (.cons (.bin .fdiv (.var 1) (.var 2)) .nil)))) .nil))))
def b_law_add : Ss := (.cons (.ret (.call 50 (.cons (.bin .add (.bin .mul (.idx (.var 0) (.cst (.int 0))) (.idx (.var 1) (.cst (.int 1)))) (.bin .mul (.idx (.var 1) (.cst (.int 0))) (.idx (.var 0) (.cst (.int 1))))) (.cons (.bin .mul (.idx (.var 0) (.cst (.int 1))) (.idx (.var 1) (.cst (.int 1)))) .nil)))) .nil)
def b_law_sub : Ss := (.cons (.ret (.call 50 (.cons (.bin .sub (.bin .mul (.idx (.var 0) (.cst (.int 0))) (.idx (.var 1) (.cst (.int 1)))) (.bin .mul (.idx (.var 1) (.cst (.int 0))) (.idx (.var 0) (.cst (.int 1))))) (.cons (.bin .mul (.idx (.var 0) (.cst (.int 1))) (.idx (.var 1) (.cst (.int 1)))) .nil)))) .nil)
def b_law_mul : Ss := (.cons (.ret (.call 50 (.cons (.bin .mul (.idx (.var 0) (.cst (.int 0))) (.idx (.var 1) (.cst (.int 0)))) (.cons (.bin .mul (.idx (.var 0) (.cst (.int 1))) (.idx (.var 1) (.cst (.int 1)))) .nil)))) .nil)
def b_law_less : Ss := (.cons (.ret (.cmp .lt (.bin .mul (.idx (.var 0) (.cst (.int 0))) (.idx (.var 1) (.cst (.int 1)))) (.bin .mul (.idx (.var 1) (.cst (.int 0))) (.idx (.var 0) (.cst (.int 1)))))) .nil)
def b_law_sour_0 : Ss := (.cons (.ite (.not (.val (.call 54 (.cons (.tup (.cons (.idx (.idx (.var 0) (.var 2)) (.cst (.int 0))) (.cons (.cst (.int 1)) .nil))) (.cons (.var 1) .nil))))) (.cons (.set 3 (.call 53 (.cons (.call 52 (.cons (.var 1) (.cons (.tup (.cons (.idx (.idx (.var 0) (.bin .sub (.var 2) (.cst (.int 1)))) (.cst (.int 0))) (.cons (.cst (.int 1)) .nil))) .nil))) (.cons (.call 50 (.cons (.bin .sub (.idx (.idx (.var 0) (.var 2)) (.cst (.int 1))) (.idx (.idx (.var 0) (.bin .sub (.var 2) (.cst (.int 1)))) (.cst (.int 1)))) (.cons (.bin .sub (.idx (.idx (.var 0) (.var 2)) (.cst (.int 0))) (.idx (.idx (.var 0) (.bin .sub (.var 2) (.cst (.int 1)))) (.cst (.int 0)))) .nil))) .nil)))) (.cons (.ret (.call 51 (.cons (.tup (.cons (.idx (.idx (.var 0) (.bin .sub (.var 2) (.cst (.int 1)))) (.cst (.int 1))) (.cons (.cst (.int 1)) .nil))) (.cons (.var 3) .nil)))) .nil)) .nil) .nil)
def b_law_sour : Ss := (.cons (.for (.name 2) (.rng (.cons (.cst (.int 1)) (.cons (.bi .len (.cons (.var 0) .nil)) .nil))) b_law_sour_0) (.cons (.ret (.tup (.cons (.idx (.idx (.var 0) (.bin .sub (.bi .len (.cons (.var 0) .nil)) (.cst (.int 1)))) (.cst (.int 1))) (.cons (.cst (.int 1)) .nil)))) .nil))
def blaw_0 : Ss := (.cons (.app 3 (.tup (.cons (.var 4) (.cons (.bin .mul (.cst (.int 2)) (.call 48 (.cons (.var 1) (.cons (.var 2) (.cons (.cst (.int 6)) .nil))))) .nil)))) (.cons (.set 4 (.bin .add (.var 4) (.cst (.int 2)))) .nil))
def elaw_1 : E := (.var 14)
def tlaw_2 : T := (.and (.not (.val (.call 54 (.cons (.var 11) (.cons (.idx (.var 14) (.cst (.int 0))) .nil))))) (.not (.val (.call 54 (.cons (.idx (.var 14) (.cst (.int 1))) (.cons (.var 11) .nil))))))
def elaw_3 : E := (.var 14)
def tlaw_4 : T := (.not (.val (.call 54 (.cons (.idx (.var 14) (.cst (.int 1))) (.cons (.var 11) .nil)))))
def blaw_5 : Ss := (.cons (.set 11 (.call 50 (.cons (.var 10) (.cons (.cst (.int 2)) .nil)))) (.cons (.set 12 (.call 55 (.cons (.var 3) (.cons (.var 11) .nil)))) (.cons (.new 13 (.comp1 elaw_1 (.name 14) (.seq (.var 9)) tlaw_2 [14])) (.cons (.ite (.or (.not (.val (.call 45 (.cons (.call 28 (.cons (.var 3) (.cons (.var 11) .nil))) (.cons (.var 12) .nil))))) (.or (.val (.cmp .ne (.cmp .gt (.bi .len (.cons (.var 13) .nil)) (.cst (.int 0))) (.not (.call 54 (.cons (.var 12) (.cons (.tup (.cons (.var 8) (.cons (.cst (.int 1)) .nil))) .nil)))))) (.val (.cmp .gt (.bi .len (.cons (.var 13) .nil)) (.cst (.int 1)))))) (.cons (.ret (.cst (.bl false))) .nil) .nil) (.cons (.set 15 (.call 31 (.cons (.var 3) (.cons (.var 8) (.cons (.var 11) .nil))))) (.cons (.set 16 (.call 32 (.cons (.var 3) (.cons (.var 8) (.cons (.var 11) .nil))))) (.cons (.ite (.or (.and (.val (.cmp .gt (.bi .len (.cons (.var 13) .nil)) (.cst (.int 0)))) (.or (.val (.cmp .ne (.var 15) (.var 11))) (.val (.cmp .ne (.var 16) (.var 11))))) (.or (.and (.val (.notN (.var 15))) (.val (.call 54 (.cons (.var 15) (.cons (.var 11) .nil))))) (.and (.val (.notN (.var 16))) (.val (.call 54 (.cons (.var 11) (.cons (.var 16) .nil))))))) (.cons (.ret (.cst (.bl false))) .nil) .nil) (.cons (.ite (.and (.val (.isN (.var 15))) (.val (.cmp .gt (.bi .len (.cons (.comp1 elaw_3 (.name 14) (.seq (.var 9)) tlaw_4 [14]) .nil)) (.cst (.int 0))))) (.cons (.ret (.cst (.bl false))) .nil) .nil) .nil))))))))
def blaw_6 : Ss := (.cons (.set 17 (.call 51 (.cons (.var 17) (.cons (.call 52 (.cons (.idx (.idx (.var 9) (.var 5)) (.cst (.int 1))) (.cons (.idx (.idx (.var 9) (.var 5)) (.cst (.int 0))) .nil))) .nil)))) (.cons (.ite (.or (.val (.call 54 (.cons (.idx (.idx (.var 9) (.var 5)) (.cst (.int 1))) (.cons (.idx (.idx (.var 9) (.var 5)) (.cst (.int 0))) .nil)))) (.and (.val (.cmp .gt (.var 5) (.cst (.int 0)))) (.not (.val (.call 54 (.cons (.idx (.idx (.var 9) (.bin .sub (.var 5) (.cst (.int 1)))) (.cst (.int 1))) (.cons (.idx (.idx (.var 9) (.var 5)) (.cst (.int 0))) .nil))))))) (.cons (.ret (.cst (.bl false))) .nil) .nil) .nil))
def elaw_7 : E := (.tup (.cons (.call 48 (.cons (.var 1) (.cons (.var 2) (.cons (.cst (.int 4)) .nil)))) (.cons (.ite (.val (.cmp .eq (.call 48 (.cons (.var 1) (.cons (.var 2) (.cons (.cst (.int 2)) .nil)))) (.cst (.int 0)))) (.cst .non) (.sli 2 (.tup (.cons (.tup (.cons (.cst (.int 2)) (.cons (.cst (.int 4)) .nil))) (.cons (.tup (.cons (.cst (.int 7)) (.cons (.cst (.int 7)) .nil))) (.cons (.tup (.cons (.cst (.int 9)) (.cons (.cst (.int 12)) .nil))) .nil)))) (.cst .non) (.bin .add (.cst (.int 1)) (.call 48 (.cons (.var 1) (.cons (.var 2) (.cons (.cst (.int 3)) .nil))))))) .nil)))
def elaw_8 : E := (.var 14)
def tlaw_9 : T := (.and (.val (.cmp .le (.idx (.var 14) (.cst (.int 0))) (.bin .add (.var 20) (.var 23)))) (.val (.cmp .le (.bin .add (.var 20) (.var 23)) (.idx (.var 14) (.cst (.int 1))))))
def blaw_10 : Ss := (.cons (.ite (.and (.val (.notN (.var 20))) (.and (.val (.notN (.idx (.var 22) (.cst (.int 1))))) (.val (.cmp .eq (.bi .len (.cons (.comp1 elaw_8 (.name 14) (.seq (.idx (.var 22) (.cst (.int 1)))) tlaw_9 [14]) .nil)) (.cst (.int 0)))))) (.cons (.set 23 (.bin .add (.var 23) (.cst (.int 1)))) .nil) .nil) .nil)
def blaw_11 : Ss := (.cons (.set 23 (.cst (.int 0))) (.cons (.for (.name 24) (.rng (.cons (.cst (.int 20)) .nil)) blaw_10) (.cons (.ite (.and (.val (.notN (.var 20))) (.val (.cmp .eq (.var 23) (.cst (.int 20))))) (.cons (.set 20 (.cst .non)) .nil) .nil) (.cons (.ite (.val (.notN (.var 20))) (.cons (.app 21 (.var 23)) (.cons (.set 20 (.bin .add (.bin .add (.var 20) (.var 23)) (.idx (.var 22) (.cst (.int 0))))) .nil)) .nil) .nil))))
def blaw_12 : Ss := (.cons (.set 20 (.var 19)) (.cons (.new 21 (.lst .nil)) (.cons (.for (.name 22) (.seq (.var 18)) blaw_11) (.cons (.ite (.or (.not (.val (.call 45 (.cons (.call 42 (.cons (.var 18) (.cons (.var 19) .nil))) (.cons (.var 20) .nil))))) (.not (.val (.call 45 (.cons (.call 43 (.cons (.var 18) (.cons (.var 19) .nil))) (.cons (.ite (.val (.isN (.var 20))) (.cst .non) (.bi .tuple (.cons (.var 21) .nil))) .nil)))))) (.cons (.ret (.cst (.bl false))) .nil) .nil) .nil))))
def elaw_13 : E := (.var 19)
def tlaw_14 : T := (.and (.val (.notN (.call 42 (.cons (.var 18) (.cons (.var 19) .nil))))) (.val (.cmp .le (.call 42 (.cons (.var 18) (.cons (.var 19) .nil))) (.var 25))))
def blaw_15 : Ss := (.cons (.new 26 (.comp1 elaw_13 (.name 19) (.rng (.cons (.cst (.int 0)) (.cons (.bin .add (.var 25) (.cst (.int 1))) .nil))) tlaw_14 [19])) (.cons (.ite (.not (.val (.call 45 (.cons (.call 44 (.cons (.var 18) (.cons (.var 25) .nil))) (.cons (.ite (.val (.cmp .gt (.bi .len (.cons (.var 26) .nil)) (.cst (.int 0)))) (.idx (.var 26) (.bin .sub (.bi .len (.cons (.var 26) .nil)) (.cst (.int 1)))) (.cst .non)) .nil))))) (.cons (.ret (.cst (.bl false))) .nil) .nil) .nil))
def blaw : Ss := (.cons (.set 1 (.call 46 (.cons (.var 0) .nil))) (.cons (.spot 2) (.cons (.new 3 (.lst .nil)) (.cons (.set 4 (.call 48 (.cons (.var 1) (.cons (.var 2) (.cons (.cst (.int 4)) .nil))))) (.cons (.for (.name 5) (.rng (.cons (.bin .add (.cst (.int 2)) (.call 48 (.cons (.var 1) (.cons (.var 2) (.cons (.cst (.int 5)) .nil))))) .nil)) blaw_0) (.cons (.set 3 (.bi .tuple (.cons (.var 3) .nil))) (.cons (.set 6 (.idx (.idx (.var 3) (.cst (.int 0))) (.cst (.int 0)))) (.cons (.set 7 (.idx (.idx (.var 3) (.bin .sub (.bi .len (.cons (.var 3) .nil)) (.cst (.int 1)))) (.cst (.int 0)))) (.cons (.set 8 (.call 48 (.cons (.var 1) (.cons (.var 2) (.cons (.cst (.int 12)) .nil))))) (.cons (.set 9 (.call 29 (.cons (.var 3) (.cons (.var 8) .nil)))) (.cons (.for (.name 10) (.rng (.cons (.bin .mul (.cst (.int 2)) (.var 6)) (.cons (.bin .add (.bin .mul (.cst (.int 2)) (.var 7)) (.cst (.int 1))) .nil))) blaw_5) (.cons (.set 17 (.tup (.cons (.cst (.int 0)) (.cons (.cst (.int 1)) .nil)))) (.cons (.for (.name 5) (.rng (.cons (.bi .len (.cons (.var 9) .nil)) .nil)) blaw_6) (.cons (.ite (.not (.val (.call 45 (.cons (.call 30 (.cons (.var 3) (.cons (.var 8) .nil))) (.cons (.var 17) .nil))))) (.cons (.ret (.cst (.bl false))) .nil) .nil) (.cons (.set 18 (.bi .tuple (.cons (.comp0 elaw_7 (.name 5) (.rng (.cons (.call 48 (.cons (.var 1) (.cons (.var 2) (.cons (.cst (.int 4)) .nil)))) .nil)) [5]) .nil))) (.cons (.for (.name 19) (.rng (.cons (.cst (.int 0)) (.cons (.cst (.int 15)) .nil))) blaw_12) (.cons (.for (.name 25) (.rng (.cons (.cst (.int 0)) (.cons (.cst (.int 20)) .nil))) blaw_15) (.cons (.ret (.cst (.bl true))) .nil))))))))))))))))))
def ds : List Def := [⟨2, 3, breduced⟩, ⟨1, 1, bf_whole⟩, ⟨2, 2, bf_add⟩, ⟨2, 2, bf_sub⟩, ⟨2, 2, bf_less⟩, ⟨2, 2, bf_at_most⟩, ⟨2, 2, bf_min⟩, ⟨2, 2, bf_max⟩, ⟨1, 3, bf_total⟩, ⟨2, 4, bcovers⟩, ⟨2, 3, bheight_at⟩, ⟨3, 5, bheight_between⟩, ⟨3, 4, bplace_between⟩, ⟨3, 5, bhigh_part⟩, ⟨2, 5, bhigh_spans⟩, ⟨2, 2, bneed⟩, ⟨1, 1, bis_integer⟩, ⟨3, 3, bis_whole⟩, ⟨2, 2, bis_whole_from⟩, ⟨3, 3, bis_sequence⟩, ⟨1, 1, bis_pair⟩, ⟨2, 5, bis_row⟩, ⟨4, 5, bis_rows⟩, ⟨1, 2, bis_rising⟩, ⟨1, 1, bis_any_fraction⟩, ⟨1, 1, bis_fraction⟩, ⟨1, 2, bfrozen⟩, ⟨1, 2, bis_table⟩, ⟨2, 4, bsour_at⟩, ⟨2, 2, bwindows⟩, ⟨2, 5, btime_for⟩, ⟨3, 7, bfirst_from⟩, ⟨3, 8, blast_till⟩, ⟨3, 5, basked⟩, ⟨1, 3, bis_span⟩, ⟨1, 3, bare_spans⟩, ⟨1, 1, bis_leg⟩, ⟨1, 2, bare_legs⟩, ⟨2, 2, bchecked⟩, ⟨2, 4, bbegin_from⟩, ⟨2, 5, bbegin_till⟩, ⟨2, 7, btravelled⟩, ⟨2, 3, barrives⟩, ⟨2, 3, bwaits⟩, ⟨2, 5, bleaves⟩, ⟨2, 3, b_law_so⟩, ⟨1, 6, b_law_numbers⟩, ⟨3, 4, b_law_draw⟩, ⟨3, 3, b_law_take⟩, ⟨2, 6, b_law_gcd⟩, ⟨2, 3, b_law_red⟩, ⟨2, 2, b_law_add⟩, ⟨2, 2, b_law_sub⟩, ⟨2, 2, b_law_mul⟩, ⟨2, 2, b_law_less⟩, ⟨2, 4, b_law_sour⟩, ⟨1, 27, blaw⟩]
theorem creduced : cSs ct (defScope streduced) nreduced 60 (defBody streduced) = some breduced := by first | rfl | decide +kernel
theorem sreduced : FnScope nreduced ["top", "bottom"] (defScope streduced) := ⟨rfl, rfl, rfl, by decide +kernel, rfl, by decide +kernel, by decide +kernel⟩
theorem cf_whole : cSs ct (defScope stf_whole) nf_whole 60 (defBody stf_whole) = some bf_whole := by first | rfl | decide +kernel
theorem sf_whole : FnScope nf_whole ["number"] (defScope stf_whole) := ⟨rfl, rfl, rfl, by decide +kernel, rfl, by decide +kernel, by decide +kernel⟩
theorem cf_add : cSs ct (defScope stf_add) nf_add 60 (defBody stf_add) = some bf_add := by first | rfl | decide +kernel
theorem sf_add : FnScope nf_add ["one", "other"] (defScope stf_add) := ⟨rfl, rfl, rfl, by decide +kernel, rfl, by decide +kernel, by decide +kernel⟩
theorem cf_sub : cSs ct (defScope stf_sub) nf_sub 60 (defBody stf_sub) = some bf_sub := by first | rfl | decide +kernel
theorem sf_sub : FnScope nf_sub ["one", "other"] (defScope stf_sub) := ⟨rfl, rfl, rfl, by decide +kernel, rfl, by decide +kernel, by decide +kernel⟩
theorem cf_less : cSs ct (defScope stf_less) nf_less 60 (defBody stf_less) = some bf_less := by first | rfl | decide +kernel
theorem sf_less : FnScope nf_less ["one", "other"] (defScope stf_less) := ⟨rfl, rfl, rfl, by decide +kernel, rfl, by decide +kernel, by decide +kernel⟩
theorem cf_at_most : cSs ct (defScope stf_at_most) nf_at_most 60 (defBody stf_at_most) = some bf_at_most := by first | rfl | decide +kernel
theorem sf_at_most : FnScope nf_at_most ["one", "other"] (defScope stf_at_most) := ⟨rfl, rfl, rfl, by decide +kernel, rfl, by decide +kernel, by decide +kernel⟩
theorem cf_min : cSs ct (defScope stf_min) nf_min 60 (defBody stf_min) = some bf_min := by first | rfl | decide +kernel
theorem sf_min : FnScope nf_min ["one", "other"] (defScope stf_min) := ⟨rfl, rfl, rfl, by decide +kernel, rfl, by decide +kernel, by decide +kernel⟩
theorem cf_max : cSs ct (defScope stf_max) nf_max 60 (defBody stf_max) = some bf_max := by first | rfl | decide +kernel
theorem sf_max : FnScope nf_max ["one", "other"] (defScope stf_max) := ⟨rfl, rfl, rfl, by decide +kernel, rfl, by decide +kernel, by decide +kernel⟩
theorem cf_total : cSs ct (defScope stf_total) nf_total 60 (defBody stf_total) = some bf_total := by first | rfl | decide +kernel
theorem sf_total : FnScope nf_total ["parts"] (defScope stf_total) := ⟨rfl, rfl, rfl, by decide +kernel, rfl, by decide +kernel, by decide +kernel⟩
theorem ccovers : cSs ct (defScope stcovers) ncovers 60 (defBody stcovers) = some bcovers := by first | rfl | decide +kernel
theorem scovers : FnScope ncovers ["knots", "place"] (defScope stcovers) := ⟨rfl, rfl, rfl, by decide +kernel, rfl, by decide +kernel, by decide +kernel⟩
theorem cheight_at : cSs ct (defScope stheight_at) nheight_at 60 (defBody stheight_at) = some bheight_at := by first | rfl | decide +kernel
theorem sheight_at : FnScope nheight_at ["knots", "place"] (defScope stheight_at) := ⟨rfl, rfl, rfl, by decide +kernel, rfl, by decide +kernel, by decide +kernel⟩
theorem cheight_between : cSs ct (defScope stheight_between) nheight_between 60 (defBody stheight_between) = some bheight_between := by first | rfl | decide +kernel
theorem sheight_between : FnScope nheight_between ["one", "other", "place"] (defScope stheight_between) := ⟨rfl, rfl, rfl, by decide +kernel, rfl, by decide +kernel, by decide +kernel⟩
theorem cplace_between : cSs ct (defScope stplace_between) nplace_between 60 (defBody stplace_between) = some bplace_between := by first | rfl | decide +kernel
theorem splace_between : FnScope nplace_between ["one", "other", "height"] (defScope stplace_between) := ⟨rfl, rfl, rfl, by decide +kernel, rfl, by decide +kernel, by decide +kernel⟩
theorem chigh_part : cSs ct (defScope sthigh_part) nhigh_part 60 (defBody sthigh_part) = some bhigh_part := by first | rfl | decide +kernel
theorem shigh_part : FnScope nhigh_part ["one", "other", "height"] (defScope sthigh_part) := ⟨rfl, rfl, rfl, by decide +kernel, rfl, by decide +kernel, by decide +kernel⟩
theorem chigh_spans : cSs ct (defScope sthigh_spans) nhigh_spans 60 (defBody sthigh_spans) = some bhigh_spans := by first | rfl | decide +kernel
theorem shigh_spans : FnScope nhigh_spans ["knots", "height"] (defScope sthigh_spans) := ⟨rfl, rfl, rfl, by decide +kernel, rfl, by decide +kernel, by decide +kernel⟩
theorem cneed : cSs ct (defScope stneed) nneed 60 (defBody stneed) = some bneed := by first | rfl | decide +kernel
theorem sneed : FnScope nneed ["ok", "at"] (defScope stneed) := ⟨rfl, rfl, rfl, by decide +kernel, rfl, by decide +kernel, by decide +kernel⟩
theorem cis_integer : cSs ct (defScope stis_integer) nis_integer 60 (defBody stis_integer) = some bis_integer := by first | rfl | decide +kernel
theorem sis_integer : FnScope nis_integer ["value"] (defScope stis_integer) := ⟨rfl, rfl, rfl, by decide +kernel, rfl, by decide +kernel, by decide +kernel⟩
theorem cis_whole : cSs ct (defScope stis_whole) nis_whole 60 (defBody stis_whole) = some bis_whole := by first | rfl | decide +kernel
theorem sis_whole : FnScope nis_whole ["value", "low", "high"] (defScope stis_whole) := ⟨rfl, rfl, rfl, by decide +kernel, rfl, by decide +kernel, by decide +kernel⟩
theorem cis_whole_from : cSs ct (defScope stis_whole_from) nis_whole_from 60 (defBody stis_whole_from) = some bis_whole_from := by first | rfl | decide +kernel
theorem sis_whole_from : FnScope nis_whole_from ["value", "low"] (defScope stis_whole_from) := ⟨rfl, rfl, rfl, by decide +kernel, rfl, by decide +kernel, by decide +kernel⟩
theorem cis_sequence : cSs ct (defScope stis_sequence) nis_sequence 60 (defBody stis_sequence) = some bis_sequence := by first | rfl | decide +kernel
theorem sis_sequence : FnScope nis_sequence ["value", "fewest", "most"] (defScope stis_sequence) := ⟨rfl, rfl, rfl, by decide +kernel, rfl, by decide +kernel, by decide +kernel⟩
theorem cis_pair : cSs ct (defScope stis_pair) nis_pair 60 (defBody stis_pair) = some bis_pair := by first | rfl | decide +kernel
theorem sis_pair : FnScope nis_pair ["value"] (defScope stis_pair) := ⟨rfl, rfl, rfl, by decide +kernel, rfl, by decide +kernel, by decide +kernel⟩
theorem cis_row : cSs ct (defScope stis_row) nis_row 60 (defBody stis_row) = some bis_row := by first | rfl | decide +kernel
theorem sis_row : FnScope nis_row ["value", "bounds"] (defScope stis_row) := ⟨rfl, rfl, rfl, by decide +kernel, rfl, by decide +kernel, by decide +kernel⟩
theorem cis_rows : cSs ct (defScope stis_rows) nis_rows 60 (defBody stis_rows) = some bis_rows := by first | rfl | decide +kernel
theorem sis_rows : FnScope nis_rows ["value", "fewest", "most", "bounds"] (defScope stis_rows) := ⟨rfl, rfl, rfl, by decide +kernel, rfl, by decide +kernel, by decide +kernel⟩
theorem cis_rising : cSs ct (defScope stis_rising) nis_rising 60 (defBody stis_rising) = some bis_rising := by first | rfl | decide +kernel
theorem sis_rising : FnScope nis_rising ["values"] (defScope stis_rising) := ⟨rfl, rfl, rfl, by decide +kernel, rfl, by decide +kernel, by decide +kernel⟩
theorem cis_any_fraction : cSs ct (defScope stis_any_fraction) nis_any_fraction 60 (defBody stis_any_fraction) = some bis_any_fraction := by first | rfl | decide +kernel
theorem sis_any_fraction : FnScope nis_any_fraction ["value"] (defScope stis_any_fraction) := ⟨rfl, rfl, rfl, by decide +kernel, rfl, by decide +kernel, by decide +kernel⟩
theorem cis_fraction : cSs ct (defScope stis_fraction) nis_fraction 60 (defBody stis_fraction) = some bis_fraction := by first | rfl | decide +kernel
theorem sis_fraction : FnScope nis_fraction ["value"] (defScope stis_fraction) := ⟨rfl, rfl, rfl, by decide +kernel, rfl, by decide +kernel, by decide +kernel⟩
theorem cfrozen : cSs ct (defScope stfrozen) nfrozen 60 (defBody stfrozen) = some bfrozen := by first | rfl | decide +kernel
theorem sfrozen : FnScope nfrozen ["value"] (defScope stfrozen) := ⟨rfl, rfl, rfl, by decide +kernel, rfl, by decide +kernel, by decide +kernel⟩
theorem cis_table : cSs ct (defScope stis_table) nis_table 60 (defBody stis_table) = some bis_table := by first | rfl | decide +kernel
theorem sis_table : FnScope nis_table ["value"] (defScope stis_table) := ⟨rfl, rfl, rfl, by decide +kernel, rfl, by decide +kernel, by decide +kernel⟩
theorem csour_at : cSs ct (defScope stsour_at) nsour_at 60 (defBody stsour_at) = some bsour_at := by first | rfl | decide +kernel
theorem ssour_at : FnScope nsour_at ["table", "minute"] (defScope stsour_at) := ⟨rfl, rfl, rfl, by decide +kernel, rfl, by decide +kernel, by decide +kernel⟩
theorem cwindows : cSs ct (defScope stwindows) nwindows 60 (defBody stwindows) = some bwindows := by first | rfl | decide +kernel
theorem swindows : FnScope nwindows ["table", "least"] (defScope stwindows) := ⟨rfl, rfl, rfl, by decide +kernel, rfl, by decide +kernel, by decide +kernel⟩
theorem ctime_for : cSs ct (defScope sttime_for) ntime_for 60 (defBody sttime_for) = some btime_for := by first | rfl | decide +kernel
theorem stime_for : FnScope ntime_for ["table", "least"] (defScope sttime_for) := ⟨rfl, rfl, rfl, by decide +kernel, rfl, by decide +kernel, by decide +kernel⟩
theorem cfirst_from : cSs ct (defScope stfirst_from) nfirst_from 60 (defBody stfirst_from) = some bfirst_from := by first | rfl | decide +kernel
theorem sfirst_from : FnScope nfirst_from ["table", "least", "minute"] (defScope stfirst_from) := ⟨rfl, rfl, rfl, by decide +kernel, rfl, by decide +kernel, by decide +kernel⟩
theorem clast_till : cSs ct (defScope stlast_till) nlast_till 60 (defBody stlast_till) = some blast_till := by first | rfl | decide +kernel
theorem slast_till : FnScope nlast_till ["table", "least", "minute"] (defScope stlast_till) := ⟨rfl, rfl, rfl, by decide +kernel, rfl, by decide +kernel, by decide +kernel⟩
theorem casked : cSs ct (defScope stasked) nasked 60 (defBody stasked) = some basked := by first | rfl | decide +kernel
theorem sasked : FnScope nasked ["table", "least", "minute"] (defScope stasked) := ⟨rfl, rfl, rfl, by decide +kernel, rfl, by decide +kernel, by decide +kernel⟩
theorem cis_span : cSs ct (defScope stis_span) nis_span 60 (defBody stis_span) = some bis_span := by first | rfl | decide +kernel
theorem sis_span : FnScope nis_span ["value"] (defScope stis_span) := ⟨rfl, rfl, rfl, by decide +kernel, rfl, by decide +kernel, by decide +kernel⟩
theorem care_spans : cSs ct (defScope stare_spans) nare_spans 60 (defBody stare_spans) = some bare_spans := by first | rfl | decide +kernel
theorem sare_spans : FnScope nare_spans ["value"] (defScope stare_spans) := ⟨rfl, rfl, rfl, by decide +kernel, rfl, by decide +kernel, by decide +kernel⟩
theorem cis_leg : cSs ct (defScope stis_leg) nis_leg 60 (defBody stis_leg) = some bis_leg := by first | rfl | decide +kernel
theorem sis_leg : FnScope nis_leg ["value"] (defScope stis_leg) := ⟨rfl, rfl, rfl, by decide +kernel, rfl, by decide +kernel, by decide +kernel⟩
theorem care_legs : cSs ct (defScope stare_legs) nare_legs 60 (defBody stare_legs) = some bare_legs := by first | rfl | decide +kernel
theorem sare_legs : FnScope nare_legs ["value"] (defScope stare_legs) := ⟨rfl, rfl, rfl, by decide +kernel, rfl, by decide +kernel, by decide +kernel⟩
theorem cchecked : cSs ct (defScope stchecked) nchecked 60 (defBody stchecked) = some bchecked := by first | rfl | decide +kernel
theorem schecked : FnScope nchecked ["legs", "minute"] (defScope stchecked) := ⟨rfl, rfl, rfl, by decide +kernel, rfl, by decide +kernel, by decide +kernel⟩
theorem cbegin_from : cSs ct (defScope stbegin_from) nbegin_from 60 (defBody stbegin_from) = some bbegin_from := by first | rfl | decide +kernel
theorem sbegin_from : FnScope nbegin_from ["spans", "minute"] (defScope stbegin_from) := ⟨rfl, rfl, rfl, by decide +kernel, rfl, by decide +kernel, by decide +kernel⟩
theorem cbegin_till : cSs ct (defScope stbegin_till) nbegin_till 60 (defBody stbegin_till) = some bbegin_till := by first | rfl | decide +kernel
theorem sbegin_till : FnScope nbegin_till ["spans", "minute"] (defScope stbegin_till) := ⟨rfl, rfl, rfl, by decide +kernel, rfl, by decide +kernel, by decide +kernel⟩
theorem ctravelled : cSs ct (defScope sttravelled) ntravelled 60 (defBody sttravelled) = some btravelled := by first | rfl | decide +kernel
theorem stravelled : FnScope ntravelled ["legs", "minute"] (defScope sttravelled) := ⟨rfl, rfl, rfl, by decide +kernel, rfl, by decide +kernel, by decide +kernel⟩
theorem carrives : cSs ct (defScope starrives) narrives 60 (defBody starrives) = some barrives := by first | rfl | decide +kernel
theorem sarrives : FnScope narrives ["legs", "minute"] (defScope starrives) := ⟨rfl, rfl, rfl, by decide +kernel, rfl, by decide +kernel, by decide +kernel⟩
theorem cwaits : cSs ct (defScope stwaits) nwaits 60 (defBody stwaits) = some bwaits := by first | rfl | decide +kernel
theorem swaits : FnScope nwaits ["legs", "minute"] (defScope stwaits) := ⟨rfl, rfl, rfl, by decide +kernel, rfl, by decide +kernel, by decide +kernel⟩
theorem cleaves : cSs ct (defScope stleaves) nleaves 60 (defBody stleaves) = some bleaves := by first | rfl | decide +kernel
theorem sleaves : FnScope nleaves ["legs", "minute"] (defScope stleaves) := ⟨rfl, rfl, rfl, by decide +kernel, rfl, by decide +kernel, by decide +kernel⟩
theorem c_law_so : cSs ct (defScope st_law_so) n_law_so 60 (defBody st_law_so) = some b_law_so := by first | rfl | decide +kernel
theorem s_law_so : FnScope n_law_so ["found", "meant"] (defScope st_law_so) := ⟨rfl, rfl, rfl, by decide +kernel, rfl, by decide +kernel, by decide +kernel⟩
theorem c_law_numbers : cSs ct (defScope st_law_numbers) n_law_numbers 60 (defBody st_law_numbers) = some b_law_numbers := by first | rfl | decide +kernel
theorem s_law_numbers : FnScope n_law_numbers ["script"] (defScope st_law_numbers) := ⟨rfl, rfl, rfl, by decide +kernel, rfl, by decide +kernel, by decide +kernel⟩
theorem c_law_draw : cSs ct (defScope st_law_draw) n_law_draw 60 (defBody st_law_draw) = some b_law_draw := by first | rfl | decide +kernel
theorem s_law_draw : FnScope n_law_draw ["row", "at", "limit"] (defScope st_law_draw) := ⟨rfl, rfl, rfl, by decide +kernel, rfl, by decide +kernel, by decide +kernel⟩
theorem c_law_take : cSs ct (defScope st_law_take) n_law_take 60 (defBody st_law_take) = some b_law_take := by first | rfl | decide +kernel
theorem s_law_take : FnScope n_law_take ["row", "spot", "limit"] (defScope st_law_take) := ⟨rfl, rfl, rfl, by decide +kernel, rfl, by decide +kernel, by decide +kernel⟩
theorem c_law_gcd : cSs ct (defScope st_law_gcd) n_law_gcd 60 (defBody st_law_gcd) = some b_law_gcd := by first | rfl | decide +kernel
theorem s_law_gcd : FnScope n_law_gcd ["one", "other"] (defScope st_law_gcd) := ⟨rfl, rfl, rfl, by decide +kernel, rfl, by decide +kernel, by decide +kernel⟩
theorem c_law_red : cSs ct (defScope st_law_red) n_law_red 60 (defBody st_law_red) = some b_law_red := by first | rfl | decide +kernel
theorem s_law_red : FnScope n_law_red ["n", "d"] (defScope st_law_red) := ⟨rfl, rfl, rfl, by decide +kernel, rfl, by decide +kernel, by decide +kernel⟩
theorem c_law_add : cSs ct (defScope st_law_add) n_law_add 60 (defBody st_law_add) = some b_law_add := by first | rfl | decide +kernel
theorem s_law_add : FnScope n_law_add ["one", "other"] (defScope st_law_add) := ⟨rfl, rfl, rfl, by decide +kernel, rfl, by decide +kernel, by decide +kernel⟩
theorem c_law_sub : cSs ct (defScope st_law_sub) n_law_sub 60 (defBody st_law_sub) = some b_law_sub := by first | rfl | decide +kernel
theorem s_law_sub : FnScope n_law_sub ["one", "other"] (defScope st_law_sub) := ⟨rfl, rfl, rfl, by decide +kernel, rfl, by decide +kernel, by decide +kernel⟩
theorem c_law_mul : cSs ct (defScope st_law_mul) n_law_mul 60 (defBody st_law_mul) = some b_law_mul := by first | rfl | decide +kernel
theorem s_law_mul : FnScope n_law_mul ["one", "other"] (defScope st_law_mul) := ⟨rfl, rfl, rfl, by decide +kernel, rfl, by decide +kernel, by decide +kernel⟩
theorem c_law_less : cSs ct (defScope st_law_less) n_law_less 60 (defBody st_law_less) = some b_law_less := by first | rfl | decide +kernel
theorem s_law_less : FnScope n_law_less ["one", "other"] (defScope st_law_less) := ⟨rfl, rfl, rfl, by decide +kernel, rfl, by decide +kernel, by decide +kernel⟩
theorem c_law_sour : cSs ct (defScope st_law_sour) n_law_sour 60 (defBody st_law_sour) = some b_law_sour := by first | rfl | decide +kernel
theorem s_law_sour : FnScope n_law_sour ["table", "minute"] (defScope st_law_sour) := ⟨rfl, rfl, rfl, by decide +kernel, rfl, by decide +kernel, by decide +kernel⟩
theorem claw : cSs ct (defScope stlaw) nlaw 60 (defBody stlaw) = some blaw := by first | rfl | decide +kernel
theorem slaw : FnScope nlaw ["script"] (defScope stlaw) := ⟨rfl, rfl, rfl, by decide +kernel, rfl, by decide +kernel, by decide +kernel⟩
theorem fa_cons {α : Type} {P : α → Prop} {x : α} {l : List α} (h : P x) (t : ∀ p ∈ l, P p) : ∀ p ∈ x :: l, P p := fun p hp => by
  rcases List.mem_cons.mp hp with rfl | hp
  · exact h
  · exact t p hp
theorem fa_nil {α : Type} {P : α → Prop} : ∀ p ∈ ([] : List α), P p := fun p hp => by cases hp
theorem df_reduced {K : PySem.W.Frag} {h : Heap} {mg : Str → Option Value} (X : K.In h) (G : h.Ns mainGlobals mg) {f : Addr} {od an : Option Addr} {sl : Array (Option Value)} {oc kV dc pm cd tt : Value} (a : PySem.W.nsIn K mainGlobals "reduced" = some (some (.ref f))) (l : K.lookup f = some ⟨oc, od, .func (PySem.W.fnOf "reduced" "reduced" (defArgs streduced) (defBody streduced) (defScope streduced) .none kV dc pm an cd tt), sl⟩) (c : PySem.W.codeIn K cd "reduced" = true) (k : PySem.W.keepIn K (.ref f) = true) : DefFact ct K mg ds "reduced" 0 := by
  have F := fun_mk (st := streduced) l c k
  exact ⟨⟨_, _, _, _, _, _, 60, _, F, sreduced, creduced, rfl, PySem.W.mg_of X G a, F.binds (ps := ["top", "bottom"]) fun _ _ _ _ _ _ us hl => match us, hl with | [_, _], _ => rfl⟩⟩
theorem df_f_whole {K : PySem.W.Frag} {h : Heap} {mg : Str → Option Value} (X : K.In h) (G : h.Ns mainGlobals mg) {f : Addr} {od an : Option Addr} {sl : Array (Option Value)} {oc kV dc pm cd tt : Value} (a : PySem.W.nsIn K mainGlobals "f_whole" = some (some (.ref f))) (l : K.lookup f = some ⟨oc, od, .func (PySem.W.fnOf "f_whole" "f_whole" (defArgs stf_whole) (defBody stf_whole) (defScope stf_whole) .none kV dc pm an cd tt), sl⟩) (c : PySem.W.codeIn K cd "f_whole" = true) (k : PySem.W.keepIn K (.ref f) = true) : DefFact ct K mg ds "f_whole" 1 := by
  have F := fun_mk (st := stf_whole) l c k
  exact ⟨⟨_, _, _, _, _, _, 60, _, F, sf_whole, cf_whole, rfl, PySem.W.mg_of X G a, F.binds (ps := ["number"]) fun _ _ _ _ _ _ us hl => match us, hl with | [_], _ => rfl⟩⟩
theorem df_f_add {K : PySem.W.Frag} {h : Heap} {mg : Str → Option Value} (X : K.In h) (G : h.Ns mainGlobals mg) {f : Addr} {od an : Option Addr} {sl : Array (Option Value)} {oc kV dc pm cd tt : Value} (a : PySem.W.nsIn K mainGlobals "f_add" = some (some (.ref f))) (l : K.lookup f = some ⟨oc, od, .func (PySem.W.fnOf "f_add" "f_add" (defArgs stf_add) (defBody stf_add) (defScope stf_add) .none kV dc pm an cd tt), sl⟩) (c : PySem.W.codeIn K cd "f_add" = true) (k : PySem.W.keepIn K (.ref f) = true) : DefFact ct K mg ds "f_add" 2 := by
  have F := fun_mk (st := stf_add) l c k
  exact ⟨⟨_, _, _, _, _, _, 60, _, F, sf_add, cf_add, rfl, PySem.W.mg_of X G a, F.binds (ps := ["one", "other"]) fun _ _ _ _ _ _ us hl => match us, hl with | [_, _], _ => rfl⟩⟩
theorem df_f_sub {K : PySem.W.Frag} {h : Heap} {mg : Str → Option Value} (X : K.In h) (G : h.Ns mainGlobals mg) {f : Addr} {od an : Option Addr} {sl : Array (Option Value)} {oc kV dc pm cd tt : Value} (a : PySem.W.nsIn K mainGlobals "f_sub" = some (some (.ref f))) (l : K.lookup f = some ⟨oc, od, .func (PySem.W.fnOf "f_sub" "f_sub" (defArgs stf_sub) (defBody stf_sub) (defScope stf_sub) .none kV dc pm an cd tt), sl⟩) (c : PySem.W.codeIn K cd "f_sub" = true) (k : PySem.W.keepIn K (.ref f) = true) : DefFact ct K mg ds "f_sub" 3 := by
  have F := fun_mk (st := stf_sub) l c k
  exact ⟨⟨_, _, _, _, _, _, 60, _, F, sf_sub, cf_sub, rfl, PySem.W.mg_of X G a, F.binds (ps := ["one", "other"]) fun _ _ _ _ _ _ us hl => match us, hl with | [_, _], _ => rfl⟩⟩
theorem df_f_less {K : PySem.W.Frag} {h : Heap} {mg : Str → Option Value} (X : K.In h) (G : h.Ns mainGlobals mg) {f : Addr} {od an : Option Addr} {sl : Array (Option Value)} {oc kV dc pm cd tt : Value} (a : PySem.W.nsIn K mainGlobals "f_less" = some (some (.ref f))) (l : K.lookup f = some ⟨oc, od, .func (PySem.W.fnOf "f_less" "f_less" (defArgs stf_less) (defBody stf_less) (defScope stf_less) .none kV dc pm an cd tt), sl⟩) (c : PySem.W.codeIn K cd "f_less" = true) (k : PySem.W.keepIn K (.ref f) = true) : DefFact ct K mg ds "f_less" 4 := by
  have F := fun_mk (st := stf_less) l c k
  exact ⟨⟨_, _, _, _, _, _, 60, _, F, sf_less, cf_less, rfl, PySem.W.mg_of X G a, F.binds (ps := ["one", "other"]) fun _ _ _ _ _ _ us hl => match us, hl with | [_, _], _ => rfl⟩⟩
theorem df_f_at_most {K : PySem.W.Frag} {h : Heap} {mg : Str → Option Value} (X : K.In h) (G : h.Ns mainGlobals mg) {f : Addr} {od an : Option Addr} {sl : Array (Option Value)} {oc kV dc pm cd tt : Value} (a : PySem.W.nsIn K mainGlobals "f_at_most" = some (some (.ref f))) (l : K.lookup f = some ⟨oc, od, .func (PySem.W.fnOf "f_at_most" "f_at_most" (defArgs stf_at_most) (defBody stf_at_most) (defScope stf_at_most) .none kV dc pm an cd tt), sl⟩) (c : PySem.W.codeIn K cd "f_at_most" = true) (k : PySem.W.keepIn K (.ref f) = true) : DefFact ct K mg ds "f_at_most" 5 := by
  have F := fun_mk (st := stf_at_most) l c k
  exact ⟨⟨_, _, _, _, _, _, 60, _, F, sf_at_most, cf_at_most, rfl, PySem.W.mg_of X G a, F.binds (ps := ["one", "other"]) fun _ _ _ _ _ _ us hl => match us, hl with | [_, _], _ => rfl⟩⟩
theorem df_f_min {K : PySem.W.Frag} {h : Heap} {mg : Str → Option Value} (X : K.In h) (G : h.Ns mainGlobals mg) {f : Addr} {od an : Option Addr} {sl : Array (Option Value)} {oc kV dc pm cd tt : Value} (a : PySem.W.nsIn K mainGlobals "f_min" = some (some (.ref f))) (l : K.lookup f = some ⟨oc, od, .func (PySem.W.fnOf "f_min" "f_min" (defArgs stf_min) (defBody stf_min) (defScope stf_min) .none kV dc pm an cd tt), sl⟩) (c : PySem.W.codeIn K cd "f_min" = true) (k : PySem.W.keepIn K (.ref f) = true) : DefFact ct K mg ds "f_min" 6 := by
  have F := fun_mk (st := stf_min) l c k
  exact ⟨⟨_, _, _, _, _, _, 60, _, F, sf_min, cf_min, rfl, PySem.W.mg_of X G a, F.binds (ps := ["one", "other"]) fun _ _ _ _ _ _ us hl => match us, hl with | [_, _], _ => rfl⟩⟩
theorem df_f_max {K : PySem.W.Frag} {h : Heap} {mg : Str → Option Value} (X : K.In h) (G : h.Ns mainGlobals mg) {f : Addr} {od an : Option Addr} {sl : Array (Option Value)} {oc kV dc pm cd tt : Value} (a : PySem.W.nsIn K mainGlobals "f_max" = some (some (.ref f))) (l : K.lookup f = some ⟨oc, od, .func (PySem.W.fnOf "f_max" "f_max" (defArgs stf_max) (defBody stf_max) (defScope stf_max) .none kV dc pm an cd tt), sl⟩) (c : PySem.W.codeIn K cd "f_max" = true) (k : PySem.W.keepIn K (.ref f) = true) : DefFact ct K mg ds "f_max" 7 := by
  have F := fun_mk (st := stf_max) l c k
  exact ⟨⟨_, _, _, _, _, _, 60, _, F, sf_max, cf_max, rfl, PySem.W.mg_of X G a, F.binds (ps := ["one", "other"]) fun _ _ _ _ _ _ us hl => match us, hl with | [_, _], _ => rfl⟩⟩
theorem df_f_total {K : PySem.W.Frag} {h : Heap} {mg : Str → Option Value} (X : K.In h) (G : h.Ns mainGlobals mg) {f : Addr} {od an : Option Addr} {sl : Array (Option Value)} {oc kV dc pm cd tt : Value} (a : PySem.W.nsIn K mainGlobals "f_total" = some (some (.ref f))) (l : K.lookup f = some ⟨oc, od, .func (PySem.W.fnOf "f_total" "f_total" (defArgs stf_total) (defBody stf_total) (defScope stf_total) .none kV dc pm an cd tt), sl⟩) (c : PySem.W.codeIn K cd "f_total" = true) (k : PySem.W.keepIn K (.ref f) = true) : DefFact ct K mg ds "f_total" 8 := by
  have F := fun_mk (st := stf_total) l c k
  exact ⟨⟨_, _, _, _, _, _, 60, _, F, sf_total, cf_total, rfl, PySem.W.mg_of X G a, F.binds (ps := ["parts"]) fun _ _ _ _ _ _ us hl => match us, hl with | [_], _ => rfl⟩⟩
theorem df_covers {K : PySem.W.Frag} {h : Heap} {mg : Str → Option Value} (X : K.In h) (G : h.Ns mainGlobals mg) {f : Addr} {od an : Option Addr} {sl : Array (Option Value)} {oc kV dc pm cd tt : Value} (a : PySem.W.nsIn K mainGlobals "covers" = some (some (.ref f))) (l : K.lookup f = some ⟨oc, od, .func (PySem.W.fnOf "covers" "covers" (defArgs stcovers) (defBody stcovers) (defScope stcovers) .none kV dc pm an cd tt), sl⟩) (c : PySem.W.codeIn K cd "covers" = true) (k : PySem.W.keepIn K (.ref f) = true) : DefFact ct K mg ds "covers" 9 := by
  have F := fun_mk (st := stcovers) l c k
  exact ⟨⟨_, _, _, _, _, _, 60, _, F, scovers, ccovers, rfl, PySem.W.mg_of X G a, F.binds (ps := ["knots", "place"]) fun _ _ _ _ _ _ us hl => match us, hl with | [_, _], _ => rfl⟩⟩
theorem df_height_at {K : PySem.W.Frag} {h : Heap} {mg : Str → Option Value} (X : K.In h) (G : h.Ns mainGlobals mg) {f : Addr} {od an : Option Addr} {sl : Array (Option Value)} {oc kV dc pm cd tt : Value} (a : PySem.W.nsIn K mainGlobals "height_at" = some (some (.ref f))) (l : K.lookup f = some ⟨oc, od, .func (PySem.W.fnOf "height_at" "height_at" (defArgs stheight_at) (defBody stheight_at) (defScope stheight_at) .none kV dc pm an cd tt), sl⟩) (c : PySem.W.codeIn K cd "height_at" = true) (k : PySem.W.keepIn K (.ref f) = true) : DefFact ct K mg ds "height_at" 10 := by
  have F := fun_mk (st := stheight_at) l c k
  exact ⟨⟨_, _, _, _, _, _, 60, _, F, sheight_at, cheight_at, rfl, PySem.W.mg_of X G a, F.binds (ps := ["knots", "place"]) fun _ _ _ _ _ _ us hl => match us, hl with | [_, _], _ => rfl⟩⟩
theorem df_height_between {K : PySem.W.Frag} {h : Heap} {mg : Str → Option Value} (X : K.In h) (G : h.Ns mainGlobals mg) {f : Addr} {od an : Option Addr} {sl : Array (Option Value)} {oc kV dc pm cd tt : Value} (a : PySem.W.nsIn K mainGlobals "height_between" = some (some (.ref f))) (l : K.lookup f = some ⟨oc, od, .func (PySem.W.fnOf "height_between" "height_between" (defArgs stheight_between) (defBody stheight_between) (defScope stheight_between) .none kV dc pm an cd tt), sl⟩) (c : PySem.W.codeIn K cd "height_between" = true) (k : PySem.W.keepIn K (.ref f) = true) : DefFact ct K mg ds "height_between" 11 := by
  have F := fun_mk (st := stheight_between) l c k
  exact ⟨⟨_, _, _, _, _, _, 60, _, F, sheight_between, cheight_between, rfl, PySem.W.mg_of X G a, F.binds (ps := ["one", "other", "place"]) fun _ _ _ _ _ _ us hl => match us, hl with | [_, _, _], _ => rfl⟩⟩
theorem df_place_between {K : PySem.W.Frag} {h : Heap} {mg : Str → Option Value} (X : K.In h) (G : h.Ns mainGlobals mg) {f : Addr} {od an : Option Addr} {sl : Array (Option Value)} {oc kV dc pm cd tt : Value} (a : PySem.W.nsIn K mainGlobals "place_between" = some (some (.ref f))) (l : K.lookup f = some ⟨oc, od, .func (PySem.W.fnOf "place_between" "place_between" (defArgs stplace_between) (defBody stplace_between) (defScope stplace_between) .none kV dc pm an cd tt), sl⟩) (c : PySem.W.codeIn K cd "place_between" = true) (k : PySem.W.keepIn K (.ref f) = true) : DefFact ct K mg ds "place_between" 12 := by
  have F := fun_mk (st := stplace_between) l c k
  exact ⟨⟨_, _, _, _, _, _, 60, _, F, splace_between, cplace_between, rfl, PySem.W.mg_of X G a, F.binds (ps := ["one", "other", "height"]) fun _ _ _ _ _ _ us hl => match us, hl with | [_, _, _], _ => rfl⟩⟩
theorem df_high_part {K : PySem.W.Frag} {h : Heap} {mg : Str → Option Value} (X : K.In h) (G : h.Ns mainGlobals mg) {f : Addr} {od an : Option Addr} {sl : Array (Option Value)} {oc kV dc pm cd tt : Value} (a : PySem.W.nsIn K mainGlobals "high_part" = some (some (.ref f))) (l : K.lookup f = some ⟨oc, od, .func (PySem.W.fnOf "high_part" "high_part" (defArgs sthigh_part) (defBody sthigh_part) (defScope sthigh_part) .none kV dc pm an cd tt), sl⟩) (c : PySem.W.codeIn K cd "high_part" = true) (k : PySem.W.keepIn K (.ref f) = true) : DefFact ct K mg ds "high_part" 13 := by
  have F := fun_mk (st := sthigh_part) l c k
  exact ⟨⟨_, _, _, _, _, _, 60, _, F, shigh_part, chigh_part, rfl, PySem.W.mg_of X G a, F.binds (ps := ["one", "other", "height"]) fun _ _ _ _ _ _ us hl => match us, hl with | [_, _, _], _ => rfl⟩⟩
theorem df_high_spans {K : PySem.W.Frag} {h : Heap} {mg : Str → Option Value} (X : K.In h) (G : h.Ns mainGlobals mg) {f : Addr} {od an : Option Addr} {sl : Array (Option Value)} {oc kV dc pm cd tt : Value} (a : PySem.W.nsIn K mainGlobals "high_spans" = some (some (.ref f))) (l : K.lookup f = some ⟨oc, od, .func (PySem.W.fnOf "high_spans" "high_spans" (defArgs sthigh_spans) (defBody sthigh_spans) (defScope sthigh_spans) .none kV dc pm an cd tt), sl⟩) (c : PySem.W.codeIn K cd "high_spans" = true) (k : PySem.W.keepIn K (.ref f) = true) : DefFact ct K mg ds "high_spans" 14 := by
  have F := fun_mk (st := sthigh_spans) l c k
  exact ⟨⟨_, _, _, _, _, _, 60, _, F, shigh_spans, chigh_spans, rfl, PySem.W.mg_of X G a, F.binds (ps := ["knots", "height"]) fun _ _ _ _ _ _ us hl => match us, hl with | [_, _], _ => rfl⟩⟩
theorem df_need {K : PySem.W.Frag} {h : Heap} {mg : Str → Option Value} (X : K.In h) (G : h.Ns mainGlobals mg) {f : Addr} {od an : Option Addr} {sl : Array (Option Value)} {oc kV dc pm cd tt : Value} (a : PySem.W.nsIn K mainGlobals "need" = some (some (.ref f))) (l : K.lookup f = some ⟨oc, od, .func (PySem.W.fnOf "need" "need" (defArgs stneed) (defBody stneed) (defScope stneed) .none kV dc pm an cd tt), sl⟩) (c : PySem.W.codeIn K cd "need" = true) (k : PySem.W.keepIn K (.ref f) = true) : DefFact ct K mg ds "need" 15 := by
  have F := fun_mk (st := stneed) l c k
  exact ⟨⟨_, _, _, _, _, _, 60, _, F, sneed, cneed, rfl, PySem.W.mg_of X G a, F.binds (ps := ["ok", "at"]) fun _ _ _ _ _ _ us hl => match us, hl with | [_, _], _ => rfl⟩⟩
theorem df_is_integer {K : PySem.W.Frag} {h : Heap} {mg : Str → Option Value} (X : K.In h) (G : h.Ns mainGlobals mg) {f : Addr} {od an : Option Addr} {sl : Array (Option Value)} {oc kV dc pm cd tt : Value} (a : PySem.W.nsIn K mainGlobals "is_integer" = some (some (.ref f))) (l : K.lookup f = some ⟨oc, od, .func (PySem.W.fnOf "is_integer" "is_integer" (defArgs stis_integer) (defBody stis_integer) (defScope stis_integer) .none kV dc pm an cd tt), sl⟩) (c : PySem.W.codeIn K cd "is_integer" = true) (k : PySem.W.keepIn K (.ref f) = true) : DefFact ct K mg ds "is_integer" 16 := by
  have F := fun_mk (st := stis_integer) l c k
  exact ⟨⟨_, _, _, _, _, _, 60, _, F, sis_integer, cis_integer, rfl, PySem.W.mg_of X G a, F.binds (ps := ["value"]) fun _ _ _ _ _ _ us hl => match us, hl with | [_], _ => rfl⟩⟩
theorem df_is_whole {K : PySem.W.Frag} {h : Heap} {mg : Str → Option Value} (X : K.In h) (G : h.Ns mainGlobals mg) {f : Addr} {od an : Option Addr} {sl : Array (Option Value)} {oc kV dc pm cd tt : Value} (a : PySem.W.nsIn K mainGlobals "is_whole" = some (some (.ref f))) (l : K.lookup f = some ⟨oc, od, .func (PySem.W.fnOf "is_whole" "is_whole" (defArgs stis_whole) (defBody stis_whole) (defScope stis_whole) .none kV dc pm an cd tt), sl⟩) (c : PySem.W.codeIn K cd "is_whole" = true) (k : PySem.W.keepIn K (.ref f) = true) : DefFact ct K mg ds "is_whole" 17 := by
  have F := fun_mk (st := stis_whole) l c k
  exact ⟨⟨_, _, _, _, _, _, 60, _, F, sis_whole, cis_whole, rfl, PySem.W.mg_of X G a, F.binds (ps := ["value", "low", "high"]) fun _ _ _ _ _ _ us hl => match us, hl with | [_, _, _], _ => rfl⟩⟩
theorem df_is_whole_from {K : PySem.W.Frag} {h : Heap} {mg : Str → Option Value} (X : K.In h) (G : h.Ns mainGlobals mg) {f : Addr} {od an : Option Addr} {sl : Array (Option Value)} {oc kV dc pm cd tt : Value} (a : PySem.W.nsIn K mainGlobals "is_whole_from" = some (some (.ref f))) (l : K.lookup f = some ⟨oc, od, .func (PySem.W.fnOf "is_whole_from" "is_whole_from" (defArgs stis_whole_from) (defBody stis_whole_from) (defScope stis_whole_from) .none kV dc pm an cd tt), sl⟩) (c : PySem.W.codeIn K cd "is_whole_from" = true) (k : PySem.W.keepIn K (.ref f) = true) : DefFact ct K mg ds "is_whole_from" 18 := by
  have F := fun_mk (st := stis_whole_from) l c k
  exact ⟨⟨_, _, _, _, _, _, 60, _, F, sis_whole_from, cis_whole_from, rfl, PySem.W.mg_of X G a, F.binds (ps := ["value", "low"]) fun _ _ _ _ _ _ us hl => match us, hl with | [_, _], _ => rfl⟩⟩
theorem df_is_sequence {K : PySem.W.Frag} {h : Heap} {mg : Str → Option Value} (X : K.In h) (G : h.Ns mainGlobals mg) {f : Addr} {od an : Option Addr} {sl : Array (Option Value)} {oc kV dc pm cd tt : Value} (a : PySem.W.nsIn K mainGlobals "is_sequence" = some (some (.ref f))) (l : K.lookup f = some ⟨oc, od, .func (PySem.W.fnOf "is_sequence" "is_sequence" (defArgs stis_sequence) (defBody stis_sequence) (defScope stis_sequence) .none kV dc pm an cd tt), sl⟩) (c : PySem.W.codeIn K cd "is_sequence" = true) (k : PySem.W.keepIn K (.ref f) = true) : DefFact ct K mg ds "is_sequence" 19 := by
  have F := fun_mk (st := stis_sequence) l c k
  exact ⟨⟨_, _, _, _, _, _, 60, _, F, sis_sequence, cis_sequence, rfl, PySem.W.mg_of X G a, F.binds (ps := ["value", "fewest", "most"]) fun _ _ _ _ _ _ us hl => match us, hl with | [_, _, _], _ => rfl⟩⟩
theorem df_is_pair {K : PySem.W.Frag} {h : Heap} {mg : Str → Option Value} (X : K.In h) (G : h.Ns mainGlobals mg) {f : Addr} {od an : Option Addr} {sl : Array (Option Value)} {oc kV dc pm cd tt : Value} (a : PySem.W.nsIn K mainGlobals "is_pair" = some (some (.ref f))) (l : K.lookup f = some ⟨oc, od, .func (PySem.W.fnOf "is_pair" "is_pair" (defArgs stis_pair) (defBody stis_pair) (defScope stis_pair) .none kV dc pm an cd tt), sl⟩) (c : PySem.W.codeIn K cd "is_pair" = true) (k : PySem.W.keepIn K (.ref f) = true) : DefFact ct K mg ds "is_pair" 20 := by
  have F := fun_mk (st := stis_pair) l c k
  exact ⟨⟨_, _, _, _, _, _, 60, _, F, sis_pair, cis_pair, rfl, PySem.W.mg_of X G a, F.binds (ps := ["value"]) fun _ _ _ _ _ _ us hl => match us, hl with | [_], _ => rfl⟩⟩
theorem df_is_row {K : PySem.W.Frag} {h : Heap} {mg : Str → Option Value} (X : K.In h) (G : h.Ns mainGlobals mg) {f : Addr} {od an : Option Addr} {sl : Array (Option Value)} {oc kV dc pm cd tt : Value} (a : PySem.W.nsIn K mainGlobals "is_row" = some (some (.ref f))) (l : K.lookup f = some ⟨oc, od, .func (PySem.W.fnOf "is_row" "is_row" (defArgs stis_row) (defBody stis_row) (defScope stis_row) .none kV dc pm an cd tt), sl⟩) (c : PySem.W.codeIn K cd "is_row" = true) (k : PySem.W.keepIn K (.ref f) = true) : DefFact ct K mg ds "is_row" 21 := by
  have F := fun_mk (st := stis_row) l c k
  exact ⟨⟨_, _, _, _, _, _, 60, _, F, sis_row, cis_row, rfl, PySem.W.mg_of X G a, F.binds (ps := ["value", "bounds"]) fun _ _ _ _ _ _ us hl => match us, hl with | [_, _], _ => rfl⟩⟩
theorem df_is_rows {K : PySem.W.Frag} {h : Heap} {mg : Str → Option Value} (X : K.In h) (G : h.Ns mainGlobals mg) {f : Addr} {od an : Option Addr} {sl : Array (Option Value)} {oc kV dc pm cd tt : Value} (a : PySem.W.nsIn K mainGlobals "is_rows" = some (some (.ref f))) (l : K.lookup f = some ⟨oc, od, .func (PySem.W.fnOf "is_rows" "is_rows" (defArgs stis_rows) (defBody stis_rows) (defScope stis_rows) .none kV dc pm an cd tt), sl⟩) (c : PySem.W.codeIn K cd "is_rows" = true) (k : PySem.W.keepIn K (.ref f) = true) : DefFact ct K mg ds "is_rows" 22 := by
  have F := fun_mk (st := stis_rows) l c k
  exact ⟨⟨_, _, _, _, _, _, 60, _, F, sis_rows, cis_rows, rfl, PySem.W.mg_of X G a, F.binds (ps := ["value", "fewest", "most", "bounds"]) fun _ _ _ _ _ _ us hl => match us, hl with | [_, _, _, _], _ => rfl⟩⟩
theorem df_is_rising {K : PySem.W.Frag} {h : Heap} {mg : Str → Option Value} (X : K.In h) (G : h.Ns mainGlobals mg) {f : Addr} {od an : Option Addr} {sl : Array (Option Value)} {oc kV dc pm cd tt : Value} (a : PySem.W.nsIn K mainGlobals "is_rising" = some (some (.ref f))) (l : K.lookup f = some ⟨oc, od, .func (PySem.W.fnOf "is_rising" "is_rising" (defArgs stis_rising) (defBody stis_rising) (defScope stis_rising) .none kV dc pm an cd tt), sl⟩) (c : PySem.W.codeIn K cd "is_rising" = true) (k : PySem.W.keepIn K (.ref f) = true) : DefFact ct K mg ds "is_rising" 23 := by
  have F := fun_mk (st := stis_rising) l c k
  exact ⟨⟨_, _, _, _, _, _, 60, _, F, sis_rising, cis_rising, rfl, PySem.W.mg_of X G a, F.binds (ps := ["values"]) fun _ _ _ _ _ _ us hl => match us, hl with | [_], _ => rfl⟩⟩
theorem df_is_any_fraction {K : PySem.W.Frag} {h : Heap} {mg : Str → Option Value} (X : K.In h) (G : h.Ns mainGlobals mg) {f : Addr} {od an : Option Addr} {sl : Array (Option Value)} {oc kV dc pm cd tt : Value} (a : PySem.W.nsIn K mainGlobals "is_any_fraction" = some (some (.ref f))) (l : K.lookup f = some ⟨oc, od, .func (PySem.W.fnOf "is_any_fraction" "is_any_fraction" (defArgs stis_any_fraction) (defBody stis_any_fraction) (defScope stis_any_fraction) .none kV dc pm an cd tt), sl⟩) (c : PySem.W.codeIn K cd "is_any_fraction" = true) (k : PySem.W.keepIn K (.ref f) = true) : DefFact ct K mg ds "is_any_fraction" 24 := by
  have F := fun_mk (st := stis_any_fraction) l c k
  exact ⟨⟨_, _, _, _, _, _, 60, _, F, sis_any_fraction, cis_any_fraction, rfl, PySem.W.mg_of X G a, F.binds (ps := ["value"]) fun _ _ _ _ _ _ us hl => match us, hl with | [_], _ => rfl⟩⟩
theorem df_is_fraction {K : PySem.W.Frag} {h : Heap} {mg : Str → Option Value} (X : K.In h) (G : h.Ns mainGlobals mg) {f : Addr} {od an : Option Addr} {sl : Array (Option Value)} {oc kV dc pm cd tt : Value} (a : PySem.W.nsIn K mainGlobals "is_fraction" = some (some (.ref f))) (l : K.lookup f = some ⟨oc, od, .func (PySem.W.fnOf "is_fraction" "is_fraction" (defArgs stis_fraction) (defBody stis_fraction) (defScope stis_fraction) .none kV dc pm an cd tt), sl⟩) (c : PySem.W.codeIn K cd "is_fraction" = true) (k : PySem.W.keepIn K (.ref f) = true) : DefFact ct K mg ds "is_fraction" 25 := by
  have F := fun_mk (st := stis_fraction) l c k
  exact ⟨⟨_, _, _, _, _, _, 60, _, F, sis_fraction, cis_fraction, rfl, PySem.W.mg_of X G a, F.binds (ps := ["value"]) fun _ _ _ _ _ _ us hl => match us, hl with | [_], _ => rfl⟩⟩
theorem df_frozen {K : PySem.W.Frag} {h : Heap} {mg : Str → Option Value} (X : K.In h) (G : h.Ns mainGlobals mg) {f : Addr} {od an : Option Addr} {sl : Array (Option Value)} {oc kV dc pm cd tt : Value} (a : PySem.W.nsIn K mainGlobals "frozen" = some (some (.ref f))) (l : K.lookup f = some ⟨oc, od, .func (PySem.W.fnOf "frozen" "frozen" (defArgs stfrozen) (defBody stfrozen) (defScope stfrozen) .none kV dc pm an cd tt), sl⟩) (c : PySem.W.codeIn K cd "frozen" = true) (k : PySem.W.keepIn K (.ref f) = true) : DefFact ct K mg ds "frozen" 26 := by
  have F := fun_mk (st := stfrozen) l c k
  exact ⟨⟨_, _, _, _, _, _, 60, _, F, sfrozen, cfrozen, rfl, PySem.W.mg_of X G a, F.binds (ps := ["value"]) fun _ _ _ _ _ _ us hl => match us, hl with | [_], _ => rfl⟩⟩
theorem df_is_table {K : PySem.W.Frag} {h : Heap} {mg : Str → Option Value} (X : K.In h) (G : h.Ns mainGlobals mg) {f : Addr} {od an : Option Addr} {sl : Array (Option Value)} {oc kV dc pm cd tt : Value} (a : PySem.W.nsIn K mainGlobals "is_table" = some (some (.ref f))) (l : K.lookup f = some ⟨oc, od, .func (PySem.W.fnOf "is_table" "is_table" (defArgs stis_table) (defBody stis_table) (defScope stis_table) .none kV dc pm an cd tt), sl⟩) (c : PySem.W.codeIn K cd "is_table" = true) (k : PySem.W.keepIn K (.ref f) = true) : DefFact ct K mg ds "is_table" 27 := by
  have F := fun_mk (st := stis_table) l c k
  exact ⟨⟨_, _, _, _, _, _, 60, _, F, sis_table, cis_table, rfl, PySem.W.mg_of X G a, F.binds (ps := ["value"]) fun _ _ _ _ _ _ us hl => match us, hl with | [_], _ => rfl⟩⟩
theorem df_sour_at {K : PySem.W.Frag} {h : Heap} {mg : Str → Option Value} (X : K.In h) (G : h.Ns mainGlobals mg) {f : Addr} {od an : Option Addr} {sl : Array (Option Value)} {oc kV dc pm cd tt : Value} (a : PySem.W.nsIn K mainGlobals "sour_at" = some (some (.ref f))) (l : K.lookup f = some ⟨oc, od, .func (PySem.W.fnOf "sour_at" "sour_at" (defArgs stsour_at) (defBody stsour_at) (defScope stsour_at) .none kV dc pm an cd tt), sl⟩) (c : PySem.W.codeIn K cd "sour_at" = true) (k : PySem.W.keepIn K (.ref f) = true) : DefFact ct K mg ds "sour_at" 28 := by
  have F := fun_mk (st := stsour_at) l c k
  exact ⟨⟨_, _, _, _, _, _, 60, _, F, ssour_at, csour_at, rfl, PySem.W.mg_of X G a, F.binds (ps := ["table", "minute"]) fun _ _ _ _ _ _ us hl => match us, hl with | [_, _], _ => rfl⟩⟩
theorem df_windows {K : PySem.W.Frag} {h : Heap} {mg : Str → Option Value} (X : K.In h) (G : h.Ns mainGlobals mg) {f : Addr} {od an : Option Addr} {sl : Array (Option Value)} {oc kV dc pm cd tt : Value} (a : PySem.W.nsIn K mainGlobals "windows" = some (some (.ref f))) (l : K.lookup f = some ⟨oc, od, .func (PySem.W.fnOf "windows" "windows" (defArgs stwindows) (defBody stwindows) (defScope stwindows) .none kV dc pm an cd tt), sl⟩) (c : PySem.W.codeIn K cd "windows" = true) (k : PySem.W.keepIn K (.ref f) = true) : DefFact ct K mg ds "windows" 29 := by
  have F := fun_mk (st := stwindows) l c k
  exact ⟨⟨_, _, _, _, _, _, 60, _, F, swindows, cwindows, rfl, PySem.W.mg_of X G a, F.binds (ps := ["table", "least"]) fun _ _ _ _ _ _ us hl => match us, hl with | [_, _], _ => rfl⟩⟩
theorem df_time_for {K : PySem.W.Frag} {h : Heap} {mg : Str → Option Value} (X : K.In h) (G : h.Ns mainGlobals mg) {f : Addr} {od an : Option Addr} {sl : Array (Option Value)} {oc kV dc pm cd tt : Value} (a : PySem.W.nsIn K mainGlobals "time_for" = some (some (.ref f))) (l : K.lookup f = some ⟨oc, od, .func (PySem.W.fnOf "time_for" "time_for" (defArgs sttime_for) (defBody sttime_for) (defScope sttime_for) .none kV dc pm an cd tt), sl⟩) (c : PySem.W.codeIn K cd "time_for" = true) (k : PySem.W.keepIn K (.ref f) = true) : DefFact ct K mg ds "time_for" 30 := by
  have F := fun_mk (st := sttime_for) l c k
  exact ⟨⟨_, _, _, _, _, _, 60, _, F, stime_for, ctime_for, rfl, PySem.W.mg_of X G a, F.binds (ps := ["table", "least"]) fun _ _ _ _ _ _ us hl => match us, hl with | [_, _], _ => rfl⟩⟩
theorem df_first_from {K : PySem.W.Frag} {h : Heap} {mg : Str → Option Value} (X : K.In h) (G : h.Ns mainGlobals mg) {f : Addr} {od an : Option Addr} {sl : Array (Option Value)} {oc kV dc pm cd tt : Value} (a : PySem.W.nsIn K mainGlobals "first_from" = some (some (.ref f))) (l : K.lookup f = some ⟨oc, od, .func (PySem.W.fnOf "first_from" "first_from" (defArgs stfirst_from) (defBody stfirst_from) (defScope stfirst_from) .none kV dc pm an cd tt), sl⟩) (c : PySem.W.codeIn K cd "first_from" = true) (k : PySem.W.keepIn K (.ref f) = true) : DefFact ct K mg ds "first_from" 31 := by
  have F := fun_mk (st := stfirst_from) l c k
  exact ⟨⟨_, _, _, _, _, _, 60, _, F, sfirst_from, cfirst_from, rfl, PySem.W.mg_of X G a, F.binds (ps := ["table", "least", "minute"]) fun _ _ _ _ _ _ us hl => match us, hl with | [_, _, _], _ => rfl⟩⟩
theorem df_last_till {K : PySem.W.Frag} {h : Heap} {mg : Str → Option Value} (X : K.In h) (G : h.Ns mainGlobals mg) {f : Addr} {od an : Option Addr} {sl : Array (Option Value)} {oc kV dc pm cd tt : Value} (a : PySem.W.nsIn K mainGlobals "last_till" = some (some (.ref f))) (l : K.lookup f = some ⟨oc, od, .func (PySem.W.fnOf "last_till" "last_till" (defArgs stlast_till) (defBody stlast_till) (defScope stlast_till) .none kV dc pm an cd tt), sl⟩) (c : PySem.W.codeIn K cd "last_till" = true) (k : PySem.W.keepIn K (.ref f) = true) : DefFact ct K mg ds "last_till" 32 := by
  have F := fun_mk (st := stlast_till) l c k
  exact ⟨⟨_, _, _, _, _, _, 60, _, F, slast_till, clast_till, rfl, PySem.W.mg_of X G a, F.binds (ps := ["table", "least", "minute"]) fun _ _ _ _ _ _ us hl => match us, hl with | [_, _, _], _ => rfl⟩⟩
theorem df_asked {K : PySem.W.Frag} {h : Heap} {mg : Str → Option Value} (X : K.In h) (G : h.Ns mainGlobals mg) {f : Addr} {od an : Option Addr} {sl : Array (Option Value)} {oc kV dc pm cd tt : Value} (a : PySem.W.nsIn K mainGlobals "asked" = some (some (.ref f))) (l : K.lookup f = some ⟨oc, od, .func (PySem.W.fnOf "asked" "asked" (defArgs stasked) (defBody stasked) (defScope stasked) .none kV dc pm an cd tt), sl⟩) (c : PySem.W.codeIn K cd "asked" = true) (k : PySem.W.keepIn K (.ref f) = true) : DefFact ct K mg ds "asked" 33 := by
  have F := fun_mk (st := stasked) l c k
  exact ⟨⟨_, _, _, _, _, _, 60, _, F, sasked, casked, rfl, PySem.W.mg_of X G a, F.binds (ps := ["table", "least", "minute"]) fun _ _ _ _ _ _ us hl => match us, hl with | [_, _, _], _ => rfl⟩⟩
theorem df_is_span {K : PySem.W.Frag} {h : Heap} {mg : Str → Option Value} (X : K.In h) (G : h.Ns mainGlobals mg) {f : Addr} {od an : Option Addr} {sl : Array (Option Value)} {oc kV dc pm cd tt : Value} (a : PySem.W.nsIn K mainGlobals "is_span" = some (some (.ref f))) (l : K.lookup f = some ⟨oc, od, .func (PySem.W.fnOf "is_span" "is_span" (defArgs stis_span) (defBody stis_span) (defScope stis_span) .none kV dc pm an cd tt), sl⟩) (c : PySem.W.codeIn K cd "is_span" = true) (k : PySem.W.keepIn K (.ref f) = true) : DefFact ct K mg ds "is_span" 34 := by
  have F := fun_mk (st := stis_span) l c k
  exact ⟨⟨_, _, _, _, _, _, 60, _, F, sis_span, cis_span, rfl, PySem.W.mg_of X G a, F.binds (ps := ["value"]) fun _ _ _ _ _ _ us hl => match us, hl with | [_], _ => rfl⟩⟩
theorem df_are_spans {K : PySem.W.Frag} {h : Heap} {mg : Str → Option Value} (X : K.In h) (G : h.Ns mainGlobals mg) {f : Addr} {od an : Option Addr} {sl : Array (Option Value)} {oc kV dc pm cd tt : Value} (a : PySem.W.nsIn K mainGlobals "are_spans" = some (some (.ref f))) (l : K.lookup f = some ⟨oc, od, .func (PySem.W.fnOf "are_spans" "are_spans" (defArgs stare_spans) (defBody stare_spans) (defScope stare_spans) .none kV dc pm an cd tt), sl⟩) (c : PySem.W.codeIn K cd "are_spans" = true) (k : PySem.W.keepIn K (.ref f) = true) : DefFact ct K mg ds "are_spans" 35 := by
  have F := fun_mk (st := stare_spans) l c k
  exact ⟨⟨_, _, _, _, _, _, 60, _, F, sare_spans, care_spans, rfl, PySem.W.mg_of X G a, F.binds (ps := ["value"]) fun _ _ _ _ _ _ us hl => match us, hl with | [_], _ => rfl⟩⟩
theorem df_is_leg {K : PySem.W.Frag} {h : Heap} {mg : Str → Option Value} (X : K.In h) (G : h.Ns mainGlobals mg) {f : Addr} {od an : Option Addr} {sl : Array (Option Value)} {oc kV dc pm cd tt : Value} (a : PySem.W.nsIn K mainGlobals "is_leg" = some (some (.ref f))) (l : K.lookup f = some ⟨oc, od, .func (PySem.W.fnOf "is_leg" "is_leg" (defArgs stis_leg) (defBody stis_leg) (defScope stis_leg) .none kV dc pm an cd tt), sl⟩) (c : PySem.W.codeIn K cd "is_leg" = true) (k : PySem.W.keepIn K (.ref f) = true) : DefFact ct K mg ds "is_leg" 36 := by
  have F := fun_mk (st := stis_leg) l c k
  exact ⟨⟨_, _, _, _, _, _, 60, _, F, sis_leg, cis_leg, rfl, PySem.W.mg_of X G a, F.binds (ps := ["value"]) fun _ _ _ _ _ _ us hl => match us, hl with | [_], _ => rfl⟩⟩
theorem df_are_legs {K : PySem.W.Frag} {h : Heap} {mg : Str → Option Value} (X : K.In h) (G : h.Ns mainGlobals mg) {f : Addr} {od an : Option Addr} {sl : Array (Option Value)} {oc kV dc pm cd tt : Value} (a : PySem.W.nsIn K mainGlobals "are_legs" = some (some (.ref f))) (l : K.lookup f = some ⟨oc, od, .func (PySem.W.fnOf "are_legs" "are_legs" (defArgs stare_legs) (defBody stare_legs) (defScope stare_legs) .none kV dc pm an cd tt), sl⟩) (c : PySem.W.codeIn K cd "are_legs" = true) (k : PySem.W.keepIn K (.ref f) = true) : DefFact ct K mg ds "are_legs" 37 := by
  have F := fun_mk (st := stare_legs) l c k
  exact ⟨⟨_, _, _, _, _, _, 60, _, F, sare_legs, care_legs, rfl, PySem.W.mg_of X G a, F.binds (ps := ["value"]) fun _ _ _ _ _ _ us hl => match us, hl with | [_], _ => rfl⟩⟩
theorem df_checked {K : PySem.W.Frag} {h : Heap} {mg : Str → Option Value} (X : K.In h) (G : h.Ns mainGlobals mg) {f : Addr} {od an : Option Addr} {sl : Array (Option Value)} {oc kV dc pm cd tt : Value} (a : PySem.W.nsIn K mainGlobals "checked" = some (some (.ref f))) (l : K.lookup f = some ⟨oc, od, .func (PySem.W.fnOf "checked" "checked" (defArgs stchecked) (defBody stchecked) (defScope stchecked) .none kV dc pm an cd tt), sl⟩) (c : PySem.W.codeIn K cd "checked" = true) (k : PySem.W.keepIn K (.ref f) = true) : DefFact ct K mg ds "checked" 38 := by
  have F := fun_mk (st := stchecked) l c k
  exact ⟨⟨_, _, _, _, _, _, 60, _, F, schecked, cchecked, rfl, PySem.W.mg_of X G a, F.binds (ps := ["legs", "minute"]) fun _ _ _ _ _ _ us hl => match us, hl with | [_, _], _ => rfl⟩⟩
theorem df_begin_from {K : PySem.W.Frag} {h : Heap} {mg : Str → Option Value} (X : K.In h) (G : h.Ns mainGlobals mg) {f : Addr} {od an : Option Addr} {sl : Array (Option Value)} {oc kV dc pm cd tt : Value} (a : PySem.W.nsIn K mainGlobals "begin_from" = some (some (.ref f))) (l : K.lookup f = some ⟨oc, od, .func (PySem.W.fnOf "begin_from" "begin_from" (defArgs stbegin_from) (defBody stbegin_from) (defScope stbegin_from) .none kV dc pm an cd tt), sl⟩) (c : PySem.W.codeIn K cd "begin_from" = true) (k : PySem.W.keepIn K (.ref f) = true) : DefFact ct K mg ds "begin_from" 39 := by
  have F := fun_mk (st := stbegin_from) l c k
  exact ⟨⟨_, _, _, _, _, _, 60, _, F, sbegin_from, cbegin_from, rfl, PySem.W.mg_of X G a, F.binds (ps := ["spans", "minute"]) fun _ _ _ _ _ _ us hl => match us, hl with | [_, _], _ => rfl⟩⟩
theorem df_begin_till {K : PySem.W.Frag} {h : Heap} {mg : Str → Option Value} (X : K.In h) (G : h.Ns mainGlobals mg) {f : Addr} {od an : Option Addr} {sl : Array (Option Value)} {oc kV dc pm cd tt : Value} (a : PySem.W.nsIn K mainGlobals "begin_till" = some (some (.ref f))) (l : K.lookup f = some ⟨oc, od, .func (PySem.W.fnOf "begin_till" "begin_till" (defArgs stbegin_till) (defBody stbegin_till) (defScope stbegin_till) .none kV dc pm an cd tt), sl⟩) (c : PySem.W.codeIn K cd "begin_till" = true) (k : PySem.W.keepIn K (.ref f) = true) : DefFact ct K mg ds "begin_till" 40 := by
  have F := fun_mk (st := stbegin_till) l c k
  exact ⟨⟨_, _, _, _, _, _, 60, _, F, sbegin_till, cbegin_till, rfl, PySem.W.mg_of X G a, F.binds (ps := ["spans", "minute"]) fun _ _ _ _ _ _ us hl => match us, hl with | [_, _], _ => rfl⟩⟩
theorem df_travelled {K : PySem.W.Frag} {h : Heap} {mg : Str → Option Value} (X : K.In h) (G : h.Ns mainGlobals mg) {f : Addr} {od an : Option Addr} {sl : Array (Option Value)} {oc kV dc pm cd tt : Value} (a : PySem.W.nsIn K mainGlobals "travelled" = some (some (.ref f))) (l : K.lookup f = some ⟨oc, od, .func (PySem.W.fnOf "travelled" "travelled" (defArgs sttravelled) (defBody sttravelled) (defScope sttravelled) .none kV dc pm an cd tt), sl⟩) (c : PySem.W.codeIn K cd "travelled" = true) (k : PySem.W.keepIn K (.ref f) = true) : DefFact ct K mg ds "travelled" 41 := by
  have F := fun_mk (st := sttravelled) l c k
  exact ⟨⟨_, _, _, _, _, _, 60, _, F, stravelled, ctravelled, rfl, PySem.W.mg_of X G a, F.binds (ps := ["legs", "minute"]) fun _ _ _ _ _ _ us hl => match us, hl with | [_, _], _ => rfl⟩⟩
theorem df_arrives {K : PySem.W.Frag} {h : Heap} {mg : Str → Option Value} (X : K.In h) (G : h.Ns mainGlobals mg) {f : Addr} {od an : Option Addr} {sl : Array (Option Value)} {oc kV dc pm cd tt : Value} (a : PySem.W.nsIn K mainGlobals "arrives" = some (some (.ref f))) (l : K.lookup f = some ⟨oc, od, .func (PySem.W.fnOf "arrives" "arrives" (defArgs starrives) (defBody starrives) (defScope starrives) .none kV dc pm an cd tt), sl⟩) (c : PySem.W.codeIn K cd "arrives" = true) (k : PySem.W.keepIn K (.ref f) = true) : DefFact ct K mg ds "arrives" 42 := by
  have F := fun_mk (st := starrives) l c k
  exact ⟨⟨_, _, _, _, _, _, 60, _, F, sarrives, carrives, rfl, PySem.W.mg_of X G a, F.binds (ps := ["legs", "minute"]) fun _ _ _ _ _ _ us hl => match us, hl with | [_, _], _ => rfl⟩⟩
theorem df_waits {K : PySem.W.Frag} {h : Heap} {mg : Str → Option Value} (X : K.In h) (G : h.Ns mainGlobals mg) {f : Addr} {od an : Option Addr} {sl : Array (Option Value)} {oc kV dc pm cd tt : Value} (a : PySem.W.nsIn K mainGlobals "waits" = some (some (.ref f))) (l : K.lookup f = some ⟨oc, od, .func (PySem.W.fnOf "waits" "waits" (defArgs stwaits) (defBody stwaits) (defScope stwaits) .none kV dc pm an cd tt), sl⟩) (c : PySem.W.codeIn K cd "waits" = true) (k : PySem.W.keepIn K (.ref f) = true) : DefFact ct K mg ds "waits" 43 := by
  have F := fun_mk (st := stwaits) l c k
  exact ⟨⟨_, _, _, _, _, _, 60, _, F, swaits, cwaits, rfl, PySem.W.mg_of X G a, F.binds (ps := ["legs", "minute"]) fun _ _ _ _ _ _ us hl => match us, hl with | [_, _], _ => rfl⟩⟩
theorem df_leaves {K : PySem.W.Frag} {h : Heap} {mg : Str → Option Value} (X : K.In h) (G : h.Ns mainGlobals mg) {f : Addr} {od an : Option Addr} {sl : Array (Option Value)} {oc kV dc pm cd tt : Value} (a : PySem.W.nsIn K mainGlobals "leaves" = some (some (.ref f))) (l : K.lookup f = some ⟨oc, od, .func (PySem.W.fnOf "leaves" "leaves" (defArgs stleaves) (defBody stleaves) (defScope stleaves) .none kV dc pm an cd tt), sl⟩) (c : PySem.W.codeIn K cd "leaves" = true) (k : PySem.W.keepIn K (.ref f) = true) : DefFact ct K mg ds "leaves" 44 := by
  have F := fun_mk (st := stleaves) l c k
  exact ⟨⟨_, _, _, _, _, _, 60, _, F, sleaves, cleaves, rfl, PySem.W.mg_of X G a, F.binds (ps := ["legs", "minute"]) fun _ _ _ _ _ _ us hl => match us, hl with | [_, _], _ => rfl⟩⟩
theorem df__law_so {K : PySem.W.Frag} {h : Heap} {mg : Str → Option Value} (X : K.In h) (G : h.Ns mainGlobals mg) {f : Addr} {od an : Option Addr} {sl : Array (Option Value)} {oc kV dc pm cd tt : Value} (a : PySem.W.nsIn K mainGlobals "_law_so" = some (some (.ref f))) (l : K.lookup f = some ⟨oc, od, .func (PySem.W.fnOf "_law_so" "_law_so" (defArgs st_law_so) (defBody st_law_so) (defScope st_law_so) .none kV dc pm an cd tt), sl⟩) (c : PySem.W.codeIn K cd "_law_so" = true) (k : PySem.W.keepIn K (.ref f) = true) : DefFact ct K mg ds "_law_so" 45 := by
  have F := fun_mk (st := st_law_so) l c k
  exact ⟨⟨_, _, _, _, _, _, 60, _, F, s_law_so, c_law_so, rfl, PySem.W.mg_of X G a, F.binds (ps := ["found", "meant"]) fun _ _ _ _ _ _ us hl => match us, hl with | [_, _], _ => rfl⟩⟩
theorem df__law_numbers {K : PySem.W.Frag} {h : Heap} {mg : Str → Option Value} (X : K.In h) (G : h.Ns mainGlobals mg) {f : Addr} {od an : Option Addr} {sl : Array (Option Value)} {oc kV dc pm cd tt : Value} (a : PySem.W.nsIn K mainGlobals "_law_numbers" = some (some (.ref f))) (l : K.lookup f = some ⟨oc, od, .func (PySem.W.fnOf "_law_numbers" "_law_numbers" (defArgs st_law_numbers) (defBody st_law_numbers) (defScope st_law_numbers) .none kV dc pm an cd tt), sl⟩) (c : PySem.W.codeIn K cd "_law_numbers" = true) (k : PySem.W.keepIn K (.ref f) = true) : DefFact ct K mg ds "_law_numbers" 46 := by
  have F := fun_mk (st := st_law_numbers) l c k
  exact ⟨⟨_, _, _, _, _, _, 60, _, F, s_law_numbers, c_law_numbers, rfl, PySem.W.mg_of X G a, F.binds (ps := ["script"]) fun _ _ _ _ _ _ us hl => match us, hl with | [_], _ => rfl⟩⟩
theorem df__law_draw {K : PySem.W.Frag} {h : Heap} {mg : Str → Option Value} (X : K.In h) (G : h.Ns mainGlobals mg) {f : Addr} {od an : Option Addr} {sl : Array (Option Value)} {oc kV dc pm cd tt : Value} (a : PySem.W.nsIn K mainGlobals "_law_draw" = some (some (.ref f))) (l : K.lookup f = some ⟨oc, od, .func (PySem.W.fnOf "_law_draw" "_law_draw" (defArgs st_law_draw) (defBody st_law_draw) (defScope st_law_draw) .none kV dc pm an cd tt), sl⟩) (c : PySem.W.codeIn K cd "_law_draw" = true) (k : PySem.W.keepIn K (.ref f) = true) : DefFact ct K mg ds "_law_draw" 47 := by
  have F := fun_mk (st := st_law_draw) l c k
  exact ⟨⟨_, _, _, _, _, _, 60, _, F, s_law_draw, c_law_draw, rfl, PySem.W.mg_of X G a, F.binds (ps := ["row", "at", "limit"]) fun _ _ _ _ _ _ us hl => match us, hl with | [_, _, _], _ => rfl⟩⟩
theorem df__law_take {K : PySem.W.Frag} {h : Heap} {mg : Str → Option Value} (X : K.In h) (G : h.Ns mainGlobals mg) {f : Addr} {od an : Option Addr} {sl : Array (Option Value)} {oc kV dc pm cd tt : Value} (a : PySem.W.nsIn K mainGlobals "_law_take" = some (some (.ref f))) (l : K.lookup f = some ⟨oc, od, .func (PySem.W.fnOf "_law_take" "_law_take" (defArgs st_law_take) (defBody st_law_take) (defScope st_law_take) .none kV dc pm an cd tt), sl⟩) (c : PySem.W.codeIn K cd "_law_take" = true) (k : PySem.W.keepIn K (.ref f) = true) : DefFact ct K mg ds "_law_take" 48 := by
  have F := fun_mk (st := st_law_take) l c k
  exact ⟨⟨_, _, _, _, _, _, 60, _, F, s_law_take, c_law_take, rfl, PySem.W.mg_of X G a, F.binds (ps := ["row", "spot", "limit"]) fun _ _ _ _ _ _ us hl => match us, hl with | [_, _, _], _ => rfl⟩⟩
theorem df__law_gcd {K : PySem.W.Frag} {h : Heap} {mg : Str → Option Value} (X : K.In h) (G : h.Ns mainGlobals mg) {f : Addr} {od an : Option Addr} {sl : Array (Option Value)} {oc kV dc pm cd tt : Value} (a : PySem.W.nsIn K mainGlobals "_law_gcd" = some (some (.ref f))) (l : K.lookup f = some ⟨oc, od, .func (PySem.W.fnOf "_law_gcd" "_law_gcd" (defArgs st_law_gcd) (defBody st_law_gcd) (defScope st_law_gcd) .none kV dc pm an cd tt), sl⟩) (c : PySem.W.codeIn K cd "_law_gcd" = true) (k : PySem.W.keepIn K (.ref f) = true) : DefFact ct K mg ds "_law_gcd" 49 := by
  have F := fun_mk (st := st_law_gcd) l c k
  exact ⟨⟨_, _, _, _, _, _, 60, _, F, s_law_gcd, c_law_gcd, rfl, PySem.W.mg_of X G a, F.binds (ps := ["one", "other"]) fun _ _ _ _ _ _ us hl => match us, hl with | [_, _], _ => rfl⟩⟩
theorem df__law_red {K : PySem.W.Frag} {h : Heap} {mg : Str → Option Value} (X : K.In h) (G : h.Ns mainGlobals mg) {f : Addr} {od an : Option Addr} {sl : Array (Option Value)} {oc kV dc pm cd tt : Value} (a : PySem.W.nsIn K mainGlobals "_law_red" = some (some (.ref f))) (l : K.lookup f = some ⟨oc, od, .func (PySem.W.fnOf "_law_red" "_law_red" (defArgs st_law_red) (defBody st_law_red) (defScope st_law_red) .none kV dc pm an cd tt), sl⟩) (c : PySem.W.codeIn K cd "_law_red" = true) (k : PySem.W.keepIn K (.ref f) = true) : DefFact ct K mg ds "_law_red" 50 := by
  have F := fun_mk (st := st_law_red) l c k
  exact ⟨⟨_, _, _, _, _, _, 60, _, F, s_law_red, c_law_red, rfl, PySem.W.mg_of X G a, F.binds (ps := ["n", "d"]) fun _ _ _ _ _ _ us hl => match us, hl with | [_, _], _ => rfl⟩⟩
theorem df__law_add {K : PySem.W.Frag} {h : Heap} {mg : Str → Option Value} (X : K.In h) (G : h.Ns mainGlobals mg) {f : Addr} {od an : Option Addr} {sl : Array (Option Value)} {oc kV dc pm cd tt : Value} (a : PySem.W.nsIn K mainGlobals "_law_add" = some (some (.ref f))) (l : K.lookup f = some ⟨oc, od, .func (PySem.W.fnOf "_law_add" "_law_add" (defArgs st_law_add) (defBody st_law_add) (defScope st_law_add) .none kV dc pm an cd tt), sl⟩) (c : PySem.W.codeIn K cd "_law_add" = true) (k : PySem.W.keepIn K (.ref f) = true) : DefFact ct K mg ds "_law_add" 51 := by
  have F := fun_mk (st := st_law_add) l c k
  exact ⟨⟨_, _, _, _, _, _, 60, _, F, s_law_add, c_law_add, rfl, PySem.W.mg_of X G a, F.binds (ps := ["one", "other"]) fun _ _ _ _ _ _ us hl => match us, hl with | [_, _], _ => rfl⟩⟩
theorem df__law_sub {K : PySem.W.Frag} {h : Heap} {mg : Str → Option Value} (X : K.In h) (G : h.Ns mainGlobals mg) {f : Addr} {od an : Option Addr} {sl : Array (Option Value)} {oc kV dc pm cd tt : Value} (a : PySem.W.nsIn K mainGlobals "_law_sub" = some (some (.ref f))) (l : K.lookup f = some ⟨oc, od, .func (PySem.W.fnOf "_law_sub" "_law_sub" (defArgs st_law_sub) (defBody st_law_sub) (defScope st_law_sub) .none kV dc pm an cd tt), sl⟩) (c : PySem.W.codeIn K cd "_law_sub" = true) (k : PySem.W.keepIn K (.ref f) = true) : DefFact ct K mg ds "_law_sub" 52 := by
  have F := fun_mk (st := st_law_sub) l c k
  exact ⟨⟨_, _, _, _, _, _, 60, _, F, s_law_sub, c_law_sub, rfl, PySem.W.mg_of X G a, F.binds (ps := ["one", "other"]) fun _ _ _ _ _ _ us hl => match us, hl with | [_, _], _ => rfl⟩⟩
theorem df__law_mul {K : PySem.W.Frag} {h : Heap} {mg : Str → Option Value} (X : K.In h) (G : h.Ns mainGlobals mg) {f : Addr} {od an : Option Addr} {sl : Array (Option Value)} {oc kV dc pm cd tt : Value} (a : PySem.W.nsIn K mainGlobals "_law_mul" = some (some (.ref f))) (l : K.lookup f = some ⟨oc, od, .func (PySem.W.fnOf "_law_mul" "_law_mul" (defArgs st_law_mul) (defBody st_law_mul) (defScope st_law_mul) .none kV dc pm an cd tt), sl⟩) (c : PySem.W.codeIn K cd "_law_mul" = true) (k : PySem.W.keepIn K (.ref f) = true) : DefFact ct K mg ds "_law_mul" 53 := by
  have F := fun_mk (st := st_law_mul) l c k
  exact ⟨⟨_, _, _, _, _, _, 60, _, F, s_law_mul, c_law_mul, rfl, PySem.W.mg_of X G a, F.binds (ps := ["one", "other"]) fun _ _ _ _ _ _ us hl => match us, hl with | [_, _], _ => rfl⟩⟩
theorem df__law_less {K : PySem.W.Frag} {h : Heap} {mg : Str → Option Value} (X : K.In h) (G : h.Ns mainGlobals mg) {f : Addr} {od an : Option Addr} {sl : Array (Option Value)} {oc kV dc pm cd tt : Value} (a : PySem.W.nsIn K mainGlobals "_law_less" = some (some (.ref f))) (l : K.lookup f = some ⟨oc, od, .func (PySem.W.fnOf "_law_less" "_law_less" (defArgs st_law_less) (defBody st_law_less) (defScope st_law_less) .none kV dc pm an cd tt), sl⟩) (c : PySem.W.codeIn K cd "_law_less" = true) (k : PySem.W.keepIn K (.ref f) = true) : DefFact ct K mg ds "_law_less" 54 := by
  have F := fun_mk (st := st_law_less) l c k
  exact ⟨⟨_, _, _, _, _, _, 60, _, F, s_law_less, c_law_less, rfl, PySem.W.mg_of X G a, F.binds (ps := ["one", "other"]) fun _ _ _ _ _ _ us hl => match us, hl with | [_, _], _ => rfl⟩⟩
theorem df__law_sour {K : PySem.W.Frag} {h : Heap} {mg : Str → Option Value} (X : K.In h) (G : h.Ns mainGlobals mg) {f : Addr} {od an : Option Addr} {sl : Array (Option Value)} {oc kV dc pm cd tt : Value} (a : PySem.W.nsIn K mainGlobals "_law_sour" = some (some (.ref f))) (l : K.lookup f = some ⟨oc, od, .func (PySem.W.fnOf "_law_sour" "_law_sour" (defArgs st_law_sour) (defBody st_law_sour) (defScope st_law_sour) .none kV dc pm an cd tt), sl⟩) (c : PySem.W.codeIn K cd "_law_sour" = true) (k : PySem.W.keepIn K (.ref f) = true) : DefFact ct K mg ds "_law_sour" 55 := by
  have F := fun_mk (st := st_law_sour) l c k
  exact ⟨⟨_, _, _, _, _, _, 60, _, F, s_law_sour, c_law_sour, rfl, PySem.W.mg_of X G a, F.binds (ps := ["table", "minute"]) fun _ _ _ _ _ _ us hl => match us, hl with | [_, _], _ => rfl⟩⟩
theorem df_law {K : PySem.W.Frag} {h : Heap} {mg : Str → Option Value} (X : K.In h) (G : h.Ns mainGlobals mg) {f : Addr} {od an : Option Addr} {sl : Array (Option Value)} {oc kV dc pm cd tt : Value} (a : PySem.W.nsIn K mainGlobals "law" = some (some (.ref f))) (l : K.lookup f = some ⟨oc, od, .func (PySem.W.fnOf "law" "law" (defArgs stlaw) (defBody stlaw) (defScope stlaw) .none kV dc pm an cd tt), sl⟩) (c : PySem.W.codeIn K cd "law" = true) (k : PySem.W.keepIn K (.ref f) = true) : DefFact ct K mg ds "law" 56 := by
  have F := fun_mk (st := stlaw) l c k
  exact ⟨⟨_, _, _, _, _, _, 60, _, F, slaw, claw, rfl, PySem.W.mg_of X G a, F.binds (ps := ["script"]) fun _ _ _ _ _ _ us hl => match us, hl with | [_], _ => rfl⟩⟩
theorem cf_MOST_PARTS {K : PySem.W.Frag} {h : Heap} {mg : Str → Option Value} (X : K.In h) (G : h.Ns mainGlobals mg) {tk : Tok} (v : PySem.W.nsIn K mainGlobals "MOST_PARTS" = some (some (.int 1000000 tk))) : ∃ v u, mg "MOST_PARTS" = some u ∧ RelV v u ∧ ∀ sp H, Rep K sp H v (.int 1000000) := ⟨.int 1000000, .int 1000000 tk, PySem.W.mg_of X G v, ⟨_, rfl⟩, fun _ _ => .int _⟩
theorem cf_LEAST_SOUR {K : PySem.W.Frag} {h : Heap} {mg : Str → Option Value} (X : K.In h) (G : h.Ns mainGlobals mg) {tk : Tok} (v : PySem.W.nsIn K mainGlobals "LEAST_SOUR" = some (some (.int (-500) tk))) : ∃ v u, mg "LEAST_SOUR" = some u ∧ RelV v u ∧ ∀ sp H, Rep K sp H v (.int (-500)) := ⟨.int (-500), .int (-500) tk, PySem.W.mg_of X G v, ⟨_, rfl⟩, fun _ _ => .int _⟩
theorem cf_MOST_SOUR {K : PySem.W.Frag} {h : Heap} {mg : Str → Option Value} (X : K.In h) (G : h.Ns mainGlobals mg) {tk : Tok} (v : PySem.W.nsIn K mainGlobals "MOST_SOUR" = some (some (.int 1500 tk))) : ∃ v u, mg "MOST_SOUR" = some u ∧ RelV v u ∧ ∀ sp H, Rep K sp H v (.int 1500) := ⟨.int 1500, .int 1500 tk, PySem.W.mg_of X G v, ⟨_, rfl⟩, fun _ _ => .int _⟩
theorem cf_LAST_MINUTE {K : PySem.W.Frag} {h : Heap} {mg : Str → Option Value} (X : K.In h) (G : h.Ns mainGlobals mg) {tk : Tok} (v : PySem.W.nsIn K mainGlobals "LAST_MINUTE" = some (some (.int 1440 tk))) : ∃ v u, mg "LAST_MINUTE" = some u ∧ RelV v u ∧ ∀ sp H, Rep K sp H v (.int 1440) := ⟨.int 1440, .int 1440 tk, PySem.W.mg_of X G v, ⟨_, rfl⟩, fun _ _ => .int _⟩
theorem cf_MOST_LEGS {K : PySem.W.Frag} {h : Heap} {mg : Str → Option Value} (X : K.In h) (G : h.Ns mainGlobals mg) {tk : Tok} (v : PySem.W.nsIn K mainGlobals "MOST_LEGS" = some (some (.int 10 tk))) : ∃ v u, mg "MOST_LEGS" = some u ∧ RelV v u ∧ ∀ sp H, Rep K sp H v (.int 10) := ⟨.int 10, .int 10 tk, PySem.W.mg_of X G v, ⟨_, rfl⟩, fun _ _ => .int _⟩
theorem cf_MOST_SPANS {K : PySem.W.Frag} {h : Heap} {mg : Str → Option Value} (X : K.In h) (G : h.Ns mainGlobals mg) {tk : Tok} (v : PySem.W.nsIn K mainGlobals "MOST_SPANS" = some (some (.int 4 tk))) : ∃ v u, mg "MOST_SPANS" = some u ∧ RelV v u ∧ ∀ sp H, Rep K sp H v (.int 4) := ⟨.int 4, .int 4 tk, PySem.W.mg_of X G v, ⟨_, rfl⟩, fun _ _ => .int _⟩
theorem cf_LONGEST {K : PySem.W.Frag} {h : Heap} {mg : Str → Option Value} (X : K.In h) (G : h.Ns mainGlobals mg) {tk : Tok} (v : PySem.W.nsIn K mainGlobals "LONGEST" = some (some (.int 1000 tk))) : ∃ v u, mg "LONGEST" = some u ∧ RelV v u ∧ ∀ sp H, Rep K sp H v (.int 1000) := ⟨.int 1000, .int 1000 tk, PySem.W.mg_of X G v, ⟨_, rfl⟩, fun _ _ => .int _⟩
theorem cf_LATEST {K : PySem.W.Frag} {h : Heap} {mg : Str → Option Value} (X : K.In h) (G : h.Ns mainGlobals mg) {tk : Tok} (v : PySem.W.nsIn K mainGlobals "LATEST" = some (some (.int 10000 tk))) : ∃ v u, mg "LATEST" = some u ∧ RelV v u ∧ ∀ sp H, Rep K sp H v (.int 10000) := ⟨.int 10000, .int 10000 tk, PySem.W.mg_of X G v, ⟨_, rfl⟩, fun _ _ => .int _⟩
theorem base {K : PySem.W.Frag} {mg : Str → Option Value} (d0 : DefFact ct K mg ds "reduced" 0) (d1 : DefFact ct K mg ds "f_whole" 1) (d2 : DefFact ct K mg ds "f_add" 2) (d3 : DefFact ct K mg ds "f_sub" 3) (d4 : DefFact ct K mg ds "f_less" 4) (d5 : DefFact ct K mg ds "f_at_most" 5) (d6 : DefFact ct K mg ds "f_min" 6) (d7 : DefFact ct K mg ds "f_max" 7) (d8 : DefFact ct K mg ds "f_total" 8) (d9 : DefFact ct K mg ds "covers" 9) (d10 : DefFact ct K mg ds "height_at" 10) (d11 : DefFact ct K mg ds "height_between" 11) (d12 : DefFact ct K mg ds "place_between" 12) (d13 : DefFact ct K mg ds "high_part" 13) (d14 : DefFact ct K mg ds "high_spans" 14) (d15 : DefFact ct K mg ds "need" 15) (d16 : DefFact ct K mg ds "is_integer" 16) (d17 : DefFact ct K mg ds "is_whole" 17) (d18 : DefFact ct K mg ds "is_whole_from" 18) (d19 : DefFact ct K mg ds "is_sequence" 19) (d20 : DefFact ct K mg ds "is_pair" 20) (d21 : DefFact ct K mg ds "is_row" 21) (d22 : DefFact ct K mg ds "is_rows" 22) (d23 : DefFact ct K mg ds "is_rising" 23) (d24 : DefFact ct K mg ds "is_any_fraction" 24) (d25 : DefFact ct K mg ds "is_fraction" 25) (d26 : DefFact ct K mg ds "frozen" 26) (d27 : DefFact ct K mg ds "is_table" 27) (d28 : DefFact ct K mg ds "sour_at" 28) (d29 : DefFact ct K mg ds "windows" 29) (d30 : DefFact ct K mg ds "time_for" 30) (d31 : DefFact ct K mg ds "first_from" 31) (d32 : DefFact ct K mg ds "last_till" 32) (d33 : DefFact ct K mg ds "asked" 33) (d34 : DefFact ct K mg ds "is_span" 34) (d35 : DefFact ct K mg ds "are_spans" 35) (d36 : DefFact ct K mg ds "is_leg" 36) (d37 : DefFact ct K mg ds "are_legs" 37) (d38 : DefFact ct K mg ds "checked" 38) (d39 : DefFact ct K mg ds "begin_from" 39) (d40 : DefFact ct K mg ds "begin_till" 40) (d41 : DefFact ct K mg ds "travelled" 41) (d42 : DefFact ct K mg ds "arrives" 42) (d43 : DefFact ct K mg ds "waits" 43) (d44 : DefFact ct K mg ds "leaves" 44) (d45 : DefFact ct K mg ds "_law_so" 45) (d46 : DefFact ct K mg ds "_law_numbers" 46) (d47 : DefFact ct K mg ds "_law_draw" 47) (d48 : DefFact ct K mg ds "_law_take" 48) (d49 : DefFact ct K mg ds "_law_gcd" 49) (d50 : DefFact ct K mg ds "_law_red" 50) (d51 : DefFact ct K mg ds "_law_add" 51) (d52 : DefFact ct K mg ds "_law_sub" 52) (d53 : DefFact ct K mg ds "_law_mul" 53) (d54 : DefFact ct K mg ds "_law_less" 54) (d55 : DefFact ct K mg ds "_law_sour" 55) (d56 : DefFact ct K mg ds "law" 56) (v0 : ∃ v u, mg "MOST_PARTS" = some u ∧ RelV v u ∧ ∀ sp H, Rep K sp H v (.int 1000000)) (v1 : ∃ v u, mg "LEAST_SOUR" = some u ∧ RelV v u ∧ ∀ sp H, Rep K sp H v (.int (-500))) (v2 : ∃ v u, mg "MOST_SOUR" = some u ∧ RelV v u ∧ ∀ sp H, Rep K sp H v (.int 1500)) (v3 : ∃ v u, mg "LAST_MINUTE" = some u ∧ RelV v u ∧ ∀ sp H, Rep K sp H v (.int 1440)) (v4 : ∃ v u, mg "MOST_LEGS" = some u ∧ RelV v u ∧ ∀ sp H, Rep K sp H v (.int 10)) (v5 : ∃ v u, mg "MOST_SPANS" = some u ∧ RelV v u ∧ ∀ sp H, Rep K sp H v (.int 4)) (v6 : ∃ v u, mg "LONGEST" = some u ∧ RelV v u ∧ ∀ sp H, Rep K sp H v (.int 1000)) (v7 : ∃ v u, mg "LATEST" = some u ∧ RelV v u ∧ ∀ sp H, Rep K sp H v (.int 10000)) (g0 : mg "gcd" = some (.builtin "math.gcd")) (z0 : mg "isinstance" = none) (z1 : mg "len" = none) (z2 : mg "int" = none) (z3 : mg "sum" = none) (z4 : mg "max" = none) (z5 : mg "min" = none) (z6 : mg "abs" = none) (z7 : mg "all" = none) (z8 : mg "any" = none) (z9 : mg "tuple" = none) (z10 : mg "list" = none) (z11 : mg "sorted" = none) (z12 : mg "bool" = none) (z13 : mg "str" = none) (z14 : mg "range" = none) (z15 : mg "enumerate" = none) (z16 : mg "zip" = none) (z17 : mg "reversed" = none) : Base ct K mg ds :=
  ⟨fa_cons d0 (fa_cons d1 (fa_cons d2 (fa_cons d3 (fa_cons d4 (fa_cons d5 (fa_cons d6 (fa_cons d7 (fa_cons d8 (fa_cons d9 (fa_cons d10 (fa_cons d11 (fa_cons d12 (fa_cons d13 (fa_cons d14 (fa_cons d15 (fa_cons d16 (fa_cons d17 (fa_cons d18 (fa_cons d19 (fa_cons d20 (fa_cons d21 (fa_cons d22 (fa_cons d23 (fa_cons d24 (fa_cons d25 (fa_cons d26 (fa_cons d27 (fa_cons d28 (fa_cons d29 (fa_cons d30 (fa_cons d31 (fa_cons d32 (fa_cons d33 (fa_cons d34 (fa_cons d35 (fa_cons d36 (fa_cons d37 (fa_cons d38 (fa_cons d39 (fa_cons d40 (fa_cons d41 (fa_cons d42 (fa_cons d43 (fa_cons d44 (fa_cons d45 (fa_cons d46 (fa_cons d47 (fa_cons d48 (fa_cons d49 (fa_cons d50 (fa_cons d51 (fa_cons d52 (fa_cons d53 (fa_cons d54 (fa_cons d55 (fa_cons d56 (fa_nil))))))))))))))))))))))))))))))))))))))))))))))))))))))))), fa_cons v0 (fa_cons v1 (fa_cons v2 (fa_cons v3 (fa_cons v4 (fa_cons v5 (fa_cons v6 (fa_cons v7 (fa_nil)))))))), fa_cons g0 (fa_nil), fa_cons z0 (fa_cons z1 (fa_cons z2 (fa_cons z3 (fa_cons z4 (fa_cons z5 (fa_cons z6 (fa_cons z7 (fa_cons z8 (fa_cons z9 (fa_cons z10 (fa_cons z11 (fa_cons z12 (fa_cons z13 (fa_cons z14 (fa_cons z15 (fa_cons z16 (fa_cons z17 (fa_nil))))))))))))))))))⟩
theorem law_mk {l : PySem.W.OpenLaw} {w : World} {fa : Addr} {K : PySem.W.Frag} {h : Heap} {mg : Str → Option Value} (X : K.In h) (G : h.Ns mainGlobals mg) (hfa : mg "law" = some (.ref fa)) {f : Addr} {od an : Option Addr} {sl : Array (Option Value)} {oc kV dc pm cd tt : Value} (a : PySem.W.nsIn K mainGlobals "law" = some (some (.ref f))) (l2 : K.lookup f = some ⟨oc, od, .func (PySem.W.fnOf "law" "law" (defArgs stlaw) (defBody stlaw) (defScope stlaw) .none kV dc pm an cd tt), sl⟩) (c : PySem.W.codeIn K cd "law" = true) (k : PySem.W.keepIn K (.ref f) = true) (B : Base ct K mg ds) (w0 n : Nat) :
    ∃ fd : FuncData, (∀ (s : Shared) (v : Value), BindsTo s fd ⟨[v], []⟩ [("script", v)]) ∧ ∀ base : Heap, K.In base → base.Ns mainGlobals mg → FnOk l.prog w K mg base CX0 (n + 1) fa fd ["script"] (spLaw w0 ds (n + 1) 56 K) := by
  have e := hfa.symm.trans (PySem.W.mg_of X G a)
  cases e
  exact ⟨PySem.W.fnOf "law" "law" (defArgs stlaw) (defBody stlaw) (defScope stlaw) .none kV dc pm an cd tt, fun s v => .of_eq rfl, fun base _ _ => fn_ok (facts B n) (fun_mk (st := stlaw) l2 c k) slaw claw rfl⟩
end K60
namespace K60
open PySem PySem.Spec PyProof.Rows L2 Mini
section
variable {rn : Rn} [Runs rn ds] {n : Nat} {k : Ky}
theorem l_red : RdcOk rn 3 50 := rdc_law (f := 50) (g := 49) rfl rfl
theorem l_redN : RedOk rn 2 50 := red_ok (f := 50) (g := 49) rfl rfl
theorem l_add (x y : Rat) (hx : sm x) (hy : sm y) : rn.go (n + 3) 51 [ofR x, ofR y] k = some (ofR (x + y), k) := add_ok (r := 50) (m := 2) rfl l_redN x y hx hy
theorem l_sub (x y : Rat) (hx : sm x) (hy : sm y) : rn.go (n + 3) 52 [ofR x, ofR y] k = some (ofR (x - y), k) := sub_ok (r := 50) (m := 2) rfl l_redN x y hx hy
theorem l_mul (x y : Rat) (hx : sm x) (hy : sm y) : rn.go (n + 3) 53 [ofR x, ofR y] k = some (ofR (x * y), k) := mul_ok (r := 50) (m := 2) rfl l_redN x y hx hy
theorem l_less (x y : Rat) (hx : sm x) (hy : sm y) : rn.go (n + 1) 54 [ofR x, ofR y] k = some (.bl (decide (x < y)), k) := less_ok rfl x y hx hy
theorem r_red : RdcOk rn 1 0 := rdc_prog (f := 0) rfl
theorem r_fadd (x y : Rat) (hx : sm x) (hy : sm y) : rn.go (n + 2) 2 [ofR x, ofR y] k = some (ofR (x + y), k) := add_ok (r := 0) (m := 1) rfl (x_reduced rfl) x y hx hy
theorem r_fsub (x y : Rat) (hx : sm x) (hy : sm y) : rn.go (n + 2) 3 [ofR x, ofR y] k = some (ofR (x - y), k) := sub_ok (r := 0) (m := 1) rfl (x_reduced rfl) x y hx hy
theorem r_fless (x y : Rat) (hx : sm x) (hy : sm y) : rn.go (n + 1) 4 [ofR x, ofR y] k = some (.bl (decide (x < y)), k) := less_ok rfl x y hx hy
theorem r_atmost (x y : Rat) (hx : sm x) (hy : sm y) : rn.go (n + 1) 5 [ofR x, ofR y] k = some (.bl (decide (x ≤ y)), k) := x_atmost rfl x y hx hy
theorem r_fmin (x y : Rat) (hx : sm x) (hy : sm y) : rn.go (n + 2) 6 [ofR x, ofR y] k = some (ofR (if y < x then y else x), k) := x_fmin (l := 4) rfl rfl x y hx hy
theorem r_fmax (x y : Rat) (hx : sm x) (hy : sm y) : rn.go (n + 2) 7 [ofR x, ofR y] k = some (ofR (if x < y then y else x), k) := x_fmax (l := 4) rfl rfl x y hx hy
theorem r_fwhole (v : Int) : rn.go (n + 1) 1 [.int v] k = some (ofR v, k) := x_fwhole rfl v
theorem r_need (x : D) : rn.go (n + 1) 15 [.bl true, x] k = some (.non, k) := x_need rfl x
theorem r_isint (i : Int) : rn.go (n + 1) 16 [.int i] k = some (.bl true, k) := x_int rfl i
theorem r_whole (v a b : Int) : rn.go (n + 2) 17 [.int v, .int a, .int b] k = some (.bl (decide (a ≤ v) && decide (v ≤ b)), k) := x_whole (i := 16) rfl rfl v a b
theorem r_wholeF (v a : Int) : rn.go (n + 2) 18 [.int v, .int a] k = some (.bl (decide (a ≤ v)), k) := x_wholeF (i := 16) rfl rfl v a
theorem r_seq (es : List D) (a b : Int) : rn.go (n + 1) 19 [.tup es, .int a, .int b] k = some (.bl (decide (a ≤ es.length) && decide ((es.length : Int) ≤ b)), k) := x_seq rfl es a b
theorem r_pair (x y : D) : rn.go (n + 2) 20 [.tup [x, y]] k = some (.bl true, k) := x_pair (q := 19) rfl rfl x y
theorem r_rows {α : Type} (g : α → List Int) (l : List α) (a b : Int) (bs : List (Int × Int)) (hb : bs.length ≤ 1000) (hg : ∀ x ∈ l, (g x).length = bs.length)
    (h1 : a ≤ l.length) (h2 : (l.length : Int) ≤ b) (h3 : l.length ≤ 100000) (hok : ∀ x ∈ l, ((g x).zip bs).all (fun p => decide (p.2.1 ≤ p.1) && decide (p.1 ≤ p.2.2)) = true) :
    rn.go (n + 4) 22 [.tup (l.map fun x => .tup ((g x).map .int)), .int a, .int b, .tup (bs.map pairD)] k = some (.bl true, k) := x_rows (r := 21) (q := 19) (i := 17) (j := 16) rfl rfl rfl rfl rfl g l a b bs hb hg h1 h2 h3 hok
theorem r_rising (l : List Int) (hl : l.length ≤ 100000) (h : ∀ i (_ : i + 1 < l.length), l[i] < l[i + 1]) : rn.go (n + 1) 23 [.lst (l.map .int)] k = some (.bl true, k) := x_rising rfl l hl h
theorem r_frac (x : Rat) (h1 : -1000000 ≤ x.num) (h2 : x.num ≤ 1000000) (h3 : x.den ≤ 1000000) : rn.go (n + 4) 25 [ofR x] k = some (.bl true, k) := x_frac (a := 24) (i := 16) (p := 20) (m := 17) (j := 18) (q := 19) rfl rfl rfl rfl rfl rfl rfl x h1 h2 h3
theorem r_frozen {m : Nat} {d : D} (h : FZ m d) : rn.go (n + m) 26 [d] k = some (d, k) := x_frozen (f := 26) rfl h
theorem r_span (a b : Int) (h0 : 0 ≤ a) (h1 : a ≤ b) (h2 : b ≤ 10000) : rn.go (n + 3) 34 [.tup [.int a, .int b]] k = some (.bl true, k) := by
  refine run_wp rfl rfl ?_
  simp [bis_span, r_pair, r_whole, h0, h1, h2, show a ≤ 10000 by omega, show 0 ≤ b by omega]
/-! ### journeys, in plain Lean -/
abbrev Span := Int × Int
abbrev Leg := Int × Option (List Span)
def spanD (p : Span) : D := .tup [.int p.1, .int p.2]
def spansD (l : List Span) : D := .tup (l.map spanD)
def spsD : Option (List Span) → D | none => .non | some l => spansD l
def legD (l : Leg) : D := .tup [.int l.1, spsD l.2]
def legsD (ls : List Leg) : D := .tup (ls.map legD)
def optI : Option Int → D | none => .non | some i => .int i
def beginFrom : List Span → Int → Option Int
  | [], _ => none
  | p :: r, m => if m ≤ p.2 then some (if m > p.1 then m else p.1) else beginFrom r m
def beginTill : List Span → Int → Option Int → Option Int
  | [], _, f => f
  | p :: r, m, f => beginTill r m (if p.1 ≤ m then some (if m < p.2 then m else p.2) else f)
def from' (o : Option (List Span)) (m : Int) : Option Int := match o with | none => some m | some l => beginFrom l m
def till' (o : Option (List Span)) (m : Int) : Option Int := if m < 0 then none else match o with | none => some m | some l => beginTill l m none
theorem r_from (o : Option (List Span)) (m : Int) (hl : ∀ l, o = some l → l.length ≤ 1000) : rn.go (n + 1) 39 [spsD o, .int m] k = some (optI (from' o m), k) := by
  rw [run_eq (rn := rn) (d := ⟨2, 4, bbegin_from⟩) rfl rfl]
  show fin k (evSs _ _ bbegin_from ⟨[some (spsD o), some (.int m), none, none], [], k⟩) = _
  generalize rn.go n = c
  cases o with
  | none => simp [bbegin_from, spsD, evSs, evS, evE, evT, truth, fin_rt, from', optI]
  | some l =>
    have loop : ∀ (l0 l : List Span) (x2 x3 : Option D), ∃ y2 y3, forD (.tup (.cons (.name 2) (.cons (.name 3) .nil))) (fun s => evSs c WF bbegin_from_0 s) (l.map spanD) ⟨[some (spsD (some l0)), some (.int m), x2, x3], [], k⟩ = (match beginFrom l m with
        | none => some (.nx ⟨[some (spsD (some l0)), some (.int m), y2, y3], [], k⟩)
        | some v => some (.rt (.int v) k)) := by
      intro l0 l
      induction l with
      | nil => intro x2 x3; exact ⟨x2, x3, rfl⟩
      | cons p r ih =>
        intro x2 x3
        by_cases h : m ≤ p.2
        · refine ⟨none, none, ?_⟩
          simp [forD, spanD, asg, asgs, bbegin_from_0, evSs, evS, evE, evEs, evT, coSem, truth, h, biSem, beginFrom, tgMu, tgsMu]
        · obtain ⟨y2, y3, e⟩ := ih (some (.int p.1)) (some (.int p.2))
          refine ⟨y2, y3, ?_⟩
          simp only [beginFrom, h, if_false]
          rw [← e]
          simp [forD, spanD, asg, asgs, bbegin_from_0, evSs, evS, evE, evEs, evT, coSem, truth, h, biSem, tgMu, tgsMu]
    obtain ⟨y2, y3, e⟩ := loop l l none none
    have t1 : evS c WF (.ite (.val (.isN (.var 0))) (.cons (.ret (.var 1)) .nil) .nil) ⟨[some (spsD (some l)), some (.int m), none, none], [], k⟩ = some (.nx ⟨[some (spsD (some l)), some (.int m), none, none], [], k⟩) := by
      simp [evS, evSs, evT, evE, spsD, spansD, truth]
    have t2 : evS c WF (.for (.tup (.cons (.name 2) (.cons (.name 3) .nil))) (.seq (.var 0)) bbegin_from_0) ⟨[some (spsD (some l)), some (.int m), none, none], [], k⟩ = (match beginFrom l m with
        | none => some (.nx ⟨[some (spsD (some l)), some (.int m), y2, y3], [], k⟩)
        | some v => some (.rt (.int v) k)) := by
      rw [← e]
      simp only [evS, evI, evE, List.getElem?_cons_zero, Option.map_some, spsD, spansD, items, Sta.keep, List.filter_nil]
    unfold bbegin_from
    rw [seq_nx t1]
    cases hb : beginFrom l m with
    | none =>
      rw [hb] at t2
      rw [seq_nx t2]
      simp [evSs, evS, evE, fin_rt, from', hb, optI]
    | some v =>
      rw [hb] at t2
      simp only [evSs, t2]
      simp [fin_rt, from', hb, optI]
theorem r_till (o : Option (List Span)) (m : Int) : rn.go (n + 1) 40 [spsD o, .int m] k = some (optI (till' o m), k) := by
  rw [run_eq (rn := rn) (d := ⟨2, 5, bbegin_till⟩) rfl rfl]
  show fin k (evSs _ _ bbegin_till ⟨[some (spsD o), some (.int m), none, none, none], [], k⟩) = _
  generalize rn.go n = c
  by_cases h0 : m < 0
  · simp [bbegin_till, evSs, evS, evE, evT, truth, coSem, h0, fin_rt, till', optI]
  · cases o with
    | none => simp [bbegin_till, spsD, evSs, evS, evE, evT, truth, coSem, h0, fin_rt, till', optI]
    | some l =>
      have loop : ∀ (l0 l : List Span) (f : Option Int) (x3 x4 : Option D), ∃ y3 y4, forD (.tup (.cons (.name 3) (.cons (.name 4) .nil))) (fun s => evSs c WF bbegin_till_0 s) (l.map spanD) ⟨[some (spsD (some l0)), some (.int m), some (optI f), x3, x4], [], k⟩ = some (.nx ⟨[some (spsD (some l0)), some (.int m), some (optI (beginTill l m f)), y3, y4], [], k⟩) := by
        intro l0 l
        induction l with
        | nil => intro f x3 x4; exact ⟨x3, x4, rfl⟩
        | cons p r ih =>
          intro f x3 x4
          by_cases h : p.1 ≤ m
          · obtain ⟨y3, y4, e⟩ := ih (some (if m < p.2 then m else p.2)) (some (.int p.1)) (some (.int p.2))
            refine ⟨y3, y4, ?_⟩
            simp only [beginTill, h, if_true]
            rw [← e]
            simp [forD, spanD, asg, asgs, bbegin_till_0, evSs, evS, stE, evE, evEs, evT, coSem, truth, h, biSem, tgMu, tgsMu, noL, Sta.put, optI]
          · obtain ⟨y3, y4, e⟩ := ih f (some (.int p.1)) (some (.int p.2))
            refine ⟨y3, y4, ?_⟩
            simp only [beginTill, h, if_false]
            rw [← e]
            simp [forD, spanD, asg, asgs, bbegin_till_0, evSs, evS, stE, evE, evEs, evT, coSem, truth, h, biSem, tgMu, tgsMu]
      obtain ⟨y3, y4, e⟩ := loop l l none none none
      have t0 : evS c WF (.ite (.val (.cmp .lt (.var 1) (.cst (.int 0)))) (.cons (.ret (.cst .non)) .nil) .nil) ⟨[some (spsD (some l)), some (.int m), none, none, none], [], k⟩ = some (.nx ⟨[some (spsD (some l)), some (.int m), none, none, none], [], k⟩) := by
        simp [evS, evSs, evT, evE, coSem, truth, h0]
      have t1 : evS c WF (.ite (.val (.isN (.var 0))) (.cons (.ret (.var 1)) .nil) .nil) ⟨[some (spsD (some l)), some (.int m), none, none, none], [], k⟩ = some (.nx ⟨[some (spsD (some l)), some (.int m), none, none, none], [], k⟩) := by
        simp [evS, evSs, evT, evE, spsD, spansD, truth]
      have t2 : evS c WF (.set 2 (.cst .non)) ⟨[some (spsD (some l)), some (.int m), none, none, none], [], k⟩ = some (.nx ⟨[some (spsD (some l)), some (.int m), some (optI none), none, none], [], k⟩) := by
        simp [evS, stE, evE, noL, Sta.put, optI]
      have t3 : evS c WF (.for (.tup (.cons (.name 3) (.cons (.name 4) .nil))) (.seq (.var 0)) bbegin_till_0) ⟨[some (spsD (some l)), some (.int m), some (optI none), none, none], [], k⟩ = some (.nx ⟨[some (spsD (some l)), some (.int m), some (optI (beginTill l m none)), y3, y4], [], k⟩) := by
        rw [← e]
        simp only [evS, evI, evE, List.getElem?_cons_zero, Option.map_some, spsD, spansD, items, Sta.keep, List.filter_nil]
      unfold bbegin_till
      rw [seq_nx t0, seq_nx t1, seq_nx t2, seq_nx t3]
      simp [evSs, evS, evE, fin_rt, till', h0]
def travel : List Leg → Int → List Int → Option (Int × List Int)
  | [], now, ws => some (now, ws)
  | l :: r, now, ws => match from' l.2 now with
    | none => none
    | some b => travel r (b + l.1) (ws ++ [b - now])
def tripD : Option (Int × List Int) → D
  | none => .non
  | some (t, ws) => .tup [.int t, .tup (ws.map .int)]
theorem r_travelled (ls : List Leg) (m : Int) (h1 : ls.length ≤ 1000) (h2 : ∀ l ∈ ls, ∀ s, l.2 = some s → s.length ≤ 1000) : rn.go (n + 2) 41 [legsD ls, .int m] k = some (tripD (travel ls m []), k) := by
  refine run_wp rfl rfl ?_
  simp [btravelled, legsD, newS]
  refine fr_list (α := Leg) _ (fun r s => ∃ (now : Int) (ws : List Int) (x4 x5 x6 : Option D), s = ⟨[some (legsD ls), some (.int m), some (.int now), some (.lst (ws.map .int)), x4, x5, x6], [3], k⟩ ∧ travel ls m [] = travel r now ws ∧ ws.length + r.length ≤ 1000 ∧ ∀ x ∈ r, ∀ s, x.2 = some s → s.length ≤ 1000) _ ls _ ?h0 ?hs ?he
  case h0 => exact ⟨m, [], none, none, none, rfl, rfl, by simpa using h1, h2⟩
  case hs =>
    rintro a r _ ⟨now, ws, x4, x5, x6, rfl, e, hl, hr⟩
    have e1 := r_from (rn := rn) (n := n) (k := k) a.2 now (fun l e => hr a List.mem_cons_self l e)
    simp at hl
    cases hb : from' a.2 now with
    | none =>
      simp [legD, btravelled_0, e1, hb, optI]
      rw [e]
      simp [travel, hb, tripD]
    | some b =>
      simp [legD, btravelled_0, e1, hb, optI, keepM]
      refine ⟨by omega, ⟨b + a.1, ws ++ [b - now], some (.int a.1), some (spsD a.2), some (.int b), by simp, ?_, ?_, ?_⟩⟩
      · rw [e, travel, hb]
      · simp; omega
      · intro x hx s; exact hr x (List.mem_cons_of_mem _ hx) s
  case he =>
    rintro _ ⟨now, ws, x4, x5, x6, rfl, e, hl, hr⟩
    rw [e]
    simp [travel, tripD]
end
end K60
namespace K60
open PySem Mini Mini.Win
open L2 (atI ixN)
section
variable {rn : Rn} [Runs rn ds] {n : Nat} {k : Ky}
def kn (l : List Kn) (i : Nat) : Kn := l.getD i (0, 0)
structure Tab (l : List Kn) : Prop where
  len2 : 2 ≤ l.length
  len : l.length ≤ 12
  rng : ∀ p ∈ l, 0 ≤ p.1 ∧ p.1 ≤ 1440 ∧ -500 ≤ p.2 ∧ p.2 ≤ 1500
  inc : ∀ i, i + 1 < l.length → (kn l i).1 < (kn l (i + 1)).1
def tabD (l : List Kn) : D := .tup (l.map pairD)
theorem kn_at {l : List Kn} {i : Nat} (h : i < l.length) : atI (l.map pairD) (i : Int) = some (pairD (kn l i)) := by
  rw [atI_nat, List.getElem?_map, List.getElem?_eq_getElem h]
  simp [kn, List.getElem?_eq_getElem h]
theorem kn_mem {l : List Kn} {i : Nat} (h : i < l.length) : kn l i ∈ l := by
  simp only [kn, List.getD_eq_getElem?_getD, List.getElem?_eq_getElem h, Option.getD_some]
  exact List.getElem_mem h
theorem kn_last {l : List Kn} (h : 2 ≤ l.length) : atI (l.map pairD) (-1) = some (pairD (kn l (l.length - 1))) := by
  rw [atI_neg1, List.getLast?_eq_getElem?, List.length_map, List.getElem?_map, List.getElem?_eq_getElem (by omega)]
  simp [kn, List.getElem?_eq_getElem (show l.length - 1 < l.length by omega)]
theorem Tab.r {l : List Kn} (t : Tab l) {i : Nat} (h : i < l.length) : 0 ≤ (kn l i).1 ∧ (kn l i).1 ≤ 1440 ∧ -500 ≤ (kn l i).2 ∧ (kn l i).2 ≤ 1500 := t.rng _ (kn_mem h)
theorem pb_small {i : Int} (h1 : -1073741824 < i) (h2 : i < 1073741824) : pb 30 (i : Rat) := pb.int (by
  have e : (2 : Nat) ^ 30 = 1073741824 := by decide
  omega) (by decide)
theorem r_between {a b : Kn} {x : Rat} {e : Nat} (ha : -2000 ≤ a.1 ∧ a.1 ≤ 2000) (ha2 : -2000 ≤ a.2 ∧ a.2 ≤ 2000) (hb : -2000 ≤ b.1 ∧ b.1 ≤ 2000) (hb2 : -2000 ≤ b.2 ∧ b.2 ≤ 2000) (hab : a.1 < b.1) (hx : pb e x) (he : e ≤ 300) :
    rn.go (n + 3) 11 [pairD a, pairD b, ofR x] k = some (ofR (hgt a b x), k) := by
  refine run_wp rfl rfl ?_
  have p1 : pb 30 ((a.1 : Int) : Rat) := pb_small (by omega) (by omega)
  have p2 : pb 30 ((a.2 : Int) : Rat) := pb_small (by omega) (by omega)
  have p3 := hx.sub p1
  have p4 : pb 30 (((b.2 - a.2 : Int) : Rat) / ((b.1 - a.1 : Int) : Rat)) := by
    have e : (2 : Nat) ^ 30 = 1073741824 := by decide
    exact pb.div (by omega) (by omega) (by omega)
  have p5 := p3.mul p4
  have m1 : mulOk (x - (a.1 : Rat)).num (b.2 - a.2) = true := mulOk_r (by omega) (by omega)
  have m2 : mulOk ((x - (a.1 : Rat)).den : Int) (b.1 - a.1) = true := mulOk_r (by omega) (by omega)
  have hd : ((x - (a.1 : Rat)).den : Int) * (b.1 - a.1) ≠ 0 := Int.mul_ne_zero (by have := (x - (a.1 : Rat)).den_pos; omega) (by omega)
  have hh : (((x - (a.1 : Rat)).den : Int) * (b.1 - a.1)).natAbs < HUGE := by
    rw [Int.natAbs_mul, Int.natAbs_natCast]
    refine sm_sq (p3.sm (by omega)).2 ?_
    have := sm_64
    omega
  have e1 := r_red (rn := rn) (n + 1) k ((x - (a.1 : Rat)).num * (b.2 - a.2)) _ hd hh
  rw [frac_mul _ _ _ (by omega)] at e1
  simp [bheight_between, r_fwhole, r_fsub x _ (hx.sm (by omega)) (p1.sm (by omega)), m1, m2, e1, -Rat.intCast_sub, -Rat.intCast_mul]
  rw [r_fadd (rn := rn) _ _ (p2.sm (by omega)) (p5.sm (by omega))]
  simp [hgt]
theorem pb_cross {a b : Kn} {c : Int} (ha : -2000 ≤ a.1 ∧ a.1 ≤ 2000) (ha2 : -2000 ≤ a.2 ∧ a.2 ≤ 2000) (hb : -2000 ≤ b.1 ∧ b.1 ≤ 2000) (hb2 : -2000 ≤ b.2 ∧ b.2 ≤ 2000) (hc : -2000 ≤ c ∧ c ≤ 2000) (hab : a.2 ≠ b.2) : pb 61 (crossR a b c) ∧ pb 30 ((((c - a.2) * (b.1 - a.1) : Int) : Rat) / ((b.2 - a.2 : Int) : Rat)) := by
  have e : (2 : Nat) ^ 30 = 1073741824 := by decide
  have h1 : ((c - a.2) * (b.1 - a.1)).natAbs ≤ 4000 * 4000 := by
    rw [Int.natAbs_mul]
    exact Nat.mul_le_mul (by omega) (by omega)
  have p4 : pb 30 ((((c - a.2) * (b.1 - a.1) : Int) : Rat) / ((b.2 - a.2 : Int) : Rat)) := pb.div (by omega) (by omega) (by omega)
  exact ⟨(pb_small (i := a.1) (by omega) (by omega)).add p4, p4⟩
theorem r_place {a b : Kn} {c : Int} (ha : -2000 ≤ a.1 ∧ a.1 ≤ 2000) (ha2 : -2000 ≤ a.2 ∧ a.2 ≤ 2000) (hb : -2000 ≤ b.1 ∧ b.1 ≤ 2000) (hb2 : -2000 ≤ b.2 ∧ b.2 ≤ 2000) (hc : -2000 ≤ c ∧ c ≤ 2000) (hab : a.2 ≠ b.2) :
    rn.go (n + 3) 12 [pairD a, pairD b, .int c] k = some (ofR (crossR a b c), k) := by
  refine run_wp rfl rfl ?_
  have m1 : mulOk (c - a.2) (b.1 - a.1) = true := mulOk_r (by omega) (by omega)
  have p4 := (pb_cross ha ha2 hb hb2 hc hab).2
  have e3 := r_red (rn := rn) (n + 1) k ((c - a.2) * (b.1 - a.1)) (b.2 - a.2) (by omega) (sm_huge (by have := sm_64; omega))
  simp [bplace_between, r_fwhole, m1, e3, -Rat.intCast_sub, -Rat.intCast_mul]
  rw [r_fadd (rn := rn) _ _ ((pb_small (i := a.1) (by omega) (by omega)).sm (by omega)) (p4.sm (by omega))]
  simp [crossR]

/-! the table's checks -/
theorem r_table {l : List Kn} (t : Tab l) : rn.go (n + 5) 27 [tabD l] k = some (.bl true, k) := by
  have e1 : rn.go (n + 4) 22 [tabD l, .int 2, .int 12, .tup [.tup [.int 0, .int 1440], .tup [.int (-500), .int 1500]]] k = some (.bl true, k) :=
    r_rows (fun x : Kn => [x.1, x.2]) l 2 12 [(0, 1440), (-500, 1500)] (by simp) (fun x _ => rfl) (by have := t.len2; omega) (by have := t.len; omega) (by have := t.len; omega) (fun x hx => by
      have := t.rng x hx
      simp [this])
  have e2 : rn.go (n + 4) 23 [.lst ((l.map (·.1)).map .int)] k = some (.bl true, k) := r_rising _ (by have := t.len; simp; omega) (fun i hi => by
    have := t.inc i (by simpa using hi)
    simp only [List.length_map] at hi
    simpa [kn, List.getElem?_eq_getElem (show i < l.length by omega), List.getElem?_eq_getElem hi] using this)
  refine run_wp rfl rfl ?_
  simp [bis_table, e1]
  simp [tabD, lineOk_of (show l.length ≤ 16777216 by have := t.len; omega)]
  refine cm_map pairD (fun p => .int p.1) l (fun p hp => ?_) ?_
  · simp [eis_table_0]
  · rw [List.map_map] at e2
    have e3 : (List.map D.int ∘ fun x => x) = List.map D.int := rfl
    simp [show (List.map (fun p : Kn => D.int p.1) l) = List.map (D.int ∘ fun x => x.fst) l from rfl, e2]
theorem r_covers {l : List Kn} (t : Tab l) {x : Rat} (hx : sm x) : rn.go (n + 2) 9 [tabD l, ofR x] k = some (.bl (decide (((kn l 0).1 : Rat) ≤ x) && decide (x ≤ ((kn l (l.length - 1)).1 : Rat))), k) := by
  refine run_wp rfl rfl ?_
  have h0 := kn_at (l := l) (i := 0) (by have := t.len2; omega)
  have h1 := kn_last t.len2
  have r0 := t.r (i := 0) (by have := t.len2; omega)
  have r1 := t.r (i := l.length - 1) (by have := t.len2; omega)
  have s0 := (pb_small (i := (kn l 0).1) (by omega) (by omega)).sm (by omega)
  have s1 := (pb_small (i := (kn l (l.length - 1)).1) (by omega) (by omega)).sm (by omega)
  simp at h0
  simp [bcovers, tabD, h0, h1, r_fwhole, r_atmost _ _ s0 hx, r_atmost _ _ hx s1]
  by_cases h : ((kn l 0).1 : Rat) ≤ x <;> simp [h]
/-- the piece of a moment -/
structure At (l : List Kn) (x : Rat) (j : Nat) : Prop where
  lt : j + 1 < l.length
  lo : ((kn l j).1 : Rat) ≤ x
  ne : ∀ i, 1 ≤ i → i ≤ j → ((kn l i).1 : Rat) < x
  hi : x ≤ ((kn l (j + 1)).1 : Rat)
theorem at_ex {l : List Kn} (t : Tab l) {x : Rat} (h0 : ((kn l 0).1 : Rat) ≤ x) (h1 : x ≤ ((kn l (l.length - 1)).1 : Rat)) : ∃ j, At l x j := by
  have key : ∀ m, m + 1 < l.length → x ≤ ((kn l (m + 1)).1 : Rat) → ∃ j, At l x j := by
    intro m
    induction m with
    | zero => intro h h2; exact ⟨0, h, h0, fun i h3 h4 => by omega, h2⟩
    | succ m ih =>
      intro h h2
      by_cases h3 : x ≤ ((kn l (m + 1)).1 : Rat)
      · exact ih (by omega) h3
      · have h3' := Rat.not_le.mp h3
        refine ⟨m + 1, h, Rat.le_of_lt h3', fun i h4 h5 => ?_, h2⟩
        have hm : ((kn l i).1 : Rat) ≤ ((kn l (m + 1)).1 : Rat) := mono_kn (kn := kn l) (n := l.length - 1) (fun j hj => t.inc j (by omega)) i (m + 1) h5 (by omega)
        grind
  have := t.len2
  exact key (l.length - 2) (by omega) (by rw [show l.length - 2 + 1 = l.length - 1 by omega]; exact h1)
theorem r_height {l : List Kn} (t : Tab l) {x : Rat} {e : Nat} (hx : pb e x) (he : e ≤ 300) {j : Nat} (hj : At l x j) : rn.go (n + 4) 10 [tabD l, ofR x] k = some (ofR (hgt (kn l j) (kn l (j + 1)) x), k) := by
  refine run_wp rfl rfl ?_
  simp [bheight_at]
  have hl2 := t.len2
  have hl := t.len
  have hlt := hj.lt
  refine wh_inv (fun s => ∃ i : Nat, 1 ≤ i ∧ i ≤ j + 1 ∧ s = ⟨[some (tabD l), some (ofR x), some (.int i)], [], k⟩) (fun s => (20 - sInt s.ρ 2).toNat) _ WF _ ⟨1, by omega, by omega, by simp⟩ (by simp [WF]) ?_
  rintro _ ⟨i, h1, h2, rfl⟩
  have hi := kn_at (l := l) (i := i) (by omega)
  have ri := t.r (i := i) (by omega)
  have si := (pb_small (i := (kn l i).1) (by omega) (by omega)).sm (by omega)
  have hne : ¬ x ≤ ((kn l i).1 : Rat) ↔ i ≤ j := by
    constructor
    · intro h
      by_cases hij : i = j + 1
      · subst hij; exact (h hj.hi).elim
      · omega
    · intro h
      have := hj.ne i h1 h
      grind
  simp [tabD, hi, r_fwhole, r_atmost _ _ (hx.sm (by omega)) si, bheight_at_0]
  by_cases hij : i ≤ j
  · have h4 : ¬ x ≤ ((kn l i).1 : Rat) := hne.mpr hij
    have h5 : (i : Int) < (l.length : Int) - 1 := by omega
    simp [h4, h5]
    exact ⟨⟨⟨i + 1, by omega, by omega, by simp⟩, by simp; omega⟩⟩
  · have h4 : x ≤ ((kn l i).1 : Rat) := by
      by_cases h : x ≤ ((kn l i).1 : Rat)
      · exact h
      · exact (hij (hne.mp h)).elim
    obtain rfl : i = j + 1 := by omega
    have hj0 := kn_at (l := l) (i := j) (by omega)
    have rj := t.r (i := j) (by omega)
    have hbt := r_between (rn := rn) (n := n) (k := k) (a := kn l j) (b := kn l (j + 1)) (x := x) (e := e) (by omega) (by omega) (by omega) (by omega) (t.inc j (by omega)) hx he
    by_cases h5 : ((j + 1 : Nat) : Int) < (l.length : Int) - 1
    · simp at hi h5
      simp [h4, h5, hi, hj0, hbt]
    · simp at hi h5
      have h6 : ¬ ((j : Int) + 1 < (l.length : Int) - 1) := by omega
      simp [h6, hi, hj0, hbt]
end
end K60
namespace K60
open PySem Mini Mini.Win
open L2 (atI ixN)
section
variable {rn : Rn} [Runs rn ds] {n : Nat} {k : Ky}
def partD : Option Sp → D | none => .non | some p => spR p
@[simp] theorem noL_partD (o : Option Sp) : noL (partD o) = true := by cases o <;> rfl
theorem r_part {a b : Kn} {c : Int} (ha : -2000 ≤ a.1 ∧ a.1 ≤ 2000) (ha2 : -2000 ≤ a.2 ∧ a.2 ≤ 2000) (hb : -2000 ≤ b.1 ∧ b.1 ≤ 2000) (hb2 : -2000 ≤ b.2 ∧ b.2 ≤ 2000) (hc : -2000 ≤ c ∧ c ≤ 2000) :
    rn.go (n + 4) 13 [pairD a, pairD b, .int c] k = some (partD (partOf a b c), k) := by
  refine run_wp rfl rfl ?_
  by_cases h1 : a.2 < c <;> by_cases h2 : b.2 < c
  · simp [bhigh_part, r_fwhole, h1, h2, partOf, partD]
  · simp [bhigh_part, r_fwhole, h1, h2, partOf, partD, r_place ha ha2 hb hb2 hc (by omega), spR]
  · simp [bhigh_part, r_fwhole, h1, h2, partOf, partD, r_place ha ha2 hb hb2 hc (by omega), spR]
  · simp [bhigh_part, r_fwhole, h1, h2, partOf, partD, spR]
theorem pb_part {a b : Kn} {c : Int} (ha : -2000 ≤ a.1 ∧ a.1 ≤ 2000) (ha2 : -2000 ≤ a.2 ∧ a.2 ≤ 2000) (hb : -2000 ≤ b.1 ∧ b.1 ≤ 2000) (hb2 : -2000 ≤ b.2 ∧ b.2 ≤ 2000) (hc : -2000 ≤ c ∧ c ≤ 2000) {p : Sp} (h : partOf a b c = some p) : pb 61 p.1 ∧ pb 61 p.2 := by
  have p1 : pb 61 ((a.1 : Int) : Rat) := (pb_small (by omega) (by omega)).mono (by omega)
  have p2 : pb 61 ((b.1 : Int) : Rat) := (pb_small (by omega) (by omega)).mono (by omega)
  unfold partOf at h
  split at h
  · cases h
  · rename_i hn
    simp only [Option.some.injEq] at h
    subst h
    refine ⟨?_, ?_⟩
    · show pb 61 (if a.2 < c then crossR a b c else (a.1 : Rat))
      split
      · exact (pb_cross ha ha2 hb hb2 hc (by omega)).1
      · exact p1
    · show pb 61 (if b.2 < c then crossR a b c else (b.1 : Rat))
      split
      · exact (pb_cross ha ha2 hb hb2 hc (by omega)).1
      · exact p2
def spsR (S : List Sp) : List D := S.map spR
theorem pb_push {S : List Sp} {o : Option Sp} (h : ∀ s ∈ S, pb 61 s.1 ∧ pb 61 s.2) (ho : ∀ p, o = some p → pb 61 p.1 ∧ pb 61 p.2) : ∀ s ∈ push S o, pb 61 s.1 ∧ pb 61 s.2 := by
  cases o with
  | none => exact h
  | some p =>
    rcases List.eq_nil_or_concat S with rfl | ⟨S0, q, rfl⟩
    · rw [push_nil]
      intro s hs
      simp only [List.mem_singleton] at hs
      subst hs
      exact ho _ rfl
    · rw [List.concat_eq_append] at *
      rw [push_cat]
      split
      · intro s hs
        rcases List.mem_append.mp hs with hs | hs
        · exact h s (by simp [hs])
        · simp only [List.mem_singleton] at hs
          subst hs
          exact ⟨(h q (by simp)).1, (ho _ rfl).2⟩
      · intro s hs
        rcases List.mem_append.mp hs with hs | hs
        · exact h s hs
        · simp only [List.mem_singleton] at hs
          subst hs
          exact ho _ rfl
theorem pb_spans {l : List Kn} (t : Tab l) {c : Int} (hc : -2000 ≤ c ∧ c ≤ 2000) : ∀ i, i + 1 ≤ l.length → ∀ s ∈ spansTo (kn l) c i, pb 61 s.1 ∧ pb 61 s.2 := by
  intro i
  induction i with
  | zero => intro _ s hs; cases hs
  | succ i ih =>
    intro hi
    have r0 := t.r (i := i) (by omega)
    have r1 := t.r (i := i + 1) (by omega)
    exact pb_push (ih (by omega)) fun p hp => pb_part (by omega) (by omega) (by omega) (by omega) hc hp
theorem push_len (S : List Sp) (o : Option Sp) : (push S o).length ≤ S.length + 1 := by
  cases o with
  | none => simp [push]
  | some p =>
    rcases List.eq_nil_or_concat S with rfl | ⟨S0, q, rfl⟩
    · rw [push_nil]; simp
    · rw [List.concat_eq_append, push_cat]
      split <;> simp
theorem spans_len (f : Nat → Kn) (c : Int) : ∀ i, (spansTo f c i).length ≤ i
  | 0 => by simp [spansTo]
  | i + 1 => by
    have := push_len (spansTo f c i) (partOf (f i) (f (i + 1)) c)
    have := spans_len f c i
    simp only [spansTo]
    omega
def spansOf (l : List Kn) (c : Int) : List Sp := spansTo (kn l) c (l.length - 1)
def winD (l : List Sp) : D := .tup (l.map spR)
def SpI (l : List Kn) (c : Int) (k : Ky) (i : Nat) (s : Sta) : Prop := ∃ x3 x4 : Option D, s = ⟨[some (tabD l), some (.int c), some (.lst ((spansTo (kn l) c i).map spR)), x3, x4], [2], k⟩
theorem spans_step {l : List Kn} (t : Tab l) {c : Int} (hc : -2000 ≤ c ∧ c ≤ 2000) {i : Nat} (hi : i < l.length - 1) {x4 : Option D} {J : O → Prop} : WP (rn.go (n + 4)) WF bhigh_spans_0 ⟨[some (tabD l), some (.int c), some (.lst ((spansTo (kn l) c i).map spR)), some (.int (1 + (i : Int))), x4], [2], k⟩ (stp (SpI l c k (i + 1)) J) := by
  have hl2 := t.len2
  have hl := t.len
  have r0 := t.r (i := i) (by omega)
  have r1 := t.r (i := i + 1) (by omega)
  have h0 := kn_at (l := l) (i := i) (by omega)
  have h1 := kn_at (l := l) (i := i + 1) (by omega)
  have hp := r_part (rn := rn) (n := n) (k := k) (a := kn l i) (b := kn l (i + 1)) (c := c) (by omega) (by omega) (by omega) (by omega) hc
  rw [show ((i + 1 : Nat) : Int) = 1 + (i : Int) by omega] at h1
  have hs := spans_len (kn l) c i
  have e0 : (1 + (i : Int) - 1) = i := by omega
  cases ho : partOf (kn l i) (kn l (i + 1)) c with
  | none =>
    rw [ho] at hp
    simp [bhigh_spans_0, tabD, h0, h1, e0, hp, partD, keepM]
    exact ⟨⟨some (.int (1 + i)), some .non, by simp [spansTo, ho, push_none, tabD]⟩⟩
  | some p =>
    rw [ho] at hp
    rcases List.eq_nil_or_concat (spansTo (kn l) c i) with e | ⟨S0, q, e⟩
    · simp [bhigh_spans_0, tabD, h0, h1, e0, hp, partD, keepM, e]
      exact ⟨⟨some (.int (1 + i)), some (spR p), by simp [spansTo, ho, e, push_nil, tabD]⟩⟩
    · rw [List.concat_eq_append] at e
      have hlen : S0.length < 100 := by rw [e] at hs; simp at hs; omega
      have ix1 := ixN_neg1 S0.length
      by_cases hq : q.2 = p.1
      · simp [bhigh_spans_0, tabD, h0, h1, e0, hp, partD, keepM, e, atI_neg1, eqD_ofR, hq, setIS, ix1]
        have := set_last (S0.map spR) (spR q) (.tup [ofR q.1, ofR p.2])
        rw [List.length_map] at this
        refine ⟨⟨some (.int (1 + i)), some (spR p), ?_⟩⟩
        simp [spansTo, ho, e, push_cat, hq, tabD, this, spR]
      · have hq' : decide (q.2 = p.1) = false := decide_eq_false hq
        simp [bhigh_spans_0, tabD, h0, h1, e0, hp, partD, keepM, e, atI_neg1, eqD_ofR, hq]
        refine ⟨by omega, ⟨some (.int (1 + i)), some (spR p), ?_⟩⟩
        simp [spansTo, ho, e, push_cat, hq, tabD, spR]
theorem r_spans {l : List Kn} (t : Tab l) {c : Int} (hc : -2000 ≤ c ∧ c ≤ 2000) : rn.go (n + 5) 14 [tabD l, .int c] k = some (winD (spansOf l c), k) := by
  refine run_wp rfl rfl ?_
  have hl2 := t.len2
  have hl := t.len
  have h62 : rng62 (l.length : Int) = true := rng62_of (by omega) (by omega)
  simp [bhigh_spans, tabD, newS, show rng62 1 = true from rfl, h62]
  refine fr_rng 1 (l.length - 1) (SpI l c k) _ _ ⟨none, none, by simp [avI, avE, avEs, spansTo, tabD]⟩ ?_ ?_
  · rintro i _ hi ⟨x3, x4, rfl⟩
    simp
    exact spans_step t hc hi
  · rintro _ ⟨x3, x4, rfl⟩
    simp [winD, spansOf]
/-! the functions over tables -/
theorem fz_pair (p : Kn) : FZ 2 (pairD p) := FZ.pair (m := 0) p
theorem fz_tab {l : List Kn} (t : Tab l) : FZ 3 (tabD l) := FZ.map (by have := t.len; omega) fun a _ => fz_pair a
structure Ok (l : List Kn) (x : Rat) : Prop where
  t : Tab l
  pb : pb 60 x
  fr : -1000000 ≤ x.num ∧ x.num ≤ 1000000 ∧ x.den ≤ 1000000
  lo : ((kn l 0).1 : Rat) ≤ x
  hi : x ≤ ((kn l (l.length - 1)).1 : Rat)
theorem r_sour {l : List Kn} {x : Rat} (o : Ok l x) {j : Nat} (hj : At l x j) : rn.go (n + 6) 28 [tabD l, ofR x] k = some (ofR (hgt (kn l j) (kn l (j + 1)) x), k) := by
  refine run_wp rfl rfl ?_
  have f1 := r_frozen (rn := rn) (n := n + 2) (k := k) (fz_tab o.t)
  have f2 := r_frozen (rn := rn) (n := n + 3) (k := k) (FZ.fr (m := 0) x)
  simp [bsour_at, r_table o.t, r_need, r_frac x o.fr.1 o.fr.2.1 o.fr.2.2, f1, f2, r_covers o.t (o.pb.sm (by omega)), o.lo, o.hi, r_height o.t o.pb (by omega) hj]
  simp [tabD]
theorem r_windows {l : List Kn} (t : Tab l) {c : Int} (hc : -500 ≤ c ∧ c ≤ 1500) : rn.go (n + 6) 29 [tabD l, .int c] k = some (winD (spansOf l c), k) := by
  refine run_wp rfl rfl ?_
  have f1 := r_frozen (rn := rn) (n := n + 2) (k := k) (fz_tab t)
  simp [bwindows, r_table t, r_need, r_whole, hc, f1, r_spans t (c := c) (by omega)]
theorem r_asked {l : List Kn} {x : Rat} (o : Ok l x) {c : Int} (hc : -500 ≤ c ∧ c ≤ 1500) : rn.go (n + 6) 33 [tabD l, .int c, ofR x] k = some (.tup [winD (spansOf l c), ofR x], k) := by
  refine run_wp rfl rfl ?_
  have f1 := r_frozen (rn := rn) (n := n + 2) (k := k) (fz_tab o.t)
  have f2 := r_frozen (rn := rn) (n := n + 3) (k := k) (FZ.fr (m := 0) x)
  simp [basked, r_table o.t, r_need, r_frac x o.fr.1 o.fr.2.1 o.fr.2.2, r_whole, hc, f1, f2, r_covers o.t (o.pb.sm (by omega)), o.lo, o.hi, r_spans o.t (c := c) (by omega)]
  simp [tabD]
theorem pb_of {l : List Kn} (t : Tab l) {c : Int} (hc : -500 ≤ c ∧ c ≤ 1500) : ∀ s ∈ spansOf l c, pb 61 s.1 ∧ pb 61 s.2 := pb_spans t (by omega) _ (by have := t.len2; omega)
def optR : Option Rat → D | none => .non | some x => ofR x
@[simp] theorem noL_optR (o : Option Rat) : noL (optR o) = true := by cases o <;> rfl
theorem r_first {l : List Kn} {x : Rat} (o : Ok l x) {c : Int} (hc : -500 ≤ c ∧ c ≤ 1500) : rn.go (n + 7) 31 [tabD l, .int c, ofR x] k = some (optR (firstFrom (spansOf l c) x), k) := by
  refine run_wp rfl rfl ?_
  simp [bfirst_from, r_asked o hc, winD]
  have hs := pb_of o.t hc
  have hx : sm x := o.pb.sm (by omega)
  refine fr_list spR (fun r s => ∃ x5 x6 : Option D, s = ⟨[some (tabD l), some (.int c), some (ofR x), some (.tup ((spansOf l c).map spR)), some (ofR x), x5, x6], [], k⟩ ∧ firstFrom (spansOf l c) x = firstFrom r x ∧ ∀ s ∈ r, pb 61 s.1 ∧ pb 61 s.2) _ (spansOf l c) _ ⟨none, none, rfl, rfl, hs⟩ ?_ ?_
  · rintro a r _ ⟨x5, x6, rfl, e, hr⟩
    have ha := hr a List.mem_cons_self
    have a1 : sm a.1 := ha.1.sm (by omega)
    have a2 : sm a.2 := ha.2.sm (by omega)
    simp [bfirst_from_0, r_atmost x a.2 hx a2, r_fmax a.1 x a1 hx]
    rw [e]
    by_cases h : x ≤ a.2
    · simp [h, firstFrom, optR]
    · simp [h, firstFrom]
      exact ⟨⟨some (ofR a.1), some (ofR a.2), by simp, by simp [firstFrom, h], fun s hs => hr s (List.mem_cons_of_mem _ hs)⟩⟩
  · rintro _ ⟨x5, x6, rfl, e, _⟩
    rw [e]
    simp [firstFrom, optR]
theorem r_last {l : List Kn} {x : Rat} (o : Ok l x) {c : Int} (hc : -500 ≤ c ∧ c ≤ 1500) : rn.go (n + 7) 32 [tabD l, .int c, ofR x] k = some (optR (lastTill (spansOf l c) x none), k) := by
  refine run_wp rfl rfl ?_
  simp [blast_till, r_asked o hc, winD]
  have hs := pb_of o.t hc
  have hx : sm x := o.pb.sm (by omega)
  refine fr_list spR (fun r s => ∃ (f : Option Rat) (x6 x7 : Option D), s = ⟨[some (tabD l), some (.int c), some (ofR x), some (.tup ((spansOf l c).map spR)), some (ofR x), some (optR f), x6, x7], [], k⟩ ∧ lastTill (spansOf l c) x none = lastTill r x f ∧ ∀ s ∈ r, pb 61 s.1 ∧ pb 61 s.2) _ (spansOf l c) _ ⟨none, none, none, rfl, rfl, hs⟩ ?_ ?_
  · rintro a r _ ⟨f, x6, x7, rfl, e, hr⟩
    have ha := hr a List.mem_cons_self
    have a1 : sm a.1 := ha.1.sm (by omega)
    have a2 : sm a.2 := ha.2.sm (by omega)
    simp [blast_till_0, r_atmost a.1 x a1 hx, r_fmin a.2 x a2 hx]
    rw [e]
    by_cases h : a.1 ≤ x
    · simp [h, lastTill]
      exact ⟨⟨some (if x < a.2 then x else a.2), some (ofR a.1), some (ofR a.2), by simp [optR], by simp [lastTill, h], fun s hs => hr s (List.mem_cons_of_mem _ hs)⟩⟩
    · simp [h, lastTill]
      exact ⟨⟨f, some (ofR a.1), some (ofR a.2), by simp, by simp [lastTill, h], fun s hs => hr s (List.mem_cons_of_mem _ hs)⟩⟩
  · rintro _ ⟨f, x6, x7, rfl, e, _⟩
    rw [e]
    simp [lastTill]
def tot : List Sp → Rat → Rat
  | [], t => t
  | s :: r, t => tot r (t + (s.2 - s.1))
theorem r_total (l : List Rat) (h : ∀ x ∈ l, pb 130 x) (hl : l.length ≤ 12) : rn.go (n + 3) 8 [.lst (l.map ofR)] k = some (ofR (l.foldl (· + ·) 0), k) := by
  refine run_wp rfl rfl ?_
  simp [bf_total]
  refine fr_list ofR (fun r s => ∃ (t : Rat) (x2 : Option D), s = ⟨[some (.lst (l.map ofR)), some (ofR t), x2], [], k⟩ ∧ l.foldl (· + ·) 0 = r.foldl (· + ·) t ∧ pb (140 * (12 - r.length) + 1) t ∧ (∀ x ∈ r, pb 130 x) ∧ r.length ≤ 12) _ l _ ⟨0, none, by simp [avI, avE, ofR, fr], rfl, (pb.int (i := 0) (e := 1) (by decide) (by decide)).mono (by omega), h, hl⟩ ?_ ?_
  · rintro a r _ ⟨t, x2, rfl, e, ht, hr, hlr⟩
    simp only [List.length_cons] at ht hlr
    have ha := hr a List.mem_cons_self
    simp [bf_total_0, r_fadd t a (ht.sm (by omega)) (ha.sm (by omega))]
    exact ⟨⟨t + a, some (ofR a), by simp, by rw [e, List.foldl_cons], (ht.add ha).mono (by omega), fun x hx => hr x (List.mem_cons_of_mem _ hx), by omega⟩⟩
  · rintro _ ⟨t, x2, rfl, e, _⟩
    rw [e]
    simp
theorem tot_fold (S : List Sp) (t : Rat) : tot S t = (S.map fun s => s.2 - s.1).foldl (· + ·) t := by
  induction S generalizing t with
  | nil => rfl
  | cons s r ih => simp only [tot, List.map_cons, List.foldl_cons, ih]
theorem r_time {l : List Kn} (t : Tab l) {c : Int} (hc : -500 ≤ c ∧ c ≤ 1500) : rn.go (n + 6) 30 [tabD l, .int c] k = some (ofR (tot (spansOf l c) 0), k) := by
  refine run_wp rfl rfl ?_
  have f1 := r_frozen (rn := rn) (n := n + 2) (k := k) (fz_tab t)
  have hs := pb_of t hc
  have hl := spans_len (kn l) c (l.length - 1)
  have hl2 := t.len
  have hlen : (spansOf l c).length ≤ 12 := by unfold spansOf; omega
  simp [btime_for, r_table t, r_need, r_whole, hc, f1, r_spans t (c := c) (by omega), winD, lineOk_of (show (spansOf l c).length ≤ 16777216 by omega)]
  refine cm_map spR (fun s => ofR (s.2 - s.1)) (spansOf l c) (fun s hm => ?_) ?_
  · have := hs s hm
    simp [etime_for_0, r_fsub s.2 s.1 (this.2.sm (by omega)) (this.1.sm (by omega))]
  · have e := r_total (rn := rn) (n := n + 2) (k := k) ((spansOf l c).map fun s => s.2 - s.1) (fun x hx => by
      obtain ⟨s, hm, rfl⟩ := List.mem_map.mp hx
      have := hs s hm
      exact (this.2.sub this.1).mono (by omega)) (by simpa using hlen)
    rw [List.map_map] at e
    have e2 : (ofR ∘ fun s : Sp => s.2 - s.1) = fun s : Sp => ofR (s.2 - s.1) := rfl
    rw [e2] at e
    simp [e, tot_fold]
end
end K60
namespace K60
open PySem Mini Mini.Win
open L2 (atI ixN)
section
variable {rn : Rn} [Runs rn ds] {n : Nat} {k : Ky}
theorem l_so {m : Nat} {d : D} (h : FZ m d) : rn.go (n + m) 45 [d, d] k = some (.bl true, k) := x_so (f := 45) rfl h
theorem fr1 (m : Int) : D.tup [.int m, .int 1] = ofR (m : Rat) := rfl
theorem l_sour {l : List Kn} (t : Tab l) {x : Rat} {e : Nat} (hx : pb e x) (he : e ≤ 300) {j : Nat} (hj : At l x j) : rn.go (n + 5) 55 [tabD l, ofR x] k = some (ofR (hgt (kn l j) (kn l (j + 1)) x), k) := by
  refine run_wp rfl rfl ?_
  have hl2 := t.len2
  have hl := t.len
  have hlt := hj.lt
  have h62 : rng62 (l.length : Int) = true := rng62_of (by omega) (by omega)
  have hxs : sm x := hx.sm (by omega)
  simp [b_law_sour, tabD, h62, show rng62 1 = true from rfl]
  refine fr_rng 1 (l.length - 1) (fun i s => i ≤ j ∧ ∃ x2 x3, s = ⟨[some (tabD l), some (ofR x), x2, x3], [], k⟩) _ _ ⟨by omega, none, none, rfl⟩ ?_ ?_
  · rintro i _ hi ⟨hij, x2, x3, rfl⟩
    have h0 := kn_at (l := l) (i := i) (by omega)
    have h1 := kn_at (l := l) (i := i + 1) (by omega)
    have r0 := t.r (i := i) (by omega)
    have r1 := t.r (i := i + 1) (by omega)
    have hinc := t.inc i (by omega)
    rw [show ((i + 1 : Nat) : Int) = 1 + (i : Int) by omega] at h1
    have e0 : (1 + (i : Int) - 1) = i := by omega
    have p1 : pb 30 (((kn l (i + 1)).1 : Int) : Rat) := pb_small (by omega) (by omega)
    have s1 := p1.sm (by omega)
    by_cases hij2 : i = j
    · subst hij2
      have hlow : ¬ ((kn l (i + 1)).1 : Rat) < x := Rat.not_lt.mpr hj.hi
      have q0 : pb 30 (((kn l i).1 : Int) : Rat) := pb_small (by omega) (by omega)
      have q1 : pb 30 (((kn l i).2 : Int) : Rat) := pb_small (by omega) (by omega)
      have q2 := hx.sub q0
      have q3 : pb 30 ((((kn l (i + 1)).2 - (kn l i).2 : Int) : Rat) / (((kn l (i + 1)).1 - (kn l i).1 : Int) : Rat)) := by
        have e : (2 : Nat) ^ 30 = 1073741824 := by decide
        exact pb.div (by omega) (by omega) (by omega)
      have q4 := q2.mul q3
      have er := l_red (rn := rn) (n + 1) k ((kn l (i + 1)).2 - (kn l i).2) ((kn l (i + 1)).1 - (kn l i).1) (by omega) (sm_huge (by have := sm_64; omega))
      simp [b_law_sour_0, tabD, h0, h1, e0, fr1, l_less _ _ s1 hxs, hlow, er, l_sub x _ hxs (q0.sm (by omega)), -Rat.intCast_sub]
      rw [l_mul (rn := rn) _ _ (q2.sm (by omega)) (q3.sm (by omega))]
      simp [h0, e0, fr1, -Rat.intCast_sub]
      rw [l_add (rn := rn) _ _ (q1.sm (by omega)) (q4.sm (by omega))]
      simp [hgt]
    · have hlow : ((kn l (i + 1)).1 : Rat) < x := hj.ne (i + 1) (by omega) (by omega)
      simp [b_law_sour_0, tabD, h1, fr1, l_less _ _ s1 hxs, hlow]
      exact ⟨⟨by omega, _, _, rfl⟩⟩
  · rintro _ ⟨hij, x2, x3, rfl⟩
    omega
@[simp] theorem items_winD (S : List Sp) : items (winD S) = some (S.map spR) := rfl
/-! the law's first loop: a moment -/
theorem fz_fr (x : Rat) : FZ 2 (ofR x) := FZ.fr (m := 0) x
theorem in_test (x : Rat) (s : Sp) : (!decide (x < s.1) && !decide (s.2 < x)) = inB x s := by
  by_cases h1 : x < s.1 <;> by_cases h2 : s.2 < x <;> simp [inB, h1, h2] <;> grind
/-- all that a moment says -/
structure Mom (l : List Kn) (c : Int) (x h : Rat) : Prop where
  one : ((spansOf l c).filter (inB x)).length ≤ 1
  iff : 0 < ((spansOf l c).filter (inB x)).length ↔ (c : Rat) ≤ h
  ff : 0 < ((spansOf l c).filter (inB x)).length → firstFrom (spansOf l c) x = some x ∧ lastTill (spansOf l c) x none = some x
theorem mom {l : List Kn} (t : Tab l) (c : Int) {x : Rat} {j : Nat} (hj : At l x j) : Mom l c x (hgt (kn l j) (kn l (j + 1)) x) := by
  have I := inv_all (kn := kn l) (n := l.length - 1) (c := c) (fun j hj => t.inc j (by omega)) (l.length - 1) (Nat.le_refl _)
  have hlt := hj.lt
  have hc := I.cov j (by omega) x hj.lo hj.hi
  refine ⟨in_one I.dis, ?_, fun h => ?_⟩
  · rw [hc]; exact in_pos
  · have := in_pos.mp h
    exact ⟨ff_in I.dis this, lt_in I.dis this⟩
theorem filt13 {mu : List Nat} (h : ∀ i ∈ mu, i = 13) {p : Nat → Bool} (hp : p 13 = false) : List.filter p mu = [] := by
  rw [List.filter_eq_nil_iff]
  intro a ha
  rw [h a ha, hp]
  decide
theorem ff_from : ∀ {S : List Sp} {x y : Rat}, firstFrom S x = some y → y = x ∨ ∃ s ∈ S, y = s.1
  | [], x, y, h => by cases h
  | s :: r, x, y, h => by
    simp only [firstFrom] at h
    split at h
    · simp only [Option.some.injEq] at h
      split at h
      · exact .inl h.symm
      · exact .inr ⟨s, List.mem_cons_self, h.symm⟩
    · rcases ff_from h with h | ⟨t, ht, h⟩
      · exact .inl h
      · exact .inr ⟨t, List.mem_cons_of_mem _ ht, h⟩
theorem lt_from : ∀ {S : List Sp} {x y : Rat} {f : Option Rat}, lastTill S x f = some y → f = some y ∨ y = x ∨ ∃ s ∈ S, y = s.2
  | [], x, y, f, h => .inl h
  | s :: r, x, y, f, h => by
    simp only [lastTill] at h
    rcases lt_from h with h | h | ⟨t, ht, h⟩
    · split at h
      · simp only [Option.some.injEq] at h
        split at h
        · exact .inr (.inl h.symm)
        · exact .inr (.inr ⟨s, List.mem_cons_self, h.symm⟩)
      · exact .inl h
    · exact .inr (.inl h)
    · exact .inr (.inr ⟨t, List.mem_cons_of_mem _ ht, h⟩)
theorem w5 {l : List Kn} {x : Rat} (o : Ok l x) {c : Int} (hc : -500 ≤ c ∧ c ≤ 1500) {j : Nat} (hj : At l x j) {st : Int} (hst : (st : Rat) / ((2 : Int) : Rat) = x) {A0 A1 A2 A4 A5 A6 A7 x11 x12 x13 x14 x15 x16 x17 x18 x19 x20 x21 x22 x23 x24 x25 x26 : Option D} {mu : List Nat} (hmu : ∀ i ∈ mu, i = 13) {I : Sta → Prop} {J : O → Prop}
    (hI : ∀ y11 y12 y13 y14 y15 y16, I ⟨[A0, A1, A2, some (tabD l), A4, A5, A6, A7, some (.int c), some (winD (spansOf l c)), some (.int st), y11, y12, y13, y14, y15, y16, x17, x18, x19, x20, x21, x22, x23, x24, x25, x26], [13], k⟩) :
    WP (rn.go (n + 9)) WF blaw_5 ⟨[A0, A1, A2, some (tabD l), A4, A5, A6, A7, some (.int c), some (winD (spansOf l c)), some (.int st), x11, x12, x13, x14, x15, x16, x17, x18, x19, x20, x21, x22, x23, x24, x25, x26], mu, k⟩ (stp I J) := by
  have er := l_red (rn := rn) (n + 6) k st 2 (by omega) (sm_huge (by have := sm_64; omega))
  rw [hst] at er
  have es := l_sour (rn := rn) (n := n + 4) (k := k) o.t o.pb (by omega) hj
  have et := r_sour (rn := rn) (n := n + 3) (k := k) o hj
  have M := mom o.t c hj
  have hs := pb_of o.t hc
  have hxs : sm x := o.pb.sm (by omega)
  have hlen : (spansOf l c).length ≤ 12 := by
    have := spans_len (kn l) c (l.length - 1)
    have := o.t.len
    unfold spansOf; omega
  have e1 := r_first (rn := rn) (n := n + 2) (k := k) o hc
  have e2 := r_last (rn := rn) (n := n + 2) (k := k) o hc
  have eso := l_so (rn := rn) (n := n + 7) (k := k) (fz_fr (hgt (kn l j) (kn l (j + 1)) x))
  have phs : pb 500 (hgt (kn l j) (kn l (j + 1)) x) := by
    have r0 := o.t.r (i := j) (by have := hj.lt; omega)
    have r1 := o.t.r (i := j + 1) hj.lt
    have hinc := o.t.inc j hj.lt
    have e : (2 : Nat) ^ 30 = 1073741824 := by decide
    have q0 : pb 30 (((kn l j).1 : Int) : Rat) := pb_small (by omega) (by omega)
    have q1 : pb 30 (((kn l j).2 : Int) : Rat) := pb_small (by omega) (by omega)
    have q3 : pb 30 ((((kn l (j + 1)).2 - (kn l j).2 : Int) : Rat) / (((kn l (j + 1)).1 - (kn l j).1 : Int) : Rat)) := pb.div (by omega) (by omega) (by omega)
    exact (q1.add ((o.pb.sub q0).mul q3)).mono (by omega)
  have eless := l_less (rn := rn) (n := n + 8) (k := k) (hgt (kn l j) (kn l (j + 1)) x) (c : Rat) (phs.sm (by omega)) ((pb_small (by omega) (by omega)).sm (by omega))
  generalize hgt (kn l j) (kn l (j + 1)) x = h at *
  have line : lineOk (spansOf l c).length = true := lineOk_of (by omega)
  have line' : ∀ m, m ≤ (spansOf l c).length → lineOk m = true := fun m hm => lineOk_of (by omega)
  have er' : rn.go (n + 9) 50 [.int st, .int 2] k = some (ofR x, k) := er
  have es' : rn.go (n + 9) 55 [tabD l, ofR x] k = some (ofR h, k) := es
  have et' : rn.go (n + 9) 28 [tabD l, ofR x] k = some (ofR h, k) := et
  have e1' : rn.go (n + 9) 31 [tabD l, .int c, ofR x] k = some (optR (firstFrom (spansOf l c) x), k) := e1
  have e2' : rn.go (n + 9) 32 [tabD l, .int c, ofR x] k = some (optR (lastTill (spansOf l c) x none), k) := e2
  have eso' : rn.go (n + 9) 45 [ofR h, ofR h] k = some (.bl true, k) := eso
  have eless' : rn.go (n + 9) 54 [ofR h, ofR (c : Rat)] k = some (.bl (decide (h < c)), k) := eless
  have ffn : firstFrom (spansOf l c) x = none → ((spansOf l c).filter fun s => !decide (s.2 < x)) = [] := by
    intro h
    rw [List.filter_eq_nil_iff]
    intro s hs
    have := ff_none h s hs
    simp
    grind
  have done : WP (rn.go (n + 9)) WF blaw_5 ⟨[A0, A1, A2, some (tabD l), A4, A5, A6, A7, some (.int c), some (winD (spansOf l c)), some (.int st), x11, x12, x13, x14, x15, x16, x17, x18, x19, x20, x21, x22, x23, x24, x25, x26], mu, k⟩ (stp I J) := by
    simp [blaw_5, er', es', keepM]
    refine ⟨line, cn_map spR (inB x) spR (spansOf l c) (fun s hm => ?_) ?_⟩
    · have ps := hs s hm
      have a1 : sm s.1 := ps.1.sm (by omega)
      have a2 : sm s.2 := ps.2.sm (by omega)
      simp [tlaw_2, elaw_1, l_less x s.1 hxs a1, l_less s.2 x a2 hxs, ← in_test]
      by_cases q : x < s.1 <;> simp [q]
    · have c1 := M.one
      have c2 := M.iff
      have c3 := M.ff
      generalize hF : (spansOf l c).filter (inB x) = F at *
      by_cases hp : 0 < F.length
      · obtain ⟨f1, f2⟩ := c3 hp
        have hch : ¬ h < (c : Rat) := Rat.not_lt.mpr (c2.mp hp)
        have h1 : ¬ (1 : Int) < F.length := by omega
        have h0 : F ≠ [] := by intro e; rw [e] at hp; simp at hp
        simp [newS, et', eso', fr1, eless', hp, hch, h1, e1', e2', f1, f2, optR, eqD_ofR, keepM, l_less x x hxs hxs, Rat.lt_irrefl]
        exact ⟨by rw [filt13 hmu]; exact hI _ _ _ _ _ _; simp⟩
      · have h0 : F = [] := by cases F with | nil => rfl | cons a r => simp at hp
        subst h0
        have hch : h < (c : Rat) := by
          rw [← Rat.not_le]
          intro hh
          exact hp (c2.mpr hh)
        have sl : ∀ z, lastTill (spansOf l c) x none = some z → sm z ∧ ¬ x < z := by
          intro z hz
          refine ⟨?_, Rat.not_lt.mpr (lt_le (fun _ h => by cases h) hz)⟩
          rcases lt_from hz with h | h | ⟨s, hm, h⟩
          · cases h
          · rw [h]; exact hxs
          · rw [h]; exact (hs s hm).2.sm (by omega)
        cases h1 : firstFrom (spansOf l c) x with
        | none =>
          cases h2 : lastTill (spansOf l c) x none with
          | none =>
            simp [newS, et', eso', fr1, eless', hch, e1', e2', keepM, h1, h2, optR]
            refine ⟨line, cn_map spR (fun s => !decide (s.2 < x)) spR (spansOf l c) (fun s hm => ?_) ?_⟩
            · have ps := hs s hm
              have a2 : sm s.2 := ps.2.sm (by omega)
              simp [tlaw_4, elaw_3, l_less s.2 x a2 hxs]
            · rw [ffn h1]
              simp
              exact ⟨by rw [filt13 hmu]; exact hI _ _ _ _ _ _; simp⟩
          | some z =>
            obtain ⟨z1, z2⟩ := sl z h2
            simp [newS, et', eso', fr1, eless', hch, e1', e2', keepM, h1, h2, optR, l_less x z hxs z1, z2]
            refine ⟨line, cn_map spR (fun s => !decide (s.2 < x)) spR (spansOf l c) (fun s hm => ?_) ?_⟩
            · have ps := hs s hm
              have a2 : sm s.2 := ps.2.sm (by omega)
              simp [tlaw_4, elaw_3, l_less s.2 x a2 hxs]
            · rw [ffn h1]
              simp
              exact ⟨by rw [filt13 hmu]; exact hI _ _ _ _ _ _; simp⟩
        | some y =>
          have y2 : ¬ y < x := Rat.not_lt.mpr (ff_ge h1)
          have y1 : sm y := by
            rcases ff_from h1 with h | ⟨s, hm, h⟩
            · rw [h]; exact hxs
            · rw [h]; exact (hs s hm).1.sm (by omega)
          cases h2 : lastTill (spansOf l c) x none with
          | none =>
            simp [newS, et', eso', fr1, eless', hch, e1', e2', keepM, h1, h2, optR, l_less y x y1 hxs, y2]
            exact ⟨by rw [filt13 hmu]; exact hI _ _ _ _ _ _; simp⟩
          | some z =>
            obtain ⟨z1, z2⟩ := sl z h2
            simp [newS, et', eso', fr1, eless', hch, e1', e2', keepM, h1, h2, optR, l_less y x y1 hxs, y2, l_less x z hxs z1, z2]
            exact ⟨by rw [filt13 hmu]; exact hI _ _ _ _ _ _; simp⟩
  exact done
end
end K60
namespace K60
open PySem Mini Mini.Win
open L2 (atI ixN)
/-! ### journeys: the mathematics -/
structure SpOk (l : List Span) : Prop where
  dis : l.Pairwise fun a b => a.2 < b.1
  rng : ∀ p ∈ l, 0 ≤ p.1 ∧ p.1 ≤ p.2 ∧ p.2 ≤ 12
  len : l.length ≤ 4
theorem SpOk.tail {p : Span} {l : List Span} (h : SpOk (p :: l)) : SpOk l :=
  ⟨(List.pairwise_cons.mp h.dis).2, fun q hq => h.rng q (List.mem_cons_of_mem _ hq), by have := h.len; simp at this; omega⟩
def inSp (l : List Span) (t : Int) : Bool := l.any fun p => decide (p.1 ≤ t) && decide (t ≤ p.2)
theorem inSp_iff {l : List Span} {t : Int} : inSp l t = true ↔ ∃ p ∈ l, p.1 ≤ t ∧ t ≤ p.2 := by
  simp only [inSp, List.any_eq_true, Bool.and_eq_true, decide_eq_true_eq]
theorem bf_none : ∀ {l : List Span} {m : Int}, beginFrom l m = none → ∀ t, m ≤ t → inSp l t = false
  | [], m, h, t, ht => rfl
  | p :: r, m, h, t, ht => by
    simp only [beginFrom] at h
    split at h
    · cases h
    · have := bf_none h t ht
      simp only [inSp, List.any_cons] at this ⊢
      rw [this]
      have : ¬ t ≤ p.2 := by omega
      simp [this]
theorem bf_some : ∀ {l : List Span} {m b : Int}, SpOk l → beginFrom l m = some b → m ≤ b ∧ (b ≤ 12 ∨ b = m) ∧ inSp l b = true ∧ ∀ t, m ≤ t → t < b → inSp l t = false
  | [], m, b, _, h => by cases h
  | p :: r, m, b, o, h => by
    simp only [beginFrom] at h
    have hp := o.rng p List.mem_cons_self
    split at h
    · rename_i hm
      simp only [Option.some.injEq] at h
      refine ⟨by split at h <;> omega, by split at h <;> omega, ?_, fun t h1 h2 => ?_⟩
      · rw [inSp_iff]
        exact ⟨p, List.mem_cons_self, by split at h <;> omega, by split at h <;> omega⟩
      · cases hh : inSp (p :: r) t with
        | false => rfl
        | true =>
          obtain ⟨q, hq, h3, h4⟩ := inSp_iff.mp hh
          rcases List.mem_cons.mp hq with rfl | hq
          · split at h <;> omega
          · have := (List.pairwise_cons.mp o.dis).1 q hq
            split at h <;> omega
    · rename_i hm
      obtain ⟨h1, h2, h3, h4⟩ := bf_some o.tail h
      refine ⟨h1, h2, ?_, fun t h5 h6 => ?_⟩
      · obtain ⟨q, hq, h7⟩ := inSp_iff.mp h3
        exact inSp_iff.mpr ⟨q, List.mem_cons_of_mem _ hq, h7⟩
      · have := h4 t h5 h6
        simp only [inSp, List.any_cons] at this ⊢
        rw [this]
        have : ¬ t ≤ p.2 := by omega
        simp [this]
theorem bf_le : ∀ {l : List Span} {s t : Int}, SpOk l → ((∃ b, beginFrom l s = some b ∧ b ≤ t) ↔ s ≤ t ∧ ∃ p ∈ l, s ≤ p.2 ∧ p.1 ≤ t)
  | [], s, t, o => ⟨fun ⟨b, h, _⟩ => (by cases h), fun ⟨_, p, hp, _⟩ => (by cases hp)⟩
  | p :: r, s, t, o => by
    have hp := o.rng p List.mem_cons_self
    simp only [beginFrom]
    split
    · rename_i hs
      constructor
      · rintro ⟨b, h, hb⟩
        simp only [Option.some.injEq] at h
        refine ⟨by split at h <;> omega, p, List.mem_cons_self, hs, by split at h <;> omega⟩
      · rintro ⟨h, q, hq, h1, h2⟩
        have hpt : p.1 ≤ t := by
          rcases List.mem_cons.mp hq with rfl | hq
          · exact h2
          · have := (List.pairwise_cons.mp o.dis).1 q hq
            omega
        exact ⟨_, rfl, by split <;> omega⟩
    · rename_i hs
      rw [bf_le o.tail]
      refine ⟨fun ⟨h, q, hq, h1⟩ => ⟨h, q, List.mem_cons_of_mem _ hq, h1⟩, fun ⟨h, q, hq, h1, h2⟩ => ?_⟩
      rcases List.mem_cons.mp hq with rfl | hq
      · omega
      · exact ⟨h, q, hq, h1, h2⟩
theorem bt_f : ∀ {l : List Span} {t : Int} {f : Option Int}, (∀ p ∈ l, ¬ p.1 ≤ t) → beginTill l t f = f
  | [], t, f, _ => rfl
  | p :: r, t, f, h => by
    simp only [beginTill]
    rw [if_neg (h p List.mem_cons_self)]
    exact bt_f fun q hq => h q (List.mem_cons_of_mem _ hq)
theorem bt_le : ∀ {l : List Span} {s t : Int} {f : Option Int}, SpOk l → (∀ r, f = some r → r ≤ t ∧ ∀ p ∈ l, r < p.1) → ((∃ r, beginTill l t f = some r ∧ s ≤ r) ↔ (s ≤ t ∧ ∃ p ∈ l, s ≤ p.2 ∧ p.1 ≤ t) ∨ ∃ r, f = some r ∧ s ≤ r)
  | [], s, t, f, o, hf => by simp [beginTill]
  | p :: r, s, t, f, o, hf => by
    have hp := o.rng p List.mem_cons_self
    have hd := (List.pairwise_cons.mp o.dis).1
    simp only [beginTill]
    split
    · rename_i hpt
      rw [bt_le o.tail (fun r' hr' => by
        simp only [Option.some.injEq] at hr'
        refine ⟨by split at hr' <;> omega, fun q hq => by have := hd q hq; split at hr' <;> omega⟩)]
      constructor
      · rintro (⟨h, q, hq, h1⟩ | ⟨r', h1, h2⟩)
        · exact .inl ⟨h, q, List.mem_cons_of_mem _ hq, h1⟩
        · simp only [Option.some.injEq] at h1
          exact .inl ⟨by split at h1 <;> omega, p, List.mem_cons_self, by split at h1 <;> omega, hpt⟩
      · rintro (⟨h, q, hq, h1, h2⟩ | ⟨r', h1, h2⟩)
        · rcases List.mem_cons.mp hq with rfl | hq
          · exact .inr ⟨_, rfl, by split <;> omega⟩
          · exact .inl ⟨h, q, hq, h1, h2⟩
        · have := (hf r' h1)
          have h3 := this.2 p List.mem_cons_self
          exact .inr ⟨_, rfl, by split <;> omega⟩
    · rename_i hpt
      rw [bt_le o.tail (fun r' hr' => ⟨(hf r' hr').1, fun q hq => (hf r' hr').2 q (List.mem_cons_of_mem _ hq)⟩)]
      constructor
      · rintro (⟨h, q, hq, h1⟩ | h)
        · exact .inl ⟨h, q, List.mem_cons_of_mem _ hq, h1⟩
        · exact .inr h
      · rintro (⟨h, q, hq, h1, h2⟩ | h)
        · rcases List.mem_cons.mp hq with rfl | hq
          · omega
          · exact .inl ⟨h, q, hq, h1, h2⟩
        · exact .inr h
structure LegOk (l : Leg) : Prop where
  m0 : 0 ≤ l.1
  m1 : l.1 ≤ 3
  sp : ∀ s, l.2 = some s → SpOk s
theorem galois {l : Leg} (o : LegOk l) {s t : Int} (hs : 0 ≤ s) : (∃ b, from' l.2 s = some b ∧ b ≤ t) ↔ ∃ r, till' l.2 t = some r ∧ s ≤ r := by
  obtain ⟨m, sp⟩ := l
  cases sp with
  | none =>
    simp only [from', till']
    constructor
    · rintro ⟨b, h, hb⟩
      simp only [Option.some.injEq] at h
      rw [if_neg (by omega)]
      exact ⟨t, rfl, by omega⟩
    · rintro ⟨r, h, hr⟩
      split at h
      · cases h
      · simp only [Option.some.injEq] at h
        exact ⟨s, rfl, by omega⟩
  | some l =>
    have ol := o.sp l rfl
    simp only [from', till']
    rw [bf_le ol]
    by_cases ht : t < 0
    · rw [if_pos ht]
      refine ⟨fun h => (by omega), fun ⟨r, h, _⟩ => (by cases h)⟩
    · rw [if_neg ht, bt_le ol (fun r hr => by cases hr)]
      simp
def arr : List Leg → Int → Option Int
  | [], s => some s
  | l :: ls, s => (from' l.2 s).bind fun b => arr ls (b + l.1)
def lv : List Leg → Int → Option Int
  | [], g => some g
  | l :: ls, g => (lv ls g).bind fun t => till' l.2 (t - l.1)
theorem travel_arr : ∀ (ls : List Leg) (s : Int) (ws : List Int), (travel ls s ws).map Prod.fst = arr ls s
  | [], s, ws => rfl
  | l :: ls, s, ws => by
    simp only [travel, arr]
    cases from' l.2 s with
    | none => rfl
    | some b => exact travel_arr ls _ _
theorem from_ge {l : Leg} (o : LegOk l) {s b : Int} (h : from' l.2 s = some b) : s ≤ b := by
  obtain ⟨m, sp⟩ := l
  cases sp with
  | none => simp only [from', Option.some.injEq] at h; omega
  | some l => exact (bf_some (o.sp l rfl) h).1
theorem arr_lv : ∀ {ls : List Leg}, (∀ l ∈ ls, LegOk l) → ∀ {s g : Int}, 0 ≤ s → ((∃ a, arr ls s = some a ∧ a ≤ g) ↔ ∃ r, lv ls g = some r ∧ s ≤ r)
  | [], _, s, g, hs => by simp [arr, lv]
  | l :: ls, o, s, g, hs => by
    have ol := o l List.mem_cons_self
    have ih := fun {s} hs => arr_lv (ls := ls) (fun l hl => o l (List.mem_cons_of_mem _ hl)) (s := s) (g := g) hs
    constructor
    · rintro ⟨a, h, ha⟩
      simp only [arr] at h
      cases hb : from' l.2 s with
      | none => rw [hb] at h; cases h
      | some b =>
        rw [hb] at h
        have hb2 := from_ge ol hb
        have := ol.m0
        obtain ⟨r', h1, h2⟩ := (ih (s := b + l.1) (by omega)).mp ⟨a, h, ha⟩
        obtain ⟨r, h3, h4⟩ := (galois ol (t := r' - l.1) hs).mp ⟨b, hb, by omega⟩
        exact ⟨r, by simp only [lv, h1]; exact h3, h4⟩
    · rintro ⟨r, h, hr⟩
      simp only [lv] at h
      cases hl : lv ls g with
      | none => rw [hl] at h; cases h
      | some r' =>
        rw [hl] at h
        obtain ⟨b, hb, h2⟩ := (galois ol (t := r' - l.1) hs).mpr ⟨r, h, hr⟩
        have hb2 := from_ge ol hb
        have := ol.m0
        obtain ⟨a, h3, h4⟩ := (ih (s := b + l.1) (by omega)).mpr ⟨r', hl, by omega⟩
        exact ⟨a, by simp only [arr, hb]; exact h3, h4⟩
theorem till_le {l : Leg} (o : LegOk l) {t r : Int} (h : till' l.2 t = some r) : 0 ≤ r ∧ r ≤ t := by
  obtain ⟨m, sp⟩ := l
  simp only [till'] at h
  split at h
  · cases h
  · rename_i ht
    cases sp with
    | none => simp only [Option.some.injEq] at h; omega
    | some l =>
      have ol := o.sp l rfl
      have key : ∀ (l : List Span) (f : Option Int), (∀ p ∈ l, 0 ≤ p.1 ∧ p.1 ≤ p.2) → (∀ r, f = some r → 0 ≤ r ∧ r ≤ t) → ∀ r, beginTill l t f = some r → 0 ≤ r ∧ r ≤ t := by
        intro l
        induction l with
        | nil => intro f _ hf r h; exact hf r h
        | cons p l ih =>
          intro f hl hf r h
          simp only [beginTill] at h
          have hp := hl p List.mem_cons_self
          refine ih _ (fun q hq => hl q (List.mem_cons_of_mem _ hq)) (fun r' hr' => ?_) r h
          split at hr'
          · simp only [Option.some.injEq] at hr'
            split at hr' <;> omega
          · exact hf r' hr'
      exact key l none (fun p hp => ⟨(ol.rng p hp).1, (ol.rng p hp).2.1⟩) (fun _ h => by cases h) r h
theorem lv_le : ∀ {ls : List Leg}, (∀ l ∈ ls, LegOk l) → ∀ {g r : Int}, 0 ≤ g → lv ls g = some r → 0 ≤ r ∧ r ≤ g
  | [], _, g, r, hg, h => by simp only [lv, Option.some.injEq] at h; omega
  | l :: ls, o, g, r, hg, h => by
    simp only [lv] at h
    cases hl : lv ls g with
    | none => rw [hl] at h; cases h
    | some r' =>
      rw [hl] at h
      have h1 := lv_le (fun l hl => o l (List.mem_cons_of_mem _ hl)) hg hl
      have ol := o l List.mem_cons_self
      have h2 := till_le ol (show till' l.2 (r' - l.1) = some r from h)
      have := ol.m0
      omega
/-- as the program does it: from the last leg on -/
def lvR : List Leg → Int → Option Int
  | [], g => some g
  | l :: ls, g => (till' l.2 (g - l.1)).bind (lvR ls)
theorem lvR_app : ∀ (a : List Leg) (l : Leg) (g : Int), lvR (a ++ [l]) g = (lvR a g).bind fun t => till' l.2 (t - l.1)
  | [], l, g => by simp only [List.nil_append, lvR, Option.bind_some]; cases till' l.2 (g - l.1) <;> rfl
  | b :: a, l, g => by
    simp only [List.cons_append, lvR]
    cases till' b.2 (g - b.1) with
    | none => rfl
    | some t => exact lvR_app a l t
theorem lvR_rev : ∀ (ls : List Leg) (g : Int), lvR ls.reverse g = lv ls g
  | [], g => rfl
  | l :: ls, g => by rw [List.reverse_cons, lvR_app, lvR_rev ls g]; rfl
/-- waiting one by one -/
def waitN (l : List Span) (c : Int) : Nat → Int
  | 0 => 0
  | i + 1 => if inSp l (c + waitN l c i) then waitN l c i else waitN l c i + 1
theorem waitN_none {l : List Span} {c : Int} (h : ∀ t, c ≤ t → inSp l t = false) : ∀ i : Nat, waitN l c i = i
  | 0 => rfl
  | i + 1 => by
    simp only [waitN, waitN_none h i]
    rw [h (c + i) (by omega)]
    simp
theorem waitN_some {l : List Span} {c b : Int} (hb : c ≤ b) (h1 : inSp l b = true) (h2 : ∀ t, c ≤ t → t < b → inSp l t = false) : ∀ i : Nat, waitN l c i = if (i : Int) < b - c then (i : Int) else b - c
  | 0 => by simp only [waitN]; split <;> omega
  | i + 1 => by
    simp only [waitN, waitN_some hb h1 h2 i]
    by_cases hi : (i : Int) < b - c
    · rw [if_pos hi, h2 (c + i) (by omega) (by omega)]
      simp only [Bool.false_eq_true, if_false]
      split <;> omega
    · rw [if_neg hi, show c + (b - c) = b by omega, h1]
      simp only [if_true]
      rw [if_neg (by omega)]
section
variable {rn : Rn} [Runs rn ds] {n : Nat} {k : Ky}
/-! journeys: the walk -/
@[simp] theorem noL_spsD (o : Option (List Span)) : noL (spsD o) = true := by
  cases o with
  | none => rfl
  | some l => exact noLs_map (fun p => rfl) l
@[simp] theorem noL_optI (o : Option Int) : noL (optI o) = true := by cases o <;> rfl
theorem r_spansOk {l : List Span} (o : SpOk l) : rn.go (n + 4) 35 [spansD l] k = some (.bl true, k) := by
  refine run_wp rfl rfl ?_
  have hl := o.len
  have h62 : rng62 (l.length : Int) = true := rng62_of (by omega) (by omega)
  simp [bare_spans, spansD, r_seq, show (l.length : Int) ≤ 4 by omega, lineOk_of (show l.length ≤ 16777216 by omega)]
  refine cm_map spanD (fun _ => .bl true) l (fun p hp => ?_) ?_
  · have := o.rng p hp
    simp [eare_spans_0, spanD, r_span p.1 p.2 (by omega) (by omega) (by omega)]
  · simp [h62, show rng62 1 = true from rfl, lineOk_of (show (rngL 1 1 (l.length - 1)).length ≤ 16777216 by simp [rngL]; omega)]
    refine cm_rng 1 (l.length - 1) (fun _ => .bl true) (fun i hi => ?_) ?_
    · have e0 : (1 + (i : Int) - 1) = i := by omega
      have a0 : atI (l.map spanD) (i : Int) = some (spanD l[i]) := by rw [atI_nat]; simp [List.getElem?_eq_getElem (show i < l.length by omega)]
      have a1 : atI (l.map spanD) (1 + (i : Int)) = some (spanD l[i + 1]) := by
        rw [show (1 + (i : Int)) = ((i + 1 : Nat) : Int) by omega, atI_nat]
        simp [List.getElem?_eq_getElem (show i + 1 < l.length by omega)]
      have hlt := (List.pairwise_iff_getElem.mp o.dis) i (i + 1) (by omega) (by omega) (by omega)
      simp [eare_spans_1, e0, a0, a1, spanD, hlt]
    · simp
theorem r_leg {l : Leg} (o : LegOk l) : rn.go (n + 5) 36 [legD l] k = some (.bl true, k) := by
  refine run_wp rfl rfl ?_
  have h0 := o.m0
  have h1 := o.m1
  obtain ⟨m, sp⟩ := l
  simp only at h0 h1
  have hm : m ≤ 1000 := by omega
  cases sp with
  | none => simp [bis_leg, legD, r_pair, r_whole, h0, hm, spsD]
  | some s => simp [bis_leg, legD, r_pair, r_whole, h0, hm, spsD, r_spansOk (o.sp s rfl), show isNonD (spansD s) = false from rfl]
theorem r_legs {ls : List Leg} (o : ∀ l ∈ ls, LegOk l) (hl : ls.length ≤ 10) : rn.go (n + 6) 37 [legsD ls] k = some (.bl true, k) := by
  refine run_wp rfl rfl ?_
  simp [bare_legs, legsD, r_seq, show (ls.length : Int) ≤ 10 by omega, lineOk_of (show ls.length ≤ 16777216 by omega)]
  refine cm_map legD (fun _ => .bl true) ls (fun p hp => ?_) ?_
  · simp [eare_legs_0, r_leg (o p hp)]
  · simp
theorem fz_legs {ls : List Leg} (o : ∀ l ∈ ls, LegOk l) (hl : ls.length ≤ 10) : FZ 5 (legsD ls) := by
  refine FZ.map (by omega) fun l hl => ?_
  refine FZ.tup (by simp) fun d hd => ?_
  simp at hd
  rcases hd with rfl | rfl
  · exact .int _
  · obtain ⟨m, sp⟩ := l
    cases sp with
    | none => exact .non
    | some s =>
      have := (o _ hl).sp s rfl
      refine FZ.map (by have := this.len; omega) fun p _ => ?_
      exact FZ.pair (m := 0) p
theorem r_checked {ls : List Leg} (o : ∀ l ∈ ls, LegOk l) (hl : ls.length ≤ 10) (m : Int) (h0 : 0 ≤ m) (h1 : m ≤ 10000) : rn.go (n + 7) 38 [legsD ls, .int m] k = some (legsD ls, k) := by
  refine run_wp rfl rfl ?_
  have f1 := r_frozen (rn := rn) (n := n + 1) (k := k) (fz_legs o hl)
  simp [bchecked, r_legs o hl, r_need, r_whole, h0, h1, f1]
theorem legs_len {ls : List Leg} (o : ∀ l ∈ ls, LegOk l) : ∀ l ∈ ls, ∀ s, l.2 = some s → s.length ≤ 1000 := fun l hl s hs => by
  have := ((o l hl).sp s hs).len
  omega
theorem r_arrives {ls : List Leg} (o : ∀ l ∈ ls, LegOk l) (hl : ls.length ≤ 10) (m : Int) (h0 : 0 ≤ m) (h1 : m ≤ 10000) : rn.go (n + 8) 42 [legsD ls, .int m] k = some (optI (arr ls m), k) := by
  refine run_wp rfl rfl ?_
  have e := r_travelled (rn := rn) (n := n + 5) (k := k) ls m (by omega) (legs_len o)
  have ea := travel_arr ls m []
  cases ht : travel ls m [] with
  | none =>
    rw [ht] at e ea
    simp [barrives, r_checked o hl m h0 h1, e, tripD]
    rw [← ea]; rfl
  | some q =>
    obtain ⟨t, us⟩ := q
    rw [ht] at e ea
    simp [barrives, r_checked o hl m h0 h1, e, tripD]
    rw [← ea]; rfl
def waitsD : Option (Int × List Int) → D
  | none => .non
  | some (_, ws) => .tup (ws.map .int)
theorem r_waits {ls : List Leg} (o : ∀ l ∈ ls, LegOk l) (hl : ls.length ≤ 10) (m : Int) (h0 : 0 ≤ m) (h1 : m ≤ 10000) : rn.go (n + 8) 43 [legsD ls, .int m] k = some (waitsD (travel ls m []), k) := by
  refine run_wp rfl rfl ?_
  have e := r_travelled (rn := rn) (n := n + 5) (k := k) ls m (by omega) (legs_len o)
  cases ht : travel ls m [] with
  | none =>
    rw [ht] at e
    simp [bwaits, r_checked o hl m h0 h1, e, tripD, waitsD]
  | some q =>
    obtain ⟨t, us⟩ := q
    rw [ht] at e
    simp [bwaits, r_checked o hl m h0 h1, e, tripD, waitsD]
theorem r_leaves {ls : List Leg} (o : ∀ l ∈ ls, LegOk l) (hl : ls.length ≤ 10) (m : Int) (h0 : 0 ≤ m) (h1 : m ≤ 10000) : rn.go (n + 8) 44 [legsD ls, .int m] k = some (optI (lv ls m), k) := by
  refine run_wp rfl rfl ?_
  rw [← lvR_rev]
  have hr : ∀ m k, rn.go (n + 7) 38 [legsD ls, .int m] k = rn.go (n + 7) 38 [legsD ls, .int m] k := fun _ _ => rfl
  simp [bleaves, r_checked o hl m h0 h1]
  simp [legsD, ← List.map_reverse]
  refine fr_list legD (fun r s => ∃ (g : Int) (x3 x4 : Option D), s = ⟨[some (legsD ls), some (.int m), some (.int g), x3, x4], [], k⟩ ∧ lvR ls.reverse m = lvR r g) _ ls.reverse _ ⟨m, none, none, rfl, rfl⟩ ?_ ?_
  · rintro a r _ ⟨g, x3, x4, rfl, e⟩
    have et := r_till (rn := rn) (n := n + 6) (k := k) a.2 (g - a.1)
    rw [e]
    cases hb : till' a.2 (g - a.1) with
    | none =>
      rw [hb] at et
      simp [legD, bleaves_0, et, optI, lvR, hb]
    | some t =>
      rw [hb] at et
      simp [legD, bleaves_0, et, optI, lvR, hb]
      exact ⟨⟨t, _, _, rfl, by rw [hb]; rfl⟩⟩
  · rintro _ ⟨g, x3, x4, rfl, e⟩
    rw [e]
    simp [lvR, optI]
end
end K60
namespace K60
open PySem Mini Mini.Win
open L2 (atI ixN)
section
variable {rn : Rn} [Runs rn ds] {n : Nat} {k : Ky}
/-! the sums -/
theorem tot_take (S : List Sp) (t : Rat) (i : Nat) (h : i < S.length) : tot (S.take (i + 1)) t = tot (S.take i) t + (S[i].2 - S[i].1) := by
  induction S generalizing t i with
  | nil => simp at h
  | cons s r ih =>
    cases i with
    | zero => simp [tot]
    | succ i =>
      simp only [List.take_succ_cons, tot]
      rw [ih _ i (by simpa using h)]
      simp
theorem pb_tot {S : List Sp} (h : ∀ s ∈ S, pb 61 s.1 ∧ pb 61 s.2) : ∀ i, i ≤ S.length → pb (130 * i + 1) (tot (S.take i) 0) := by
  intro i
  induction i with
  | zero => intro _; exact pb.int (i := 0) (by decide) (by decide)
  | succ i ih =>
    intro hi
    rw [tot_take S 0 i (by omega)]
    have hs := h S[i] (List.getElem_mem _)
    exact ((ih (by omega)).add (hs.2.sub hs.1)).mono (by omega)
theorem sp_at {S : List Sp} {i : Nat} (h : i < S.length) : atI (S.map spR) (i : Int) = some (spR S[i]) := by
  rw [atI_nat]; simp [List.getElem?_eq_getElem h]
@[simp] theorem ix_winD (S : List Sp) (i : Int) : idxSem k (winD S) (.int i) = atI (S.map spR) i := rfl
@[simp] theorem len_winD (S : List Sp) : biSem .len [winD S] = some (.int S.length) := by simp [winD]
theorem w6 {S : List Sp} (hS : S.length ≤ 12) (hp : ∀ s ∈ S, pb 61 s.1 ∧ pb 61 s.2) (hd : S.Pairwise fun s t => s.2 < t.1) (hle : ∀ s ∈ S, s.1 ≤ s.2) {i : Nat} (hi : i < S.length) {A0 A1 A2 A3 A4 A6 A7 A8 x10 x11 x12 x13 x14 x15 x16 x18 x19 x20 x21 x22 x23 x24 x25 x26 : Option D} {mu : List Nat} (hmu : ∀ i ∈ mu, i = 13) {I : Sta → Prop} {J : O → Prop}
    (hI : ∀ mu', (∀ i ∈ mu', i = 13) → I ⟨[A0, A1, A2, A3, A4, some (.int i), A6, A7, A8, some (winD S), x10, x11, x12, x13, x14, x15, x16, some (ofR (tot (S.take (i + 1)) 0)), x18, x19, x20, x21, x22, x23, x24, x25, x26], mu', k⟩) :
    WP (rn.go (n + 9)) WF blaw_6 ⟨[A0, A1, A2, A3, A4, some (.int i), A6, A7, A8, some (winD S), x10, x11, x12, x13, x14, x15, x16, some (ofR (tot (S.take i) 0)), x18, x19, x20, x21, x22, x23, x24, x25, x26], mu, k⟩ (stp I J) := by
  have hs := hp S[i] (List.getElem_mem hi)
  have s1 : sm S[i].1 := hs.1.sm (by omega)
  have s2 : sm S[i].2 := hs.2.sm (by omega)
  have st : sm (tot (S.take i) 0) := (pb_tot hp i (by omega)).sm (by omega)
  have hl : ¬ S[i].2 < S[i].1 := Rat.not_lt.mpr (hle _ (List.getElem_mem hi))
  have e1 := l_sub (rn := rn) (n := n + 6) (k := k) S[i].2 S[i].1 s2 s1
  have e2 := l_add (rn := rn) (n := n + 6) (k := k) (tot (S.take i) 0) (S[i].2 - S[i].1) st ((hs.2.sub hs.1).sm (by omega))
  have hmu2 : ∀ p : Nat → Bool, ∀ i ∈ mu.filter p, i = 13 := fun p i hi => hmu i (List.mem_filter.mp hi).1
  simp [blaw_6, sp_at hi, e1, e2, keepM, l_less S[i].2 S[i].1 s2 s1, hl]
  rw [← tot_take S 0 i hi]
  by_cases h0 : 0 < i
  · obtain ⟨j, rfl⟩ : ∃ j, i = j + 1 := ⟨i - 1, by omega⟩
    have hj : j < S.length := by omega
    have ej : ((j : Int) + 1 - 1) = j := by omega
    have hj2 := hp S[j] (List.getElem_mem hj)
    have s3 : sm S[j].2 := hj2.2.sm (by omega)
    have hlt : S[j].2 < S[j + 1].1 := (List.pairwise_iff_getElem.mp hd) j (j + 1) hj hi (by omega)
    have ea := sp_at hj
    simp [ej, ea, sp_at hi, l_less S[j].2 S[j + 1].1 s3 s1, hlt]
    have eb := sp_at hi
    simp at eb
    simp [eb, l_less S[j].2 S[j + 1].1 s3 s1, hlt]
    exact ⟨hI _ (hmu2 _)⟩
  · have : ¬ (0 : Int) < i := by omega
    simp [this, h0]
    exact ⟨hI _ (hmu2 _)⟩
/-! waiting -/
theorem filt_any (l : List Span) (t : Int) : ((l.filter fun p => decide (p.1 ≤ t) && decide (t ≤ p.2)).length = 0) ↔ inSp l t = false := by
  rw [List.length_eq_zero_iff, List.filter_eq_nil_iff]
  constructor
  · intro h
    cases hh : inSp l t with
    | false => rfl
    | true =>
      obtain ⟨p, hp, h1, h2⟩ := inSp_iff.mp hh
      have := h p hp
      simp [h1, h2] at this
  · intro h p hp hc
    simp only [Bool.and_eq_true, decide_eq_true_eq] at hc
    have : inSp l t = true := inSp_iff.mpr ⟨p, hp, hc⟩
    rw [h] at this; cases this
/-- one more minute, if it is shut -/
def step1 (a : Leg) (oc : Option Int) (wt : Int) : Int := match oc, a.2 with
  | some c, some l => if inSp l (c + wt) then wt else wt + 1
  | _, _ => wt
theorem w10 {a : Leg} (o : LegOk a) {oc : Option Int} {wt : Int} {A0 A1 A2 A3 A4 A5 A6 A7 A8 A9 x10 x11 x12 x13 x14 x15 x16 x17 x18 x19 x21 x24 x25 x26 : Option D} {mu : List Nat} {I : Sta → Prop} {J : O → Prop}
    (hI : ∀ p : Nat → Bool, p 21 = true → I ⟨[A0, A1, A2, A3, A4, A5, A6, A7, A8, A9, x10, x11, x12, x13, x14, x15, x16, x17, x18, x19, some (optI oc), x21, some (legD a), some (.int (step1 a oc wt)), x24, x25, x26], mu.filter p, k⟩) :
    WP (rn.go (n + 9)) WF blaw_10 ⟨[A0, A1, A2, A3, A4, A5, A6, A7, A8, A9, x10, x11, x12, x13, x14, x15, x16, x17, x18, x19, some (optI oc), x21, some (legD a), some (.int wt), x24, x25, x26], mu, k⟩ (stp I J) := by
  have hI0 := hI (fun _ => true) rfl
  rw [List.filter_eq_self.mpr (fun _ _ => rfl)] at hI0
  obtain ⟨m, sp⟩ := a
  cases oc with
  | none =>
    simp [blaw_10, optI, step1] at hI0 ⊢
    exact ⟨hI0⟩
  | some c =>
    cases sp with
    | none =>
      simp [blaw_10, optI, legD, spsD, step1] at hI0 ⊢
      exact ⟨hI0⟩
    | some l =>
      have ol := o.sp l rfl
      have hll := ol.len
      have hF := filt_any l (c + wt)
      have hle : (l.filter fun p => decide (p.1 ≤ c + wt) && decide (c + wt ≤ p.2)).length ≤ l.length := List.length_filter_le _ _
      simp [blaw_10, optI, legD, spsD, spansD, show ∀ l, isNonD (spansD l) = false from fun _ => rfl, lineOk_of (show l.length ≤ 16777216 by omega)]
      refine cn_map spanD (fun p => decide (p.1 ≤ c + wt) && decide (c + wt ≤ p.2)) spanD l (fun p hp => ?_) ?_
      · simp [tlaw_9, elaw_8, spanD]
        by_cases q : p.1 ≤ c + wt <;> simp [q]
      · generalize (l.filter fun p => decide (p.1 ≤ c + wt) && decide (c + wt ≤ p.2)) = F at *
        cases hin : inSp l (c + wt) with
        | true =>
          have hne : F ≠ [] := by
            intro e
            have := hF.mp (by rw [e]; rfl)
            rw [hin] at this; cases this
          simp only [step1, hin, if_true] at hI0
          simp [hne]
          exact ⟨hI0⟩
        | false =>
          have he : F = [] := List.length_eq_zero_iff.mp (hF.mpr hin)
          simp [he, keepM]
          have := hI (fun x => x != 23) (by decide)
          simp only [step1, hin] at this
          exact ⟨this⟩
/-- a leg is waited for -/
def legS (a : Leg) (st : Option Int × List Int) : Option Int × List Int := match st.1 with
  | none => st
  | some c => match from' a.2 c with
    | none => (none, st.2)
    | some b => (some (b + a.1), st.2 ++ [b - c])
def waits20 (a : Leg) (oc : Option Int) : Nat → Int
  | 0 => 0
  | i + 1 => step1 a oc (waits20 a oc i)
theorem waits_eq {a : Leg} {l : List Span} (h : a.2 = some l) (c : Int) : ∀ i, waits20 a (some c) i = waitN l c i
  | 0 => rfl
  | i + 1 => by
    simp only [waits20, waitN, step1, h, waits_eq h c i]
theorem waits_free {a : Leg} (h : a.2 = none) (oc : Option Int) : ∀ i, waits20 a oc i = 0
  | 0 => rfl
  | i + 1 => by simp only [waits20, step1, h, waits_free h oc i]
theorem waits_none {a : Leg} : ∀ i, waits20 a none i = 0
  | 0 => rfl
  | i + 1 => by simp only [waits20, step1, waits_none i]
theorem wait_from {a : Leg} (o : LegOk a) {c : Int} (hc : 0 ≤ c) : (from' a.2 c = none ∧ waits20 a (some c) 20 = 20) ∨ ∃ b, from' a.2 c = some b ∧ waits20 a (some c) 20 = b - c ∧ c ≤ b ∧ b - c < 20 := by
  obtain ⟨m, sp⟩ := a
  cases sp with
  | none => exact .inr ⟨c, rfl, by rw [waits_free rfl]; omega, Int.le_refl _, by omega⟩
  | some l =>
    rw [waits_eq (l := l) rfl]
    cases hb : from' (some l) c with
    | none => exact .inl ⟨rfl, waitN_none (bf_none hb) 20⟩
    | some b =>
      obtain ⟨h1, h2, h3, h4⟩ := bf_some (o.sp l rfl) hb
      refine .inr ⟨b, rfl, ?_, h1, by omega⟩
      rw [waitN_some h1 h3 h4 20, if_neg (by omega)]
theorem w11 {a : Leg} (o : LegOk a) {oc : Option Int} (hoc : ∀ c, oc = some c → 0 ≤ c) {hs : List Int} (hl : hs.length ≤ 100) {A0 A1 A2 A3 A4 A5 A6 A7 A8 A9 x10 x11 x12 x13 x14 x15 x16 x17 x18 x19 x23 x24 x25 x26 : Option D} {mu : List Nat} {I : Sta → Prop} {J : O → Prop}
    (hI : ∀ mu' y23 y24, I ⟨[A0, A1, A2, A3, A4, A5, A6, A7, A8, A9, x10, x11, x12, x13, x14, x15, x16, x17, x18, x19, some (optI (legS a (oc, hs)).1), some (.lst ((legS a (oc, hs)).2.map .int)), some (legD a), y23, y24, x25, x26], 21 :: mu', k⟩) :
    WP (rn.go (n + 9)) WF blaw_11 ⟨[A0, A1, A2, A3, A4, A5, A6, A7, A8, A9, x10, x11, x12, x13, x14, x15, x16, x17, x18, x19, some (optI oc), some (.lst (hs.map .int)), some (legD a), x23, x24, x25, x26], 21 :: mu, k⟩ (stp I J) := by
  simp [blaw_11, keepM, show rng62 20 = true from rfl]
  refine fr_rng 0 20 (fun i s => ∃ mu' y24, s = ⟨[A0, A1, A2, A3, A4, A5, A6, A7, A8, A9, x10, x11, x12, x13, x14, x15, x16, x17, x18, x19, some (optI oc), some (.lst (hs.map .int)), some (legD a), some (.int (waits20 a oc i)), y24, x25, x26], 21 :: mu', k⟩) _ _ ⟨_, x24, rfl⟩ ?_ ?_
  · rintro i _ hi ⟨mu', y24, rfl⟩
    simp
    refine w10 o (fun p hp => ?_)
    rw [List.filter_cons, if_pos hp]
    exact ⟨_, _, rfl⟩
  · rintro _ ⟨mu', y24, rfl⟩
    cases oc with
    | none =>
      simp [optI]
      exact ⟨hI _ _ _⟩
    | some c =>
      rcases wait_from o (hoc c rfl) with ⟨h1, h2⟩ | ⟨b, h1, h2, h3, h4⟩
      · have := hI (mu'.filter fun x => x != 20) (some (.int 20)) y24
        simp only [legS, h1] at this
        simp [h2, optI, keepM]
        exact ⟨this⟩
      · have hne : ¬ (b - c = 20) := by omega
        have e1 : c + (b - c) = b := by omega
        have := hI (mu'.filter fun x => x != 20) (some (.int (b - c))) y24
        simp only [legS, h1, optI, List.map_append, List.map_cons, List.map_nil] at this
        simp [h2, optI, keepM, hne, e1, legD, show hs.length < 16777216 by omega]
        exact ⟨this⟩
end
end K60
namespace K60
open PySem Mini Mini.Win
open L2 (atI ixN)
section
variable {rn : Rn} [Runs rn ds] {n : Nat} {k : Ky}
def goS : List Leg → Option Int × List Int → Option Int × List Int
  | [], s => s
  | a :: r, s => goS r (legS a s)
theorem goS_none : ∀ (ls : List Leg) (hs : List Int), goS ls (none, hs) = (none, hs)
  | [], _ => rfl
  | a :: r, hs => goS_none r hs
theorem goS_travel : ∀ (ls : List Leg) (c : Int) (hs : List Int), match travel ls c hs with
    | none => (goS ls (some c, hs)).1 = none
    | some (t, us) => goS ls (some c, hs) = (some t, us)
  | [], c, hs => rfl
  | a :: r, c, hs => by
    simp only [travel, goS, legS]
    cases hb : from' a.2 c with
    | none => simp only [goS_none]
    | some b => exact goS_travel r (b + a.1) (hs ++ [b - c])
theorem fz_opt (o : Option Int) : FZ 2 (optI o) := by
  cases o with
  | none => exact .non
  | some i => exact .int i
theorem w12 {ls : List Leg} (o : ∀ l ∈ ls, LegOk l) (hl : ls.length ≤ 10) {st : Int} (h0 : 0 ≤ st) (h1 : st ≤ 100) {A0 A1 A2 A3 A4 A5 A6 A7 A8 A9 x10 x11 x12 x13 x14 x15 x16 x17 x20 x21 x22 x23 x24 x25 x26 : Option D} {mu : List Nat} {I : Sta → Prop} {J : O → Prop}
    (hI : ∀ mu' y20 y21 y22 y23 y24, I ⟨[A0, A1, A2, A3, A4, A5, A6, A7, A8, A9, x10, x11, x12, x13, x14, x15, x16, x17, some (legsD ls), some (.int st), y20, y21, y22, y23, y24, x25, x26], mu', k⟩) :
    WP (rn.go (n + 9)) WF blaw_12 ⟨[A0, A1, A2, A3, A4, A5, A6, A7, A8, A9, x10, x11, x12, x13, x14, x15, x16, x17, some (legsD ls), some (.int st), x20, x21, x22, x23, x24, x25, x26], mu, k⟩ (stp I J) := by
  simp [blaw_12, keepM, newS]
  simp [legsD]
  refine fr_list legD (fun r s => ∃ (oc : Option Int) (hs : List Int) (mu' : List Nat) (y22 y23 y24 : Option D), s = ⟨[A0, A1, A2, A3, A4, A5, A6, A7, A8, A9, x10, x11, x12, x13, x14, x15, x16, x17, some (legsD ls), some (.int st), some (optI oc), some (.lst (hs.map .int)), y22, y23, y24, x25, x26], 21 :: mu', k⟩ ∧ goS ls (some st, []) = goS r (oc, hs) ∧ (∀ c, oc = some c → 0 ≤ c) ∧ hs.length + r.length ≤ 10 ∧ ∀ a ∈ r, LegOk a) _ ls _ ⟨some st, [], _, x22, x23, x24, rfl, rfl, fun c hc => by simp only [Option.some.injEq] at hc; omega, by simpa using hl, o⟩ ?_ ?_
  · rintro a r _ ⟨oc, hs, mu', y22, y23, y24, rfl, e, hoc, hlen, ho⟩
    have oa := ho a List.mem_cons_self
    simp only [List.length_cons] at hlen
    simp
    refine w11 oa hoc (by omega) fun mu2 z23 z24 => ?_
    refine ⟨_, _, _, _, _, _, rfl, e, fun c hc => ?_, ?_, fun b hb => ho b (List.mem_cons_of_mem _ hb)⟩
    · simp only [legS] at hc
      cases oc with
      | none => cases hc
      | some c0 =>
        have := hoc c0 rfl
        simp only at hc
        cases hb : from' a.2 c0 with
        | none => rw [hb] at hc; cases hc
        | some b =>
          rw [hb] at hc
          simp only [Option.some.injEq] at hc
          have := from_ge oa hb
          have := oa.m0
          omega
    · have : (legS a (oc, hs)).2.length ≤ hs.length + 1 := by
        simp only [legS]
        cases oc with
        | none => simp
        | some c0 =>
          simp only
          cases from' a.2 c0 <;> simp
      omega
  · rintro _ ⟨oc, hs, mu', y22, y23, y24, rfl, e, hoc, hlen, _⟩
    have ea := r_arrives (rn := rn) (n := n + 1) (k := k) o hl st h0 (by omega)
    have ew := r_waits (rn := rn) (n := n + 1) (k := k) o hl st h0 (by omega)
    have es1 := l_so (rn := rn) (n := n + 7) (k := k) (fz_opt (arr ls st))
    have ta := travel_arr ls st []
    have gt := goS_travel ls st []
    simp only [goS] at e
    cases ht : travel ls st [] with
    | none =>
      rw [ht] at gt ew ta
      simp only [e] at gt
      subst gt
      have : arr ls st = none := ta.symm
      rw [this] at ea es1
      have es2 := l_so (rn := rn) (n := n + 8) (k := k) (d := .non) (m := 1) .non
      simp only [optI] at ea es1
      simp [ea, ew, es1, waitsD, optI, es2]
      exact ⟨hI _ _ _ _ _ _⟩
    | some q =>
      obtain ⟨t, us⟩ := q
      rw [ht] at gt ew ta
      simp only [e, Prod.mk.injEq] at gt
      obtain ⟨rfl, rfl⟩ := gt
      have : arr ls st = some t := ta.symm
      rw [this] at ea es1
      have es2 := l_so (rn := rn) (n := n + 7) (k := k) (d := .tup (hs.map .int)) (m := 2) (FZ.map (by omega) fun a _ => .int a)
      simp only [optI] at ea es1
      simp [ea, ew, es1, waitsD, optI, es2]
      exact ⟨hI _ _ _ _ _ _⟩
theorem filt_range (r n : Nat) (h : r < n) : (List.range n).filter (fun i : Nat => decide (i ≤ r)) = List.range (r + 1) := by
  induction n with
  | zero => omega
  | succ n ih =>
    rw [List.range_succ, List.filter_append]
    by_cases hr : r < n
    · rw [ih hr]
      have : ¬ (n ≤ r) := by omega
      simp [this]
    · have hn : r = n := by omega
      subst hn
      rw [List.filter_eq_self.mpr (fun i hi => by have := List.mem_range.mp hi; simp; omega), List.range_succ]
      simp
theorem w15 {ls : List Leg} (o : ∀ l ∈ ls, LegOk l) (hl : ls.length ≤ 10) {g : Nat} (h1 : g ≤ 100) {A0 A1 A2 A3 A4 A5 A6 A7 A8 A9 x10 x11 x12 x13 x14 x15 x16 x17 x19 x20 x21 x22 x23 x24 x26 : Option D} {mu : List Nat} {I : Sta → Prop} {J : O → Prop}
    (hI : ∀ mu' y26, I ⟨[A0, A1, A2, A3, A4, A5, A6, A7, A8, A9, x10, x11, x12, x13, x14, x15, x16, x17, some (legsD ls), x19, x20, x21, x22, x23, x24, some (.int g), y26], mu', k⟩) :
    WP (rn.go (n + 9)) WF blaw_15 ⟨[A0, A1, A2, A3, A4, A5, A6, A7, A8, A9, x10, x11, x12, x13, x14, x15, x16, x17, some (legsD ls), x19, x20, x21, x22, x23, x24, some (.int g), x26], mu, k⟩ (stp I J) := by
  have el := r_leaves (rn := rn) (n := n + 1) (k := k) o hl g (by omega) (by omega)
  have es := l_so (rn := rn) (n := n + 7) (k := k) (fz_opt (lv ls g))
  have h62 : rng62 ((g : Int) + 1) = true := rng62_of (by omega) (by omega)
  have hN : ((g : Int) + 1).toNat = g + 1 := by omega
  simp [blaw_15, show rng62 0 = true from rfl, h62, hN]
  refine ⟨lineOk_of (by simp [rngL]; omega), cn_rng 0 (g + 1) (fun t => match lv ls g with | some r => decide (t ≤ r) | none => false) (fun t => .int t) (fun i hi => ?_) ?_⟩
  · have ea := r_arrives (rn := rn) (n := n + 1) (k := k) o hl (0 + (i : Int)) (by omega) (by omega)
    have hal := arr_lv o (s := 0 + (i : Int)) (g := g) (by omega)
    rw [Int.zero_add] at ea hal
    cases hv : lv ls g with
    | none =>
      rw [hv] at hal
      cases ha : arr ls i with
      | none =>
        rw [ha] at ea
        simp [tlaw_14, elaw_13, ea, optI]
      | some a =>
        rw [ha] at ea hal
        have : ¬ a ≤ (g : Int) := by
          intro h
          obtain ⟨r, hr, _⟩ := hal.mp ⟨a, rfl, h⟩
          cases hr
        simp [tlaw_14, elaw_13, ea, optI, this]
    | some r =>
      rw [hv] at hal
      cases ha : arr ls i with
      | none =>
        rw [ha] at ea hal
        have : ¬ (i : Int) ≤ r := by
          intro h
          obtain ⟨a, hr, _⟩ := hal.mpr ⟨r, rfl, h⟩
          cases hr
        simp [tlaw_14, elaw_13, ea, optI, this]
      | some a =>
        rw [ha] at ea hal
        have : a ≤ (g : Int) ↔ (i : Int) ≤ r := by
          constructor
          · intro h
            obtain ⟨r', hr, h2⟩ := hal.mp ⟨a, rfl, h⟩
            simp only [Option.some.injEq] at hr
            omega
          · intro h
            obtain ⟨a', hr, h2⟩ := hal.mpr ⟨r, rfl, h⟩
            simp only [Option.some.injEq] at hr
            omega
        simp [tlaw_14, elaw_13, ea, optI, this]
  · cases hv : lv ls g with
    | none =>
      rw [hv] at el es
      simp only [optI] at el es
      have hf : (List.range (g + 1)).filter (fun _ => false) = [] := List.filter_eq_nil_iff.mpr fun _ _ => by simp
      simp [newS, el, es, optI, hf]
      exact ⟨hI _ _⟩
    | some r =>
      have hr := lv_le o (g := g) (by omega) hv
      rw [hv] at el es
      obtain ⟨q, rfl⟩ : ∃ q : Nat, r = q := ⟨r.toNat, by omega⟩
      have hf := filt_range q (g + 1) (by omega)
      simp only [optI] at el es
      have hnl : noLs ((List.range (q + 1)).map fun i : Nat => D.int i) = true := noLs_map (fun _ => rfl) _
      have hat : atI ((List.range (q + 1)).map fun i : Nat => D.int i) (q : Int) = some (.int q) := by
        rw [atI_nat]; simp
      simp [newS, el, es, hf, hnl, hat, show (0 : Int) < (q : Int) + 1 by omega]
      exact ⟨hI _ _⟩
end
end K60
namespace K60
open PySem Mini Mini.Win
open L2 (atI ixN)
section
variable {rn : Rn} [Runs rn ds] {n : Nat} {k : Ky}
theorem take48 {row : List Int} (hr : row ≠ []) {m lim : Int} (hm : 0 ≤ m) (hl : 0 < lim) {P : D × Ky → Prop} (h : ∀ v, 0 ≤ v → v < lim → P (.int v, some (m + 1))) : OPQ (rn.go (n + 9) 48 [.lst (row.map .int), .spot, .int lim] (some m)) P := opq_take (n := n + 7) (f := 48) (dr := 47) rfl rfl hr hm hl h
/-- what the law draws for a table -/
def Drawn (m0 : Int) (l : List Kn) : Prop := ∀ j (h : j < l.length), l[j].1 = m0 + 2 * j ∧ 0 ≤ l[j].2 ∧ l[j].2 ≤ 10
theorem tab_of {m0 : Int} {l : List Kn} (h0 : 0 ≤ m0) (h1 : m0 ≤ 3) (h2 : 2 ≤ l.length) (h3 : l.length ≤ 6) (d : Drawn m0 l) : Tab l := by
  refine ⟨h2, by omega, fun p hp => ?_, fun i hi => ?_⟩
  · obtain ⟨j, hj, rfl⟩ := List.getElem_of_mem hp
    have := d j hj
    omega
  · have e1 : kn l i = l[i] := by simp [kn, List.getElem?_eq_getElem (show i < l.length by omega)]
    have e2 : kn l (i + 1) = l[i + 1] := by simp [kn, List.getElem?_eq_getElem hi]
    rw [e1, e2, (d i (by omega)).1, (d (i + 1) hi).1]
    omega
theorem ok_of {l : List Kn} (t : Tab l) {st : Int} (h1 : 2 * (kn l 0).1 ≤ st) (h2 : st ≤ 2 * (kn l (l.length - 1)).1) : Ok l ((st : Rat) / ((2 : Int) : Rat)) := by
  have r0 := t.r (i := 0) (by have := t.len2; omega)
  have r1 := t.r (i := l.length - 1) (by have := t.len2; omega)
  have e : (2 : Nat) ^ 19 = 524288 := by decide
  have p : pb 19 ((st : Rat) / ((2 : Int) : Rat)) := pb.div (by decide) (by omega) (by omega)
  have hp : (0 : Rat) < ((2 : Int) : Rat) := cast_pos (by decide)
  refine ⟨t, p.mono (by omega), ?_, ?_, ?_⟩
  · have := p.n
    have := p.d
    omega
  · rw [div_le hp, ← Rat.intCast_mul]
    exact cast_le (by omega)
  · rw [le_div hp, ← Rat.intCast_mul]
    exact cast_le (by omega)
def base3 : List Span := [(2, 4), (7, 7), (9, 12)]
theorem cut3 (v : Int) (h0 : 0 ≤ v) (h1 : v < 3) : cutD (base3.map spanD) none (some (1 + v)) = (base3.take (1 + v).toNat).map spanD := by
  have : v = 0 ∨ v = 1 ∨ v = 2 := by omega
  rcases this with rfl | rfl | rfl <;> rfl
theorem spok3 (j : Nat) : SpOk (base3.take j) := by
  have d : base3.Pairwise fun a b => a.2 < b.1 := by decide
  refine ⟨d.sublist (List.take_sublist _ _), fun p hp => ?_, ?_⟩
  · have := List.mem_of_mem_take hp
    simp [base3] at this
    rcases this with rfl | rfl | rfl <;> decide
  · rw [List.length_take]
    have : base3.length = 3 := rfl
    omega
theorem w0 {row : List Int} (hr : row ≠ []) {m0 : Int} {l : List Kn} (d : Drawn m0 l) (hl : l.length ≤ 100) {m : Int} (hm : 0 ≤ m) {A0 x5 x6 x7 x8 x9 x10 x11 x12 x13 x14 x15 x16 x17 x18 x19 x20 x21 x22 x23 x24 x25 x26 : Option D} {I : Sta → Prop} {J : O → Prop}
    (hI : ∀ (l' : List Kn) (m' : Int), 0 ≤ m' → l'.length = l.length + 1 → Drawn m0 l' → I ⟨[A0, some (.lst (row.map .int)), some .spot, some (.lst (l'.map pairD)), some (.int (m0 + 2 * l'.length)), x5, x6, x7, x8, x9, x10, x11, x12, x13, x14, x15, x16, x17, x18, x19, x20, x21, x22, x23, x24, x25, x26], [3], some m'⟩) :
    WP (rn.go (n + 9)) WF blaw_0 ⟨[A0, some (.lst (row.map .int)), some .spot, some (.lst (l.map pairD)), some (.int (m0 + 2 * l.length)), x5, x6, x7, x8, x9, x10, x11, x12, x13, x14, x15, x16, x17, x18, x19, x20, x21, x22, x23, x24, x25, x26], [3], some m⟩ (stp I J) := by
  simp [blaw_0]
  refine take48 hr hm (by decide) fun v h0 h1 => ?_
  simp [keepM]
  refine ⟨by omega, ⟨?_⟩⟩
  have := hI (l ++ [(m0 + 2 * l.length, 2 * v)]) (m + 1) (by omega) (by simp) (fun j hj => ?_)
  · simp only [List.map_append, List.map_cons, List.map_nil, List.length_append, List.length_cons, List.length_nil] at this
    have e : m0 + 2 * ((l.length + (0 + 1) : Nat) : Int) = m0 + 2 * (l.length : Int) + 2 := by omega
    rw [e] at this
    exact this
  · simp only [List.length_append, List.length_cons, List.length_nil] at hj
    by_cases hjl : j < l.length
    · rw [List.getElem_append_left hjl]
      exact d j hjl
    · have : j = l.length := by omega
      subst this
      simp
      omega
end
end K60
namespace K60
open PySem Mini Mini.Win
open L2 (atI ixN)
section
variable {rn : Rn} [Runs rn ds] {n : Nat}
theorem legs_ok {row : List Int} (hr : row ≠ []) {A0 A3 A4 A6 A7 A8 A9 A10 A11 A12 A13 A14 A15 A16 A17 A18 A19 A20 A21 A22 A23 A24 A25 A26 : Option D} {m : Int} (hm : 0 ≤ m) {N : Nat} (hN : N ≤ 3) {Q : List D → Ky → Prop}
    (hQ : ∀ (ls : List Leg) (m' : Int), 0 ≤ m' → (∀ l ∈ ls, LegOk l) → ls.length ≤ 10 → Q (ls.map legD) (some m')) : CM (rn.go (n + 9)) elaw_7 (.name 5) (rngL 0 1 N) [A0, some (.lst (row.map .int)), some .spot, A3, A4, none, A6, A7, A8, A9, A10, A11, A12, A13, A14, A15, A16, A17, A18, A19, A20, A21, A22, A23, A24, A25, A26] (some m) Q := by
  refine cm_inv (fun t : Nat => D.int (0 + (t : Int) * 1)) (fun r done k => ∃ (ls : List Leg) (m' : Int), done = ls.map legD ∧ k = some m' ∧ 0 ≤ m' ∧ (∀ l ∈ ls, LegOk l) ∧ ls.length + r.length ≤ 3) (List.range N) (some m) [] Q ⟨[], m, rfl, rfl, hm, fun _ h => by (cases h), by simpa using hN⟩ ?_ ?_
  · rintro a r done k ⟨ls, m', rfl, rfl, hm', ho, hl⟩
    simp only [List.length_cons] at hl
    simp [elaw_7]
    refine take48 hr hm' (by decide) fun v0 a0 a1 => ?_
    simp
    refine take48 hr (by omega) (by decide) fun v1 b0 b1 => ?_
    simp
    by_cases hv : v1 = 0
    · simp [hv]
      refine ⟨⟨ls ++ [(v0, none)], m' + 1 + 1, by simp [legD, spsD], rfl, by omega, fun l hl => ?_, by simp; omega⟩⟩
      rcases List.mem_append.mp hl with hl | hl
      · exact ho l hl
      · simp only [List.mem_singleton] at hl
        subst hl
        exact ⟨a0, by omega, fun s h => by cases h⟩
    · simp [hv]
      refine take48 hr (by omega) (by decide) fun v2 c0 c1 => ?_
      have hc := cut3 v2 c0 c1
      have hb : base3.map spanD = [D.tup [.int 2, .int 4], D.tup [.int 7, .int 7], D.tup [.int 9, .int 12]] := rfl
      rw [hb] at hc
      simp [sliSem, hc]
      refine ⟨⟨ls ++ [(v0, some (base3.take (1 + v2).toNat))], m' + 1 + 1 + 1, by simp [legD, spsD, spansD], rfl, by omega, fun l hl => ?_, by simp; omega⟩⟩
      rcases List.mem_append.mp hl with hl | hl
      · exact ho l hl
      · simp only [List.mem_singleton] at hl
        subst hl
        exact ⟨a0, by omega, fun s h => by simp only [Option.some.injEq] at h; subst h; exact spok3 _⟩
  · rintro made k ⟨ls, m', h, rfl, hm', ho, hl⟩
    rw [List.nil_append] at h
    subst h
    exact hQ ls m' hm' ho (by simp at hl; omega)
theorem law_wp (ns : List Int) {row : List Int} (hr : row ≠ []) (hrow : rn.go (n + 9) 46 [.scr (ns.map .int)] none = some (.lst (row.map .int), none)) : rn.go (n + 10) 56 [.scr (ns.map .int)] none = some (.bl true, none) := by
  refine run_wp rfl rfl ?_
  simp [blaw, hrow, keepM, spotS, newS]
  refine take48 hr (by decide) (by decide) fun m0 a0 a1 => ?_
  simp [keepM]
  refine take48 hr (by decide) (by decide) fun cnt b0 b1 => ?_
  have h62 : rng62 (2 + cnt) = true := rng62_of (by omega) (by omega)
  simp [h62]
  refine fr_rng 0 (2 + cnt).toNat (fun i s => ∃ (l : List Kn) (m : Int) (x5 : Option D), 0 ≤ m ∧ l.length = i ∧ Drawn m0 l ∧ s = ⟨[some (.scr (ns.map .int)), some (.lst (row.map .int)), some .spot, some (.lst (l.map pairD)), some (.int (m0 + 2 * l.length)), x5, none, none, none, none, none, none, none, none, none, none, none, none, none, none, none, none, none, none, none, none, none], [3], some m⟩) _ _ ⟨[], 2, none, by decide, rfl, fun j h => by (simp at h), by simp⟩ ?_ ?_
  · rintro i _ hi ⟨l, m, x5, hm, hl, hd, rfl⟩
    simp
    refine w0 hr hd (by omega) hm fun l' m' q1 q2 q3 => ⟨l', m', _, q1, by omega, q3, rfl⟩
  · rintro _ ⟨l, m, x5, hm, hl, hd, rfl⟩
    have t := tab_of a0 (by omega) (by omega) (by omega) hd
    have k0 := kn_at (l := l) (i := 0) (by omega)
    have k1 := kn_at (l := l) (i := l.length - 1) (by omega)
    simp at k0
    rw [show ((l.length - 1 : Nat) : Int) = (l.length : Int) - 1 by omega] at k1
    simp [keepM, k0, k1]
    refine take48 hr hm (by decide) fun c c0 c1 => ?_
    have ew := r_windows (rn := rn) (n := n + 3) (k := some (m + 1)) t (c := c) (by omega)
    simp only [tabD] at ew
    simp [keepM, ew]
    have r0 := t.r (i := 0) (by omega)
    have r1 := t.r (i := l.length - 1) (by omega)
    have hmono : (kn l 0).1 ≤ (kn l (l.length - 1)).1 := by
      have := mono_kn (kn := kn l) (n := l.length - 1) (fun j hj => t.inc j (by omega)) 0 (l.length - 1) (by omega) (Nat.le_refl _)
      exact Rat.intCast_le_intCast.mp this
    have I := inv_all (kn := kn l) (n := l.length - 1) (c := c) (fun j hj => t.inc j (by omega)) (l.length - 1) (Nat.le_refl _)
    have hps := pb_of t (c := c) (by omega)
    have hSl : (spansOf l c).length ≤ 12 := by
      have := spans_len (kn l) c (l.length - 1)
      unfold spansOf; omega
    have q1 : rng62 (2 * (kn l 0).1) = true := rng62_of (by omega) (by omega)
    have q2 : rng62 (2 * (kn l (l.length - 1)).1 + 1) = true := rng62_of (by omega) (by omega)
    simp [q1, q2]
    have hA : ∀ x5 x6 x7 : Option D, True := fun _ _ _ => trivial
    refine fr_rng (2 * (kn l 0).1) _ (fun i s => ∃ (y10 y11 y12 y13 y14 y15 y16 : Option D) (mu : List Nat), (∀ i ∈ mu, i = 13) ∧ s = ⟨[some (.scr (ns.map .int)), some (.lst (row.map .int)), some .spot, some (tabD l), some (.int (m0 + 2 * l.length)), x5, some (.int (kn l 0).1), some (.int (kn l (l.length - 1)).1), some (.int c), some (winD (spansOf l c)), y10, y11, y12, y13, y14, y15, y16, none, none, none, none, none, none, none, none, none, none], mu, some (m + 1)⟩) _ _ ⟨none, none, none, none, none, none, none, [], fun _ h => by (cases h), by simp [tabD]⟩ ?_ ?_
    · rintro i _ hi ⟨y10, y11, y12, y13, y14, y15, y16, mu, hmu, rfl⟩
      have o := ok_of t (st := 2 * (kn l 0).1 + i) (by omega) (by omega)
      obtain ⟨j, hj⟩ := at_ex t o.lo o.hi
      simp
      refine w5 (n := n) o (c := c) (by omega) hj rfl (fun i hi => hmu i (List.mem_filter.mp hi).1) fun z11 z12 z13 z14 z15 z16 => ?_
      exact ⟨_, z11, z12, z13, z14, z15, z16, [13], fun i hi => by simpa using hi, rfl⟩
    · rintro _ ⟨y10, y11, y12, y13, y14, y15, y16, mu, hmu, rfl⟩
      have h62S : rng62 ((spansOf l c).length : Int) = true := rng62_of (by omega) (by omega)
      simp [keepM, h62S]
      have z0 : D.tup [.int 0, .int 1] = ofR (tot ((spansOf l c).take 0) 0) := rfl
      rw [z0]
      refine fr_rng 0 (spansOf l c).length (fun i s => ∃ (y5 : Option D) (mu : List Nat), (∀ i ∈ mu, i = 13) ∧ s = ⟨[some (.scr (ns.map .int)), some (.lst (row.map .int)), some .spot, some (tabD l), some (.int (m0 + 2 * l.length)), y5, some (.int (kn l 0).1), some (.int (kn l (l.length - 1)).1), some (.int c), some (winD (spansOf l c)), y10, y11, y12, y13, y14, y15, y16, some (ofR (tot ((spansOf l c).take i) 0)), none, none, none, none, none, none, none, none, none], mu, some (m + 1)⟩) _ _ ⟨x5, _, fun i hi => hmu i (List.mem_filter.mp hi).1, rfl⟩ ?_ ?_
      · rintro i _ hi ⟨y5, mu, hmu, rfl⟩
        simp
        refine w6 (n := n) hSl hps I.dis (fun s hs => (I.rng s hs).1) hi (fun i hi => hmu i (List.mem_filter.mp hi).1) fun mu' hmu' => ?_
        exact ⟨_, mu', hmu', rfl⟩
      · rintro _ ⟨y5, mu, hmu, rfl⟩
        have et := r_time (rn := rn) (n := n + 3) (k := some (m + 1)) t (c := c) (by omega)
        have es := l_so (rn := rn) (n := n + 7) (k := some (m + 1)) (fz_fr (tot (spansOf l c) 0))
        rw [List.take_length]
        simp [et, es]
        refine take48 hr (by omega) (by decide) fun v d0 d1 => ?_
        have h62v : rng62 v = true := rng62_of (by omega) (by omega)
        simp [h62v]
        refine ⟨lineOk_of (by simp [rngL]; omega), legs_ok hr (by omega) (by omega) fun ls m2 hm2 ho hl => ?_⟩
        have en : ∀ (mu : List Nat) e, keepM (.tup (ls.map legD)) e mu = mu := by
          intro mu e
          have : noLs (ls.map legD) = true := noLs_map (fun l => by simp [legD]) ls
          simp [keepM, this]
        simp [en, show rng62 0 = true from rfl, show rng62 15 = true from rfl]
        refine fr_rng 0 15 (fun i s => ∃ (y19 y20 y21 y22 y23 y24 : Option D) (mu : List Nat), s = ⟨[some (.scr (ns.map .int)), some (.lst (row.map .int)), some .spot, some (tabD l), some (.int (m0 + 2 * l.length)), y5, some (.int (kn l 0).1), some (.int (kn l (l.length - 1)).1), some (.int c), some (winD (spansOf l c)), y10, y11, y12, y13, y14, y15, y16, some (ofR (tot (spansOf l c) 0)), some (legsD ls), y19, y20, y21, y22, y23, y24, none, none], mu, some m2⟩) _ _ ⟨none, none, none, none, none, none, _, rfl⟩ ?_ ?_
        · rintro i _ hi ⟨y19, y20, y21, y22, y23, y24, mu, rfl⟩
          simp
          refine w12 (n := n) ho hl (by omega) (by omega) fun mu' z20 z21 z22 z23 z24 => ?_
          exact ⟨_, _, _, _, _, _, _, rfl⟩
        · rintro _ ⟨y19, y20, y21, y22, y23, y24, mu, rfl⟩
          simp [show rng62 0 = true from rfl, show rng62 20 = true from rfl]
          refine fr_rng 0 20 (fun i s => ∃ (y25 y26 : Option D) (mu : List Nat), s = ⟨[some (.scr (ns.map .int)), some (.lst (row.map .int)), some .spot, some (tabD l), some (.int (m0 + 2 * l.length)), y5, some (.int (kn l 0).1), some (.int (kn l (l.length - 1)).1), some (.int c), some (winD (spansOf l c)), y10, y11, y12, y13, y14, y15, y16, some (ofR (tot (spansOf l c) 0)), some (legsD ls), y19, y20, y21, y22, y23, y24, y25, y26], mu, some m2⟩) _ _ ⟨none, none, _, rfl⟩ ?_ ?_
          · rintro i _ hi ⟨y25, y26, mu, rfl⟩
            simp
            refine w15 (n := n) ho hl (by omega) fun mu' z26 => ?_
            exact ⟨_, _, _, rfl⟩
          · rintro _ ⟨y25, y26, mu, rfl⟩
            simp
end
/-- the law's end -/
theorem holds : ∀ ns : List Int, ns.length ≤ 63 → ∃ k, run WF ds 10 56 [.scr (ns.map .int)] none = some (.bl true, k) := by
  intro ns _
  obtain ⟨row, hr, hrow⟩ := numbers_ok (rn := ⟨run WF ds⟩) (n := 8) (f := 46) (k := none) rfl ns
  exact ⟨none, law_wp (rn := ⟨run WF ds⟩) (n := 0) ns hr hrow⟩
end K60
open PySem PySem.W PyProof.Rows
set_option maxHeartbeats 0 in
theorem PySem.Challenge.cw_cheesestead_k60_moments_one_by_one_holds : PySem.Challenge.rw_cheesestead_k60_moments_one_by_one.Holds := by
  w_on; o_law; k_head; (case hw => w_witness2)
  k_fill
  refine L2.walk_of (l := PySem.Challenge.rw_cheesestead_k60_moments_one_by_one) (n := 63) (k := 9 + 1) (x := "script") (CX := fun _ => L2.CX0) (sp := fun w => Mini.spLaw Mini.WF K60.ds (9 + 1) 56 _) rfl (by decide) rfl ⟨rfl, by decide, by decide⟩ (fun w h Y => PySem.W.kIn_of Y) ?F (fun _ H a ns hl hO hS => Mini.law_end (m := 63) K60.holds _ H a ns hl hO hS) (fun _ _ _ _ _ h => h)
  case F =>
    intro w mg fa h KX G hmg
    refine' K60.law_mk KX G hmg ?la ?ll ?lc ?lk (K60.base ?dq0 ?dq1 ?dq2 ?dq3 ?dq4 ?dq5 ?dq6 ?dq7 ?dq8 ?dq9 ?dq10 ?dq11 ?dq12 ?dq13 ?dq14 ?dq15 ?dq16 ?dq17 ?dq18 ?dq19 ?dq20 ?dq21 ?dq22 ?dq23 ?dq24 ?dq25 ?dq26 ?dq27 ?dq28 ?dq29 ?dq30 ?dq31 ?dq32 ?dq33 ?dq34 ?dq35 ?dq36 ?dq37 ?dq38 ?dq39 ?dq40 ?dq41 ?dq42 ?dq43 ?dq44 ?dq45 ?dq46 ?dq47 ?dq48 ?dq49 ?dq50 ?dq51 ?dq52 ?dq53 ?dq54 ?dq55 ?dq56 ?vq0 ?vq1 ?vq2 ?vq3 ?vq4 ?vq5 ?vq6 ?vq7 ?gq0 ?zq0 ?zq1 ?zq2 ?zq3 ?zq4 ?zq5 ?zq6 ?zq7 ?zq8 ?zq9 ?zq10 ?zq11 ?zq12 ?zq13 ?zq14 ?zq15 ?zq16 ?zq17) Mini.WF 9
    (case la => k_is); (case ll => k_is); (case lc => k_is); (case lk => k_is)
    (case dq0 => refine' K60.df_reduced KX G ?a ?l ?c ?k; (case a => k_is); (case l => k_is); (case c => k_is); (case k => k_is))
    (case dq1 => refine' K60.df_f_whole KX G ?a ?l ?c ?k; (case a => k_is); (case l => k_is); (case c => k_is); (case k => k_is))
    (case dq2 => refine' K60.df_f_add KX G ?a ?l ?c ?k; (case a => k_is); (case l => k_is); (case c => k_is); (case k => k_is))
    (case dq3 => refine' K60.df_f_sub KX G ?a ?l ?c ?k; (case a => k_is); (case l => k_is); (case c => k_is); (case k => k_is))
    (case dq4 => refine' K60.df_f_less KX G ?a ?l ?c ?k; (case a => k_is); (case l => k_is); (case c => k_is); (case k => k_is))
    (case dq5 => refine' K60.df_f_at_most KX G ?a ?l ?c ?k; (case a => k_is); (case l => k_is); (case c => k_is); (case k => k_is))
    (case dq6 => refine' K60.df_f_min KX G ?a ?l ?c ?k; (case a => k_is); (case l => k_is); (case c => k_is); (case k => k_is))
    (case dq7 => refine' K60.df_f_max KX G ?a ?l ?c ?k; (case a => k_is); (case l => k_is); (case c => k_is); (case k => k_is))
    (case dq8 => refine' K60.df_f_total KX G ?a ?l ?c ?k; (case a => k_is); (case l => k_is); (case c => k_is); (case k => k_is))
    (case dq9 => refine' K60.df_covers KX G ?a ?l ?c ?k; (case a => k_is); (case l => k_is); (case c => k_is); (case k => k_is))
    (case dq10 => refine' K60.df_height_at KX G ?a ?l ?c ?k; (case a => k_is); (case l => k_is); (case c => k_is); (case k => k_is))
    (case dq11 => refine' K60.df_height_between KX G ?a ?l ?c ?k; (case a => k_is); (case l => k_is); (case c => k_is); (case k => k_is))
    (case dq12 => refine' K60.df_place_between KX G ?a ?l ?c ?k; (case a => k_is); (case l => k_is); (case c => k_is); (case k => k_is))
    (case dq13 => refine' K60.df_high_part KX G ?a ?l ?c ?k; (case a => k_is); (case l => k_is); (case c => k_is); (case k => k_is))
    (case dq14 => refine' K60.df_high_spans KX G ?a ?l ?c ?k; (case a => k_is); (case l => k_is); (case c => k_is); (case k => k_is))
    (case dq15 => refine' K60.df_need KX G ?a ?l ?c ?k; (case a => k_is); (case l => k_is); (case c => k_is); (case k => k_is))
    (case dq16 => refine' K60.df_is_integer KX G ?a ?l ?c ?k; (case a => k_is); (case l => k_is); (case c => k_is); (case k => k_is))
    (case dq17 => refine' K60.df_is_whole KX G ?a ?l ?c ?k; (case a => k_is); (case l => k_is); (case c => k_is); (case k => k_is))
    (case dq18 => refine' K60.df_is_whole_from KX G ?a ?l ?c ?k; (case a => k_is); (case l => k_is); (case c => k_is); (case k => k_is))
    (case dq19 => refine' K60.df_is_sequence KX G ?a ?l ?c ?k; (case a => k_is); (case l => k_is); (case c => k_is); (case k => k_is))
    (case dq20 => refine' K60.df_is_pair KX G ?a ?l ?c ?k; (case a => k_is); (case l => k_is); (case c => k_is); (case k => k_is))
    (case dq21 => refine' K60.df_is_row KX G ?a ?l ?c ?k; (case a => k_is); (case l => k_is); (case c => k_is); (case k => k_is))
    (case dq22 => refine' K60.df_is_rows KX G ?a ?l ?c ?k; (case a => k_is); (case l => k_is); (case c => k_is); (case k => k_is))
    (case dq23 => refine' K60.df_is_rising KX G ?a ?l ?c ?k; (case a => k_is); (case l => k_is); (case c => k_is); (case k => k_is))
    (case dq24 => refine' K60.df_is_any_fraction KX G ?a ?l ?c ?k; (case a => k_is); (case l => k_is); (case c => k_is); (case k => k_is))
    (case dq25 => refine' K60.df_is_fraction KX G ?a ?l ?c ?k; (case a => k_is); (case l => k_is); (case c => k_is); (case k => k_is))
    (case dq26 => refine' K60.df_frozen KX G ?a ?l ?c ?k; (case a => k_is); (case l => k_is); (case c => k_is); (case k => k_is))
    (case dq27 => refine' K60.df_is_table KX G ?a ?l ?c ?k; (case a => k_is); (case l => k_is); (case c => k_is); (case k => k_is))
    (case dq28 => refine' K60.df_sour_at KX G ?a ?l ?c ?k; (case a => k_is); (case l => k_is); (case c => k_is); (case k => k_is))
    (case dq29 => refine' K60.df_windows KX G ?a ?l ?c ?k; (case a => k_is); (case l => k_is); (case c => k_is); (case k => k_is))
    (case dq30 => refine' K60.df_time_for KX G ?a ?l ?c ?k; (case a => k_is); (case l => k_is); (case c => k_is); (case k => k_is))
    (case dq31 => refine' K60.df_first_from KX G ?a ?l ?c ?k; (case a => k_is); (case l => k_is); (case c => k_is); (case k => k_is))
    (case dq32 => refine' K60.df_last_till KX G ?a ?l ?c ?k; (case a => k_is); (case l => k_is); (case c => k_is); (case k => k_is))
    (case dq33 => refine' K60.df_asked KX G ?a ?l ?c ?k; (case a => k_is); (case l => k_is); (case c => k_is); (case k => k_is))
    (case dq34 => refine' K60.df_is_span KX G ?a ?l ?c ?k; (case a => k_is); (case l => k_is); (case c => k_is); (case k => k_is))
    (case dq35 => refine' K60.df_are_spans KX G ?a ?l ?c ?k; (case a => k_is); (case l => k_is); (case c => k_is); (case k => k_is))
    (case dq36 => refine' K60.df_is_leg KX G ?a ?l ?c ?k; (case a => k_is); (case l => k_is); (case c => k_is); (case k => k_is))
    (case dq37 => refine' K60.df_are_legs KX G ?a ?l ?c ?k; (case a => k_is); (case l => k_is); (case c => k_is); (case k => k_is))
    (case dq38 => refine' K60.df_checked KX G ?a ?l ?c ?k; (case a => k_is); (case l => k_is); (case c => k_is); (case k => k_is))
    (case dq39 => refine' K60.df_begin_from KX G ?a ?l ?c ?k; (case a => k_is); (case l => k_is); (case c => k_is); (case k => k_is))
    (case dq40 => refine' K60.df_begin_till KX G ?a ?l ?c ?k; (case a => k_is); (case l => k_is); (case c => k_is); (case k => k_is))
    (case dq41 => refine' K60.df_travelled KX G ?a ?l ?c ?k; (case a => k_is); (case l => k_is); (case c => k_is); (case k => k_is))
    (case dq42 => refine' K60.df_arrives KX G ?a ?l ?c ?k; (case a => k_is); (case l => k_is); (case c => k_is); (case k => k_is))
    (case dq43 => refine' K60.df_waits KX G ?a ?l ?c ?k; (case a => k_is); (case l => k_is); (case c => k_is); (case k => k_is))
    (case dq44 => refine' K60.df_leaves KX G ?a ?l ?c ?k; (case a => k_is); (case l => k_is); (case c => k_is); (case k => k_is))
    (case dq45 => refine' K60.df__law_so KX G ?a ?l ?c ?k; (case a => k_is); (case l => k_is); (case c => k_is); (case k => k_is))
    (case dq46 => refine' K60.df__law_numbers KX G ?a ?l ?c ?k; (case a => k_is); (case l => k_is); (case c => k_is); (case k => k_is))
    (case dq47 => refine' K60.df__law_draw KX G ?a ?l ?c ?k; (case a => k_is); (case l => k_is); (case c => k_is); (case k => k_is))
    (case dq48 => refine' K60.df__law_take KX G ?a ?l ?c ?k; (case a => k_is); (case l => k_is); (case c => k_is); (case k => k_is))
    (case dq49 => refine' K60.df__law_gcd KX G ?a ?l ?c ?k; (case a => k_is); (case l => k_is); (case c => k_is); (case k => k_is))
    (case dq50 => refine' K60.df__law_red KX G ?a ?l ?c ?k; (case a => k_is); (case l => k_is); (case c => k_is); (case k => k_is))
    (case dq51 => refine' K60.df__law_add KX G ?a ?l ?c ?k; (case a => k_is); (case l => k_is); (case c => k_is); (case k => k_is))
    (case dq52 => refine' K60.df__law_sub KX G ?a ?l ?c ?k; (case a => k_is); (case l => k_is); (case c => k_is); (case k => k_is))
    (case dq53 => refine' K60.df__law_mul KX G ?a ?l ?c ?k; (case a => k_is); (case l => k_is); (case c => k_is); (case k => k_is))
    (case dq54 => refine' K60.df__law_less KX G ?a ?l ?c ?k; (case a => k_is); (case l => k_is); (case c => k_is); (case k => k_is))
    (case dq55 => refine' K60.df__law_sour KX G ?a ?l ?c ?k; (case a => k_is); (case l => k_is); (case c => k_is); (case k => k_is))
    (case dq56 => refine' K60.df_law KX G ?a ?l ?c ?k; (case a => k_is); (case l => k_is); (case c => k_is); (case k => k_is))
    (case vq0 => refine' K60.cf_MOST_PARTS KX G ?vv; (case vv => k_is))
    (case vq1 => refine' K60.cf_LEAST_SOUR KX G ?vv; (case vv => k_is))
    (case vq2 => refine' K60.cf_MOST_SOUR KX G ?vv; (case vv => k_is))
    (case vq3 => refine' K60.cf_LAST_MINUTE KX G ?vv; (case vv => k_is))
    (case vq4 => refine' K60.cf_MOST_LEGS KX G ?vv; (case vv => k_is))
    (case vq5 => refine' K60.cf_MOST_SPANS KX G ?vv; (case vv => k_is))
    (case vq6 => refine' K60.cf_LONGEST KX G ?vv; (case vv => k_is))
    (case vq7 => refine' K60.cf_LATEST KX G ?vv; (case vv => k_is))
    (case gq0 => refine' PySem.W.mg_of KX G ?gg; (case gg => k_is))
    (case zq0 => refine' PySem.W.mg_none_of KX G ?zz; (case zz => k_is))
    (case zq1 => refine' PySem.W.mg_none_of KX G ?zz; (case zz => k_is))
    (case zq2 => refine' PySem.W.mg_none_of KX G ?zz; (case zz => k_is))
    (case zq3 => refine' PySem.W.mg_none_of KX G ?zz; (case zz => k_is))
    (case zq4 => refine' PySem.W.mg_none_of KX G ?zz; (case zz => k_is))
    (case zq5 => refine' PySem.W.mg_none_of KX G ?zz; (case zz => k_is))
    (case zq6 => refine' PySem.W.mg_none_of KX G ?zz; (case zz => k_is))
    (case zq7 => refine' PySem.W.mg_none_of KX G ?zz; (case zz => k_is))
    (case zq8 => refine' PySem.W.mg_none_of KX G ?zz; (case zz => k_is))
    (case zq9 => refine' PySem.W.mg_none_of KX G ?zz; (case zz => k_is))
    (case zq10 => refine' PySem.W.mg_none_of KX G ?zz; (case zz => k_is))
    (case zq11 => refine' PySem.W.mg_none_of KX G ?zz; (case zz => k_is))
    (case zq12 => refine' PySem.W.mg_none_of KX G ?zz; (case zz => k_is))
    (case zq13 => refine' PySem.W.mg_none_of KX G ?zz; (case zz => k_is))
    (case zq14 => refine' PySem.W.mg_none_of KX G ?zz; (case zz => k_is))
    (case zq15 => refine' PySem.W.mg_none_of KX G ?zz; (case zz => k_is))
    (case zq16 => refine' PySem.W.mg_none_of KX G ?zz; (case zz => k_is))
    (case zq17 => refine' PySem.W.mg_none_of KX G ?zz; (case zz => k_is))
