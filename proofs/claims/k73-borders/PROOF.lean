import PyProof.Rows.All
import Wide.All
import OpenK.AllK
import Wide.FinOn
import HandS.ForMost
import HandS.IsInst
import HandS.Gcd
import HandS.Deep
import HandS.TupAny
import HandS.Zip
import HandS.Rev
import HandS.Wide
import KE.DataEq
import KE.LtData
import KE.DataCmp
import HandS.RevRange
import HandS.Conv
import HandS.WideBits
import KE.DataMinMax
import KE.GoesEnum
import KE.GoesMore
import KE.SortData
import KE.KStateDown
import HandS.Ends
import HandS.More
import HandS.Words
import HandS.WordsExc
import HandS.Defaults
import HandS.Head0
import HandS.Head1
import HandS.Head2
import HandS.HeadEnd
import HandS.HeadHook1
import HandS.HeadHook2
import PySem.Challenge.RW_cheesestead_k73_borders_of_windows
set_option Elab.async false
set_option linter.all false
set_option maxRecDepth 100000
set_option maxHeartbeats 4000000
namespace Mini
open PySem PySem.Spec PyProof.Rows L2

/-! ### data, and what bears them -/
inductive D where
  | non | bl (b : Bool) | int (i : Int) | str (s : Str) | tup (xs : List D) | lst (xs : List D) | scr (xs : List D) | ref (i : Nat)
  deriving Inhabited

/-- what an object of the store holds -/
inductive Ob where
  | lst (ds : List D) | ins (c : Nat) (fs : List (Str × D))
  deriving Inhabited
abbrev Ky := List Ob
/-- a world: where the store's objects stand, and what stands for good -/
structure Wo where
  m : List Addr
  b : Hp
def Wo.upd (B : Wo) (p : Addr) (o : HO) : Wo := ⟨B.m, L2.upd B.b p o⟩
mutual
/-- no list within -/
def noL : D → Bool
  | .non => true | .bl _ => true | .int _ => true | .str _ => true | .ref _ => true
  | .tup xs => noLs xs
  | .lst _ => false
  | .scr _ => false
def noLs : List D → Bool
  | [] => true
  | x :: xs => noL x && noLs xs
end
mutual
inductive Rep (K : PySem.W.Frag) (B : Wo) : V → D → Prop
  | non : Rep K B .non .non
  | bl (b : Bool) : Rep K B (.bl b) (.bl b)
  | int (i : Int) : Rep K B (.int i) (.int i)
  | str (x : Str) : Rep K B (.str x) (.str x)
  | tup {a : Addr} {xs : List V} {ds : List D} : SqT K B.b a xs → RepL K B xs ds → Rep K B (.ref a) (.tup ds)
  | lst {a : Addr} {xs : List V} {ds : List D} : B.b a = some (.lst xs) → RepL K B xs ds → Rep K B (.ref a) (.lst ds)
  | scr {a : Addr} {xs : List V} {ds : List D} : SqL K B.b a xs → RepL K B xs ds → Rep K B (.ref a) (.scr ds)
  | ref {a : Addr} {i : Nat} : B.m[i]? = some a → Rep K B (.ref a) (.ref i)
inductive RepL (K : PySem.W.Frag) (B : Wo) : List V → List D → Prop
  | nil : RepL K B [] []
  | cons {v : V} {vs : List V} {d : D} {ds : List D} : Rep K B v d → RepL K B vs ds → RepL K B (v :: vs) (d :: ds)
end

def Ext (H H' : Hp) : Prop := ∀ a o, H a = some o → H' a = some o
theorem Ext.refl (H : Hp) : Ext H H := fun _ _ h => h
theorem Ext.trans {H H1 H2 : Hp} (a : Ext H H1) (b : Ext H1 H2) : Ext H H2 := fun x o h => b x o (a x o h)
theorem Ext.upd {H : Hp} {p : Addr} {o : HO} (h : H p = none) : Ext H (upd H p o) := fun a u e => by
  rw [upd_ne (ne_of_none e h)]; exact e
/-- a world grows -/
structure Le (B B' : Wo) : Prop where
  m : B.m <+: B'.m
  b : Ext B.b B'.b
theorem Le.refl (B : Wo) : Le B B := ⟨List.prefix_refl _, Ext.refl _⟩
theorem Le.trans {B B1 B2 : Wo} (a : Le B B1) (b : Le B1 B2) : Le B B2 := ⟨a.m.trans b.m, a.b.trans b.b⟩
theorem Le.upd {B : Wo} {p : Addr} {o : HO} (h : B.b p = none) : Le B (B.upd p o) := ⟨List.prefix_refl _, Ext.upd h⟩
theorem Le.get {B B' : Wo} (h : Le B B') {i : Nat} {a : Addr} (e : B.m[i]? = some a) : B'.m[i]? = some a := by
  obtain ⟨t, ht⟩ := h.m
  have hi := (List.getElem?_eq_some_iff.mp e).1
  rw [← ht, List.getElem?_append_left hi]
  exact e
theorem Le.mem {B B' : Wo} (h : Le B B') {a : Addr} (e : a ∈ B.m) : a ∈ B'.m := h.m.subset e
theorem ext_l {K : PySem.W.Frag} {H H' : Hp} {a : Addr} {xs : List V} (e : Ext H H') (h : SqL K H a xs) : SqL K H' a xs := by
  rcases h with (h | ⟨o, h⟩) | h
  · exact .inl (.inl (e _ _ h))
  · exact .inl (.inr ⟨o, e _ _ h⟩)
  · exact .inr h
theorem ext_t {K : PySem.W.Frag} {H H' : Hp} {a : Addr} {xs : List V} (e : Ext H H') (h : SqT K H a xs) : SqT K H' a xs := by
  rcases h with (h | ⟨o, h⟩) | h
  · exact .inl (.inl (e _ _ h))
  · exact .inl (.inr ⟨o, e _ _ h⟩)
  · exact .inr h
mutual
theorem Rep.ext {K : PySem.W.Frag} {B B' : Wo} (e : Le B B') : ∀ (d : D) (v : V), Rep K B v d → Rep K B' v d
  | .non, _, h => by cases h; exact .non
  | .bl b, _, h => by cases h; exact .bl b
  | .int i, _, h => by cases h; exact .int i
  | .str x, _, h => by cases h; exact .str x
  | .tup ds, _, h => by
    cases h with
    | tup h1 h2 => exact .tup (ext_t e.b h1) (RepL.ext e ds _ h2)
  | .lst ds, _, h => by
    cases h with
    | lst h1 h2 => exact .lst (e.b _ _ h1) (RepL.ext e ds _ h2)
  | .scr ds, _, h => by
    cases h with
    | scr h1 h2 => exact .scr (ext_l e.b h1) (RepL.ext e ds _ h2)
  | .ref i, _, h => by
    cases h with
    | ref h => exact .ref (e.get h)
theorem RepL.ext {K : PySem.W.Frag} {B B' : Wo} (e : Le B B') : ∀ (ds : List D) (vs : List V), RepL K B vs ds → RepL K B' vs ds
  | [], _, h => by cases h; exact .nil
  | d :: ds, _, h => by
    cases h with
    | cons h1 h2 => exact .cons (Rep.ext e d _ h1) (RepL.ext e ds _ h2)
end
section
variable {K : PySem.W.Frag} {B : Wo}
theorem RepL.len : ∀ {vs : List V} {ds : List D}, RepL K B vs ds → vs.length = ds.length
  | _, _, .nil => rfl
  | _, _, .cons _ t => congrArg (· + 1) (RepL.len t)
theorem RepL.get : ∀ {vs : List V} {ds : List D} {i : Nat} {d : D}, RepL K B vs ds → ds[i]? = some d → ∃ v, vs[i]? = some v ∧ Rep K B v d
  | _, _, _, _, .nil, e => by simp at e
  | _, _, 0, _, .cons r _, e => by simp at e; subst e; exact ⟨_, rfl, r⟩
  | _, _, i + 1, d, .cons _ t, e => by
    obtain ⟨v, h1, h2⟩ := RepL.get (i := i) (d := d) t (by simpa using e)
    exact ⟨v, by simpa using h1, h2⟩
theorem RepL.get' : ∀ {vs : List V} {ds : List D} {i : Nat} {v : V}, RepL K B vs ds → vs[i]? = some v → ∃ d, ds[i]? = some d ∧ Rep K B v d
  | _, _, _, _, .nil, e => by simp at e
  | _, _, 0, _, .cons r _, e => by simp at e; subst e; exact ⟨_, rfl, r⟩
  | _, _, i + 1, v, .cons _ t, e => by
    obtain ⟨d, h1, h2⟩ := RepL.get' (i := i) (v := v) t (by simpa using e)
    exact ⟨d, by simpa using h1, h2⟩
theorem RepL.append : ∀ {vs ws : List V} {ds es : List D}, RepL K B vs ds → RepL K B ws es → RepL K B (vs ++ ws) (ds ++ es)
  | _, _, _, _, .nil, s => s
  | _, _, _, _, .cons r t, s => .cons r (RepL.append t s)
theorem RepL.take : ∀ {vs : List V} {ds : List D} (n : Nat), RepL K B vs ds → RepL K B (vs.take n) (ds.take n)
  | _, _, 0, _ => .nil
  | _, _, _ + 1, .nil => .nil
  | _, _, n + 1, .cons r t => .cons r (RepL.take n t)
theorem RepL.drop : ∀ {vs : List V} {ds : List D} (n : Nat), RepL K B vs ds → RepL K B (vs.drop n) (ds.drop n)
  | _, _, 0, r => r
  | _, _, _ + 1, .nil => .nil
  | _, _, n + 1, .cons _ t => RepL.drop n t
theorem RepL.set : ∀ {vs : List V} {ds : List D} {v : V} {d : D} (i : Nat), Rep K B v d → RepL K B vs ds → RepL K B (vs.set i v) (ds.set i d)
  | _, _, _, _, _, _, .nil => .nil
  | _, _, _, _, 0, q, .cons _ t => .cons q t
  | _, _, _, _, i + 1, q, .cons r t => .cons r (RepL.set i q t)
theorem RepL.ints : ∀ {vs : List V} (ns : List Int), RepL K B vs (ns.map D.int) → vs = ns.map V.int
  | _, [], .nil => rfl
  | _, n :: ns, .cons r t => by cases r; rw [RepL.ints ns t]; rfl
theorem repl_ints : ∀ (ns : List Int), RepL K B (ns.map V.int) (ns.map D.int)
  | [] => .nil
  | n :: ns => .cons (.int n) (repl_ints ns)
end

/-! ### worlds and heaps -/
structure Wd (B : Wo) (H : Hp) : Prop where
  sub : Ext B.b H
  spn : ∀ a ∈ B.m, B.b a = none
structure Ge (B : Wo) (H : Hp) (B' : Wo) (H' : Hp) : Prop where
  hh : ∀ a o, a ∉ B.m → H a = some o → H' a = some o
  bb : Le B B'
  wd : Wd B' H'
  old : ∀ a o, H a = some o → B.b a = none → B'.b a = none
  nw : ∀ a ∈ B'.m, a ∈ B.m ∨ H a = none
theorem Ge.refl {B : Wo} {H : Hp} (w : Wd B H) : Ge B H B H := ⟨fun _ _ _ h => h, Le.refl _, w, fun _ _ _ h => h, fun _ h => .inl h⟩
theorem Ge.nin {B B' : Wo} {H H' : Hp} (g : Ge B H B' H') {a : Addr} {o : HO} (h : a ∉ B.m) (e : H a = some o) : a ∉ B'.m := fun hm => by
  rcases g.nw a hm with h1 | h1
  · exact h h1
  · rw [e] at h1; cases h1
theorem Ge.trans {B B1 B2 : Wo} {H H1 H2 : Hp} (a : Ge B H B1 H1) (b : Ge B1 H1 B2 H2) : Ge B H B2 H2 := by
  refine ⟨fun x o n h => b.hh x o (a.nin n h) (a.hh x o n h), a.bb.trans b.bb, b.wd, fun x o h n => ?_, fun x hx => ?_⟩
  · by_cases e : x ∈ B2.m
    · exact b.wd.spn x e
    · have e0 : x ∉ B.m := fun h0 => e (b.bb.mem (a.bb.mem h0))
      exact b.old x o (a.hh x o e0 h) (a.old x o h n)
  · rcases b.nw x hx with h | h
    · exact a.nw x h
    · by_cases e : x ∈ B.m
      · exact .inl e
      · cases q : H x with
        | none => exact .inr rfl
        | some o => have := a.hh x o e q; rw [h] at this; cases this
/-- an object of the store -/
def ObAt (K : PySem.W.Frag) (B : Wo) (H : Hp) (a : Addr) : Ob → Prop
  | .lst ds => ∃ vs, H a = some (.lst vs) ∧ RepL K B vs ds ∧ noLs ds = true
  | .ins _ _ => False
structure StoreAt (K : PySem.W.Frag) (k : Ky) (B : Wo) (H : Hp) : Prop where
  len : B.m.length = k.length
  nd : B.m.Nodup
  at' : ∀ (i : Nat) (a : Addr) (o : Ob), B.m[i]? = some a → k[i]? = some o → ObAt K B H a o
theorem ObAt.has {K : PySem.W.Frag} {B : Wo} {H : Hp} {a : Addr} {o : Ob} (h : ObAt K B H a o) : ∃ u, H a = some u := by
  cases o with
  | lst ds => obtain ⟨vs, h, _, _⟩ := h; exact ⟨_, h⟩
  | ins c fs => exact h.elim
theorem StoreAt.has {K : PySem.W.Frag} {k : Ky} {B : Wo} {H : Hp} (s : StoreAt K k B H) {a : Addr} (h : a ∈ B.m) : ∃ u, H a = some u := by
  obtain ⟨i, hi, e⟩ := List.getElem_of_mem h
  have e1 : B.m[i]? = some a := by rw [List.getElem?_eq_getElem hi, e]
  have hk : i < k.length := by rw [← s.len]; exact hi
  have e2 : k[i]? = some k[i] := List.getElem?_eq_getElem hk
  exact (s.at' i a _ e1 e2).has
theorem StoreAt.ne {K : PySem.W.Frag} {k : Ky} {B : Wo} {H : Hp} {p : Addr} (s : StoreAt K k B H) (hp : H p = none) : p ∉ B.m := fun hm => by
  obtain ⟨u, h⟩ := s.has hm
  rw [hp] at h; cases h
theorem ObAt.ext {K : PySem.W.Frag} {B B' : Wo} {H H' : Hp} {a : Addr} {o : Ob} (h : ObAt K B H a o) (g : Le B B') (e : ∀ u, H a = some u → H' a = some u) : ObAt K B' H' a o := by
  cases o with
  | lst ds => obtain ⟨vs, h, r, n⟩ := h; exact ⟨vs, e _ h, RepL.ext g _ _ r, n⟩
  | ins c fs => exact h.elim
/-- the store stays where its addresses stay and what stands there -/
theorem StoreAt.mono {K : PySem.W.Frag} {k : Ky} {B B' : Wo} {H H' : Hp} (s : StoreAt K k B H) (hm : B'.m = B.m) (g : Le B B') (e : ∀ a u, a ∈ B.m → H a = some u → H' a = some u) : StoreAt K k B' H' := by
  refine ⟨by rw [hm]; exact s.len, by rw [hm]; exact s.nd, fun i a o h1 h2 => ?_⟩
  rw [hm] at h1
  exact (s.at' i a o h1 h2).ext g fun u hu => e a u (List.mem_of_getElem? h1) hu
theorem Wd.gone {B : Wo} {H : Hp} {p : Addr} (w : Wd B H) (hp : H p = none) : B.b p = none := by
  cases e : B.b p with
  | none => rfl
  | some u => have := w.sub p u e; rw [hp] at this; cases this
theorem Wd.up {B : Wo} {H : Hp} (w : Wd B H) : Le B ⟨B.m, H⟩ := ⟨List.prefix_refl _, w.sub⟩
/-- a new object, for good -/
theorem Ge.new {K : PySem.W.Frag} {k : Ky} {B : Wo} {H : Hp} {p : Addr} {o : HO} (w : Wd B H) (s : StoreAt K k B H) (hp : H p = none) : Ge B H (B.upd p o) (upd H p o) := by
  have ns := s.ne hp
  have hb := w.gone hp
  refine ⟨fun a u _ h => by rw [upd_ne (ne_of_none h hp)]; exact h, Le.upd hb, ⟨fun a u h => ?_, fun a e => ?_⟩, fun a u h n => ?_, fun a h => .inl h⟩
  · by_cases ha : a = p
    · subst ha
      have h' : L2.upd B.b a o a = some u := h
      rw [upd_same] at h' ⊢; exact h'
    · have h' : L2.upd B.b p o a = some u := h
      rw [upd_ne ha] at h' ⊢; exact w.sub a u h'
  · show L2.upd B.b p o a = none
    rw [upd_ne (fun q => ns (by rw [← q]; exact e))]; exact w.spn a e
  · show L2.upd B.b p o a = none
    rw [upd_ne (ne_of_none h hp)]; exact n
/-- a new object that stays outside of B -/
theorem Ge.newOut {K : PySem.W.Frag} {k : Ky} {B : Wo} {H : Hp} {p : Addr} {o : HO} (w : Wd B H) (s : StoreAt K k B H) (hp : H p = none) : Ge B H B (upd H p o) := by
  refine ⟨fun a u _ h => by rw [upd_ne (ne_of_none h hp)]; exact h, Le.refl _, ⟨fun a u h => ?_, w.spn⟩, fun a u h n => n, fun a h => .inl h⟩
  rw [upd_ne (ne_of_none (w.sub a u h) hp)]; exact w.sub a u h
theorem StoreAt.ge {K : PySem.W.Frag} {k : Ky} {B : Wo} {H : Hp} {p : Addr} {o : HO} (s : StoreAt K k B H) (w : Wd B H) (hp : H p = none) : StoreAt K k (B.upd p o) (upd H p o) :=
  s.mono rfl (Le.upd (w.gone hp)) fun a u _ h => by rw [upd_ne (ne_of_none h hp)]; exact h
theorem StoreAt.geOut {K : PySem.W.Frag} {k : Ky} {B : Wo} {H : Hp} {p : Addr} {o : HO} (s : StoreAt K k B H) (hp : H p = none) : StoreAt K k B (upd H p o) :=
  s.mono rfl (Le.refl _) fun a u _ h => by rw [upd_ne (ne_of_none h hp)]; exact h
/-- a new object goes into the store -/
def Wo.push (B : Wo) (p : Addr) : Wo := ⟨B.m ++ [p], B.b⟩
theorem Le.push {B : Wo} {p : Addr} : Le B (B.push p) := ⟨⟨[p], rfl⟩, Ext.refl _⟩
theorem Ge.push {B B' : Wo} {H H' : Hp} {p : Addr} (g : Ge B H B' H') (hp : H p = none) (hb : B'.b p = none) : Ge B H (B'.push p) H' :=
  ⟨g.hh, g.bb.trans Le.push, ⟨g.wd.sub, fun a h => by
    rcases List.mem_append.mp h with h | h
    · exact g.wd.spn a h
    · rw [List.mem_singleton.mp h]; exact hb⟩, g.old, fun a h => by
    rcases List.mem_append.mp h with h | h
    · exact g.nw a h
    · rw [List.mem_singleton.mp h]; exact .inr hp⟩
theorem StoreAt.push {K : PySem.W.Frag} {k : Ky} {B : Wo} {H : Hp} {p : Addr} {o : Ob} (s : StoreAt K k B H) (hn : p ∉ B.m) (ho : ObAt K B H p o) : StoreAt K (k ++ [o]) (B.push p) H := by
  refine ⟨by show (B.m ++ [p]).length = _; simp [s.len], ?_, fun i a u h1 h2 => ?_⟩
  · show (B.m ++ [p]).Nodup
    rw [List.nodup_append]
    refine ⟨s.nd, List.nodup_cons.mpr ⟨by simp, List.nodup_nil⟩, fun a ha b hb => ?_⟩
    rw [List.mem_singleton.mp hb]
    exact fun e => hn (e ▸ ha)
  · have h1' : (B.m ++ [p])[i]? = some a := h1
    by_cases hi : i < B.m.length
    · rw [List.getElem?_append_left hi] at h1'
      rw [List.getElem?_append_left (by rw [← s.len]; exact hi)] at h2
      exact (s.at' i a u h1' h2).ext Le.push fun _ h => h
    · have hi2 : i = B.m.length := by
        have := (List.getElem?_eq_some_iff.mp h1').1
        simp at this; omega
      subst hi2
      rw [List.getElem?_append_right (Nat.le_refl _)] at h1'
      rw [s.len, List.getElem?_append_right (Nat.le_refl _)] at h2
      simp at h1' h2
      subst h1' h2
      exact ho.ext Le.push fun _ h => h

/-- a list of the store changed -/
theorem StoreAt.wr {K : PySem.W.Frag} {B : Wo} {H : Hp} {k : Ky} {r : Nat} {a : Addr} {vs : List V} {dl : List D} (s : StoreAt K k B H) (hr : B.m[r]? = some a) (rv : RepL K B vs dl) (hn : noLs dl = true) : StoreAt K (k.set r (.lst dl)) B (upd H a (.lst vs)) := by
  have hrl : r < B.m.length := (List.getElem?_eq_some_iff.mp hr).1
  refine ⟨by rw [List.length_set]; exact s.len, s.nd, fun i x o h1 h2 => ?_⟩
  by_cases hi : i = r
  · subst hi
    rw [hr] at h1
    cases h1
    rw [List.getElem?_set_self (by rw [← s.len]; exact hrl)] at h2
    cases h2
    exact ⟨vs, upd_same, rv, hn⟩
  · rw [List.getElem?_set_ne (Ne.symm hi)] at h2
    refine (s.at' i x o h1 h2).ext (Le.refl _) fun u hu => ?_
    rw [upd_ne ?_]
    · exact hu
    · intro e
      subst e
      have e1 := (List.getElem?_eq_some_iff.mp h1)
      have e2 := (List.getElem?_eq_some_iff.mp hr)
      obtain ⟨l1, e1⟩ := e1
      obtain ⟨l2, e2⟩ := e2
      have np := List.pairwise_iff_getElem.mp s.nd
      rcases Nat.lt_trichotomy i r with h | h | h
      · exact np i r l1 l2 h (e1.trans e2.symm)
      · exact hi h
      · exact np r i l2 l1 h (e2.trans e1.symm)
theorem noLs_app : ∀ {xs ys : List D}, noLs xs = true → noLs ys = true → noLs (xs ++ ys) = true
  | [], _, _, h => h
  | x :: xs, ys, h1, h2 => by
    simp only [noLs, Bool.and_eq_true, List.cons_append] at h1 ⊢
    exact ⟨h1.1, noLs_app h1.2 h2⟩
theorem noLs_set : ∀ {xs : List D} {d : D} (i : Nat), noLs xs = true → noL d = true → noLs (xs.set i d) = true
  | [], _, _, h, _ => h
  | x :: xs, d, 0, h1, h2 => by
    simp only [noLs, Bool.and_eq_true, List.set_cons_zero] at h1 ⊢
    exact ⟨h2, h1.2⟩
  | x :: xs, d, i + 1, h1, h2 => by
    simp only [noLs, Bool.and_eq_true, List.set_cons_succ] at h1 ⊢
    exact ⟨h1.1, noLs_set i h1.2 h2⟩
theorem noLs_take : ∀ {xs : List D} (i : Nat), noLs xs = true → noLs (xs.take i) = true
  | [], i, _ => by cases i <;> rfl
  | x :: xs, 0, _ => rfl
  | x :: xs, i + 1, h1 => by
    simp only [noLs, Bool.and_eq_true, List.take_succ_cons] at h1 ⊢
    exact ⟨h1.1, noLs_take i h1.2⟩
theorem noLs_get : ∀ {xs : List D} {i : Nat} {d : D}, noLs xs = true → xs[i]? = some d → noL d = true
  | [], _, _, _, h => by simp at h
  | x :: xs, 0, d, h1, h => by
    simp only [noLs, Bool.and_eq_true] at h1
    simp at h; subst h; exact h1.1
  | x :: xs, i + 1, d, h1, h => by
    simp only [noLs, Bool.and_eq_true] at h1
    exact noLs_get h1.2 (by simpa using h)
theorem ref_list {K : PySem.W.Frag} {k : Ky} {B : Wo} {H : Hp} {r : Nat} {a : Addr} {dl : List D} (s : StoreAt K k B H) (h : B.m[r]? = some a) (e : k[r]? = some (.lst dl)) : ∃ vs, H a = some (.lst vs) ∧ RepL K B vs dl ∧ noLs dl = true := s.at' r a _ h e
/-- the object of a reference: a list, at any time -/
theorem ref_ty {K : PySem.W.Frag} {k : Ky} {B : Wo} {H : Hp} {r : Nat} {a : Addr} (s : StoreAt K k B H) (h : B.m[r]? = some a) : ∃ ws, H a = some (.lst ws) := by
  have h2 := (List.getElem?_eq_some_iff.mp h).1
  rw [s.len] at h2
  have ek0 : k[r]? = some k[r] := List.getElem?_eq_getElem h2
  have := s.at' _ _ _ h ek0
  generalize k[r] = ob at this
  cases ob with
  | lst d0 => obtain ⟨ws, h1, _⟩ := this; exact ⟨ws, h1⟩
  | ins cc fs => exact this.elim
theorem Ge.wrS {B : Wo} {H : Hp} {a : Addr} {o : HO} (w : Wd B H) (ha : a ∈ B.m) : Ge B H B (upd H a o) := by
  refine ⟨fun x u hn hx => ?_, Le.refl _, ⟨fun x u hx => ?_, w.spn⟩, fun _ _ _ h => h, fun _ h => .inl h⟩
  · rw [upd_ne (fun e => hn (by rw [e]; exact ha))]; exact hx
  · rw [upd_ne (ne_of_none hx (w.spn a ha))]; exact w.sub x u hx

/-! ### the slots -/
abbrev Rho := List (Option D)
/-- the slots that are not in mu hold what ρ says, over B -/
def RI (K : PySem.W.Frag) (B : Wo) (mu : List Nat) (ρ : Rho) (σ : L2.St) : Prop :=
  σ.length = ρ.length ∧ ∀ i d, i ∉ mu → ρ[i]? = some (some d) → ∃ v, σ[i]? = some (some v) ∧ Rep K B v d
theorem RI.ext {K : PySem.W.Frag} {B B' : Wo} {mu : List Nat} {ρ : Rho} {σ : L2.St} (h : RI K B mu ρ σ) (e : Le B B') : RI K B' mu ρ σ :=
  ⟨h.1, fun i d n q => let ⟨v, h1, h2⟩ := h.2 i d n q; ⟨v, h1, Rep.ext e d v h2⟩⟩

/-- an expression's reading: it gives d, and the store k becomes k' -/
def tD (K : PySem.W.Frag) (ρ : Rho) (mu : List Nat) (k : Ky) (d : D) (k' : Ky) : TE := fun σ H Q =>
  ∃ B, Wd B H ∧ StoreAt K k B H ∧ RI K B mu ρ σ ∧ ∀ v B' H', Ge B H B' H' → StoreAt K k' B' H' → Rep K B' v d → Q v H'
def tDs (K : PySem.W.Frag) (ρ : Rho) (mu : List Nat) (k : Ky) (ds : List D) (k' : Ky) : TA := fun σ H Q =>
  ∃ B, Wd B H ∧ StoreAt K k B H ∧ RI K B mu ρ σ ∧ ∀ vs B' H', Ge B H B' H' → StoreAt K k' B' H' → RepL K B' vs ds → Q vs H'
def tDT (K : PySem.W.Frag) (ρ : Rho) (mu : List Nat) (k : Ky) (b : Bool) (k' : Ky) : TT := fun σ H Q =>
  ∃ B, Wd B H ∧ StoreAt K k B H ∧ RI K B mu ρ σ ∧ ∀ B' H', Ge B H B' H' → StoreAt K k' B' H' → Q b H'
section
variable {X : Cx} {e : Expr}
theorem _root_.L2.PE.wk {t t' : TE} (h : PE X e t) (w : ∀ σ H Q, t' σ H Q → t σ H Q) : PE X e t' := ⟨fun pins s σ H Q I hw => h.run pins s σ H Q I (w _ _ _ hw)⟩
theorem _root_.L2.PT.wk {t t' : TT} (h : PT X e t) (w : ∀ σ H Q, t' σ H Q → t σ H Q) : PT X e t' := ⟨fun pins s σ H Q I hw => h.run pins s σ H Q I (w _ _ _ hw)⟩
theorem _root_.L2.PW.wk {t t' : TT} (h : PW X e t) (w : ∀ σ H Q, t' σ H Q → t σ H Q) : PW X e t' := ⟨fun wh pins s σ H Q I hw => h.run wh pins s σ H Q I (w _ _ _ hw)⟩
theorem _root_.L2.PA.wk {es : List Expr} {t t' : TA} (h : PA X es t) (w : ∀ σ H Q, t' σ H Q → t σ H Q) : PA X es t' := ⟨fun po pins s σ H Q I hw => h.run po pins s σ H Q I (w _ _ _ hw)⟩
end

/-! ### == of data -/
mutual
def D.py : D → PyData
  | .non => .none
  | .bl b => .bool b
  | .int i => .int i
  | .str s => .str s
  | .tup xs => .tuple (D.pys xs)
  | .lst xs => .list (D.pys xs)
  | .scr _ => .none
  | .ref _ => .none
def D.pys : List D → List PyData
  | [] => []
  | x :: xs => x.py :: D.pys xs
end
mutual
/-- the depth; nothing deeper than the fuel, no counter within -/
def D.fine : Nat → D → Bool
  | _, .non => true
  | _, .bl _ => true
  | _, .int _ => true
  | _, .str _ => true
  | 0, .tup _ => false
  | n + 1, .tup xs => D.fines n xs
  | 0, .lst _ => false
  | n + 1, .lst xs => D.fines n xs
  | _, .scr _ => false
  | _, .ref _ => false
def D.fines : Nat → List D → Bool
  | _, [] => true
  | n, x :: xs => D.fine n x && D.fines n xs
end
mutual
theorem fine_dp {K : PySem.W.Frag} {B : Wo} : ∀ (n : Nat) (d : D) (v : V), d.fine n = true → Rep K B v d → Dp K B.b v d.py
  | _, .non, _, _, h => by cases h; exact .non
  | _, .bl b, _, _, h => by cases h; exact .bl b
  | _, .int b, _, _, h => by cases h; exact .int b
  | _, .str b, _, _, h => by cases h; exact .str b
  | 0, .tup _, _, f, _ => by simp [D.fine] at f
  | n + 1, .tup ds, _, f, h => by
    cases h with
    | tup h1 h2 => exact .tup h1 (fines_dp n ds _ (by simpa [D.fine] using f) h2)
  | 0, .lst _, _, f, _ => by simp [D.fine] at f
  | n + 1, .lst ds, _, f, h => by
    cases h with
    | lst h1 h2 => exact .lst (.inl (.inl h1)) (fines_dp n ds _ (by simpa [D.fine] using f) h2)
  | _, .scr _, _, f, _ => by simp [D.fine] at f
  | _, .ref _, _, f, _ => by simp [D.fine] at f
theorem fines_dp {K : PySem.W.Frag} {B : Wo} : ∀ (n : Nat) (ds : List D) (vs : List V), D.fines n ds = true → RepL K B vs ds → DpAll K B.b vs (D.pys ds)
  | _, [], _, _, h => by cases h; exact .nil
  | n, d :: ds, _, f, h => by
    cases h with
    | cons h1 h2 =>
      simp only [D.fines, Bool.and_eq_true] at f
      exact .cons (fine_dp n d _ f.1 h1) (fines_dp n ds _ f.2 h2)
end
mutual
theorem fine_plain : ∀ (n : Nat) (d : D), d.fine n = true → d.py.plain = true ∧ d.py.depth ≤ n
  | _, .non, _ => ⟨rfl, Nat.zero_le _⟩
  | _, .bl _, _ => ⟨rfl, Nat.zero_le _⟩
  | _, .int _, _ => ⟨rfl, Nat.zero_le _⟩
  | _, .str _, _ => ⟨rfl, Nat.zero_le _⟩
  | 0, .tup _, f => by simp [D.fine] at f
  | n + 1, .tup ds, f => by
    have h := fines_plain n ds (by simpa [D.fine] using f)
    exact ⟨by simpa [D.py, PyData.plain] using h.1, by simp only [D.py, PyData.depth]; omega⟩
  | 0, .lst _, f => by simp [D.fine] at f
  | n + 1, .lst ds, f => by
    have h := fines_plain n ds (by simpa [D.fine] using f)
    exact ⟨by simpa [D.py, PyData.plain] using h.1, by simp only [D.py, PyData.depth]; omega⟩
  | _, .scr _, f => by simp [D.fine] at f
  | _, .ref _, f => by simp [D.fine] at f
theorem fines_plain : ∀ (n : Nat) (ds : List D), D.fines n ds = true → PyData.plainAll (D.pys ds) = true ∧ PyData.depthAll (D.pys ds) ≤ n
  | _, [], _ => ⟨rfl, Nat.zero_le _⟩
  | n, d :: ds, f => by
    simp only [D.fines, Bool.and_eq_true] at f
    have h1 := fine_plain n d f.1
    have h2 := fines_plain n ds f.2
    exact ⟨by simp only [D.pys, PyData.plainAll, h1.1, h2.1, Bool.and_self], by simp only [D.pys, PyData.depthAll]; omega⟩
end
def rEqP (K : PySem.W.Frag) : R2 := fun x y H Q => ∃ d e, Dp K H x d ∧ Dp K H y e ∧ d.plain = true ∧ e.plain = true ∧ d.depth ≤ 64 ∧ Q (.bl (PyData.eqv d e)) H
def rNeP (K : PySem.W.Frag) : R2 := fun x y H Q => ∃ d e, Dp K H x d ∧ Dp K H y e ∧ d.plain = true ∧ e.plain = true ∧ d.depth ≤ 64 ∧ Q (.bl (!PyData.eqv d e)) H
theorem op_eqP {X : Cx} (hu : X.A.units + 64 < cLine) : OpR X (compareOp .Eq) (rEqP X.K) := by
  intro pins s σ H x y v u Q I rx ry h
  obtain ⟨d, e, hd, he, sd, se, dp, q⟩ := h
  obtain ⟨as, r1⟩ := Dp.reads I d x v hd rx
  obtain ⟨bs, r2⟩ := Dp.reads I e y u he ry
  exact SeqAt.eq_plain r1 r2 sd se (by omega) ⟨.bl _, H, I, rfl, q⟩
theorem op_neP {X : Cx} (hu : X.A.units + 64 < cLine) : OpR X (compareOp .NotEq) (rNeP X.K) := by
  intro pins s σ H x y v u Q I rx ry h
  obtain ⟨d, e, hd, he, sd, se, dp, q⟩ := h
  obtain ⟨as, r1⟩ := Dp.reads I d x v hd rx
  obtain ⟨bs, r2⟩ := Dp.reads I e y u he ry
  exact SeqAt.ne_plain r1 r2 sd se (by omega) ⟨.bl _, H, I, rfl, q⟩
end Mini
namespace Mini
open PySem PySem.Spec PyProof.Rows L2

/-! ### the small language -/
inductive BO where | add | sub | mul | fdiv | mod | pow | shl | shr | band
inductive CO where | eq | ne | lt | le | gt | ge | isin | notin
inductive BI where | len | int | sum | max | min | abs | all | any | tuple | list | gcd | sorted | divmod
mutual
inductive Tg where
  | name (i : Nat) | tup (ts : Tgs)
inductive Tgs where
  | nil | cons (t : Tg) (ts : Tgs)
end
mutual
inductive E where
  | var (i : Nat) | cst (d : D) | bin (op : BO) (a b : E) | neg (a : E)
  | cmp (op : CO) (a b : E) | chain (op op' : CO) (a b c : E)
  | isN (a : E) | notN (a : E)
  | and (a b : E) | or (a b : E) | not (a : E) | ite (t : T) (a b : E)
  | tup (es : Es) | lst (es : Es)
  | idx (a b : E) | sli (m : Nat) (a lo hi : E)
  | call (f : Nat) (es : Es) | bi (f : BI) (es : Es) | isi (a : E) (ts : List Nat)
  | comp0 (elt : E) (tg : Tg) (it : I) (own : List Nat)
  | comp1 (elt : E) (tg : Tg) (it : I) (t : T) (own : List Nat)
  | cell (e : E) | pop (a : E) | popAt (a ix : E) | lrng (t : Bool) (es : Es)
inductive T where
  | val (e : E) | not (t : T) | and (a b : T) | or (a b : T) | ite (c a b : T)
inductive Es where
  | nil | cons (e : E) (es : Es)
inductive I where
  | seq (e : E) | rng (es : Es) | enum (e : E) | zip (a b : E) | rev (e : E) | revr (es : Es)
end
mutual
inductive S where
  | set (i : Nat) (e : E) | new (i : Nat) (e : E) | par (i j : Nat) (a b : E) | asg (t : Tg) (e : E)
  | aug (i : Nat) (op : BO) (e : E) | setI (i : Nat) (ix e : E)
  | app (i : Nat) (e : E) | pop (i : Nat)
  | setX (a ix e : E) | appX (a e : E) | augX (a ix : E) (op : BO) (e : E)
  | ret (e : E) | retN | ite (t : T) (a b : Ss) | for (tg : Tg) (it : I) (body : Ss) | while (t : T) (body : Ss)
  | expr (e : E) | brk | cnt | pass | never
inductive Ss where
  | nil | cons (s : S) (ss : Ss)
end

/-! ### what it means -/
def small64 (i : Int) : Bool := decide (-18446744073709551616 < i) && decide (i < 18446744073709551616)
def mulOk (i j : Int) : Bool := small64 i || small64 j || decide (i.natAbs.log2 + j.natAbs.log2 < 1000000)
def divOk (j : Int) : Bool := decide (0 < j) && (small64 j || decide (j.natAbs.log2 < 9000))
def lineOk (n : Nat) : Bool := decide (n ≤ 16777216)
def boSem : BO → D → D → Option D
  | .add, .int i, .int j => some (.int (i + j))
  | .add, .str a, .str b => if lineOk (a.length + b.length) then some (.str (a ++ b)) else none
  | .add, .lst a, .lst b => if lineOk (a.length + b.length) then some (.lst (a ++ b)) else none
  | .add, .tup a, .tup b => if lineOk (a.length + b.length) then some (.tup (a ++ b)) else none
  | .sub, .int i, .int j => some (.int (i - j))
  | .mul, .int i, .int j => if mulOk i j then some (.int (i * j)) else none
  | .fdiv, .int i, .int j => if divOk j then some (.int (i / j)) else none
  | .mod, .int i, .int j => if decide (0 < j) then some (.int (i % j)) else none
  | .mul, .lst a, .int j => if decide (-9223372036854775808 ≤ j) && decide (j < 9223372036854775808) && lineOk (a.length * j.toNat) then some (.lst (List.replicate j.toNat a).flatten) else none
  | .shl, .int i, .int j => if decide (0 ≤ j) && decide (j ≤ 1000) && small64 i then some (.int (i * 2 ^ j.toNat)) else none
  | .shr, .int i, .int j => if decide (0 ≤ j) then some (.int (i / 2 ^ j.toNat)) else none
  | .band, .int i, .int j => some (.int (Builtin.bitAnd i j))
  | .pow, .int i, .int j => if decide (0 ≤ j) && decide (j ≤ 1000) && small64 i then some (.int (i ^ j.toNat)) else none
  | _, _, _ => none
def eqD (x y : D) : Option Bool :=
  match x, y with
  | .int i, .int j => some (decide (i = j))
  | .str a, .str b => some (decide (a = b))
  | .bl a, .bl b => some (decide (a = b))
  | .non, .non => some true
  | a, b => if a.fine 60 && b.fine 60 then some (PyData.eqv a.py b.py) else none
def anyEq (x : D) : List D → Option Bool
  | [] => some false
  | y :: ys => match eqD y x with
    | some true => (anyEq x ys).map fun _ => true
    | some false => anyEq x ys
    | none => none
def notNon : D → Bool | .non => false | _ => true
def coSem : CO → D → D → Option Bool
  | .eq, x, y => eqD x y
  | .ne, x, y => (eqD x y).map (!·)
  | .lt, .int i, .int j => some (decide (i < j))
  | .le, .int i, .int j => some (decide (i ≤ j))
  | .gt, .int i, .int j => some (decide (j < i))
  | .ge, .int i, .int j => some (decide (j ≤ i))
  | .lt, x, y => if x.fine 60 && y.fine 60 && PySem.W.alike x.py y.py && notNon x then some (PySem.W.dataLt x.py y.py) else none
  | .gt, x, y => if x.fine 60 && y.fine 60 && PySem.W.alike x.py y.py && notNon x then some (PySem.W.dataLt y.py x.py) else none
  | .le, x, y => if x.fine 60 && y.fine 60 && PySem.W.alike x.py y.py && notNon x then some (!PySem.W.dataLt y.py x.py) else none
  | .ge, x, y => if x.fine 60 && y.fine 60 && PySem.W.alike x.py y.py && notNon x then some (!PySem.W.dataLt x.py y.py) else none
  | .isin, x, .lst ys => if x.fine 60 then anyEq x ys else none
  | .isin, x, .tup ys => if x.fine 60 then anyEq x ys else none
  | .notin, x, .lst ys => if x.fine 60 then (anyEq x ys).map (!·) else none
  | .notin, x, .tup ys => if x.fine 60 then (anyEq x ys).map (!·) else none
  | _, _, _ => none
def truth : D → Option Bool
  | .non => some false
  | .bl b => some b
  | .int i => some (i != 0)
  | .lst ds => some (!ds.isEmpty)
  | .tup ds => some (!ds.isEmpty)
  | .str s => if lineOk s.length then some ((s.length : Int) != 0) else none
  | .scr _ => none
  | .ref _ => none
def toInt : D → Option Int
  | .int i => some i
  | _ => none
def toInts : List D → Option (List Int)
  | [] => some []
  | .int i :: r => (toInts r).map (i :: ·)
  | _ :: _ => none
def toBls : List D → Option (List Bool)
  | [] => some []
  | .bl i :: r => (toBls r).map (i :: ·)
  | _ :: _ => none
def maxL : Int → List Int → Int
  | m, [] => m
  | m, x :: r => maxL (if m < x then x else m) r
def minL : Int → List Int → Int
  | m, [] => m
  | m, x :: r => minL (if x < m then x else m) r
def insI (x : Int) : List Int → List Int
  | [] => [x]
  | y :: r => if x ≤ y then x :: y :: r else y :: insI x r
def sortI : List Int → List Int
  | [] => []
  | x :: r => insI x (sortI r)
/-- tuples that can be compared place by place -/
def sortOkD (ds : List D) : Bool := decide (ds.length ≤ 16777216) && ds.all (fun d => (match d with | .tup (_ :: _) => true | _ => false) && D.fine 60 d && ds.all fun e => PySem.W.alike d.py e.py)
def sortD (ds : List D) : List D := ds.mergeSort fun a b => !PySem.W.dataLt b.py a.py
def biSem : BI → List D → Option D
  | .len, [.lst ds] => some (.int ds.length)
  | .len, [.tup ds] => some (.int ds.length)
  | .len, [.scr ds] => some (.int ds.length)
  | .len, [.str s] => if lineOk s.length then some (.int s.length) else none
  | .int, [.int i] => some (.int i)
  | .int, [.bl b] => some (.int (if b then 1 else 0))
  | .sum, [.lst ds] => (toInts ds).map fun ns => .int ns.sum
  | .max, [.int i, .int j] => some (.int (if j > i then j else i))
  | .max, [.tup ds] => match toInts ds with
    | some (n :: ns) => some (.int (maxL n ns))
    | _ => none
  | .max, [.lst ds] => match toInts ds with
    | some (n :: ns) => some (.int (maxL n ns))
    | _ => none
  | .min, [.int i, .int j] => some (.int (if j < i then j else i))
  | .min, [.tup ds] => match toInts ds with
    | some (n :: ns) => some (.int (minL n ns))
    | _ => none
  | .min, [.lst ds] => match toInts ds with
    | some (n :: ns) => some (.int (minL n ns))
    | _ => none
  | .abs, [.int i] => some (.int (if i < 0 then -i else i))
  | .all, [.lst ds] => (toBls ds).map fun bs => .bl (bs.all id)
  | .any, [.lst ds] => (toBls ds).map fun bs => .bl (bs.any id)
  | .tuple, [.lst ds] => some (.tup ds)
  | .tuple, [.tup ds] => some (.tup ds)
  | .list, [.lst ds] => some (.lst ds)
  | .list, [.tup ds] => some (.lst ds)
  | .divmod, [.int i, .int j] => if divOk j then some (.tup [.int (i / j), .int (i % j)]) else none
  | .gcd, [.int i, .int j] => some (.int ((Nat.gcd i.natAbs j.natAbs : Nat) : Int))
  | .sorted, [.lst ds] => match toInts ds with
    | some ns => if decide (ns.length < 64) then some (.lst ((sortI ns).map .int)) else none
    | none => if sortOkD ds then some (.lst (sortD ds)) else none
  | _, _ => none
/-- isinstance: 0 int, 1 bool, 2 str, 3 list, 4 tuple -/
def isOf : D → Nat → Option Bool
  | .int _, t => some (t == 0)
  | .bl _, t => some (t == 0 || t == 1)
  | .str _, t => some (t == 2)
  | .lst _, t => some (t == 3)
  | .tup _, t => some (t == 4)
  | .non, t => some false
  | .scr _, _ => none
  | .ref _, _ => none
def isOfs (d : D) : List Nat → Option Bool
  | [] => some false
  | t :: ts => match isOf d t with
    | some true => some true
    | some false => isOfs d ts
    | none => none
mutual
def asg : Tg → D → Rho → Option Rho
  | .name i, d, ρ => some (ρ.set i (some d))
  | .tup ts, .tup ds, ρ => asgs ts ds ρ
  | .tup _, _, _ => none
def asgs : Tgs → List D → Rho → Option Rho
  | .nil, [], ρ => some ρ
  | .cons t ts, d :: ds, ρ => (asg t d ρ).bind (asgs ts ds)
  | _, _, _ => none
end
def wipeR (ρ : Rho) : List Nat → Rho
  | [] => ρ
  | v :: vs => (wipeR ρ vs).set v none
abbrev Call := Nat → List D → Ky → Option (D × Ky)
def rngL (a c : Int) (n : Nat) : List D := (List.range n).map fun (t : Nat) => D.int (a + (t : Int) * c)
def rng62 (i : Int) : Bool := decide (-4611686018427387904 ≤ i) && decide (i < 4611686018427387904)
def rngSem : List D → Option (List D)
  | [.int j] => if rng62 j then some (rngL 0 1 j.toNat) else none
  | [.int i, .int j] => if rng62 i && rng62 j then some (rngL i 1 (j - i).toNat) else none
  | [.int i, .int j, .int c] => if decide (c ≠ 0) && decide (c.natAbs < 1073741824) && Builtin.Range.small i j c && decide (0 ≤ Builtin.Range.rangeSize i j c) then some (rngL i c (Builtin.Range.rangeSize i j c).toNat) else none
  | _ => none
/-- a range of one or two ends -/
def rngTwo : List D → Option (List D)
  | [_, _, _] => none
  | ds => rngSem ds
def items : D → Option (List D)
  | .lst ds => some ds
  | .tup ds => some ds
  | .scr ds => some ds
  | .str s => some (s.cps.toList.map fun c => D.str ⟨#[c]⟩)
  | _ => none
def enumL : Nat → List D → List D
  | _, [] => []
  | i, d :: ds => .tup [.int i, d] :: enumL (i + 1) ds
def zipL : List D → List D → List D
  | a :: as, b :: bs => .tup [a, b] :: zipL as bs
  | _, _ => []
mutual
def beqD : D → D → Bool
  | .non, .non => true
  | .bl a, .bl b => a == b
  | .int a, .int b => a == b
  | .str a, .str b => decide (a = b)
  | .tup a, .tup b => beqDs a b
  | .lst a, .lst b => beqDs a b
  | .scr a, .scr b => beqDs a b
  | .ref a, .ref b => a == b
  | _, _ => false
def beqDs : List D → List D → Bool
  | [], [] => true
  | x :: xs, y :: ys => beqD x y && beqDs xs ys
  | _, _ => false
end
/-- what is walked: its items, and the list of the store that has to stay so meanwhile -/
abbrev Wch := Option (Nat × List D)
def okW : Wch → Ky → Bool
  | none, _ => true
  | some (r, ds), k => match k[r]? with
    | some (.lst es) => beqDs es ds
    | _ => false
/-- a comprehension over its items -/
def compW (wt : Wch) (f : Rho → Ky → Option (D × Ky)) (g : Rho → Ky → Option (Bool × Ky)) (tg : Tg) (ρ : Rho) : List D → Ky → Option (List D × Ky)
  | [], k => if okW wt k then some ([], k) else none
  | x :: xs, k =>
    if okW wt k then
    match asg tg x ρ with
    | none => none
    | some ρ1 => match g ρ1 k with
      | none => none
      | some (false, k1) => compW wt f g tg ρ xs k1
      | some (true, k1) => match f ρ1 k1 with
        | none => none
        | some (y, k2) => match compW wt f g tg ρ xs k2 with
          | none => none
          | some (ys, k3) => some (y :: ys, k3)
    else none
def cutD (xs : List D) (lo hi : Option Int) : List D := (xs.drop (HT.sIx xs.length 0 lo)).take (HT.sIx xs.length xs.length hi - HT.sIx xs.length 0 lo)
def sliSem (a : D) (lo hi : Option Int) : Option D :=
  match a with
  | .lst ds => some (.lst (cutD ds lo hi))
  | .scr ds => some (.lst (cutD ds lo hi))
  | .tup ds => some (.tup (cutD ds lo hi))
  | _ => none
def idxSem (k : Ky) : D → D → Option D
  | .lst ds, .int i => atI ds i
  | .scr ds, .int i => atI ds i
  | .tup ds, .int i => atI ds i
  | .str s, .int i => if lineOk s.length then (atI s.cps.toList i).map fun c => .str ⟨#[c]⟩ else none
  | .ref r, .int i => match k[r]? with
    | some (.lst ds) => atI ds i
    | _ => none
  | _, _ => none
/-- a list of the store, looked at -/
def deref (k : Ky) : D → D
  | .ref r => match k[r]? with
    | some (.lst ds) => .lst ds
    | _ => .ref r
  | d => d
mutual
def evE (c : Call) : E → Rho → Ky → Option (D × Ky)
  | .var i, ρ, k => match ρ[i]? with
    | some (some d) => some (d, k)
    | _ => none
  | .cst d, _, k => some (d, k)
  | .bin op a b, ρ, k => match evE c a ρ k with
    | none => none
    | some (x, k1) => match evE c b ρ k1 with
      | none => none
      | some (y, k2) => (boSem op (deref k2 x) (deref k2 y)).map (·, k2)
  | .neg a, ρ, k => match evE c a ρ k with
    | some (.int i, k1) => some (.int (-i), k1)
    | _ => none
  | .cmp op a b, ρ, k => match evE c a ρ k with
    | none => none
    | some (x, k1) => match evE c b ρ k1 with
      | none => none
      | some (y, k2) => (coSem op (deref k2 x) (deref k2 y)).map (.bl ·, k2)
  | .chain op op' a b e, ρ, k => match evE c a ρ k with
    | none => none
    | some (x, k1) => match evE c b ρ k1 with
      | none => none
      | some (y, k2) => match coSem op (deref k2 x) (deref k2 y) with
        | none => none
        | some false => some (.bl false, k2)
        | some true => match evE c e ρ k2 with
          | none => none
          | some (z, k3) => (coSem op' (deref k3 y) (deref k3 z)).map (.bl ·, k3)
  | .isN a, ρ, k => match evE c a ρ k with
    | some (.non, k1) => some (.bl true, k1)
    | some (_, k1) => some (.bl false, k1)
    | none => none
  | .notN a, ρ, k => match evE c a ρ k with
    | some (.non, k1) => some (.bl false, k1)
    | some (_, k1) => some (.bl true, k1)
    | none => none
  | .and a b, ρ, k => match evE c a ρ k with
    | some (.bl true, k1) => evE c b ρ k1
    | some (.bl false, k1) => some (.bl false, k1)
    | _ => none
  | .or a b, ρ, k => match evE c a ρ k with
    | some (.bl false, k1) => evE c b ρ k1
    | some (.bl true, k1) => some (.bl true, k1)
    | _ => none
  | .not a, ρ, k => match evE c a ρ k with
    | some (.bl b, k1) => some (.bl (!b), k1)
    | _ => none
  | .ite t a b, ρ, k => match evT c t ρ k with
    | none => none
    | some (true, k1) => evE c a ρ k1
    | some (false, k1) => evE c b ρ k1
  | .tup es, ρ, k => (evEs c es ρ k).bind fun (ds, k1) => if lineOk ds.length then some (.tup ds, k1) else none
  | .lst es, ρ, k => (evEs c es ρ k).bind fun (ds, k1) => if lineOk ds.length then some (.lst ds, k1) else none
  | .idx a b, ρ, k => match evE c a ρ k with
    | none => none
    | some (x, k1) => match evE c b ρ k1 with
      | none => none
      | some (y, k2) => (idxSem k2 x y).map (·, k2)
  | .sli m a lo hi, ρ, k => match evE c a ρ k with
    | none => none
    | some (x, k1) =>
      match (if m == 1 || m == 3 then (match evE c lo ρ k1 with
        | some (.int i, k2) => some (some i, k2)
        | _ => none) else some (none, k1) : Option (Option Int × Ky)) with
      | none => none
      | some (l, k2) =>
        match (if m == 2 || m == 3 then (match evE c hi ρ k2 with
          | some (.int i, k3) => some (some i, k3)
          | _ => none) else some (none, k2) : Option (Option Int × Ky)) with
        | none => none
        | some (h, k3) => (sliSem (deref k3 x) l h).map (·, k3)
  | .call f es, ρ, k => match evEs c es ρ k with
    | none => none
    | some (ds, k1) => c f ds k1
  | .bi f es, ρ, k => match evEs c es ρ k with
    | none => none
    | some (ds, k1) => (biSem f (ds.map (deref k1))).map (·, k1)
  | .isi a ts, ρ, k => match evE c a ρ k with
    | none => none
    | some (x, k1) => (isOfs (deref k1 x) ts).map (.bl ·, k1)
  | .comp0 elt tg it own, ρ, k => match evI c it ρ k with
    | none => none
    | some (ds, wt, k1) => if lineOk ds.length then
        match compW wt (fun ρ k => evE c elt ρ k) (fun _ k => some (true, k)) tg (wipeR ρ own) ds k1 with
        | none => none
        | some (ys, k2) => some (.lst ys, k2)
      else none
  | .comp1 elt tg it t own, ρ, k => match evI c it ρ k with
    | none => none
    | some (ds, wt, k1) => if lineOk ds.length then
        match compW wt (fun ρ k => evE c elt ρ k) (fun ρ k => evT c t ρ k) tg (wipeR ρ own) ds k1 with
        | none => none
        | some (ys, k2) => some (.lst ys, k2)
      else none
  | .pop a, ρ, k => match evE c a ρ k with
    | some (.ref r, k1) => match k1[r]? with
      | some (.lst ds) => match ds.getLast? with
        | some d => some (d, k1.set r (.lst ds.dropLast))
        | none => none
      | _ => none
    | _ => none
  | .popAt a ix, ρ, k => match evE c a ρ k with
    | some (.ref r, k1) => match evE c ix ρ k1 with
      | some (.int i, k2) => match k2[r]? with
        | some (.lst ds) => if lineOk ds.length then match ixN ds.length i with
          | some j => match ds[j]? with
            | some d => some (d, k2.set r (.lst (ds.eraseIdx j)))
            | none => none
          | none => none
          else none
        | _ => none
      | _ => none
    | _ => none
  | .lrng t es, ρ, k => match evEs c es ρ k with
    | none => none
    | some (ds, k1) => match rngTwo ds with
      | some l => if lineOk l.length then some (if t then .tup l else .lst l, k1) else none
      | none => none
  | .cell e, ρ, k => match evE c e ρ k with
    | some (.lst ds, k1) => if noLs ds then some (.ref k1.length, k1 ++ [.lst ds]) else none
    | _ => none
def evT (c : Call) : T → Rho → Ky → Option (Bool × Ky)
  | .val e, ρ, k => match evE c e ρ k with
    | none => none
    | some (x, k1) => (truth (deref k1 x)).map (·, k1)
  | .not t, ρ, k => match evT c t ρ k with
    | none => none
    | some (b, k1) => some (!b, k1)
  | .and a b, ρ, k => match evT c a ρ k with
    | none => none
    | some (true, k1) => evT c b ρ k1
    | some (false, k1) => some (false, k1)
  | .or a b, ρ, k => match evT c a ρ k with
    | none => none
    | some (true, k1) => some (true, k1)
    | some (false, k1) => evT c b ρ k1
  | .ite t a b, ρ, k => match evT c t ρ k with
    | none => none
    | some (true, k1) => evT c a ρ k1
    | some (false, k1) => evT c b ρ k1
def evEs (c : Call) : Es → Rho → Ky → Option (List D × Ky)
  | .nil, _, k => some ([], k)
  | .cons e es, ρ, k => match evE c e ρ k with
    | none => none
    | some (x, k1) => match evEs c es ρ k1 with
      | none => none
      | some (xs, k2) => some (x :: xs, k2)
def evI (c : Call) : I → Rho → Ky → Option (List D × Wch × Ky)
  | .seq e, ρ, k => match evE c e ρ k with
    | none => none
    | some (x, k1) => match x with
      | .ref r => match k1[r]? with
        | some (.lst ds) => some (ds, some (r, ds), k1)
        | _ => none
      | x => (items x).map (·, none, k1)
  | .rng es, ρ, k => match evEs c es ρ k with
    | none => none
    | some (ds, k1) => (rngSem ds).map (·, none, k1)
  | .enum e, ρ, k => match evE c e ρ k with
    | some (.lst ds, k1) => some (enumL 0 ds, none, k1)
    | some (.tup ds, k1) => some (enumL 0 ds, none, k1)
    | some (.ref r, k1) => match k1[r]? with
      | some (.lst ds) => some (enumL 0 ds, some (r, ds), k1)
      | _ => none
    | _ => none
  | .zip a b, ρ, k => match evE c a ρ k with
    | none => none
    | some (x, k1) => match evE c b ρ k1 with
      | none => none
      | some (y, k2) => match x, y with
        | .lst xs, .lst ys => some (zipL xs ys, none, k2)
        | .tup xs, .tup ys => some (zipL xs ys, none, k2)
        | _, _ => none
  | .rev e, ρ, k => match evE c e ρ k with
    | some (.lst ds, k1) => some (ds.reverse, none, k1)
    | some (.tup ds, k1) => some (ds.reverse, none, k1)
    | _ => none
  | .revr es, ρ, k => match evEs c es ρ k with
    | none => none
    | some (ds, k1) => match ds with
      | [_] => (rngSem ds).map (·.reverse, none, k1)
      | [_, _] => (rngSem ds).map (·.reverse, none, k1)
      | _ => none
end

/-! ### which slots an expression names -/
mutual
def avTg (mu : List Nat) : Tg → Bool
  | .name i => true
  | .tup ts => avTgs mu ts
def avTgs (mu : List Nat) : Tgs → Bool
  | .nil => true
  | .cons t ts => avTg mu t && avTgs mu ts
end
mutual
def avE (mu : List Nat) : E → Bool
  | .var i => !mu.contains i
  | .cst _ => true
  | .bin _ a b => avE mu a && avE mu b
  | .neg a => avE mu a
  | .cmp _ a b => avE mu a && avE mu b
  | .chain _ _ a b c => avE mu a && avE mu b && avE mu c
  | .isN a => avE mu a
  | .notN a => avE mu a
  | .and a b => avE mu a && avE mu b
  | .or a b => avE mu a && avE mu b
  | .not a => avE mu a
  | .ite t a b => avT mu t && avE mu a && avE mu b
  | .tup es => avEs mu es
  | .lst es => avEs mu es
  | .idx a b => avE mu a && avE mu b
  | .sli _ a b c => avE mu a && avE mu b && avE mu c
  | .call _ es => avEs mu es
  | .bi _ es => avEs mu es
  | .isi a _ => avE mu a
  | .comp0 a _ it _ => avE mu a && avI mu it
  | .comp1 a _ it t _ => avE mu a && avI mu it && avT mu t
  | .cell a => avE mu a
  | .pop a => avE mu a
  | .popAt a b => avE mu a && avE mu b
  | .lrng _ es => avEs mu es
def avT (mu : List Nat) : T → Bool
  | .val e => avE mu e
  | .not t => avT mu t
  | .and a b => avT mu a && avT mu b
  | .or a b => avT mu a && avT mu b
  | .ite a b c => avT mu a && avT mu b && avT mu c
def avEs (mu : List Nat) : Es → Bool
  | .nil => true
  | .cons e es => avE mu e && avEs mu es
def avI (mu : List Nat) : I → Bool
  | .seq e => avE mu e
  | .rng es => avEs mu es
  | .enum e => avE mu e
  | .zip a b => avE mu a && avE mu b
  | .rev e => avE mu e
  | .revr es => avEs mu es
end

/-! ### statements -/
structure Sta where
  ρ : Rho
  mu : List Nat
  k : Ky
inductive O where
  | nx (s : Sta) | rt (d : D) (k : Ky) | bk (s : Sta) | ct (s : Sta)
/-- the mutable slots that e does not name stay so -/
def Sta.keep (s : Sta) (f : List Nat → Bool) (k : Ky) : Sta := { s with mu := s.mu.filter fun i => f [i], k := k }
def Sta.put (s : Sta) (i : Nat) (d : D) : Sta := { ρ := s.ρ.set i (some d), mu := s.mu.filter (· != i), k := s.k }
mutual
def tgMu : Tg → List Nat → List Nat
  | .name i, mu => mu.filter (· != i)
  | .tup ts, mu => tgsMu ts mu
def tgsMu : Tgs → List Nat → List Nat
  | .nil, mu => mu
  | .cons t ts, mu => tgsMu ts (tgMu t mu)
end
def stE (c : Call) (e : E) (s : Sta) : Option (D × Sta) :=
  match evE c e s.ρ s.k with
  | none => none
  | some (d, k) => some (d, if noL d then { s with k := k } else s.keep (fun m => avE m e) k)
def whileD (t : Sta → Option (Bool × Ky)) (body : Sta → Option O) : Nat → Sta → Option O
  | 0, _ => none
  | n + 1, s => match t s with
    | none => none
    | some (false, k) => some (.nx { s with k := k })
    | some (true, k) => match body { s with k := k } with
      | none => none
      | some (.nx s') => whileD t body n s'
      | some (.ct s') => whileD t body n s'
      | some (.bk s') => some (.nx s')
      | some (.rt d k) => some (.rt d k)
def forW (wt : Wch) (tg : Tg) (body : Sta → Option O) : List D → Sta → Option O
  | [], s => if okW wt s.k then some (.nx s) else none
  | d :: ds, s => if okW wt s.k then
    match asg tg d s.ρ with
    | none => none
    | some ρ => match body { ρ := ρ, mu := tgMu tg s.mu, k := s.k } with
      | none => none
      | some (.nx s') => forW wt tg body ds s'
      | some (.ct s') => forW wt tg body ds s'
      | some (.bk s') => some (.nx s')
      | some (.rt d k) => some (.rt d k)
    else none
def augSem : BO → D → D → Option D
  | .add, .int i, .int j => some (.int (i + j))
  | .sub, .int i, .int j => some (.int (i - j))
  | .mul, .int i, .int j => if small64 i || small64 j then some (.int (i * j)) else none
  | .shr, .int i, .int j => if decide (0 ≤ j) then some (.int (i / 2 ^ j.toNat)) else none
  | .add, .str a, .str b => if lineOk (a.length + b.length) then some (.str (a ++ b)) else none
  | _, _, _ => none
mutual
def evS (c : Call) (w : Nat) : S → Sta → Option O
  | .set i e, s => match stE c e s with
    | none => none
    | some (d, s1) => some (.nx (s1.put i d))
  | .new i e, s => match evE c e s.ρ s.k with
    | some (.lst ds, k) => if noLs ds && decide (i < s.ρ.length) then some (.nx { ρ := s.ρ.set i (some (.lst ds)), mu := i :: s.mu.filter (· != i), k := k })
      else some (.nx ((s.keep (fun m => avE m e) k).put i (.lst ds)))
    | _ => none
  | .par i j a b, s => match evE c a s.ρ s.k with
    | none => none
    | some (x, k1) => match evE c b s.ρ k1 with
      | none => none
      | some (y, k2) => if noL x && noL y then some (.nx (({ s with k := k2 }.put i x).put j y)) else none
  | .asg t e, s => match stE c e s with
    | none => none
    | some (d, s1) => (asg t d s1.ρ).map fun ρ => .nx { ρ := ρ, mu := tgMu t s1.mu, k := s1.k }
  | .aug i op e, s => match s.ρ[i]? with
    | some (some x) => match evE c e s.ρ s.k with
      | none => none
      | some (y, k) => (augSem op x y).map fun z => .nx ({ s with k := k }.put i z)
    | _ => none
  | .setI i ix e, s => match evE c e s.ρ s.k with
    | none => none
    | some (d, k1) => match evE c ix s.ρ k1 with
      | some (.int j, k2) => match s.ρ[i]?, d with
        | some (some (.ref r)), _ => match k2[r]? with
          | some (.lst ds) => if noL d then (ixN ds.length j).map fun j => .nx { s with k := k2.set r (.lst (ds.set j d)) } else none
          | _ => none
        | some (some (.lst ds)), _ => if s.mu.contains i && noL d then (ixN ds.length j).map fun j => .nx { s with ρ := s.ρ.set i (some (.lst (ds.set j d))), k := k2 } else none
        | _, _ => none
      | _ => none
  | .app i e, s => match s.ρ[i]? with
    | some (some (.ref r)) => match evE c e s.ρ s.k with
      | none => none
      | some (d, k) => match k[r]? with
        | some (.lst ds) => if noL d && decide (ds.length < 16777216) then some (.nx { s with k := k.set r (.lst (ds ++ [d])) }) else none
        | _ => none
    | some (some (.lst ds)) => match evE c e s.ρ s.k with
      | none => none
      | some (d, k) => if s.mu.contains i && noL d && decide (ds.length < 16777216) then some (.nx { s with ρ := s.ρ.set i (some (.lst (ds ++ [d]))), k := k }) else none
    | _ => none
  | .setX a ix e, s => match evE c e s.ρ s.k with
    | none => none
    | some (d, k1) => match evE c a s.ρ k1 with
      | some (.ref r, k2) => match evE c ix s.ρ k2 with
        | some (.int j, k3) => match k3[r]? with
          | some (.lst ds) => if noL d then (ixN ds.length j).map fun j => .nx { s with k := k3.set r (.lst (ds.set j d)) } else none
          | _ => none
        | _ => none
      | _ => none
  | .appX a e, s => match evE c a s.ρ s.k with
    | some (.ref r, k1) => match evE c e s.ρ k1 with
      | none => none
      | some (d, k2) => match k2[r]? with
        | some (.lst ds) => if noL d && decide (ds.length < 16777216) then some (.nx { s with k := k2.set r (.lst (ds ++ [d])) }) else none
        | _ => none
    | _ => none
  | .augX a ix op e, s => match evE c a s.ρ s.k with
    | some (.ref r, k1) => match evE c ix s.ρ k1 with
      | some (.int j, k2) => match k2[r]? with
        | some (.lst ds) => match atI ds j with
          | some x => match evE c e s.ρ k2 with
            | some (y, k3) => match augSem op x y with
              | some z => match k3[r]? with
                | some (.lst ds') => if noL z then (ixN ds'.length j).map fun jj => .nx { s with k := k3.set r (.lst (ds'.set jj z)) } else none
                | _ => none
              | none => none
            | none => none
          | none => none
        | _ => none
      | _ => none
    | _ => none
  | .pop i, s => match s.ρ[i]? with
    | some (some (.ref r)) => match s.k[r]? with
      | some (.lst ds) => if ds.isEmpty then none else some (.nx { s with k := s.k.set r (.lst ds.dropLast) })
      | _ => none
    | some (some (.lst ds)) => if s.mu.contains i && !ds.isEmpty then some (.nx { s with ρ := s.ρ.set i (some (.lst ds.dropLast)) }) else none
    | _ => none
  | .ret e, s => match evE c e s.ρ s.k with
    | none => none
    | some (d, k) => some (.rt d k)
  | .retN, s => some (.rt .non s.k)
  | .ite t a b, s => match evT c t s.ρ s.k with
    | none => none
    | some (true, k) => evSs c w a { s with k := k }
    | some (false, k) => evSs c w b { s with k := k }
  | .for tg it body, s => match evI c it s.ρ s.k with
    | none => none
    | some (ds, wt, k) => forW wt tg (fun s => evSs c w body s) ds (s.keep (fun m => avI m it) k)
  | .while t body, s => whileD (fun s => evT c t s.ρ s.k) (fun s => evSs c w body s) w s
  | .expr e, s => match evE c e s.ρ s.k with
    | none => none
    | some (_, k) => some (.nx { s with k := k })
  | .brk, s => some (.bk s)
  | .cnt, s => some (.ct s)
  | .pass, s => some (.nx s)
  | .never, _ => none
def evSs (c : Call) (w : Nat) : Ss → Sta → Option O
  | .nil, s => some (.nx s)
  | .cons a b, s => match evS c w a s with
    | some (.nx s') => evSs c w b s'
    | o => o
end
/-- a def: its parameters' number, its slots' number, its body -/
structure Def where
  ps : Nat
  ns : Nat
  body : Ss
mutual
/-- no reference from n on -/
def below (n : Nat) : D → Bool
  | .non => true | .bl _ => true | .int _ => true | .str _ => true
  | .tup xs => belows n xs
  | .lst xs => belows n xs
  | .scr xs => belows n xs
  | .ref i => decide (i < n)
def belows (n : Nat) : List D → Bool
  | [] => true
  | x :: xs => below n x && belows n xs
end
def belowOb (n : Nat) : Ob → Bool
  | .lst ds => belows n ds
  | .ins _ fs => fs.all fun p => below n p.2
/-- a call's end: what was made within and is not told is forgotten -/
def endK (k : Ky) (d : D) (k' : Ky) : Option (D × Ky) :=
  if decide (k.length < k'.length) && below k.length d && (k'.take k.length).all (belowOb k.length) then some (d, k'.take k.length) else some (d, k')
def run (w : Nat) (ds : List Def) : Nat → Call
  | 0, _, _, _ => none
  | n + 1, f, as, k => match ds[f]? with
    | none => none
    | some d => if as.length == d.ps then
        match evSs (run w ds n) w d.body { ρ := as.map some ++ List.replicate (d.ns - d.ps) none, mu := [], k := k } with
        | some (.nx s) => endK k .non s.k
        | some (.rt x k') => endK k x k'
        | _ => none
      else none
end Mini
namespace Mini
open PySem PySem.Spec PyProof.Rows L2

/-! ### from the text to the small language -/
structure CT where
  /-- the defs by name -/
  fns : List (Str × Nat)
  /-- the module's constants -/
  consts : List (Str × D)
  /-- the name of math.gcd -/
  gcd : List Str
  /-- the lines where a new list goes into the store, by the name that it gets -/
  cells : List (Nat × Str)
def ix (N : List Str) (x : Str) : Option Nat := N.findIdx? (· == x)
def isVis (sc : Scope) (x : Str) : Bool := match sc.names.lookup x with
  | some .local => true | some .cell => true | some .free => true | _ => false
def isLoc (sc : Scope) (x : Str) : Bool := match sc.names.lookup x with
  | some .local => true | some .cell => true | _ => false
def isGl (sc : Scope) (x : Str) : Bool := match sc.names.lookup x with
  | some .globalImplicit => true | _ => false
def okName (x : Str) : Bool := !(x == ("__debug__" : Str)) && !(x == ("__classdict__" : Str)) && !(x == ("__name__" : Str))
def slot (sc : Scope) (N : List Str) (x : Str) : Option Nat := if isVis sc x && okName x then ix N x else none
def slotL (sc : Scope) (N : List Str) (x : Str) : Option Nat := if isLoc sc x && okName x then ix N x else none
def glob (sc : Scope) (x : Str) : Bool := isGl sc x && okName x
def cBO : Operator → Option BO
  | .Add => some .add | .Sub => some .sub | .Mult => some .mul | .FloorDiv => some .fdiv | .Mod => some .mod | .Pow => some .pow | .LShift => some .shl | .RShift => some .shr | .BitAnd => some .band
  | _ => none
def cCO : CmpOp → Option CO
  | .Eq => some .eq | .NotEq => some .ne | .Lt => some .lt | .LtE => some .le | .Gt => some .gt | .GtE => some .ge | .In => some .isin | .NotIn => some .notin
  | _ => none
def cTy (sc : Scope) : Expr → Option Nat
  | .Name x _ => if glob sc x then
      if x == ("int" : Str) then some 0 else if x == ("bool" : Str) then some 1 else if x == ("str" : Str) then some 2 else if x == ("list" : Str) then some 3 else if x == ("tuple" : Str) then some 4 else none
    else none
  | _ => none
def cBI1 (x : Str) : Option BI :=
  if x == ("len" : Str) then some .len else if x == ("int" : Str) then some .int else if x == ("sum" : Str) then some .sum else if x == ("max" : Str) then some .max
  else if x == ("min" : Str) then some .min else if x == ("abs" : Str) then some .abs else if x == ("all" : Str) then some .all else if x == ("any" : Str) then some .any
  else if x == ("tuple" : Str) then some .tuple else if x == ("list" : Str) then some .list else if x == ("sorted" : Str) then some .sorted else none
def cBI (x : Str) : Option BI := if x == ("divmod" : Str) then some .divmod else cBI1 x
def mapO {α β : Type} (f : α → Option β) : List α → Option (List β)
  | [] => some []
  | x :: xs => match f x with
    | none => none
    | some y => match mapO f xs with
      | none => none
      | some ys => some (y :: ys)
def foldB {α : Type} (f : α → α → α) : α → List α → α
  | x, [] => x
  | x, y :: r => f x (foldB f y r)
def toEs : List E → Es
  | [] => .nil
  | e :: es => .cons e (toEs es)
def cTg (sc : Scope) (N : List Str) : Nat → Expr → Option Tg
  | 0, _ => none
  | n + 1, e => match e with
    | .Name x _ => (slotL sc N x).map .name
    | .Tuple es _ _ => (mapO (cTg sc N n) es).map fun ts => .tup (ts.foldr Tgs.cons .nil)
    | _ => none
mutual
def tgSlots : Tg → List Nat
  | .name i => [i]
  | .tup ts => tgsSlots ts
def tgsSlots : Tgs → List Nat
  | .nil => []
  | .cons t ts => tgSlots t ++ tgsSlots ts
end
/-- a comprehension's target: its own names alone -/
def cTgIn (sc : Scope) (N : List Str) (own : List Nat) (e : Expr) : Option Tg :=
  match cTg sc N 8 e with
  | none => none
  | some t => if (tgSlots t).all fun i => own.contains i then some t else none
def ownOf (N : List Str) (names : List (Str × NameKind)) : List (Str × Nat) :=
  names.filterMap fun y => match y.2 with
    | .local => (ix N y.1).map (y.1, ·)
    | .cell => (ix N y.1).map (y.1, ·)
    | _ => none
def isTupE : Expr → Bool
  | .Tuple _ _ _ => true
  | _ => false
def isCallE : Expr → Bool
  | .Call _ _ _ _ => true
  | _ => false
/-- range(a), range(a, b) -/
def rngArgs (sc : Scope) : Expr → Option (List Expr)
  | .Call (.Name x _) args [] _ => if x == ("range" : Str) && glob sc x then (match args with
    | [a] => some [a]
    | [a, b] => some [a, b]
    | _ => none) else none
  | _ => none
mutual
def cE (Γ : CT) : Nat → Scope → List Str → Expr → Option E
  | 0, _, _, _ => none
  | n + 1, sc, N, e => match e with
    | .Name x _ => if glob sc x then (Γ.consts.lookup x).map .cst else (slot sc N x).map .var
    | .Constant c _ _ => match c with
      | .int i => some (.cst (.int i))
      | .bool b => some (.cst (.bl b))
      | .none => some (.cst .non)
      | .str s => some (.cst (.str s))
      | _ => none
    | .BinOp a op b _ => match cBO op, cE Γ n sc N a, cE Γ n sc N b with
      | some o, some x, some y => some (.bin o x y)
      | _, _, _ => none
    | .UnaryOp op a _ => match op, cE Γ n sc N a with
      | .USub, some x => some (.neg x)
      | .Not, some x => some (.not x)
      | _, _ => none
    | .Compare a ops bs _ => match ops, bs with
      | [op], [b] => match op with
        | .Is => match b with
          | .Constant .none _ _ => (cE Γ n sc N a).map .isN
          | _ => none
        | .IsNot => match b with
          | .Constant .none _ _ => (cE Γ n sc N a).map .notN
          | _ => none
        | _ => match cCO op, cE Γ n sc N a, cE Γ n sc N b with
          | some o, some x, some y => some (.cmp o x y)
          | _, _, _ => none
      | [op, op'], [b, c] => match cCO op, cCO op', cE Γ n sc N a, cE Γ n sc N b, cE Γ n sc N c with
        | some o, some o', some x, some y, some z => some (.chain o o' x y z)
        | _, _, _, _, _ => none
      | _, _ => none
    | .BoolOp op vs _ => match op, mapO (cE Γ n sc N) vs with
      | .And, some (x :: y :: r) => some (foldB .and x (y :: r))
      | .Or, some (x :: y :: r) => some (foldB .or x (y :: r))
      | _, _ => none
    | .IfExp t a b _ => match cT Γ n sc N t, cE Γ n sc N a, cE Γ n sc N b with
      | some x, some y, some z => some (.ite x y z)
      | _, _, _ => none
    | .Tuple es _ _ => (mapO (cE Γ n sc N) es).map fun xs => .tup (toEs xs)
    | .List es _ => (mapO (cE Γ n sc N) es).map fun xs => .lst (toEs xs)
    | .Subscript a i _ => match i with
      | .Slice lo hi st _ => match st, cE Γ n sc N a with
        | none, some x => match lo, hi with
          | none, none => some (.sli 0 x (.cst .non) (.cst .non))
          | some l, none => (cE Γ n sc N l).map fun l => .sli 1 x l (.cst .non)
          | none, some h => (cE Γ n sc N h).map fun h => .sli 2 x (.cst .non) h
          | some l, some h => match cE Γ n sc N l, cE Γ n sc N h with
            | some l, some h => some (.sli 3 x l h)
            | _, _ => none
        | _, _ => none
      | _ => match cE Γ n sc N a, cE Γ n sc N i with
        | some x, some y => some (.idx x y)
        | _, _ => none
    | .Call f args kw pos => match f, kw with
      | .Name x _, [] => if glob sc x then
          match Γ.fns.lookup x with
          | some i => (mapO (cE Γ n sc N) args).map fun xs => .call i (toEs xs)
          | none => if x == ("isinstance" : Str) then
              match args with
              | [a, t] => match cE Γ n sc N a with
                | none => none
                | some y => match t with
                  | .Tuple ts _ _ => if 0 < ts.length ∧ ts.length ≤ 8 then (mapO (cTy sc) ts).map fun us => .isi y us else none
                  | .Name z pz => (cTy sc (.Name z pz)).map fun u => .isi y [u]
                  | _ => none
              | _ => none
            else if Γ.gcd.contains x then
              match args with
              | [_, _] => (mapO (cE Γ n sc N) args).map fun xs => .bi .gcd (toEs xs)
              | _ => none
            else match (if x == ("list" : Str) || x == ("tuple" : Str) then (match args with
              | [a] => rngArgs sc a
              | _ => none) else none : Option (List Expr)) with
            | some as => (mapO (cE Γ n sc N) as).map fun xs => .lrng (x == ("tuple" : Str)) (toEs xs)
            | none => match cBI x, args with
              | some b, _ :: _ => (mapO (cE Γ n sc N) args).map fun xs => .bi b (toEs xs)
              | _, _ => none
        else none
      | .Attribute oe m apos, [] => if apos.endLine == pos.line && !isCallE oe && m == ("pop" : Str) then (match args with
          | [] => (cE Γ n sc N oe).map .pop
          | [a] => match cE Γ n sc N oe, cE Γ n sc N a with
            | some x, some y => some (.popAt x y)
            | _, _ => none
          | _ => none)
        else none
      | _, _ => none
    | .ListComp elt gens scope _ => match gens with
      | [⟨tg, it, ifs, asy⟩] =>
        if asy == 0 && blkC N sc scope (ownOf N scope.names) then
          match cTgIn scope N ((ownOf N scope.names).map (·.2)) tg, cI Γ n sc N tg it, cE Γ n (relS scope sc) N elt with
          | some t, some i, some x => match ifs with
            | [] => some (.comp0 x t i ((ownOf N scope.names).map (·.2)))
            | [q] => (cT Γ n (relS scope sc) N q).map fun q => .comp1 x t i q ((ownOf N scope.names).map (·.2))
            | _ => none
          | _, _, _ => none
        else none
      | _ => none
    | _ => none
def cT (Γ : CT) : Nat → Scope → List Str → Expr → Option T
  | 0, _, _, _ => none
  | n + 1, sc, N, e => match e with
    | .UnaryOp .Not a _ => (cT Γ n sc N a).map .not
    | .BoolOp op vs _ => match op, mapO (cT Γ n sc N) vs with
      | .And, some (x :: y :: r) => some (foldB .and x (y :: r))
      | .Or, some (x :: y :: r) => some (foldB .or x (y :: r))
      | _, _ => none
    | .IfExp _ _ _ _ => none
    | _ => (cE Γ n sc N e).map .val
def cI (Γ : CT) : Nat → Scope → List Str → Expr → Expr → Option I
  | 0, _, _, _, _ => none
  | n + 1, sc, N, tg, e => match e with
    | .Call (.Name x px) args kw po =>
      if x == ("range" : Str) then
        if glob sc x && kw.isEmpty then match args with
          | [_] => (mapO (cE Γ n sc N) args).map fun xs => .rng (toEs xs)
          | [_, _] => (mapO (cE Γ n sc N) args).map fun xs => .rng (toEs xs)
          | [_, _, _] => (mapO (cE Γ n sc N) args).map fun xs => .rng (toEs xs)
          | _ => none
        else none
      else if x == ("enumerate" : Str) then
        if glob sc x && kw.isEmpty && isTupE tg then match args with
          | [a] => (cE Γ n sc N a).map .enum
          | _ => none
        else none
      else if x == ("zip" : Str) then
        if glob sc x && kw.isEmpty && isTupE tg then match args with
          | [a, b] => match cE Γ n sc N a, cE Γ n sc N b with
            | some x, some y => some (.zip x y)
            | _, _ => none
          | _ => none
        else none
      else if x == ("reversed" : Str) then
        if glob sc x && kw.isEmpty then match args with
          | [a] => match rngArgs sc a with
            | some as => (mapO (cE Γ n sc N) as).map fun xs => .revr (toEs xs)
            | none => (cE Γ n sc N a).map .rev
          | _ => none
        else none
      else (cE Γ n sc N (.Call (.Name x px) args kw po)).map .seq
    | _ => (cE Γ n sc N e).map .seq
end
/-- a new flat list -/
def freshShape : Expr → Bool
  | .List _ _ => true
  | .ListComp _ _ _ _ => true
  | .Call (.Name x _) args _ _ => x == ("sorted" : Str) || (x == ("list" : Str) && (match args with
    | [.Call _ _ _ _] => false
    | _ => true))
  | .BinOp (.List _ _) .Mult _ _ => true
  | _ => false
def toSs : List S → Ss
  | [] => .nil
  | s :: ss => .cons s (toSs ss)
def isComp : Expr → Bool
  | .ListComp _ _ _ _ => true
  | _ => false
def isSli : Expr → Bool
  | .Slice _ _ _ _ => true
  | _ => false
def swOk (sc : Scope) (tx : Str) (py : Pos) (value : Expr) : Bool := match value with
  | .ListComp _ _ s pos => sc.kind == .function && sc.names.lookup tx == some .local && py.line == pos.line && !(s.names.any fun (n, k) => n == tx && (k == .local || k == .cell))
  | _ => false
def swNo (sc : Scope) (tx : Str) : Bool := sc.names.lookup tx == some .cell
def cstOk (vs : List Expr) : Bool := vs.all (foldedForSure 8)
def parOk (sc : Scope) (x y : Str) (px py : Pos) (a b : Expr) : Bool :=
  sc.kind == .function && sc.names.lookup x == some .local && sc.names.lookup y == some .local && px.line == py.line && !(x == y) && !(foldedForSure 8 a && foldedForSure 8 b) && !(constantsAlone 8 a && constantsAlone 8 b)
def cS (Γ : CT) (sc : Scope) (N : List Str) : Nat → Stmt → Option S
  | 0, _ => none
  | n + 1, st => match st with
    | .Assign tgs e _ => match tgs with
      | [.Name x py] => match slotL sc N x with
        | none => none
        | some i =>
          if isComp e && !swOk sc x py e && !swNo sc x then none
          else if Γ.cells.contains (py.line, x) then (cE Γ n sc N e).bind fun y => if freshShape e then some (.set i (.cell y)) else none
          else (cE Γ n sc N e).map fun y => if freshShape e then .new i y else .set i y
      | [.Tuple ts tk tp] => match e with
        | .Tuple vs vk vp => match ts, vs with
          | [.Name x px, .Name y py], [a, b] => if parOk sc x y px py a b then
              match slotL sc N x, slotL sc N y, cE Γ n sc N a, cE Γ n sc N b with
              | some i, some j, some u, some v => some (.par i j (if Γ.cells.contains (px.line, x) && freshShape a && !isComp a then .cell u else u) v)
              | _, _, _, _ => none
            else if cstOk [a, b] then match cTg sc N 9 (.Tuple ts tk tp), cE Γ n sc N (.Tuple vs vk vp) with
              | some u, some y => some (.asg u y)
              | _, _ => none
            else none
          | _, _ => none
        | _ => match cTg sc N 9 (.Tuple ts tk tp), cE Γ n sc N e with
          | some u, some y => some (.asg u y)
          | _, _ => none
      | [.Subscript (.Name x _) ix _] => if isComp e then none else match slot sc N x, cE Γ n sc N ix, cE Γ n sc N e with
        | some i, some u, some y => some (.setI i u y)
        | _, _, _ => none
      | [.Subscript oe ix _] => if isComp e then none else match cE Γ n sc N oe, cE Γ n sc N ix, cE Γ n sc N e with
        | some z, some u, some y => some (.setX z u y)
        | _, _, _ => none
      | _ => none
    | .AugAssign (.Name x _) op e _ => match slotL sc N x, cBO op, cE Γ n sc N e with
      | some i, some o, some y => some (.aug i o y)
      | _, _, _ => none
    | .AugAssign (.Subscript oe ix _) op e _ => if isSli ix then none else match cBO op, cE Γ n sc N oe, cE Γ n sc N ix, cE Γ n sc N e with
      | some o, some x, some y, some z => some (.augX x y o z)
      | _, _, _, _ => none
    | .Return o _ => match o with
      | none => some .retN
      | some e => (cE Γ n sc N e).map .ret
    | .If t a b _ => match cT Γ n sc N t, mapO (cS Γ sc N n) a, mapO (cS Γ sc N n) b with
      | some x, some y, some z => some (.ite x (toSs y) (toSs z))
      | _, _, _ => none
    | .For tg it body [] _ => match cTg sc N 8 tg, cI Γ n sc N tg it, mapO (cS Γ sc N n) body with
      | some x, some y, some z => some (.for x y (toSs z))
      | _, _, _ => none
    | .While t body [] _ => match cT Γ n sc N t, mapO (cS Γ sc N n) body with
      | some x, some y => some (.while x (toSs y))
      | _, _ => none
    | .Expr e _ => match e with
      | .Constant (.str _) _ _ => some .pass
      | .Call (.Attribute (.Name x _) m apos) args [] cpos =>
        if !(apos.endLine == cpos.line) then none
        else if m == ("append" : Str) then match args with
          | [a] => match slot sc N x, cE Γ n sc N a with
            | some i, some y => some (.app i y)
            | _, _ => none
          | _ => none
        else if m == ("pop" : Str) then match args with
          | [] => (slot sc N x).map .pop
          | _ => none
        else none
      | .Call (.Attribute oe m apos) args [] cpos =>
        if !(apos.endLine == cpos.line) || isCallE oe then none
        else if m == ("append" : Str) then match args with
          | [a] => match cE Γ n sc N oe, cE Γ n sc N a with
            | some z, some y => some (.appX z y)
            | _, _ => none
          | _ => none
        else none
      | .Call (.Name x p) args kw q => (cE Γ n sc N (.Call (.Name x p) args kw q)).map .expr
      | _ => none
    | .Pass _ => some .pass
    | .Break _ => some .brk
    | .Continue _ => some .cnt
    | .Raise _ _ _ => some .never
    | _ => none
def cSs (Γ : CT) (sc : Scope) (N : List Str) (n : Nat) (l : List Stmt) : Option Ss := (mapO (cS Γ sc N n) l).map toSs
end Mini
namespace Mini
open PySem PySem.Spec PyProof.Rows L2

/-! ### shapes -/
def plainE : Expr → Bool
  | .Name _ _ => true | .Constant _ _ _ => true | .BinOp _ _ _ _ => true | .UnaryOp _ _ _ => true | .Compare _ _ _ _ => true | .BoolOp _ _ _ => true
  | .IfExp _ _ _ _ => true | .Tuple _ _ _ => true | .List _ _ => true | .Subscript _ _ _ => true | .Call _ _ _ _ => true | .ListComp _ _ _ _ => true
  | _ => false
theorem cE_shape {Γ : CT} {n : Nat} {sc : Scope} {N : List Str} {e : Expr} {il : E} (h : cE Γ n sc N e = some il) : plainE e = true := by
  cases n with
  | zero => simp [cE] at h
  | succ n => cases e <;> first | rfl | (simp [cE] at h)
theorem star_of {e : Expr} (h : plainE e = true) (es : List Expr) (env : Env) : starEach (e :: es) env = (false, eval e env) :: starEach es env := by
  cases e <;> first | rfl | (simp [plainE] at h)
theorem noSet_of {e : Expr} (h : plainE e = true) (env : Env) (x : Value) : foldedSetIterable e env x = pure x := by
  cases e <;> first | rfl | (simp [plainE] at h)
theorem noMark_of {e : Expr} (h : plainE e = true) (op : CmpOp) : behindInMarks op e = false := by
  cases e <;> first | rfl | (simp [plainE] at h)
theorem plainIx_of {e : Expr} (h : plainE e = true) : PlainIx e := by
  intro o i
  cases e <;> first | rfl | (simp [plainE] at h)
theorem noStar_of {es : List Expr} {pos : Pos} {env : Env} (h : ∀ e ∈ es, plainE e = true) : (backTo pos (starEach es env)).any (·.1) = false := by
  induction es with
  | nil => rfl
  | cons e es ih =>
    rw [star_of (h e List.mem_cons_self)]
    show (false || (backTo pos (starEach es env)).any (·.1)) = false
    rw [ih fun x hx => h x (List.mem_cons_of_mem _ hx)]
    rfl
theorem mapO_cons {α β : Type} {f : α → Option β} {x : α} {xs : List α} {ys : List β} (h : mapO f (x :: xs) = some ys) : ∃ y zs, f x = some y ∧ mapO f xs = some zs ∧ ys = y :: zs := by
  unfold mapO at h
  cases e : f x with
  | none => rw [e] at h; cases h
  | some y =>
    rw [e] at h
    cases e2 : mapO f xs with
    | none => rw [e2] at h; cases h
    | some zs => rw [e2] at h; cases h; exact ⟨y, zs, rfl, rfl, rfl⟩
theorem ix_get {N : List Str} {x : Str} {i : Nat} (h : ix N x = some i) : N[i]? = some x := by
  unfold ix at h
  rw [List.findIdx?_eq_some_iff_getElem] at h
  obtain ⟨hi, e, _⟩ := h
  rw [List.getElem?_eq_getElem hi]
  have := beq_iff_eq.mp e
  rw [this]

/-! ### the promise of a def -/
def spOf (K : PySem.W.Frag) (w0 : Nat) (ds : List Def) (n i : Nat) : Sp := fun vs H Q _ => ∃ B k as d k', Wd B H ∧ StoreAt K k B H ∧ RepL K B vs as ∧ run w0 ds n i as k = some (d, k') ∧
  ∀ v B' H', Ge B H B' H' → StoreAt K k' B' H' → Rep K B' v d → Q v H'
def biNames : List Str := ["isinstance", "len", "int", "sum", "max", "min", "abs", "all", "any", "tuple", "list", "sorted", "bool", "str", "range", "enumerate", "zip", "reversed", "divmod", "set", "ord"]
structure Facts (Γ : CT) (P : Program) (w : World) (K : PySem.W.Frag) (mg : Str → Option Value) (base : Heap) (n w0 : Nat) (ds : List Def) : Prop where
  fns : ∀ x i, Γ.fns.lookup x = some i → ∃ f fd ps, FnOk P w K mg base CX0 n f fd ps (spOf K w0 ds n i) ∧ mg x = some (.ref f) ∧ PySem.W.keepIn K (.ref f) = true ∧ Binds K fd ps []
  consts : ∀ x d, Γ.consts.lookup x = some d → ∃ v u, mg x = some u ∧ RelV v u ∧ ∀ B, Rep K B v d
  gcd : ∀ x, x ∈ Γ.gcd → mg x = some (.builtin "math.gcd")
  bi : ∀ x ∈ biNames, mg x = none
structure XF (Γ : CT) (w0 : Nat) (ds : List Def) (n : Nat) (sc : Scope) (N : List Str) (X : Cx) : Prop where
  F : Facts Γ X.prog X.w X.K X.mg X.base n w0 ds
  sc : X.env.scope = sc
  nn : X.N = N
  nd : N.Nodup
  calm : X.calm = true
  room : Room n X.A

def PED (X : Cx) (c : Call) (e : Expr) (il : E) : Prop := ∀ ρ mu k d k', evE c il ρ k = some (d, k') → avE mu il = true → PE X e (tD X.K ρ mu k d k')
def PTD (X : Cx) (c : Call) (e : Expr) (il : T) : Prop := ∀ ρ mu k b k', evT c il ρ k = some (b, k') → avT mu il = true → PT X e (tDT X.K ρ mu k b k')
def PAD (X : Cx) (c : Call) (es : List Expr) (il : Es) : Prop := ∀ ρ mu k ds k', evEs c il ρ k = some (ds, k') → avEs mu il = true → PA X es (tDs X.K ρ mu k ds k')

section
variable {X : Cx} {c : Call} {Γ : CT} {w0 n : Nat} {ds : List Def} {sc : Scope} {N : List Str}

theorem fin_d {K : PySem.W.Frag} {B : Wo} {H : Hp} {k : Ky} {v : V} {d : D} {Q : VK} (w : Wd B H) (s : StoreAt K k B H) (r : Rep K B v d) (q : ∀ v B' H', Ge B H B' H' → StoreAt K k B' H' → Rep K B' v d → Q v H') : Q v H :=
  q v B H (Ge.refl w) s r
theorem fin_new {K : PySem.W.Frag} {B : Wo} {H : Hp} {k : Ky} {p : Addr} {o : HO} {d : D} {Q : VK} (w : Wd B H) (s : StoreAt K k B H) (hp : H p = none) (r : Rep K (B.upd p o) (.ref p) d)
    (q : ∀ v B' H', Ge B H B' H' → StoreAt K k B' H' → Rep K B' v d → Q v H') : Q (.ref p) (upd H p o) :=
  q _ _ _ (Ge.new w s hp) (s.ge w hp) r
theorem rep_tup_new {K : PySem.W.Frag} {B : Wo} {p : Addr} {xs : List V} {ds : List D} (hb : B.b p = none) (r : RepL K B xs ds) : Rep K (B.upd p (.tup xs)) (.ref p) (.tup ds) :=
  .tup (.inl (.inl upd_same)) (RepL.ext (Le.upd hb) ds xs r)
theorem rep_lst_new {K : PySem.W.Frag} {B : Wo} {p : Addr} {xs : List V} {ds : List D} (hb : B.b p = none) (r : RepL K B xs ds) : Rep K (B.upd p (.lst xs)) (.ref p) (.lst ds) :=
  .lst upd_same (RepL.ext (Le.upd hb) ds xs r)

/-! ### names, constants -/
theorem d_var (hx : XF Γ w0 ds n sc N X) {x : Str} {pos : Pos} {i : Nat} (h : slot sc N x = some i) : PED X c (.Name x pos) (.var i) := by
  intro ρ mu k d k' he ha
  unfold slot at h
  split at h
  · rename_i hv
    simp only [okName, Bool.and_eq_true, Bool.not_eq_true'] at hv
    simp only [evE] at he
    split at he
    · rename_i d' hd
      cases he
      have hN : X.N[i]? = some x := by rw [hx.nn]; exact ix_get h
      have hvis : Vis X.env.scope x := by
        rw [hx.sc]
        have h1 := hv.1
        unfold isVis at h1
        unfold Vis
        split at h1
        · exact .inl (by assumption)
        · exact .inr (.inl (by assumption))
        · exact .inr (.inr (by assumption))
        · cases h1
      refine (pe_var hN hvis hv.2.1.1 hv.2.1.2).wk fun σ H Q ⟨B, w, s, r, q⟩ => ?_
      have hm : i ∉ mu := by
        simp only [avE, Bool.not_eq_true'] at ha
        intro hm
        rw [List.contains_iff_mem.mpr hm] at ha
        cases ha
      obtain ⟨v, h1, h2⟩ := r.2 i _ hm hd
      exact ⟨v, h1, fin_d w s h2 q⟩
    · cases he
  · cases h
theorem d_cst (hx : XF Γ w0 ds n sc N X) {x : Str} {pos : Pos} {d0 : D} (hg : glob sc x = true) (h : Γ.consts.lookup x = some d0) : PED X c (.Name x pos) (.cst d0) := by
  intro ρ mu k d k' he ha
  simp only [evE, Option.some.injEq, Prod.mk.injEq] at he
  obtain ⟨rfl, rfl⟩ := he
  obtain ⟨v, u, hm, rv, hr⟩ := hx.F.consts x _ h
  unfold glob isGl okName at hg
  simp only [Bool.and_eq_true, Bool.not_eq_true'] at hg
  have hgl : Gl X x := by
    show X.env.scope.names.lookup x = _
    rw [hx.sc]
    have h1 := hg.1
    split at h1
    · assumption
    · cases h1
  exact (pe_glob hgl hm rv hg.2.1.1).wk fun σ H Q ⟨B, w, s, r, q⟩ => fin_d w s (hr B) q
theorem d_int {i : Int} {j : Nat} {pos : Pos} : PED X c (.Constant (.int i) j pos) (.cst (.int i)) := by
  intro ρ mu k d k' he ha
  simp only [evE, Option.some.injEq, Prod.mk.injEq] at he
  obtain ⟨rfl, rfl⟩ := he
  exact pe_int.wk fun σ H Q ⟨B, w, s, r, q⟩ => fin_d w s (.int i) q
theorem d_bl {i : Bool} {j : Nat} {pos : Pos} : PED X c (.Constant (.bool i) j pos) (.cst (.bl i)) := by
  intro ρ mu k d k' he ha
  simp only [evE, Option.some.injEq, Prod.mk.injEq] at he
  obtain ⟨rfl, rfl⟩ := he
  exact pe_bl.wk fun σ H Q ⟨B, w, s, r, q⟩ => fin_d w s (.bl i) q
theorem d_non {j : Nat} {pos : Pos} : PED X c (.Constant .none j pos) (.cst .non) := by
  intro ρ mu k d k' he ha
  simp only [evE, Option.some.injEq, Prod.mk.injEq] at he
  obtain ⟨rfl, rfl⟩ := he
  exact pe_non.wk fun σ H Q ⟨B, w, s, r, q⟩ => fin_d w s .non q
theorem d_str {i : Str} {j : Nat} {pos : Pos} : PED X c (.Constant (.str i) j pos) (.cst (.str i)) := by
  intro ρ mu k d k' he ha
  simp only [evE, Option.some.injEq, Prod.mk.injEq] at he
  obtain ⟨rfl, rfl⟩ := he
  exact pe_str.wk fun σ H Q ⟨B, w, s, r, q⟩ => fin_d w s (.str i) q

/-- as looked at: a list of the store as a list -/
inductive RepH (K : PySem.W.Frag) (B : Wo) (H : Hp) : V → D → Prop
  | of {v : V} {d : D} : Rep K B v d → RepH K B H v d
  | lst {a : Addr} {vs : List V} {ds : List D} : H a = some (.lst vs) → RepL K B vs ds → RepH K B H (.ref a) (.lst ds)
inductive RepHL (K : PySem.W.Frag) (B : Wo) (H : Hp) : List V → List D → Prop
  | nil : RepHL K B H [] []
  | cons {v : V} {vs : List V} {d : D} {ds : List D} : RepH K B H v d → RepHL K B H vs ds → RepHL K B H (v :: vs) (d :: ds)
theorem RepH.l {K : PySem.W.Frag} {B : Wo} {H : Hp} {v : V} {ds : List D} (r : RepH K B H v (.lst ds)) (w : Wd B H) : ∃ p ys, v = .ref p ∧ H p = some (.lst ys) ∧ RepL K B ys ds := by
  cases r with
  | of r =>
    cases r with
    | @lst p ys _ h1 h2 => exact ⟨p, ys, rfl, w.sub _ _ h1, h2⟩
  | @lst a vs _ h1 h2 => exact ⟨a, vs, rfl, h1, h2⟩
theorem RepH.o {K : PySem.W.Frag} {B : Wo} {H : Hp} {v : V} {d : D} (r : RepH K B H v d) (h : ∀ ds, d ≠ .lst ds) : Rep K B v d := by
  cases r with
  | of r => exact r
  | lst _ _ => exact (h _ rfl).elim
theorem deref_rep {K : PySem.W.Frag} {B : Wo} {H : Hp} {k : Ky} {v : V} {d : D} (s : StoreAt K k B H) (r : Rep K B v d) : RepH K B H v (deref k d) := by
  cases d <;> try exact .of r
  rename_i i
  simp only [deref]
  split
  · rename_i ds hk
    cases r with
    | ref hp =>
      obtain ⟨vs, h1, h2, _⟩ := s.at' _ _ _ hp hk
      exact .lst h1 h2
  · exact .of r
theorem derefs_rep {K : PySem.W.Frag} {B : Wo} {H : Hp} {k : Ky} (s : StoreAt K k B H) : ∀ {vs : List V} {ds : List D}, RepL K B vs ds → RepHL K B H vs (ds.map (deref k))
  | _, _, .nil => .nil
  | _, _, .cons h t => .cons (deref_rep s h) (derefs_rep s t)
theorem reph_one {K : PySem.W.Frag} {B : Wo} {H : Hp} {vs : List V} {d : D} (r : RepHL K B H vs [d]) : ∃ v, vs = [v] ∧ RepH K B H v d := by
  cases r with
  | cons h1 h2 => cases h2; exact ⟨_, rfl, h1⟩
theorem reph_two {K : PySem.W.Frag} {B : Wo} {H : Hp} {vs : List V} {d d' : D} (r : RepHL K B H vs [d, d']) : ∃ v v', vs = [v, v'] ∧ RepH K B H v d ∧ RepH K B H v' d' := by
  cases r with
  | cons h1 h2 =>
    cases h2 with
    | cons h3 h4 => cases h4; exact ⟨_, _, rfl, h1, h3⟩
theorem reph_dp {K : PySem.W.Frag} {B : Wo} {H : Hp} (w : Wd B H) {d : D} {v : V} (r : RepH K B H v d) (f : d.fine 60 = true) : Dp K H v d.py := by
  cases r with
  | of r => exact fine_dp 60 d v f (Rep.ext w.up _ _ r)
  | @lst a vs ds h1 h2 => exact .lst (.inl (.inl h1)) (fines_dp 59 ds vs (by simpa [D.fine] using f) (RepL.ext w.up _ _ h2))
/-! ### two operands -/
/-- what an operation by values gives -/
def RD (K : PySem.W.Frag) (r : R2) (x y z : D) : Prop := ∀ B H k vx vy Q, Wd B H → StoreAt K k B H → RepH K B H vx x → RepH K B H vy y → (∀ v B' H', Ge B H B' H' → StoreAt K k B' H' → Rep K B' v z → Q v H') → r vx vy H Q
theorem bin2 {K : PySem.W.Frag} {r : R2} {ρ : Rho} {mu : List Nat} {k k1 k2 : Ky} {x y z : D} {σ : L2.St} {H : Hp} {Q : VK} (hr : RD K r (deref k2 x) (deref k2 y) z) (h : tD K ρ mu k z k2 σ H Q) : tOp r (tD K ρ mu k x k1) (tD K ρ mu k1 y k2) σ H Q := by
  obtain ⟨B, w, s, ri, q⟩ := h
  exact ⟨B, w, s, ri, fun v1 B1 H1 g1 s1 r1 => ⟨B1, g1.wd, s1, ri.ext g1.bb, fun v2 B2 H2 g2 s2 r2 =>
    hr B2 H2 k2 v1 v2 Q g2.wd s2 (deref_rep s2 (Rep.ext g2.bb _ _ r1)) (deref_rep s2 r2) fun v B' H' g s r => q v B' H' (g1.trans (g2.trans g)) s r⟩⟩
theorem rd_int {K : PySem.W.Frag} {g : Int → Int → V} {i j : Int} {z : D} (h : ∀ B, Rep K B (g i j) z) : RD K (rI0 g) (.int i) (.int j) z := by
  intro B H k vx vy Q w s rx ry q
  have rx := rx.o (fun _ e => by cases e)
  have ry := ry.o (fun _ e => by cases e)
  cases rx
  cases ry
  exact ⟨i, j, rfl, rfl, fin_d w s (h B) q⟩
theorem rd_intC {K : PySem.W.Frag} {C : Int → Int → Prop} {g : Int → Int → V} {i j : Int} {z : D} (hc : C i j) (h : ∀ B, Rep K B (g i j) z) : RD K (rI C g) (.int i) (.int j) z := by
  intro B H k vx vy Q w s rx ry q
  have rx := rx.o (fun _ e => by cases e)
  have ry := ry.o (fun _ e => by cases e)
  cases rx
  cases ry
  exact ⟨i, j, rfl, rfl, hc, fin_d w s (h B) q⟩
theorem repl_rep {K : PySem.W.Frag} {B : Wo} {xs : List V} {ds : List D} (h : RepL K B xs ds) : ∀ {n : Nat}, RepL K B (List.replicate n xs).flatten (List.replicate n ds).flatten
  | 0 => .nil
  | n + 1 => by
    rw [List.replicate_succ, List.replicate_succ, List.flatten_cons, List.flatten_cons]
    exact h.append (repl_rep h)
theorem small_log {j : Int} (h : small64 j = true) : j.natAbs.log2 < 64 := by
  simp only [small64, Bool.and_eq_true, decide_eq_true_eq] at h
  exact PySem.Flt.log2_lt_of (by decide) (show j.natAbs < 2 ^ 64 by omega)
/-- the operation's rule, by the data -/
theorem bo_ok {op : Operator} {o : BO} (ho : cBO op = some o) {x y z : D} (h : boSem o x y = some z) : ∃ r, OpR X (binaryOp op) r ∧ RD X.K r x y z := by
  cases op <;> simp [cBO] at ho <;> subst ho
  · -- add
    cases x <;> cases y <;> simp only [boSem] at h <;> first | (cases h; done) | skip
    · cases h; exact ⟨_, op_add, rd_int fun _ => .int _⟩
    · split at h <;> cases h
      rename_i a b hz
      refine ⟨_, op_add_str, fun B H k vx vy Q w s rx ry q => ?_⟩
      have rx := rx.o (fun _ e => by cases e)
      have ry := ry.o (fun _ e => by cases e)
      cases rx
      cases ry
      exact ⟨a, b, rfl, rfl, by simpa [lineOk, sizeLine] using hz, fin_d w s (.str _) q⟩
    · split at h <;> cases h
      rename_i a b hz
      refine ⟨_, op_catA, fun B H k vx vy Q w s rx ry q => ?_⟩
      have rx := rx.o (fun _ e => by cases e)
      have ry := ry.o (fun _ e => by cases e)
      cases rx with
      | @tup pa xs _ h1 h2 =>
      cases ry with
      | @tup pb ys _ h3 h4 =>
      have l1 := h2.len
      have l2 := h4.len
      refine ⟨pa, pb, xs, ys, rfl, rfl, ext_t w.sub h1, ext_t w.sub h3, ?_, fun e => ?_, fun e e2 => ?_, fun _ _ p hp => ?_⟩
      · have hz' : a.length + b.length ≤ 16777216 := by simpa [lineOk] using hz
        show _ ≤ 2 ^ 24
        omega
      · subst e
        cases h2
        exact fin_d w s (by simpa using Rep.tup h3 h4) q
      · subst e2
        cases h4
        exact fin_d w s (by simpa using Rep.tup h1 h2) q
      · exact fin_new w s hp (rep_tup_new (w.gone hp) (h2.append h4)) q
    · split at h <;> cases h
      rename_i a b hz
      refine ⟨_, op_cat, fun B H k vx vy Q w s rx ry q => ?_⟩
      obtain ⟨pa, xs, rfl, h1, h2⟩ := rx.l w
      obtain ⟨pb, ys, rfl, h3, h4⟩ := ry.l w
      have l1 := h2.len
      have l2 := h4.len
      refine ⟨pa, pb, xs, ys, rfl, rfl, h1, h3, ?_, fun p hp => ?_⟩
      · have hz' : a.length + b.length ≤ 16777216 := by simpa [lineOk] using hz
        show _ ≤ 2 ^ 24
        omega
      · exact fin_new w s hp (rep_lst_new (w.gone hp) (h2.append h4)) q
  · -- sub
    cases x <;> cases y <;> simp only [boSem] at h <;> first | (cases h; done) | skip
    cases h; exact ⟨_, op_sub, rd_int fun _ => .int _⟩
  · -- mul
    cases x <;> cases y <;> simp only [boSem] at h <;> first | (cases h; done) | skip
    · rename_i i j
      split at h <;> cases h
      rename_i hm
      simp only [mulOk, Bool.or_eq_true, decide_eq_true_eq] at hm
      rcases hm with (hm | hm) | hm
      · simp only [small64, Bool.and_eq_true, decide_eq_true_eq] at hm
        exact ⟨_, op_mul, rd_intC (.inl ⟨by omega, by omega⟩) fun _ => .int _⟩
      · simp only [small64, Bool.and_eq_true, decide_eq_true_eq] at hm
        exact ⟨_, op_mul, rd_intC (.inr ⟨by omega, by omega⟩) fun _ => .int _⟩
      · exact ⟨_, op_mulW, rd_intC hm fun _ => .int _⟩
    · rename_i a j
      split at h <;> cases h
      rename_i hm
      simp only [Bool.and_eq_true, decide_eq_true_eq] at hm
      refine ⟨_, op_rep, fun B H k vx vy Q w s rx ry q => ?_⟩
      have ry := ry.o (fun _ e => by cases e)
      obtain ⟨pa, xs, rfl, h1, h2⟩ := rx.l w
      cases ry
      refine ⟨pa, j, xs, rfl, rfl, h1, by omega, by omega, ?_, fun p hp => ?_⟩
      · rw [h2.len]; have := hm.2; simpa [lineOk, sizeLine] using this
      · exact fin_new w s hp (rep_lst_new (w.gone hp) (repl_rep h2)) q
  · -- mod
    cases x <;> cases y <;> simp only [boSem] at h <;> first | (cases h; done) | skip
    split at h <;> cases h
    rename_i hm
    exact ⟨_, op_mod, rd_intC (of_decide_eq_true hm) fun _ => .int _⟩
  · -- pow
    cases x <;> cases y <;> simp only [boSem] at h <;> first | (cases h; done) | skip
    split at h <;> cases h
    rename_i hm
    simp only [Bool.and_eq_true, decide_eq_true_eq, small64] at hm
    exact ⟨_, op_pow, rd_intC ⟨hm.1.1, by omega, by omega⟩ fun _ => .int _⟩
  · -- shl
    cases x <;> cases y <;> simp only [boSem] at h <;> first | (cases h; done) | skip
    split at h <;> cases h
    rename_i hm
    simp only [Bool.and_eq_true, decide_eq_true_eq, small64] at hm
    exact ⟨_, op_shl, rd_intC ⟨hm.1.1, by omega, by omega⟩ fun _ => .int _⟩
  · -- shr
    cases x <;> cases y <;> simp only [boSem] at h <;> first | (cases h; done) | skip
    split at h <;> cases h
    rename_i hm
    exact ⟨_, op_shr, rd_intC (of_decide_eq_true hm) fun _ => .int _⟩
  · -- band
    cases x <;> cases y <;> simp only [boSem] at h <;> first | (cases h; done) | skip
    cases h; exact ⟨_, op_and, rd_int fun _ => .int _⟩
  · -- floordiv
    cases x <;> cases y <;> simp only [boSem] at h <;> first | (cases h; done) | skip
    split at h <;> cases h
    rename_i hm
    simp only [divOk, Bool.and_eq_true, Bool.or_eq_true, decide_eq_true_eq] at hm
    refine ⟨_, op_fdivW, rd_intC ⟨hm.1, ?_⟩ fun _ => .int _⟩
    rcases hm.2 with h | h
    · exact Nat.lt_trans (small_log h) (by decide)
    · exact h
end
end Mini
namespace Mini
open PySem PySem.Spec PyProof.Rows L2
section
variable {X : Cx} {c : Call} {Γ : CT} {w0 n : Nat} {ds : List Def} {sc : Scope} {N : List Str}

/-! ### comparisons -/
theorem eqD_spec {x y : D} {b : Bool} (h : eqD x y = some b) : x.fine 60 = true ∧ y.fine 60 = true ∧ PyData.eqv x.py y.py = b := by
  have gen : (if x.fine 60 && y.fine 60 then some (PyData.eqv x.py y.py) else none) = some b → x.fine 60 = true ∧ y.fine 60 = true ∧ PyData.eqv x.py y.py = b := by
    intro h
    split at h
    · rename_i hf
      simp only [Bool.and_eq_true] at hf
      exact ⟨hf.1, hf.2, Option.some.inj h⟩
    · cases h
  unfold eqD at h
  split at h
  · cases h; exact ⟨rfl, rfl, by simp [D.py, PyData.eqv, Bool.beq_eq_decide_eq]⟩
  · cases h; exact ⟨rfl, rfl, by simp [D.py, PyData.eqv, Bool.beq_eq_decide_eq]⟩
  · cases h; exact ⟨rfl, rfl, by simp [D.py, PyData.eqv, Bool.beq_eq_decide_eq]⟩
  · cases h; exact ⟨rfl, rfl, rfl⟩
  · exact gen h
theorem anyEq_spec {x : D} : ∀ {ys : List D} {b : Bool}, anyEq x ys = some b → D.fines 60 ys = true ∧ ((D.pys ys).any fun y => PyData.eqv y x.py) = b
  | [], b, h => by simp only [anyEq, Option.some.injEq] at h; subst h; exact ⟨rfl, rfl⟩
  | y :: ys, b, h => by
    simp only [anyEq] at h
    split at h
    · rename_i e
      cases e2 : anyEq x ys with
      | none => rw [e2] at h; cases h
      | some b2 =>
        rw [e2] at h
        obtain ⟨f1, f2⟩ := anyEq_spec e2
        obtain ⟨g1, g2, g3⟩ := eqD_spec e
        simp only [Option.map_some, Option.some.injEq] at h
        subst h
        exact ⟨by simp [D.fines, g1, f1], by simp [D.pys, g3]⟩
    · rename_i e
      obtain ⟨f1, f2⟩ := anyEq_spec h
      obtain ⟨g1, g2, g3⟩ := eqD_spec e
      exact ⟨by simp [D.fines, g1, f1], by simp [D.pys, g3, f2]⟩
    · cases h
theorem rd_eqP {K : PySem.W.Frag} {x y : D} {b : Bool} (h : eqD x y = some b) : RD K (rEqP K) x y (.bl b) := by
  obtain ⟨f1, f2, f3⟩ := eqD_spec h
  intro B H k vx vy Q w s rx ry q
  have p1 := fine_plain 60 x f1
  have p2 := fine_plain 60 y f2
  refine ⟨x.py, y.py, reph_dp w rx f1, reph_dp w ry f2, p1.1, p2.1, by omega, ?_⟩
  rw [f3]
  exact fin_d w s (.bl b) q
theorem rd_neP {K : PySem.W.Frag} {x y : D} {b : Bool} (h : eqD x y = some b) : RD K (rNeP K) x y (.bl (!b)) := by
  obtain ⟨f1, f2, f3⟩ := eqD_spec h
  intro B H k vx vy Q w s rx ry q
  have p1 := fine_plain 60 x f1
  have p2 := fine_plain 60 y f2
  refine ⟨x.py, y.py, reph_dp w rx f1, reph_dp w ry f2, p1.1, p2.1, by omega, ?_⟩
  rw [f3]
  exact fin_d w s (.bl (!b)) q
def rInP (K : PySem.W.Frag) (neg : Bool) : R2 := fun x y H Q => ∃ d ds, Dp K H x d ∧ (Dp K H y (.list ds) ∨ Dp K H y (.tuple ds)) ∧ d.plain = true ∧ PyData.plainAll ds = true ∧ d.depth ≤ 62 ∧
  Q (.bl (if neg then !(ds.any fun z => PyData.eqv z d) else ds.any fun z => PyData.eqv z d)) H
theorem op_inP (hu : X.A.units + 64 < cLine) : OpR X (compareOp .In) (rInP X.K false) := by
  intro pins s σ H x y v u Q I rx ry h
  obtain ⟨d, es, hd, he, sd, se, dp, q⟩ := h
  obtain ⟨as, r1⟩ := Dp.reads I d x v hd rx
  rcases he with he | he
  · obtain ⟨bs, r2⟩ := Dp.reads I (.list es) y u he ry
    exact SeqAt.in_list_data r2 r1 se sd (by omega) ⟨.bl _, H, I, rfl, q⟩
  · obtain ⟨bs, r2⟩ := Dp.reads I (.tuple es) y u he ry
    exact SeqAt.in_tuple_data r2 r1 se sd (by omega) ⟨.bl _, H, I, rfl, q⟩
theorem op_notInP (hu : X.A.units + 64 < cLine) : OpR X (compareOp .NotIn) (rInP X.K true) := by
  intro pins s σ H x y v u Q I rx ry h
  obtain ⟨d, es, hd, he, sd, se, dp, q⟩ := h
  obtain ⟨as, r1⟩ := Dp.reads I d x v hd rx
  rcases he with he | he
  · obtain ⟨bs, r2⟩ := Dp.reads I (.list es) y u he ry
    exact SeqAt.notIn_list_data r2 r1 se sd (by omega) ⟨.bl _, H, I, rfl, q⟩
  · obtain ⟨bs, r2⟩ := Dp.reads I (.tuple es) y u he ry
    exact SeqAt.notIn_tuple_data r2 r1 se sd (by omega) ⟨.bl _, H, I, rfl, q⟩
theorem rd_inP {K : PySem.W.Frag} {neg : Bool} {x : D} {ys : List D} {b : Bool} (hf : x.fine 60 = true) (h : anyEq x ys = some b) (z : D) (hz : z = .lst ys ∨ z = .tup ys) : RD K (rInP K neg) x z (.bl (if neg then !b else b)) := by
  obtain ⟨f1, f2⟩ := anyEq_spec h
  intro B H k vx vy Q w s rx ry q
  have p1 := fine_plain 60 x hf
  have p2 := fines_plain 60 ys f1
  refine ⟨x.py, D.pys ys, reph_dp w rx hf, ?_, p1.1, p2.1, by omega, ?_⟩
  · rcases hz with rfl | rfl
    · obtain ⟨p, vs, rfl, h1, h2⟩ := ry.l w
      exact .inl (.lst (.inl (.inl h1)) (fines_dp 60 ys _ f1 (RepL.ext w.up _ _ h2)))
    · have ry' := Rep.ext w.up _ _ (ry.o (fun _ e => by cases e))
      cases ry' with
      | tup h1 h2 => exact .inr (.tup h1 (fines_dp 60 ys _ f1 h2))
  · rw [f2]
    exact fin_d w s (.bl _) q
def rLtP (K : PySem.W.Frag) (f : PyData → PyData → Bool) : R2 := fun x y H Q => ∃ d e, Dp K H x d ∧ Dp K H y e ∧ PySem.W.alike d e = true ∧ d ≠ .none ∧ d.depth ≤ 64 ∧ Q (.bl (f d e)) H
theorem op_ltP (hu : X.A.units + 64 < cLine) : OpR X (compareOp .Lt) (rLtP X.K fun d e => PySem.W.dataLt d e) := by
  intro pins s σ H x y v u Q I rx ry h
  obtain ⟨d, e, hd, he, al, nn, dp, q⟩ := h
  obtain ⟨as, r1⟩ := Dp.reads I d x v hd rx
  obtain ⟨bs, r2⟩ := Dp.reads I e y u he ry
  exact PySem.W.lt_data r1 r2 al nn (by omega) ⟨.bl _, H, I, rfl, q⟩
theorem op_gtP (hu : X.A.units + 64 < cLine) : OpR X (compareOp .Gt) (rLtP X.K fun d e => PySem.W.dataLt e d) := by
  intro pins s σ H x y v u Q I rx ry h
  obtain ⟨d, e, hd, he, al, nn, dp, q⟩ := h
  obtain ⟨as, r1⟩ := Dp.reads I d x v hd rx
  obtain ⟨bs, r2⟩ := Dp.reads I e y u he ry
  exact PySem.W.gt_data r1 r2 al nn (by omega) ⟨.bl _, H, I, rfl, q⟩
theorem op_leP (hu : X.A.units + 64 < cLine) : OpR X (compareOp .LtE) (rLtP X.K fun d e => !PySem.W.dataLt e d) := by
  intro pins s σ H x y v u Q I rx ry h
  obtain ⟨d, e, hd, he, al, nn, dp, q⟩ := h
  obtain ⟨as, r1⟩ := Dp.reads I d x v hd rx
  obtain ⟨bs, r2⟩ := Dp.reads I e y u he ry
  exact PySem.W.le_data r1 r2 al nn (by omega) ⟨.bl _, H, I, rfl, q⟩
theorem op_geP (hu : X.A.units + 64 < cLine) : OpR X (compareOp .GtE) (rLtP X.K fun d e => !PySem.W.dataLt d e) := by
  intro pins s σ H x y v u Q I rx ry h
  obtain ⟨d, e, hd, he, al, nn, dp, q⟩ := h
  obtain ⟨as, r1⟩ := Dp.reads I d x v hd rx
  obtain ⟨bs, r2⟩ := Dp.reads I e y u he ry
  exact PySem.W.ge_data r1 r2 al nn (by omega) ⟨.bl _, H, I, rfl, q⟩
theorem rd_ltP {K : PySem.W.Frag} {f : PyData → PyData → Bool} {x y : D} {b : Bool} (f1 : x.fine 60 = true) (f2 : y.fine 60 = true) (f3 : PySem.W.alike x.py y.py = true) (f4 : x ≠ .non) (f5 : f x.py y.py = b) : RD K (rLtP K f) x y (.bl b) := by
  intro B H k vx vy Q w s rx ry q
  have p1 := fine_plain 60 x f1
  refine ⟨x.py, y.py, reph_dp w rx f1, reph_dp w ry f2, f3, ?_, by omega, ?_⟩
  · cases x <;> simp [D.py] <;> first | exact f4 rfl | (simp [D.fine] at f1)
  · rw [f5]; exact fin_d w s (.bl b) q
theorem nn_of {x : D} (h : notNon x = true) : x ≠ .non := by
  intro e; subst e; cases h
theorem cod_lt {x y : D} {b : Bool} (hi : ¬ ∃ i j, x = .int i ∧ y = .int j) (h : coSem .lt x y = some b) : x.fine 60 = true ∧ y.fine 60 = true ∧ PySem.W.alike x.py y.py = true ∧ x ≠ .non ∧ (fun d e => PySem.W.dataLt d e) x.py y.py = b := by
  have key : (if x.fine 60 && y.fine 60 && PySem.W.alike x.py y.py && notNon x then some ((fun d e => PySem.W.dataLt d e) x.py y.py) else none) = some b := by
    cases x <;> cases y <;> first | exact h | (exact (hi ⟨_, _, rfl, rfl⟩).elim)
  split at key <;> cases key
  rename_i hc
  simp only [Bool.and_eq_true] at hc
  exact ⟨hc.1.1.1, hc.1.1.2, hc.1.2, nn_of hc.2, rfl⟩
theorem cod_gt {x y : D} {b : Bool} (hi : ¬ ∃ i j, x = .int i ∧ y = .int j) (h : coSem .gt x y = some b) : x.fine 60 = true ∧ y.fine 60 = true ∧ PySem.W.alike x.py y.py = true ∧ x ≠ .non ∧ (fun d e => PySem.W.dataLt e d) x.py y.py = b := by
  have key : (if x.fine 60 && y.fine 60 && PySem.W.alike x.py y.py && notNon x then some ((fun d e => PySem.W.dataLt e d) x.py y.py) else none) = some b := by
    cases x <;> cases y <;> first | exact h | (exact (hi ⟨_, _, rfl, rfl⟩).elim)
  split at key <;> cases key
  rename_i hc
  simp only [Bool.and_eq_true] at hc
  exact ⟨hc.1.1.1, hc.1.1.2, hc.1.2, nn_of hc.2, rfl⟩
theorem cod_le {x y : D} {b : Bool} (hi : ¬ ∃ i j, x = .int i ∧ y = .int j) (h : coSem .le x y = some b) : x.fine 60 = true ∧ y.fine 60 = true ∧ PySem.W.alike x.py y.py = true ∧ x ≠ .non ∧ (fun d e => !PySem.W.dataLt e d) x.py y.py = b := by
  have key : (if x.fine 60 && y.fine 60 && PySem.W.alike x.py y.py && notNon x then some ((fun d e => !PySem.W.dataLt e d) x.py y.py) else none) = some b := by
    cases x <;> cases y <;> first | exact h | (exact (hi ⟨_, _, rfl, rfl⟩).elim)
  split at key <;> cases key
  rename_i hc
  simp only [Bool.and_eq_true] at hc
  exact ⟨hc.1.1.1, hc.1.1.2, hc.1.2, nn_of hc.2, rfl⟩
theorem cod_ge {x y : D} {b : Bool} (hi : ¬ ∃ i j, x = .int i ∧ y = .int j) (h : coSem .ge x y = some b) : x.fine 60 = true ∧ y.fine 60 = true ∧ PySem.W.alike x.py y.py = true ∧ x ≠ .non ∧ (fun d e => !PySem.W.dataLt d e) x.py y.py = b := by
  have key : (if x.fine 60 && y.fine 60 && PySem.W.alike x.py y.py && notNon x then some ((fun d e => !PySem.W.dataLt d e) x.py y.py) else none) = some b := by
    cases x <;> cases y <;> first | exact h | (exact (hi ⟨_, _, rfl, rfl⟩).elim)
  split at key <;> cases key
  rename_i hc
  simp only [Bool.and_eq_true] at hc
  exact ⟨hc.1.1.1, hc.1.1.2, hc.1.2, nn_of hc.2, rfl⟩
theorem co_ok (hr : Room n X.A) {op : CmpOp} {o : CO} (ho : cCO op = some o) {x y : D} {b : Bool} (h : coSem o x y = some b) : ∃ r, OpR X (compareOp op) r ∧ RD X.K r x y (.bl b) := by
  have hu := hr.units
  cases op <;> simp [cCO] at ho <;> subst ho
  · exact ⟨_, op_eqP hu, rd_eqP h⟩
  · simp only [coSem] at h
    cases e : eqD x y with
    | none => rw [e] at h; cases h
    | some b' => rw [e] at h; cases h; exact ⟨_, op_neP hu, rd_neP e⟩
  · by_cases hi : ∃ i j, x = .int i ∧ y = .int j
    · obtain ⟨i, j, rfl, rfl⟩ := hi
      simp only [coSem] at h
      cases h; exact ⟨_, op_lt, rd_int fun _ => .bl _⟩
    · obtain ⟨f1, f2, f3, f4, f5⟩ := cod_lt hi h
      exact ⟨_, op_ltP hu, rd_ltP f1 f2 f3 f4 f5⟩
  · by_cases hi : ∃ i j, x = .int i ∧ y = .int j
    · obtain ⟨i, j, rfl, rfl⟩ := hi
      simp only [coSem] at h
      cases h; exact ⟨_, op_le, rd_int fun _ => .bl _⟩
    · obtain ⟨f1, f2, f3, f4, f5⟩ := cod_le hi h
      exact ⟨_, op_leP hu, rd_ltP f1 f2 f3 f4 f5⟩
  · by_cases hi : ∃ i j, x = .int i ∧ y = .int j
    · obtain ⟨i, j, rfl, rfl⟩ := hi
      simp only [coSem] at h
      cases h; exact ⟨_, op_gt, rd_int fun _ => .bl _⟩
    · obtain ⟨f1, f2, f3, f4, f5⟩ := cod_gt hi h
      exact ⟨_, op_gtP hu, rd_ltP f1 f2 f3 f4 f5⟩
  · by_cases hi : ∃ i j, x = .int i ∧ y = .int j
    · obtain ⟨i, j, rfl, rfl⟩ := hi
      simp only [coSem] at h
      cases h; exact ⟨_, op_ge, rd_int fun _ => .bl _⟩
    · obtain ⟨f1, f2, f3, f4, f5⟩ := cod_ge hi h
      exact ⟨_, op_geP hu, rd_ltP f1 f2 f3 f4 f5⟩
  · cases y with
    | lst ys =>
      simp only [coSem] at h
      split at h
      · rename_i hf
        exact ⟨_, op_inP hu, rd_inP (neg := false) hf h _ (.inl rfl)⟩
      · cases h
    | tup ys =>
      simp only [coSem] at h
      split at h
      · rename_i hf
        exact ⟨_, op_inP hu, rd_inP (neg := false) hf h _ (.inr rfl)⟩
      · cases h
    | _ => simp [coSem] at h
  · cases y with
    | lst ys =>
      simp only [coSem] at h
      split at h
      · rename_i hf
        cases e : anyEq x ys with
        | none => rw [e] at h; cases h
        | some b' => rw [e] at h; cases h; exact ⟨_, op_notInP hu, rd_inP (neg := true) hf e _ (.inl rfl)⟩
      · cases h
    | tup ys =>
      simp only [coSem] at h
      split at h
      · rename_i hf
        cases e : anyEq x ys with
        | none => rw [e] at h; cases h
        | some b' => rw [e] at h; cases h; exact ⟨_, op_notInP hu, rd_inP (neg := true) hf e _ (.inr rfl)⟩
      · cases h
    | _ => simp [coSem] at h

variable {a b e t : Expr} {x y z : E} {pos : Pos}
theorem d_bin {op : Operator} {o : BO} (ho : cBO op = some o) (ha : PED X c a x) (hb : PED X c b y) : PED X c (.BinOp a op b pos) (.bin o x y) := by
  intro ρ mu k d k' he hav
  simp only [evE] at he
  simp only [avE, Bool.and_eq_true] at hav
  split at he
  · cases he
  · rename_i d1 k1 e1
    split at he
    · cases he
    · rename_i d2 k2 e2
      cases e3 : boSem o (deref k2 d1) (deref k2 d2) with
      | none => rw [e3] at he; cases he
      | some z =>
        rw [e3] at he
        simp only [Option.map_some, Option.some.injEq, Prod.mk.injEq] at he
        obtain ⟨rfl, rfl⟩ := he
        obtain ⟨r, hop, hr⟩ := bo_ok (X := X) ho e3
        exact (pe_op hop (ha ρ mu k d1 k1 e1 hav.1) (hb ρ mu k1 d2 _ e2 hav.2)).wk fun σ H Q h => bin2 hr h
theorem d_neg (ha : PED X c a x) : PED X c (.UnaryOp .USub a pos) (.neg x) := by
  intro ρ mu k d k' he hav
  simp only [evE] at he
  simp only [avE] at hav
  split at he
  · rename_i i k1 e1
    cases he
    refine (pe_un un_neg (ha ρ mu k _ _ e1 hav)).wk fun σ H Q ⟨B, w, s, ri, q⟩ => ⟨B, w, s, ri, fun v1 B1 H1 g1 s1 r1 => ?_⟩
    cases r1
    exact ⟨i, rfl, q _ _ _ g1 s1 (.int _)⟩
  · cases he
theorem d_cmp (hr : Room n X.A) {op : CmpOp} {o : CO} (ho : cCO op = some o) (hb0 : plainE b = true) (ha : PED X c a x) (hb : PED X c b y) : PED X c (.Compare a [op] [b] pos) (.cmp o x y) := by
  intro ρ mu k d k' he hav
  simp only [evE] at he
  simp only [avE, Bool.and_eq_true] at hav
  split at he
  · cases he
  · rename_i d1 k1 e1
    split at he
    · cases he
    · rename_i d2 k2 e2
      cases e3 : coSem o (deref k2 d1) (deref k2 d2) with
      | none => rw [e3] at he; cases he
      | some z =>
        rw [e3] at he
        simp only [Option.map_some, Option.some.injEq, Prod.mk.injEq] at he
        obtain ⟨rfl, rfl⟩ := he
        obtain ⟨r, hop, hr⟩ := co_ok (X := X) hr ho e3
        exact (pe_cmpR hop (ha ρ mu k d1 k1 e1 hav.1) (hb ρ mu k1 d2 _ e2 hav.2) (noMark_of hb0 op)).wk fun σ H Q h => bin2 hr h
/-- the test of a comparison -/
theorem t_cmp (hr : Room n X.A) {op : CmpOp} {o : CO} (ho : cCO op = some o) (hb0 : plainE b = true) (ha : PED X c a x) (hb : PED X c b y) : PTD X c (.Compare a [op] [b] pos) (.val (.cmp o x y)) := by
  intro ρ mu k d k' he hav
  simp only [evT, evE] at he
  simp only [avT, avE, Bool.and_eq_true] at hav
  split at he
  · cases he
  · rename_i dd kk ee
    split at ee
    · cases ee
    · rename_i d1 k1 e1
      split at ee
      · cases ee
      · rename_i d2 k2 e2
        cases e3 : coSem o (deref k2 d1) (deref k2 d2) with
        | none => rw [e3] at ee; cases ee
        | some z =>
          rw [e3] at ee
          simp only [Option.map_some, Option.some.injEq, Prod.mk.injEq] at ee
          obtain ⟨rfl, rfl⟩ := ee
          simp only [deref, truth, Option.map_some, Option.some.injEq, Prod.mk.injEq] at he
          obtain ⟨rfl, rfl⟩ := he
          obtain ⟨r, hop, hr⟩ := co_ok (X := X) hr ho e3
          refine (pt_cmpR hop (ha ρ mu k d1 k1 e1 hav.1) (hb ρ mu k1 d2 _ e2 hav.2) (noMark_of hb0 op)).wk fun σ H Q ⟨B, w, s, ri, q⟩ => ?_
          refine bin2 (k2 := k2) hr ⟨B, w, s, ri, fun v B' H' g s' r' => ?_⟩
          cases r'
          exact ⟨_, rfl, q B' H' g s'⟩
theorem chain_rd (hr : Room n X.A) {op op' : CmpOp} {o o' : CO} (ho : cCO op = some o) (ho' : cCO op' = some o') (hb0 : plainE b = true) (he0 : plainE e = true) (ha : PED X c a x) (hb : PED X c b y) (hc : PED X c e z)
    {ρ : Rho} {mu : List Nat} {k k' : Ky} {d : D} (he : evE c (.chain o o' x y z) ρ k = some (d, k')) (hav : avE mu (.chain o o' x y z) = true) :
    ∃ r r' ta tb tc, OpR X (compareOp op) r ∧ OpR X (compareOp op') r' ∧ PE X a ta ∧ PE X b tb ∧ PE X e tc ∧ (∃ bb, d = .bl bb) ∧ ∀ σ H Q, tD X.K ρ mu k d k' σ H Q → tChain r r' ta tb tc σ H Q := by
  simp only [evE] at he
  simp only [avE, Bool.and_eq_true] at hav
  split at he
  · cases he
  rename_i d1 k1 e1
  split at he
  · cases he
  rename_i d2 k2 e2
  split at he
  · cases he
  · rename_i e3
    simp only [Option.some.injEq, Prod.mk.injEq] at he
    obtain ⟨rfl, rfl⟩ := he
    obtain ⟨r, hop, hrd⟩ := co_ok (X := X) hr ho e3
    -- the second comparison is not reached: any rule for it
    refine ⟨r, fun _ _ _ _ => False, _, _, fun _ _ _ => False, hop, fun _ _ _ _ _ _ _ _ _ _ _ _ h => h.elim, ha ρ mu k d1 k1 e1 hav.1.1, hb ρ mu k1 d2 _ e2 hav.1.2, ⟨fun _ _ _ _ _ _ h => h.elim⟩, ⟨_, rfl⟩, fun σ H Q ⟨B, w, s, ri, q⟩ => ?_⟩
    refine ⟨B, w, s, ri, fun v1 B1 H1 g1 s1 r1 => ⟨B1, g1.wd, s1, ri.ext g1.bb, fun v2 B2 H2 g2 s2 r2 => ?_⟩⟩
    refine hrd B2 H2 _ v1 v2 _ g2.wd s2 (deref_rep s2 (Rep.ext g2.bb _ _ r1)) (deref_rep s2 r2) fun v B' H' g s' r' => ?_
    cases r'
    refine ⟨false, rfl, ?_⟩
    rw [if_neg Bool.false_ne_true]
    exact q _ B' H' (g1.trans (g2.trans g)) s' (.bl false)
  · rename_i e3
    split at he
    · cases he
    rename_i d4 k4 e4
    cases e5 : coSem o' (deref k4 d2) (deref k4 d4) with
    | none => rw [e5] at he; cases he
    | some zb =>
      rw [e5] at he
      simp only [Option.map_some, Option.some.injEq, Prod.mk.injEq] at he
      obtain ⟨rfl, rfl⟩ := he
      obtain ⟨r, hop, hrd⟩ := co_ok (X := X) hr ho e3
      obtain ⟨r', hop', hrd'⟩ := co_ok (X := X) hr ho' e5
      refine ⟨r, r', _, _, _, hop, hop', ha ρ mu k d1 k1 e1 hav.1.1, hb ρ mu k1 d2 _ e2 hav.1.2, hc ρ mu _ d4 _ e4 hav.2, ⟨_, rfl⟩, fun σ H Q ⟨B, w, s, ri, q⟩ => ?_⟩
      refine ⟨B, w, s, ri, fun v1 B1 H1 g1 s1 r1 => ⟨B1, g1.wd, s1, ri.ext g1.bb, fun v2 B2 H2 g2 s2 r2 => ?_⟩⟩
      refine hrd B2 H2 _ v1 v2 _ g2.wd s2 (deref_rep s2 (Rep.ext g2.bb _ _ r1)) (deref_rep s2 r2) fun v B' H' g s' rb => ?_
      cases rb
      refine ⟨true, rfl, ?_⟩
      rw [if_pos rfl]
      refine ⟨B', g.wd, s', (ri.ext g1.bb).ext (g2.bb.trans g.bb), fun v4 B4 H4 g4 s4 r4 => ?_⟩
      refine hrd' B4 H4 _ v2 v4 _ g4.wd s4 (deref_rep s4 (Rep.ext (g.bb.trans g4.bb) _ _ r2)) (deref_rep s4 r4) fun v B5 H5 g5 s5 r5 => ?_
      exact q v B5 H5 (g1.trans (g2.trans (g.trans (g4.trans g5)))) s5 r5
theorem d_chain (hr : Room n X.A) {op op' : CmpOp} {o o' : CO} (ho : cCO op = some o) (ho' : cCO op' = some o') (hb0 : plainE b = true) (he0 : plainE e = true) (ha : PED X c a x) (hb : PED X c b y) (hc : PED X c e z) :
    PED X c (.Compare a [op, op'] [b, e] pos) (.chain o o' x y z) := by
  intro ρ mu k d k' he hav
  obtain ⟨r, r', ta, tb, tc, h1, h2, h3, h4, h5, _, h6⟩ := chain_rd hr ho ho' hb0 he0 ha hb hc he hav
  exact (pe_chain h1 h2 h3 h4 h5 (show behindInMarks op' e = false from noMark_of he0 op')).wk h6
theorem t_of {K : PySem.W.Frag} {te : TE} {ρ : Rho} {mu : List Nat} {k k' : Ky} {bb : Bool} {σ : L2.St} {H : Hp} {Q : Bool → Hp → Prop} (h : ∀ Q, tD K ρ mu k (.bl bb) k' σ H Q → te σ H Q) (q : tDT K ρ mu k bb k' σ H Q) : te σ H fun x H' => ∃ k, x = .bl k ∧ Q k H' := by
  obtain ⟨B, w, s, ri, q⟩ := q
  refine h _ ⟨B, w, s, ri, fun v B' H' g s' r' => ?_⟩
  cases r'
  exact ⟨_, rfl, q B' H' g s'⟩
theorem truth_bl {bb : Bool} {b' : Bool} (h : truth (.bl bb) = some b') : bb = b' := Option.some.inj h
theorem t_chain (hr : Room n X.A) {op op' : CmpOp} {o o' : CO} (ho : cCO op = some o) (ho' : cCO op' = some o') (hb0 : plainE b = true) (he0 : plainE e = true) (ha : PED X c a x) (hb : PED X c b y) (hc : PED X c e z) :
    PTD X c (.Compare a [op, op'] [b, e] pos) (.val (.chain o o' x y z)) := by
  intro ρ mu k d k' he hav
  simp only [evT] at he
  split at he
  · cases he
  rename_i dd kk ee
  obtain ⟨r, r', ta, tb, tc, h1, h2, h3, h4, h5, ⟨bb, rfl⟩, h6⟩ := chain_rd hr ho ho' hb0 he0 ha hb hc ee (by simpa [avT] using hav)
  simp only [deref, truth, Option.map_some, Option.some.injEq, Prod.mk.injEq] at he
  obtain ⟨rfl, rfl⟩ := he
  exact (pt_chain h1 h2 h3 h4 h5 (show behindInMarks op' e = false from noMark_of he0 op')).wk fun σ H Q h => t_of (h6 σ H) h

/-! ### None -/
theorem rep_non {K : PySem.W.Frag} {B : Wo} {v : V} {d : D} (r : Rep K B v d) : decide (v = .non) = (match d with | .non => true | _ => false) := by
  cases r <;> rfl
theorem isN_rd (ha : PED X c a x) {ρ : Rho} {mu : List Nat} {k k' : Ky} {d : D} (he : evE c (.isN x) ρ k = some (d, k')) (hav : avE mu (.isN x) = true) :
    ∃ ta, PE X a ta ∧ (∃ bb, d = .bl bb) ∧ ∀ σ H Q, tD X.K ρ mu k d k' σ H Q → tIsN ta σ H Q := by
  simp only [evE] at he
  split at he
  · rename_i k1 e1
    cases he
    refine ⟨_, ha ρ mu k _ _ e1 hav, ⟨_, rfl⟩, fun σ H Q ⟨B, w, s, ri, q⟩ => ⟨B, w, s, ri, fun v B' H' g s' r' => ?_⟩⟩
    dsimp only
    rw [rep_non r']
    exact q _ B' H' g s' (.bl true)
  · rename_i d1 k1 hne e1
    cases he
    refine ⟨_, ha ρ mu k _ _ e1 hav, ⟨_, rfl⟩, fun σ H Q ⟨B, w, s, ri, q⟩ => ⟨B, w, s, ri, fun v B' H' g s' r' => ?_⟩⟩
    dsimp only
    rw [rep_non r']
    cases d1 <;> first | exact q _ B' H' g s' (.bl false) | exact (hne _ rfl).elim | exact (hne rfl).elim
  · cases he
theorem notN_rd (ha : PED X c a x) {ρ : Rho} {mu : List Nat} {k k' : Ky} {d : D} (he : evE c (.notN x) ρ k = some (d, k')) (hav : avE mu (.notN x) = true) :
    ∃ ta, PE X a ta ∧ (∃ bb, d = .bl bb) ∧ ∀ σ H Q, tD X.K ρ mu k d k' σ H Q → tNotN ta σ H Q := by
  simp only [evE] at he
  split at he
  · rename_i k1 e1
    cases he
    refine ⟨_, ha ρ mu k _ _ e1 hav, ⟨_, rfl⟩, fun σ H Q ⟨B, w, s, ri, q⟩ => ⟨B, w, s, ri, fun v B' H' g s' r' => ?_⟩⟩
    dsimp only
    rw [rep_non r']
    exact q _ B' H' g s' (.bl false)
  · rename_i d1 k1 hne e1
    cases he
    refine ⟨_, ha ρ mu k _ _ e1 hav, ⟨_, rfl⟩, fun σ H Q ⟨B, w, s, ri, q⟩ => ⟨B, w, s, ri, fun v B' H' g s' r' => ?_⟩⟩
    dsimp only
    rw [rep_non r']
    cases d1 <;> first | exact q _ B' H' g s' (.bl true) | exact (hne _ rfl).elim | exact (hne rfl).elim
  · cases he
theorem d_isN {j : Nat} {pos' : Pos} (ha : PED X c a x) : PED X c (.Compare a [.Is] [.Constant .none j pos'] pos) (.isN x) := by
  intro ρ mu k d k' he hav
  obtain ⟨ta, h1, _, h2⟩ := isN_rd ha he hav
  exact (pe_cmp (pc_isN h1) rfl).wk h2
theorem d_notN {j : Nat} {pos' : Pos} (ha : PED X c a x) : PED X c (.Compare a [.IsNot] [.Constant .none j pos'] pos) (.notN x) := by
  intro ρ mu k d k' he hav
  obtain ⟨ta, h1, _, h2⟩ := notN_rd ha he hav
  exact (pe_cmp (pc_notN h1) rfl).wk h2
theorem t_isN {j : Nat} {pos' : Pos} (ha : PED X c a x) : PTD X c (.Compare a [.Is] [.Constant .none j pos'] pos) (.val (.isN x)) := by
  intro ρ mu k d k' he hav
  simp only [evT] at he
  split at he
  · cases he
  rename_i dd kk ee
  obtain ⟨ta, h1, ⟨bb, rfl⟩, h2⟩ := isN_rd ha ee (by simpa [avT] using hav)
  simp only [deref, truth, Option.map_some, Option.some.injEq, Prod.mk.injEq] at he
  obtain ⟨rfl, rfl⟩ := he
  exact (pt_cmp (pc_isN h1) rfl).wk fun σ H Q h => t_of (h2 σ H) h
theorem t_notN {j : Nat} {pos' : Pos} (ha : PED X c a x) : PTD X c (.Compare a [.IsNot] [.Constant .none j pos'] pos) (.val (.notN x)) := by
  intro ρ mu k d k' he hav
  simp only [evT] at he
  split at he
  · cases he
  rename_i dd kk ee
  obtain ⟨ta, h1, ⟨bb, rfl⟩, h2⟩ := notN_rd ha ee (by simpa [avT] using hav)
  simp only [deref, truth, Option.map_some, Option.some.injEq, Prod.mk.injEq] at he
  obtain ⟨rfl, rfl⟩ := he
  exact (pt_cmp (pc_notN h1) rfl).wk fun σ H Q h => t_of (h2 σ H) h

/-! ### and, or, not, a if t else b -/
variable {rest : List Expr}
theorem d_and (ha : PED X c a x) (hb : PED X c (.BoolOp .And (b :: rest) pos) y) : PED X c (.BoolOp .And (a :: b :: rest) pos) (.and x y) := by
  intro ρ mu k d k' he hav
  simp only [evE] at he
  simp only [avE, Bool.and_eq_true] at hav
  split at he
  · rename_i k1 e1
    refine (pe_and (ha ρ mu k _ _ e1 hav.1) (hb ρ mu k1 _ _ he hav.2)).wk fun σ H Q ⟨B, w, s, ri, q⟩ => ⟨B, w, s, ri, fun v B' H' g s' r' => ?_⟩
    cases r'
    refine ⟨true, rfl, ?_⟩
    exact iteT (⟨B', g.wd, s', ri.ext g.bb, fun v B2 H2 g2 s2 r2 => q v B2 H2 (g.trans g2) s2 r2⟩)
  · rename_i k1 e1
    cases he
    refine (pe_and (ha ρ mu k _ _ e1 hav.1) (tb := fun _ _ _ => False) ⟨fun _ _ _ _ _ _ h => h.elim⟩).wk fun σ H Q ⟨B, w, s, ri, q⟩ => ⟨B, w, s, ri, fun v B' H' g s' r' => ?_⟩
    cases r'
    refine ⟨false, rfl, ?_⟩
    exact iteF (q _ B' H' g s' (.bl false))
  · cases he
theorem d_or (ha : PED X c a x) (hb : PED X c (.BoolOp .Or (b :: rest) pos) y) : PED X c (.BoolOp .Or (a :: b :: rest) pos) (.or x y) := by
  intro ρ mu k d k' he hav
  simp only [evE] at he
  simp only [avE, Bool.and_eq_true] at hav
  split at he
  · rename_i k1 e1
    refine (pe_or (ha ρ mu k _ _ e1 hav.1) (hb ρ mu k1 _ _ he hav.2)).wk fun σ H Q ⟨B, w, s, ri, q⟩ => ⟨B, w, s, ri, fun v B' H' g s' r' => ?_⟩
    cases r'
    refine ⟨false, rfl, ?_⟩
    exact iteF (⟨B', g.wd, s', ri.ext g.bb, fun v B2 H2 g2 s2 r2 => q v B2 H2 (g.trans g2) s2 r2⟩)
  · rename_i k1 e1
    cases he
    refine (pe_or (ha ρ mu k _ _ e1 hav.1) (tb := fun _ _ _ => False) ⟨fun _ _ _ _ _ _ h => h.elim⟩).wk fun σ H Q ⟨B, w, s, ri, q⟩ => ⟨B, w, s, ri, fun v B' H' g s' r' => ?_⟩
    cases r'
    refine ⟨true, rfl, ?_⟩
    exact iteT (q _ B' H' g s' (.bl true))
  · cases he
theorem d_one {op : BoolOp} (ha : PED X c a x) : PED X c (.BoolOp op [a] pos) x := fun ρ mu k d k' he hav => pe_one (ha ρ mu k d k' he hav)
theorem d_not (ha : PED X c a x) : PED X c (.UnaryOp .Not a pos) (.not x) := by
  intro ρ mu k d k' he hav
  simp only [evE] at he
  split at he
  · rename_i bb k1 e1
    cases he
    refine (pe_not (ha ρ mu k _ _ e1 hav)).wk fun σ H Q ⟨B, w, s, ri, q⟩ => ⟨B, w, s, ri, fun v B' H' g s' r' => ?_⟩
    cases r'
    exact ⟨bb, rfl, q _ B' H' g s' (.bl _)⟩
  · cases he
variable {tt uu vv : T}
theorem d_ite (ht : PTD X c t tt) (ha : PED X c a x) (hb : PED X c b y) : PED X c (.IfExp t a b pos) (.ite tt x y) := by
  intro ρ mu k d k' he hav
  simp only [evE] at he
  simp only [avE, Bool.and_eq_true] at hav
  split at he
  · cases he
  · rename_i k1 e1
    refine (pe_ifExp (ht ρ mu k _ _ e1 hav.1.1) (ha ρ mu k1 _ _ he hav.1.2) (tb := fun _ _ _ => False) ⟨fun _ _ _ _ _ _ h => h.elim⟩).wk fun σ H Q ⟨B, w, s, ri, q⟩ => ⟨B, w, s, ri, fun B' H' g s' => ?_⟩
    exact iteT (⟨B', g.wd, s', ri.ext g.bb, fun v B2 H2 g2 s2 r2 => q v B2 H2 (g.trans g2) s2 r2⟩)
  · rename_i k1 e1
    refine (pe_ifExp (ht ρ mu k _ _ e1 hav.1.1) (ta := fun _ _ _ => False) ⟨fun _ _ _ _ _ _ h => h.elim⟩ (hb ρ mu k1 _ _ he hav.2)).wk fun σ H Q ⟨B, w, s, ri, q⟩ => ⟨B, w, s, ri, fun B' H' g s' => ?_⟩
    exact iteF (⟨B', g.wd, s', ri.ext g.bb, fun v B2 H2 g2 s2 r2 => q v B2 H2 (g.trans g2) s2 r2⟩)

/-! ### tests -/
def PWD (X : Cx) (c : Call) (e : Expr) (il : T) : Prop := ∀ ρ mu k b k', evT c il ρ k = some (b, k') → avT mu il = true → PW X e (tDT X.K ρ mu k b k')
theorem w_and1 (ha : PTD X c a tt) : PWD X c (.BoolOp .And [a] pos) tt := fun ρ mu k d k' he hav => pw_and1 (ha ρ mu k d k' he hav)
theorem w_or1 (ha : PTD X c a tt) : PWD X c (.BoolOp .Or [a] pos) tt := fun ρ mu k d k' he hav => pw_or1 (ha ρ mu k d k' he hav)
theorem w_pt (h : PWD X c e tt) : PTD X c e tt := fun ρ mu k d k' he hav => (h ρ mu k d k' he hav).pt
theorem w_and (ha : PTD X c a tt) (hb : PWD X c (.BoolOp .And (b :: rest) pos) uu) : PWD X c (.BoolOp .And (a :: b :: rest) pos) (.and tt uu) := by
  intro ρ mu k d k' he hav
  simp only [evT] at he
  simp only [avT, Bool.and_eq_true] at hav
  split at he
  · cases he
  · rename_i k1 e1
    refine (pw_and (ha ρ mu k _ _ e1 hav.1) (hb ρ mu k1 _ _ he hav.2)).wk fun σ H Q ⟨B, w, s, ri, q⟩ => ⟨B, w, s, ri, fun B' H' g s' => ?_⟩
    exact iteT (⟨B', g.wd, s', ri.ext g.bb, fun B2 H2 g2 s2 => q B2 H2 (g.trans g2) s2⟩)
  · rename_i k1 e1
    cases he
    refine (pw_and (ha ρ mu k _ _ e1 hav.1) (tB' := fun _ _ _ => False) ⟨fun _ _ _ _ _ _ _ h => h.elim⟩).wk fun σ H Q ⟨B, w, s, ri, q⟩ => ⟨B, w, s, ri, fun B' H' g s' => ?_⟩
    exact iteF (q B' H' g s')
theorem w_or (ha : PTD X c a tt) (hb : PWD X c (.BoolOp .Or (b :: rest) pos) uu) : PWD X c (.BoolOp .Or (a :: b :: rest) pos) (.or tt uu) := by
  intro ρ mu k d k' he hav
  simp only [evT] at he
  simp only [avT, Bool.and_eq_true] at hav
  split at he
  · cases he
  · rename_i k1 e1
    cases he
    refine (pw_or (ha ρ mu k _ _ e1 hav.1) (tB' := fun _ _ _ => False) ⟨fun _ _ _ _ _ _ _ h => h.elim⟩).wk fun σ H Q ⟨B, w, s, ri, q⟩ => ⟨B, w, s, ri, fun B' H' g s' => ?_⟩
    exact iteT (q B' H' g s')
  · rename_i k1 e1
    refine (pw_or (ha ρ mu k _ _ e1 hav.1) (hb ρ mu k1 _ _ he hav.2)).wk fun σ H Q ⟨B, w, s, ri, q⟩ => ⟨B, w, s, ri, fun B' H' g s' => ?_⟩
    exact iteF (⟨B', g.wd, s', ri.ext g.bb, fun B2 H2 g2 s2 => q B2 H2 (g.trans g2) s2⟩)
theorem t_not (ha : PTD X c a tt) : PTD X c (.UnaryOp .Not a pos) (.not tt) := by
  intro ρ mu k d k' he hav
  simp only [evT] at he
  split at he
  · cases he
  · rename_i bb k1 e1
    cases he
    exact (pt_not (ha ρ mu k _ _ e1 hav)).wk fun σ H Q ⟨B, w, s, ri, q⟩ => ⟨B, w, s, ri, fun B' H' g s' => q B' H' g s'⟩
theorem tru_rep {K : PySem.W.Frag} {B : Wo} {H : Hp} {v : V} {d : D} {bb : Bool} (w : Wd B H) (r : Rep K B v d) (h : truth d = some bb) : TruV K v H bb := by
  cases r with
  | non => cases h; rfl
  | bl b => cases h; rfl
  | int i => cases h; rfl
  | str x =>
    simp only [truth] at h
    split at h
    · rename_i hz
      cases h
      exact ⟨by simpa [lineOk, sizeLine] using hz, rfl⟩
    · cases h
  | @tup a xs es h1 h2 =>
    cases h
    refine .inr (.inl ⟨xs, ext_t w.sub h1, ?_⟩)
    cases h2 <;> rfl
  | @lst a xs es h1 h2 =>
    cases h
    refine .inl ⟨xs, .inl (.inl (w.sub _ _ h1)), ?_⟩
    cases h2 <;> rfl
  | scr _ _ => cases h
  | ref _ => cases h
theorem tru_repH {K : PySem.W.Frag} {B : Wo} {H : Hp} {v : V} {d : D} {bb : Bool} (w : Wd B H) (r : RepH K B H v d) (h : truth d = some bb) : TruV K v H bb := by
  cases r with
  | of r => exact tru_rep w r h
  | @lst a vs ds h1 h2 =>
    cases h
    refine .inl ⟨vs, .inl (.inl h1), ?_⟩
    cases h2 <;> rfl
theorem t_truth (he0 : ∀ env whole, isTrue a env whole = (do let v ← whole; standAt a.pos; holding [v] (truthy v))) (ha : PED X c a x) : PTD X c a (.val x) := by
  intro ρ mu k d k' he hav
  simp only [evT] at he
  split at he
  · cases he
  rename_i dd kk ee
  cases e1 : truth (deref kk dd) with
  | none => rw [e1] at he; cases he
  | some bb =>
    rw [e1] at he
    simp only [Option.map_some, Option.some.injEq, Prod.mk.injEq] at he
    obtain ⟨rfl, rfl⟩ := he
    refine (pt_truth (ha ρ mu k _ _ ee (by simpa [avT] using hav)) (he0 _)).wk fun σ H Q ⟨B, w, s, ri, q⟩ => ⟨B, w, s, ri, fun v B' H' g s' r' => ⟨_, tru_repH g.wd (deref_rep s' r') e1, q B' H' g s'⟩⟩

/-! ### several expressions; displays -/
variable {es : List Expr} {xs : Es}
theorem a_nil : PAD X c [] .nil := by
  intro ρ mu k d k' he hav
  cases he
  exact pa_nil.wk fun σ H Q ⟨B, w, s, ri, q⟩ => q [] B H (Ge.refl w) s .nil
theorem a_cons (ha0 : plainE a = true) (ha : PED X c a x) (hr : PAD X c es xs) : PAD X c (a :: es) (.cons x xs) := by
  intro ρ mu k d k' he hav
  simp only [evEs] at he
  simp only [avEs, Bool.and_eq_true] at hav
  split at he
  · cases he
  rename_i d1 k1 e1
  split at he
  · cases he
  rename_i d2 k2 e2
  cases he
  refine (pa_cons (ha ρ mu k _ _ e1 hav.1) (hr ρ mu k1 _ _ e2 hav.2) (star_of ha0 es X.env)).wk fun σ H Q ⟨B, w, s, ri, q⟩ => ⟨B, w, s, ri, fun v B1 H1 g1 s1 r1 => ⟨B1, g1.wd, s1, ri.ext g1.bb, fun vs B2 H2 g2 s2 r2 => ?_⟩⟩
  exact q _ B2 H2 (g1.trans g2) s2 (.cons (Rep.ext g2.bb _ _ r1) r2)
theorem line_of {m : Nat} (h : lineOk m = true) : m ≤ sizeLine := by simpa [lineOk, sizeLine] using h
theorem d_tup {j : Nat} (ha : PAD X c es xs) : PED X c (.Tuple es j pos) (.tup xs) := by
  intro ρ mu k d k' he hav
  simp only [evE] at he
  cases e1 : evEs c xs ρ k with
  | none => rw [e1] at he; cases he
  | some p =>
    obtain ⟨d1, k1⟩ := p
    rw [e1] at he
    simp only [Option.bind_some] at he
    split at he
    · rename_i hz
      cases he
      refine (pe_tup (ha ρ mu k _ _ e1 (by simpa [avE] using hav))).wk fun σ H Q ⟨B, w, s, ri, q⟩ => ⟨B, w, s, ri, fun vs B1 H1 g1 s1 r1 => ⟨by rw [r1.len]; exact line_of hz, fun p hp => ?_⟩⟩
      exact fin_new g1.wd s1 hp (rep_tup_new (g1.wd.gone hp) r1) fun v B2 H2 g2 s2 r2 => q v B2 H2 (g1.trans g2) s2 r2
    · cases he
theorem d_lst (ha : PAD X c es xs) : PED X c (.List es pos) (.lst xs) := by
  intro ρ mu k d k' he hav
  simp only [evE] at he
  cases e1 : evEs c xs ρ k with
  | none => rw [e1] at he; cases he
  | some p =>
    obtain ⟨d1, k1⟩ := p
    rw [e1] at he
    simp only [Option.bind_some] at he
    split at he
    · rename_i hz
      cases he
      refine (pe_lst (ha ρ mu k _ _ e1 (by simpa [avE] using hav))).wk fun σ H Q ⟨B, w, s, ri, q⟩ => ⟨B, w, s, ri, fun vs B1 H1 g1 s1 r1 => ⟨by rw [r1.len]; exact line_of hz, fun p hp => ?_⟩⟩
      exact fin_new g1.wd s1 hp (rep_lst_new (g1.wd.gone hp) r1) fun v B2 H2 g2 s2 r2 => q v B2 H2 (g1.trans g2) s2 r2
    · cases he
end
end Mini
namespace PySem
open Sem (wp)
open AutoSeq1 (wpAny_loadPart')
open PySem.W PySem.SeqAt
/-! ### enumerate(tuple) -/
theorem mini_meets_enum {v : Value} {o : Obj} {H : Heap → Prop} (B : Begins v o H) :
    Meets (Builtin.«enumerate.__new__» ⟨[.type "enumerate", v], []⟩) (fun _ R s => H s.heap ∧
      R (.ok (.ret (.ref (s.heap.push o).objs.size))) { s with heap := (s.heap.push o).push { cls := .type "enumerate", data := .fields #[.none, .bool false, .ref s.heap.objs.size, rawInt 0, .none, .none] } }) :=
  .of_wp fun prog w A R s h => by
    obtain ⟨hp, g, d, tk, os⟩ := s; obtain ⟨h1, h⟩ := h
    have hsub := sub_enumerate
    have q1 : ∀ {A' : Around} {E : Value → Shared → Prop} {Q : Value → Shared → Prop}, Q (.ref hp.objs.size) ⟨hp.push o, g, d, tk, os⟩ → wpAny (model prog w) A' (pyIter v) Q E ⟨hp, g, d, tk, os⟩ :=
      fun q => B.iter prog w _ _ ⟨hp, g, d, tk, os⟩ _ h1 q
    wp_walk using q1
    refine wpAny_stack_any fun st => wpAny_pure ?_
    split
    · rename_i c _ _ _ _ _
      cases (c == Value.type "enumerate")
      · wp_walk using q1
        exact ⟨_, rfl, h⟩
      · wp_walk using q1
        exact ⟨_, rfl, h⟩
    · wp_walk using q1
      exact ⟨_, rfl, h⟩
section
variable {prog : Program} {w : World} {A : Around} {E : Value → Shared → Prop} {s : Shared}
theorem mini_enum_begins {v : Value} {o : Obj} {H : Heap → Prop} {Q : Value → Shared → Prop} (B : Begins v o H) (h1 : H s.heap)
    (h : ∀ h', IsEnum h' (s.heap.objs.size + 1) s.heap.objs.size 0 .none → h'.get? s.heap.objs.size = some o → h'.objs.size = s.heap.objs.size + 2 →
      (∀ b o, s.heap.get? b = some o → h'.get? b = some o) → Q (.ref (s.heap.objs.size + 1)) { s with heap := h' }) :
    wpAny (model prog w) A (call (.type "enumerate") [v]) Q E s := by
  refine callType_new F.called_enumerate (by decide) (F.typeCall_enumerate_1 _) (F.newCall_enumerate_1 _) (fun obj => F.args_object_init_2 obj _) F.entry_enumerate_new
    (mini_meets_enum B) ⟨h1, ?_⟩
  have hz : (s.heap.push o).objs.size = s.heap.objs.size + 1 := Heap.size_push ..
  show _ ∧ _
  rw [hz]
  have he : IsEnum ((s.heap.push o).push { cls := .type "enumerate", data := .fields #[.none, .bool false, .ref s.heap.objs.size, rawInt 0, .none, .none] }) (s.heap.objs.size + 1) s.heap.objs.size 0 .none := by
    have := Heap.get?_push_size (s.heap.push o) (o := { cls := .type "enumerate", data := .fields #[.none, .bool false, .ref s.heap.objs.size, rawInt 0, .none, .none] }) rfl
    rw [hz] at this; exact this
  refine ⟨⟨_, he, rfl⟩, h _ he (Heap.get?_push_of_some _ (Heap.get?_push_size _ B.free)) (by rw [Heap.size_push, hz]) fun b o x => Heap.get?_push_of_some _ (Heap.get?_push_of_some _ x)⟩
theorem mini_enum_endT {e it l : Addr} {i : Nat} {items : Array Value} {old : Value} {Q : Option Value → Shared → Prop} (hh : A.handled = none)
    (he : IsEnum s.heap e it i old) (hit : s.heap.IsTupleIter it l i) (hl : s.heap.IsTuple l items) (hx : items[i]? = none)
    (hQ : ∀ h', Heap.ExtBut it s.heap h' → Q none { s with heap := h' }) : wpAny (model prog w) A (pyNext (.ref e)) Q E s := by
  have hT : s.TypeIs (.ref e) "enumerate" := ⟨_, he, rfl⟩
  unfold pyNext
  refine wpAny_bind (wpAny_attempt (wpAny_callSpecial?_slot (name := Str.ofString "__next__") hT F.slot_enumerate_next
    (wpAny_call_entry F.slot_enumerate_next hT F.entry_enumerate_next ?_ (F.args_enumerate_next_1 _))))
  show wpAny _ _ (field (.ref e) 2 >>= _) _ _ _
  refine wpAny_bind (wpAny_field he rfl (x := .ref it) rfl ?_)
  refine wpAny_bind (wpAny_nextOf_tuple_end hh hit hl hx fun h' x he' hx' => ?_)
  obtain ⟨o, ho, hc⟩ := hx'
  refine wpAny_bind (wpAny_isInstance (T := "StopIteration") (b := true) ⟨o, ho, hc⟩ isSubtype_stop ?_)
  exact wpAny_pure (hQ _ he')
end
end PySem
namespace Mini
open PySem PySem.Spec PyProof.Rows L2
/-- the tuple at a, each item in a new pair -/
def IteT (K : PySem.W.Frag) (a : Addr) : It :=
  ⟨fun i H => ∃ (xs : List V) (x : V), SqT K H a xs ∧ xs[i]? = some x, fun i H v H' => ∃ T x, v = .ref T ∧ H T = none ∧ H' = upd H T (.tup [.int (i : Nat), x]) ∧ ∀ xs, SqT K H a xs → xs[i]? = some x, fun i H => ∃ xs : List V, SqT K H a xs ∧ xs.length ≤ i⟩
theorem turn_enumT {P : Program} {w : World} {K : PySem.W.Frag} {elts : List Expr} {kk : Nat} {tpos : Pos} (a e it : Addr) (hat : a ≠ it) :
    Turn P w K (.Tuple elts kk tpos) (IteT K a) [e, it] e (fun i h => (∃ old, IsEnum h e it ((i : Nat) : Int) old) ∧ h.IsTupleIter it a i ∧ e ≠ it ∧ e ≠ a) where
  mem := by simp
  obj := fun i h st b hb => by
    obtain ⟨⟨old, he⟩, ⟨o, ho, hc, hd⟩, _⟩ := st
    have e' : b = e ∨ b = it := by simpa using hb
    rcases e' with z | z
    · rw [z]; exact ⟨_, he, fun v q => nomatch q⟩
    · rw [z]; exact ⟨o, ho, fun v q => by rw [hd] at q; cases q⟩
  keep := fun i h h' st k => let ⟨⟨old, he⟩, hi, hne⟩ := st; ⟨⟨old, k e (by simp) _ he⟩, hi.at fun o q => k it (by simp) o q, hne⟩
  item := by
    intro X hP hw hK hc i pins s σ H E I hf st hg
    subst hP hw hK
    obtain ⟨⟨old, he⟩, hit, hne, hea⟩ := st
    obtain ⟨xs, x, hq, hx⟩ := hg
    obtain ⟨its, rv, p, hz⟩ := I.tuple hq
    obtain ⟨u, hu, ru⟩ := rv.get hx
    have hel : e < s.heap.objs.size := Heap.lt_size he
    have hil : it < s.heap.objs.size := by obtain ⟨_, q, _⟩ := hit; exact Heap.lt_size q
    have D := PySem.Draws.tuple (prog := X.prog) (w := X.w) (A := X.A.in1) (I.ok.hd hc) it a hat its.toArray
    refine PySem.wpAny_pyNext_enum_itemC D he ⟨hit, p⟩ (by obtain ⟨hl, _⟩ := List.getElem?_eq_some_iff.mp hu; simpa using hl) hne (by simp [hne, hea]) fun u' h' tk hu' ho hst hT hsz hk => ?_
    have hu'' : u' = u := by
      have h1 : its[i]? = some u' := by simpa using hu'
      rw [hu] at h1; cases h1; rfl
    subst hu''
    obtain ⟨hit', _⟩ := hst
    refine ⟨_, rfl, wpAny_letOwnedTupleGo_enum (s := { s with heap := h', toks := tk + 1 }) ho fun h'' he' sb => ?_⟩
    have hT2 : h''.get? s.heap.objs.size = some { cls := .type "tuple", data := .seq #[.int i tk, u'] } := (sb.2 _ (Nat.ne_of_gt hel)).trans hT
    have new : ObjOk X.prog X.w (upd H s.heap.objs.size (.tup [.int (i : Nat), x])) h'' s.heap.objs.size (.tup [.int (i : Nat), x]) :=
      ⟨by show 2 ≤ sizeLine; decide, [.int i tk, u'], .cons ⟨_, rfl⟩ (.cons ru .nil), ⟨_, hT2, rfl, _, rfl⟩⟩
    have I1 : Inv X pins σ (upd H s.heap.objs.size (.tup [.int (i : Nat), x])) { s with heap := h'', toks := tk + 1 } :=
      I.turnedNew (ch := [e, it]) (fun b ob hb q => (sb.2 b (fun z => hb (by simp [z]))).trans (hk b ob (fun z => hb (by simp [z])) (fun z => hb (by simp [z])) q)) hf (Nat.le_refl _) new
    refine ⟨.ref s.heap.objs.size, _, I1, rfl, ⟨_, x, rfl, I.hok.fresh (Nat.le_refl _), rfl, fun ys hy => by rw [I.tuple_inj hy hq]; exact hx⟩, ⟨⟨u', ?_⟩, hit'.at fun o q => (sb.2 it (Ne.symm hne)).trans q, hne, hea⟩, fun b hb => ?_⟩
    · have e1 : ((i + 1 : Nat) : Int) = (i : Int) + 1 := by omega
      rw [e1]; exact he'
    · have hb' : b < s.heap.objs.size := by
        have e' : b = e ∨ b = it := by simpa using hb
        rcases e' with z | z
        · rw [z]; exact hel
        · rw [z]; exact hil
      rw [upd_ne (Nat.ne_of_lt hb')]
      exact (hf b hb).1
  done := by
    intro X hP hw hK hc i pins s σ H E I hf st hg
    subst hP hw hK
    obtain ⟨⟨old, he⟩, hit, hne, hea⟩ := st
    obtain ⟨xs, hq, hx⟩ := hg
    obtain ⟨its, rv, p, hz⟩ := I.tuple hq
    obtain ⟨f0, f1, f2, f3, f4, f5⟩ := hf it (by simp)
    have hl := rv.length
    exact PySem.mini_enum_endT (I.ok.hd hc) he hit p (by simp; omega) fun h' eb => ⟨rfl, I.turned (t' := s.toks) (fun b o hb q => eb b o hb q) f0 f1 f3 f4 f5⟩
  self := fun A i s Q E st h => let ⟨⟨_, he⟩, _⟩ := st; wpAny_pyIter_enum he h
def iEnumT (K : PySem.W.Frag) (ta : TA) : TI := fun σ H R => ta σ H fun vs H1 => ∃ a xs, vs = [.ref a] ∧ SqT K H1 a xs ∧ R (IteT K a) H1
theorem pi_enumT {X : Cx} {e : Expr} {ta : TA} {p pos tpos : Pos} {elts : List Expr} {kk : Nat} (hg : Gl X "enumerate") (hm : X.mg "enumerate" = none) (ha : PA X [e] ta) (hs : starEach [e] X.env = [(false, eval e X.env)] := by rfl) :
    PI X (.Tuple elts kk tpos) (.Call (.Name "enumerate" p) [e] [] pos) (iEnumT X.K ta) := by
  refine ⟨fun pins s σ H R I h => ?_⟩
  refine Call_ (ld_blt I hg hm boot_enumerate (PyProof.Rows.callWith_type1 (thn (ha.run pos pins s σ H _ I h) fun us s1 ⟨vs, H1, I1, r1, q1⟩ => ?_) hs rfl))
  obtain ⟨a, xs, ex, hq, q⟩ := q1
  subst ex
  cases r1 with
  | cons r rr =>
    cases rr
    cases r
    obtain ⟨its, rv, p', hz⟩ := I1.tuple hq
    have hal : a < s1.heap.objs.size := by obtain ⟨_, q, _⟩ := p'; exact Heap.lt_size q
    refine PySem.mini_enum_begins (PySem.begins_tuple a its.toArray) p' fun h' he hit hsz hk => wpAny_pyIter_enum he ?_
    have I2 : Inv X pins σ H1 { s1 with heap := h' } := I1.kept (t' := s1.toks) hk
    refine ⟨s1.heap.objs.size + 1, [s1.heap.objs.size + 1, s1.heap.objs.size], _, _, H1, rfl, I2, turn_enumT a (s1.heap.objs.size + 1) s1.heap.objs.size (Nat.ne_of_lt hal), ⟨⟨.none, he⟩, ⟨_, hit, rfl, rfl⟩, Nat.succ_ne_self _, Nat.ne_of_gt (Nat.lt_succ_of_lt hal)⟩, fun b hb => ?_, q⟩
    have e' : b = s1.heap.objs.size + 1 ∨ b = s1.heap.objs.size := by simpa using hb
    have hle : s1.heap.objs.size ≤ b := by
      rcases e' with z | z
      · rw [z]; exact Nat.le_add_right _ _
      · rw [z]; exact Nat.le_refl _
    exact I1.fpOk hle (I1.hok.fresh hle)
end Mini
namespace Mini
open PySem PySem.Spec PyProof.Rows L2
/-! ### sorted of tuples -/
def rSortedD (K : PySem.W.Frag) : List V → Hp → VK → Prop := fun vs H Q => ∃ (a : Addr) (bs : List (V × PyData)), vs = [V.ref a] ∧ SqL K H a (bs.map Prod.fst) ∧ bs.length ≤ 16777216 ∧ (∀ b ∈ bs, Dp K H b.1 b.2) ∧ PySem.W.AllAlike (bs.map Prod.snd) ∧ PySem.W.Sortable (bs.map Prod.snd) ∧ (∀ b ∈ bs, b.2.depth ≤ 60) ∧
  ∀ p, H p = none → Q (.ref p) (upd H p (.lst ((bs.mergeSort (PySem.W.dataLe false Prod.snd)).map Prod.fst)))
theorem each_vals : ∀ {bs : List (V × PyData)} {its : List Value}, Vals (bs.map Prod.fst) its → PySem.W.EachIs (fun v b => RelV b.1 v) its bs
  | [], [], _ => .nil
  | [], _ :: _, h => by cases h
  | _ :: _, [], h => by cases h
  | b :: bs, v :: its, h => by
    cases h with
    | cons h1 h2 => exact .cons h1 (each_vals h2)
theorem vals_each : ∀ {bs : List (V × PyData)} {its : List Value}, PySem.W.EachIs (fun v b => RelV b.1 v) its bs → Vals (bs.map Prod.fst) its
  | [], [], _ => .nil
  | b :: bs, v :: its, h => by
    cases h with
    | cons h1 h2 => exact .cons h1 (vals_each h2)
theorem each_reads {X : Cx} {pins : List (Addr × Obj)} {σ : L2.St} {H : Hp} {s : Shared} (I : L2.Inv X pins σ H s) : ∀ {bs : List (V × PyData)} {its : List Value}, PySem.W.EachIs (fun v b => RelV b.1 v) its bs → (∀ b ∈ bs, Dp X.K H b.1 b.2) → PySem.W.EachIs (fun v (b : V × PyData) => ∃ as, Reads s.heap v b.2 as) its bs
  | [], [], _, _ => .nil
  | b :: bs, v :: its, h, hd => by
    cases h with
    | cons h1 h2 => exact .cons (Dp.reads I b.2 b.1 v (hd b (by simp)) h1) (each_reads I h2 fun c hc => hd c (by simp [hc]))
theorem cr_sortedD {X : Cx} (hu : X.A.units + 64 < cLine) : CallR X (.builtin "sorted") (rSortedD X.K) := by
  intro pins s σ H vs us Q I r h
  obtain ⟨a, bs, rfl, hs, hlen, hd, hal, hk, hdp, q⟩ := h
  obtain ⟨its, rv, hl, hz⟩ := I.list hs
  obtain ⟨u, rfl, ru⟩ := vals1 r
  obtain rfl : u = Value.ref a := ru
  have e := each_vals rv
  refine PySem.W.sorted_data (R := fun v (b : V × PyData) => RelV b.1 v) (enc := Prod.snd) (bs := bs) hl.isList e (each_reads I e hd) hal hk (by have := sizeLine_eq; omega) (fun b hb => by have := hdp b hb; omega) fun out ho hout => ?_
  obtain ⟨n, hn⟩ := sortedAll_at s.heap its (List.toArray out)
  have hv := vals_each hout
  refine ⟨.ref (s.heap.objs.size + 1), upd H (s.heap.objs.size + 1) (.lst ((bs.mergeSort (PySem.W.dataLe false Prod.snd)).map Prod.fst)), I.laid (t' := s.toks) (fun b o => sortedAll_old) (Nat.le_succ _) ⟨?_, out, n, hv, hn⟩, rfl, q _ (I.hok.fresh (Nat.le_succ _))⟩
  rw [List.length_map, List.length_mergeSort]
  have := sizeLine_eq
  omega
/-- sorted, of whole numbers or of tuples -/
def rSortedX (K : PySem.W.Frag) : List V → Hp → VK → Prop := fun vs H Q => rSorted K vs H Q ∨ rSortedD K vs H Q
theorem cr_sortedX {X : Cx} (hu : X.A.units + 64 < cLine) : CallR X (.builtin "sorted") (rSortedX X.K) := by
  intro pins s σ H vs us Q I r h
  rcases h with h | h
  · exact cr_sorted _ _ _ _ _ _ _ I r h
  · exact cr_sortedD hu _ _ _ _ _ _ _ I r h
theorem pys_map : ∀ ds : List D, D.pys ds = ds.map D.py
  | [] => rfl
  | d :: ds => by simp only [D.pys, List.map_cons, pys_map ds]
theorem fine_depth (d : D) (h : d.fine 60 = true) : d.py.depth ≤ 60 := (fine_plain 60 d h).2
theorem repl_zip {K : PySem.W.Frag} {B : Wo} : ∀ {zs : List (V × D)}, (∀ z ∈ zs, Rep K B z.1 z.2) → RepL K B (zs.map Prod.fst) (zs.map Prod.snd)
  | [], _ => .nil
  | z :: zs, h => .cons (h z (by simp)) (repl_zip fun y hy => h y (by simp [hy]))
theorem repl_unzip {K : PySem.W.Frag} {B : Wo} : ∀ {ys : List V} {ds : List D}, RepL K B ys ds → ∃ zs : List (V × D), ys = zs.map Prod.fst ∧ ds = zs.map Prod.snd ∧ ∀ z ∈ zs, Rep K B z.1 z.2
  | [], _, .nil => ⟨[], rfl, rfl, fun z h => by cases h⟩
  | v :: ys, d :: ds, .cons h1 h2 => by
    obtain ⟨zs, rfl, rfl, h⟩ := repl_unzip h2
    exact ⟨(v, d) :: zs, rfl, rfl, fun z hz => by
      rcases List.mem_cons.mp hz with rfl | hz
      · exact h1
      · exact h z hz⟩
/-- tuples that are sorted: what the rule asks, and what comes out -/
theorem sorted_ask {K : PySem.W.Frag} {B : Wo} {H : Hp} (w : Wd B H) {p : Addr} {ys : List V} {ds : List D} (h1 : H p = some (.lst ys)) (h2 : RepL K B ys ds) (ok : sortOkD ds = true) {Q : VK}
    (q : ∀ (ys' : List V) (o : Addr), RepL K B ys' (sortD ds) → H o = none → Q (.ref o) (upd H o (.lst ys'))) : rSortedD K [.ref p] H Q := by
  obtain ⟨zs, rfl, rfl, hz⟩ := repl_unzip h2
  simp only [sortOkD, Bool.and_eq_true, decide_eq_true_eq, List.all_eq_true] at ok
  obtain ⟨hl, ok⟩ := ok
  refine ⟨p, zs.map fun z => (z.1, z.2.py), rfl, ?_, ?_, fun b hb => ?_, ?_, .inl fun d hd => ?_, fun b hb => ?_, fun o ho => ?_⟩
  · have e0 : (zs.map fun z => (z.1, z.2.py)).map Prod.fst = zs.map Prod.fst := by rw [List.map_map]; rfl
    rw [e0]; exact .inl (.inl h1)
  · simpa using hl
  · obtain ⟨z, hz', rfl⟩ := List.mem_map.mp hb
    exact reph_dp w (.of (hz z hz')) (ok z.2 (List.mem_map.mpr ⟨z, hz', rfl⟩)).1.2
  · intro d hd d' hd'
    rw [List.map_map] at hd hd'
    obtain ⟨z, hz1, rfl⟩ := List.mem_map.mp hd
    obtain ⟨y, hy1, rfl⟩ := List.mem_map.mp hd'
    exact (ok z.2 (List.mem_map.mpr ⟨z, hz1, rfl⟩)).2 y.2 (List.mem_map.mpr ⟨y, hy1, rfl⟩)
  · rw [List.map_map] at hd
    obtain ⟨z, hz1, rfl⟩ := List.mem_map.mp hd
    have h := (ok z.2 (List.mem_map.mpr ⟨z, hz1, rfl⟩)).1.1
    show ∃ x r, z.2.py = .tuple (x :: r)
    cases e : z.2 with
    | tup xs =>
      rw [e] at h
      cases xs with
      | nil => simp at h
      | cons x r => exact ⟨x.py, D.pys r, rfl⟩
    | _ => rw [e] at h; simp at h
  · obtain ⟨z, hz', rfl⟩ := List.mem_map.mp hb
    exact fine_depth _ (ok z.2 (List.mem_map.mpr ⟨z, hz', rfl⟩)).1.2
  · have e1 : ((zs.map fun z => (z.1, z.2.py)).mergeSort (PySem.W.dataLe false Prod.snd)).map Prod.fst = (zs.mergeSort fun a b => !PySem.W.dataLt b.2.py a.2.py).map Prod.fst := by
      have := List.map_mergeSort (r := fun a b : V × D => !PySem.W.dataLt b.2.py a.2.py) (s := PySem.W.dataLe false (Prod.snd : V × PyData → PyData)) (f := fun z : V × D => (z.1, z.2.py)) (l := zs) (fun a _ b _ => by rw [PySem.W.dataLe_eq]; rfl)
      rw [← this, List.map_map]
      rfl
    have e2 : sortD (zs.map Prod.snd) = (zs.mergeSort fun a b => !PySem.W.dataLt b.2.py a.2.py).map Prod.snd :=
      (List.map_mergeSort (r := fun a b : V × D => !PySem.W.dataLt b.2.py a.2.py) (s := fun a b : D => !PySem.W.dataLt b.py a.py) (f := Prod.snd) (l := zs) (fun a _ b _ => rfl)).symm
    have hr : RepL K B ((zs.mergeSort fun a b => !PySem.W.dataLt b.2.py a.2.py).map Prod.fst) (sortD (zs.map Prod.snd)) := by
      rw [e2]
      exact repl_zip fun z hz1 => hz z ((List.mergeSort_perm zs _).mem_iff.mp hz1)
    rw [e1]
    exact q _ o hr ho
end Mini
namespace Mini
open PySem PySem.Spec PyProof.Rows L2
section
variable {X : Cx} {c : Call} {Γ : CT} {w0 n : Nat} {ds : List Def} {sc : Scope} {N : List Str}
variable {a b e t : Expr} {x y z : E} {pos : Pos} {es : List Expr} {xs : Es}

/-! ### subscripts, slices -/
theorem ixN_len {m : Nat} {i : Int} {j : Nat} (h : ixN m i = some j) : j < m := (ixN_seq h).2.1
theorem atI_rep {K : PySem.W.Frag} {B : Wo} {vs : List V} {es : List D} {i : Int} {d : D} (r : RepL K B vs es) (h : atI es i = some d) : ∃ v, atI vs i = some v ∧ Rep K B v d := by
  unfold atI at h ⊢
  rw [r.len]
  cases e1 : ixN es.length i with
  | none => rw [e1] at h; cases h
  | some j =>
    rw [e1] at h
    exact r.get (i := j) h
def IxD (X : Cx) (k : Ky) (x y z : D) : Prop := ∃ r, IxR X r ∧ ∀ B H vx vy Q, Wd B H → StoreAt X.K k B H → Rep X.K B vx x → Rep X.K B vy y → (∀ v B' H', Ge B H B' H' → StoreAt X.K k B' H' → Rep X.K B' v z → Q v H') → r vx vy H Q
theorem ix_ok {k : Ky} {x y z : D} (h : idxSem k x y = some z) : IxD X k x y z := by
  unfold idxSem at h
  split at h
  · rename_i es i
    refine ⟨_, ix_list, fun B H vx vy Q w s rx ry q => ?_⟩
    cases rx with
    | @lst p vs _ h1 h2 =>
    cases ry
    obtain ⟨v, h3, h4⟩ := atI_rep h2 h
    exact ⟨p, vs, i, v, rfl, rfl, .inl (.inl (w.sub _ _ h1)), h3, fin_d w s h4 q⟩
  · rename_i es i
    refine ⟨_, ix_list, fun B H vx vy Q w s rx ry q => ?_⟩
    cases rx with
    | @scr p vs _ h1 h2 =>
    cases ry
    obtain ⟨v, h3, h4⟩ := atI_rep h2 h
    exact ⟨p, vs, i, v, rfl, rfl, ext_l w.sub h1, h3, fin_d w s h4 q⟩
  · rename_i es i
    refine ⟨_, ix_tup, fun B H vx vy Q w s rx ry q => ?_⟩
    cases rx with
    | @tup p vs _ h1 h2 =>
    cases ry
    obtain ⟨v, h3, h4⟩ := atI_rep h2 h
    exact ⟨p, vs, i, v, rfl, rfl, ext_t w.sub h1, h3, fin_d w s h4 q⟩
  · rename_i st i
    split at h
    · rename_i hz
      cases e1 : atI st.cps.toList i with
      | none => rw [e1] at h; cases h
      | some ch =>
        rw [e1] at h
        cases h
        refine ⟨_, ix_str, fun B H vx vy Q w s rx ry q => ?_⟩
        cases rx
        cases ry
        exact ⟨st, i, ch, rfl, rfl, line_of hz, e1, fin_d w s (.str _) q⟩
    · cases h
  · rename_i r i
    split at h
    · rename_i es hk
      refine ⟨_, ix_list, fun B H vx vy Q w s rx ry q => ?_⟩
      cases rx with
      | @ref p _ hp =>
      cases ry
      obtain ⟨vs, h1, h2, _⟩ := s.at' _ _ _ hp hk
      obtain ⟨v, h3, h4⟩ := atI_rep h2 h
      exact ⟨p, vs, i, v, rfl, rfl, .inl (.inl h1), h3, fin_d w s h4 q⟩
    · cases h
  · cases h
theorem d_idx (hb0 : plainE b = true) (ha : PED X c a x) (hb : PED X c b y) : PED X c (.Subscript a b pos) (.idx x y) := by
  intro ρ mu k d k' he hav
  simp only [evE] at he
  simp only [avE, Bool.and_eq_true] at hav
  split at he
  · cases he
  rename_i d1 k1 e1
  split at he
  · cases he
  rename_i d2 k2 e2
  cases e3 : idxSem k2 d1 d2 with
  | none => rw [e3] at he; cases he
  | some z =>
    rw [e3] at he
    simp only [Option.map_some, Option.some.injEq, Prod.mk.injEq] at he
    obtain ⟨rfl, rfl⟩ := he
    obtain ⟨r, hr, hq⟩ := ix_ok (X := X) e3
    refine (pe_ix hr (ha ρ mu k d1 k1 e1 hav.1) (hb ρ mu k1 d2 _ e2 hav.2) (plainIx_of hb0)).wk fun σ H Q ⟨B, w, s, ri, q⟩ => ?_
    exact ⟨B, w, s, ri, fun v1 B1 H1 g1 s1 r1 => ⟨B1, g1.wd, s1, ri.ext g1.bb, fun v2 B2 H2 g2 s2 r2 =>
      hq B2 H2 v1 v2 Q g2.wd s2 (Rep.ext g2.bb _ _ r1) r2 fun v B' H' g s r => q v B' H' (g1.trans (g2.trans g)) s r⟩⟩
def SliD (X : Cx) (x : D) (lo hi : Option Int) (z : D) : Prop := ∃ r, SlR X r ∧ ∀ B H k vx Q, Wd B H → StoreAt X.K k B H → RepH X.K B H vx x → (∀ v B' H', Ge B H B' H' → StoreAt X.K k B' H' → Rep X.K B' v z → Q v H') → r vx lo hi H Q
theorem cut_rep {K : PySem.W.Frag} {B : Wo} {vs : List V} {es : List D} (r : RepL K B vs es) (lo hi : Option Int) : RepL K B (cutV vs lo hi) (cutD es lo hi) := by
  unfold cutV cutD
  rw [r.len]
  exact (r.drop _).take _
theorem sli_ok {x z : D} {lo hi : Option Int} (h : sliSem x lo hi = some z) : SliD X x lo hi z := by
  unfold sliSem at h
  split at h
  · rename_i es
    cases h
    refine ⟨_, sl_list, fun B H k vx Q w s rx q => ?_⟩
    obtain ⟨p, vs, rfl, h1, h2⟩ := rx.l w
    exact ⟨p, vs, rfl, .inl (.inl h1), fun o ho => fin_new w s ho (rep_lst_new (w.gone ho) (cut_rep h2 lo hi)) q⟩
  · rename_i es
    cases h
    refine ⟨_, sl_list, fun B H k vx Q w s rx q => ?_⟩
    have rx := rx.o (fun _ e => by cases e)
    cases rx with
    | @scr p vs _ h1 h2 =>
    exact ⟨p, vs, rfl, ext_l w.sub h1, fun o ho => fin_new w s ho (rep_lst_new (w.gone ho) (cut_rep h2 lo hi)) q⟩
  · rename_i es
    cases h
    refine ⟨_, sl_tupA, fun B H k vx Q w s rx q => ?_⟩
    have rx := rx.o (fun _ e => by cases e)
    cases rx with
    | @tup p vs _ h1 h2 =>
    refine ⟨p, vs, rfl, ext_t w.sub h1, fun hw => ?_, fun _ o ho => fin_new w s ho (rep_tup_new (w.gone ho) (cut_rep h2 lo hi)) q⟩
    have e1 : cutD es lo hi = es := by
      unfold cutD
      rw [← h2.len, hw.1, hw.2]
      simp [h2.len]
    rw [e1] at q
    exact fin_d w s (.tup h1 h2) q
  · cases h
/-- a part of a slice -/
def tDO (K : PySem.W.Frag) (ρ : Rho) (mu : List Nat) (k : Ky) (o : Option Int) (k' : Ky) : TO := fun σ H Q =>
  ∃ B, Wd B H ∧ StoreAt K k B H ∧ RI K B mu ρ σ ∧ ∀ B' H', Ge B H B' H' → StoreAt K k' B' H' → Q o H'
theorem _root_.L2.PO.wk {X : Cx} {e : Option Expr} {t t' : TO} (h : PO X e t) (w : ∀ σ H Q, t' σ H Q → t σ H Q) : PO X e t' := ⟨fun pins s σ H Q I hw => h.run pins s σ H Q I (w _ _ _ hw)⟩
theorem o_none {ρ : Rho} {mu : List Nat} {k : Ky} : PO X none (tDO X.K ρ mu k none k) := po_none.wk fun σ H Q ⟨B, w, s, ri, q⟩ => q B H (Ge.refl w) s
theorem o_some {ρ : Rho} {mu : List Nat} {k k' : Ky} {i : Int} (h : PED X c a x) (he : evE c x ρ k = some (.int i, k')) (hav : avE mu x = true) : PO X (some a) (tDO X.K ρ mu k (some i) k') :=
  (po_some (h ρ mu k _ _ he hav)).wk fun σ H Q ⟨B, w, s, ri, q⟩ => ⟨B, w, s, ri, fun v B' H' g s' r' => by cases r'; exact ⟨i, rfl, q B' H' g s'⟩⟩
theorem d_sliG {lo hi : Option Expr} {ρ : Rho} {mu : List Nat} {k k1 k2 k3 : Ky} {d d' : D} {l h : Option Int} {p2 : Pos} (ha : PE X a (tD X.K ρ mu k d k1)) (hl : PO X lo (tDO X.K ρ mu k1 l k2)) (hh : PO X hi (tDO X.K ρ mu k2 h k3)) (hs : sliSem (deref k3 d) l h = some d') :
    PE X (.Subscript a (.Slice lo hi none p2) pos) (tD X.K ρ mu k d' k3) := by
  obtain ⟨r, hr, hq⟩ := sli_ok (X := X) hs
  refine (pe_slice hr ha hl hh).wk fun σ H Q ⟨B, w, s, ri, q⟩ => ?_
  refine ⟨B, w, s, ri, fun v1 B1 H1 g1 s1 r1 => ⟨B1, g1.wd, s1, ri.ext g1.bb, fun B2 H2 g2 s2 => ⟨B2, g2.wd, s2, (ri.ext g1.bb).ext g2.bb, fun B3 H3 g3 s3 => ?_⟩⟩⟩
  exact hq B3 H3 k3 v1 Q g3.wd s3 (deref_rep s3 (Rep.ext (g2.bb.trans g3.bb) _ _ r1)) fun v B' H' g s r => q v B' H' (g1.trans (g2.trans (g3.trans g))) s r
theorem d_sli0 {p2 : Pos} {u v : E} (ha : PED X c a x) : PED X c (.Subscript a (.Slice none none none p2) pos) (.sli 0 x u v) := by
  intro ρ mu k d k' he hav
  simp only [avE, Bool.and_eq_true] at hav
  simp only [evE] at he
  split at he
  · cases he
  rename_i d1 k1 e1
  simp only [show (0 == 1 || 0 == 3 : Bool) = false from rfl, show (0 == 2 || 0 == 3 : Bool) = false from rfl, Bool.false_eq_true, if_false] at he
  cases e3 : sliSem (deref k1 d1) none none with
  | none => rw [e3] at he; cases he
  | some z =>
    rw [e3] at he
    simp only [Option.map_some, Option.some.injEq, Prod.mk.injEq] at he
    obtain ⟨rfl, rfl⟩ := he
    exact d_sliG (ha ρ mu k d1 _ e1 hav.1.1) o_none o_none e3
theorem d_sli1 {p2 : Pos} {u v : E} {lo : Expr} (ha : PED X c a x) (hl : PED X c lo u) : PED X c (.Subscript a (.Slice (some lo) none none p2) pos) (.sli 1 x u v) := by
  intro ρ mu k d k' he hav
  simp only [avE, Bool.and_eq_true] at hav
  simp only [evE] at he
  split at he
  · cases he
  rename_i d1 k1 e1
  simp only [show (1 == 1 || 1 == 3 : Bool) = true from rfl, show (1 == 2 || 1 == 3 : Bool) = false from rfl, Bool.false_eq_true, if_false, if_true] at he
  split at he
  · cases he
  rename_i l k2 e2
  split at e2
  · rename_i i k2' e2'
    cases e2
    cases e3 : sliSem (deref k2 d1) (some i) none with
    | none => rw [e3] at he; cases he
    | some z =>
      rw [e3] at he
      simp only [Option.map_some, Option.some.injEq, Prod.mk.injEq] at he
      obtain ⟨rfl, rfl⟩ := he
      exact d_sliG (ha ρ mu k d1 _ e1 hav.1.1) (o_some hl e2' hav.1.2) o_none e3
  · cases e2
theorem d_sli2 {p2 : Pos} {u v : E} {hi : Expr} (ha : PED X c a x) (hl : PED X c hi v) : PED X c (.Subscript a (.Slice none (some hi) none p2) pos) (.sli 2 x u v) := by
  intro ρ mu k d k' he hav
  simp only [avE, Bool.and_eq_true] at hav
  simp only [evE] at he
  split at he
  · cases he
  rename_i d1 k1 e1
  simp only [show (2 == 1 || 2 == 3 : Bool) = false from rfl, show (2 == 2 || 2 == 3 : Bool) = true from rfl, Bool.false_eq_true, if_false, if_true] at he
  split at he
  · cases he
  rename_i l k2 e2
  split at e2
  · rename_i i k2' e2'
    cases e2
    cases e3 : sliSem (deref k2 d1) none (some i) with
    | none => rw [e3] at he; cases he
    | some z =>
      rw [e3] at he
      simp only [Option.map_some, Option.some.injEq, Prod.mk.injEq] at he
      obtain ⟨rfl, rfl⟩ := he
      exact d_sliG (ha ρ mu k d1 _ e1 hav.1.1) o_none (o_some hl e2' hav.2) e3
  · cases e2
theorem d_sli3 {p2 : Pos} {u v : E} {lo hi : Expr} (ha : PED X c a x) (hl : PED X c lo u) (hh : PED X c hi v) : PED X c (.Subscript a (.Slice (some lo) (some hi) none p2) pos) (.sli 3 x u v) := by
  intro ρ mu k d k' he hav
  simp only [avE, Bool.and_eq_true] at hav
  simp only [evE] at he
  split at he
  · cases he
  rename_i d1 k1 e1
  simp only [show (3 == 1 || 3 == 3 : Bool) = true from rfl, show (3 == 2 || 3 == 3 : Bool) = true from rfl, if_true] at he
  split at he
  · cases he
  rename_i l k2 e2
  split at e2
  · rename_i i k2' e2'
    cases e2
    split at he
    · cases he
    rename_i h k3 e4
    split at e4
    · rename_i j k4' e4'
      cases e4
      cases e3 : sliSem (deref k3 d1) (some i) (some j) with
      | none => rw [e3] at he; cases he
      | some z =>
        rw [e3] at he
        simp only [Option.map_some, Option.some.injEq, Prod.mk.injEq] at he
        obtain ⟨rfl, rfl⟩ := he
        exact d_sliG (ha ρ mu k d1 _ e1 hav.1.1) (o_some hl e2' hav.1.2) (o_some hh e4' hav.2) e3
    · cases e4
  · cases e2

/-! ### calls -/
theorem glob_of (hx : XF Γ w0 ds n sc N X) {s : Str} (hg : glob sc s = true) : Gl X s ∧ (s == ("__debug__" : Str)) = false ∧ s ≠ ("__name__" : Str) := by
  unfold glob isGl okName at hg
  simp only [Bool.and_eq_true, Bool.not_eq_true'] at hg
  refine ⟨?_, hg.2.1.1, fun e => ?_⟩
  · show X.env.scope.names.lookup s = _
    rw [hx.sc]
    have h1 := hg.1
    split at h1
    · assumption
    · cases h1
  · have := hg.2.2
    subst e
    simp at this
theorem d_call (hx : XF Γ w0 ds n sc N X) (hc : c = run w0 ds n) {s : Str} {p : Pos} {i : Nat} (hg : glob sc s = true) (hf : Γ.fns.lookup s = some i) (hne : es ≠ []) (hes : ∀ e ∈ es, plainE e = true) (ha : PAD X c es xs) : PED X c (.Call (.Name s p) es [] pos) (.call i xs) := by
  intro ρ mu k d k' he hav
  simp only [avE] at hav
  simp only [evE] at he
  split at he
  · cases he
  rename_i d1 k1 e1
  obtain ⟨h1, h2, h3⟩ := glob_of hx hg
  obtain ⟨f, fd, ps, F, hm, hk, hb⟩ := hx.F.fns s i hf
  subst hc
  have rd : ∀ t σ H Q, (∀ σ H Q, tDs X.K ρ mu k d1 k1 σ H Q → t σ H Q) → tD X.K ρ mu k d k' σ H Q → tCall (spOf X.K w0 ds n i) [] E0 t σ H Q := by
    intro t σ H Q ht ⟨B, w, s, ri, q⟩
    refine ht _ _ _ ⟨B, w, s, ri, fun vs B1 H1 g1 s1 r1 => ?_⟩
    show spOf X.K w0 ds n i (vs ++ []) H1 Q E0
    rw [List.append_nil]
    exact ⟨B1, k1, d1, d, k', g1.wd, s1, r1, he, fun v B2 H2 g2 s2 r2 => q v B2 H2 (g1.trans g2) s2 r2⟩
  cases es with
  | nil => exact absurd rfl hne
  | cons e es =>
    exact (pe_call F hx.room h1 hm hk hb .nil pass0 (ha ρ mu k d1 k1 e1 hav) h2 (star_of (hes e List.mem_cons_self) es X.env) (noStar_of fun u hu => hes u (List.mem_cons_of_mem _ hu))).wk fun σ H Q h => rd _ σ H Q (fun _ _ _ h => h) h
theorem d_call0 (hx : XF Γ w0 ds n sc N X) (hc : c = run w0 ds n) {s : Str} {p : Pos} {i : Nat} (hg : glob sc s = true) (hf : Γ.fns.lookup s = some i) : PED X c (.Call (.Name s p) [] [] pos) (.call i .nil) := by
  intro ρ mu k d k' he hav
  simp only [evE, evEs] at he
  obtain ⟨h1, h2, h3⟩ := glob_of hx hg
  obtain ⟨f, fd, ps, F, hm, hk, hb⟩ := hx.F.fns s i hf
  subst hc
  refine (pe_call0 F hx.room h1 hm hk hb .nil pass0 h2).wk fun σ H Q ⟨B, w, s, ri, q⟩ => ?_
  exact ⟨B, k, [], d, k', w, s, .nil, he, fun v B2 H2 g2 s2 r2 => q v B2 H2 g2 s2 r2⟩

/-! ### built-in functions -/
def CaD (X : Cx) (f : Value) (as : List D) (z : D) : Prop := ∃ r, CallR X f r ∧ ∀ B H k vs Q, Wd B H → StoreAt X.K k B H → RepHL X.K B H vs as → (∀ v B' H', Ge B H B' H' → StoreAt X.K k B' H' → Rep X.K B' v z → Q v H') → r vs H Q
theorem toInts_map : ∀ {es : List D} {ns : List Int}, toInts es = some ns → es = ns.map D.int
  | [], ns, h => by cases h; rfl
  | .int i :: r, ns, h => by
    simp only [toInts] at h
    cases e : toInts r with
    | none => rw [e] at h; cases h
    | some ms => rw [e] at h; cases h; rw [toInts_map e]; rfl
  | .non :: _, _, h => by cases h
  | .bl _ :: _, _, h => by cases h
  | .str _ :: _, _, h => by cases h
  | .tup _ :: _, _, h => by cases h
  | .lst _ :: _, _, h => by cases h
  | .scr _ :: _, _, h => by cases h
  | .ref _ :: _, _, h => by cases h
theorem toBls_map : ∀ {es : List D} {ns : List Bool}, toBls es = some ns → es = ns.map D.bl
  | [], ns, h => by cases h; rfl
  | .bl i :: r, ns, h => by
    simp only [toBls] at h
    cases e : toBls r with
    | none => rw [e] at h; cases h
    | some ms => rw [e] at h; cases h; rw [toBls_map e]; rfl
  | .non :: _, _, h => by cases h
  | .int _ :: _, _, h => by cases h
  | .str _ :: _, _, h => by cases h
  | .tup _ :: _, _, h => by cases h
  | .lst _ :: _, _, h => by cases h
  | .scr _ :: _, _, h => by cases h
  | .ref _ :: _, _, h => by cases h
theorem RepL.bls {K : PySem.W.Frag} {B : Wo} : ∀ {vs : List V} (ns : List Bool), RepL K B vs (ns.map D.bl) → vs = ns.map V.bl
  | _, [], .nil => rfl
  | _, n :: ns, .cons r t => by cases r; rw [RepL.bls ns t]; rfl
theorem maxL_spec : ∀ (ns : List Int) (m : Int), (maxL m ns = m ∨ maxL m ns ∈ ns) ∧ m ≤ maxL m ns ∧ ∀ y ∈ ns, y ≤ maxL m ns
  | [], m => ⟨.inl rfl, Int.le_refl _, fun y h => by cases h⟩
  | x :: r, m => by
    obtain ⟨h1, h2, h3⟩ := maxL_spec r (if m < x then x else m)
    simp only [maxL]
    split at h1 <;> rename_i hlt <;> simp only [hlt, if_true, if_false] at h2 h3 ⊢
    · exact ⟨.inr (by rcases h1 with h | h; · rw [h]; exact List.mem_cons_self
                      · exact List.mem_cons_of_mem _ h), by omega, fun y hy => by
        rcases List.mem_cons.mp hy with rfl | hy
        · exact h2
        · exact h3 y hy⟩
    · exact ⟨by rcases h1 with h | h; · exact .inl h
                · exact .inr (List.mem_cons_of_mem _ h), h2, fun y hy => by
        rcases List.mem_cons.mp hy with rfl | hy
        · omega
        · exact h3 y hy⟩
theorem minL_spec : ∀ (ns : List Int) (m : Int), (minL m ns = m ∨ minL m ns ∈ ns) ∧ minL m ns ≤ m ∧ ∀ y ∈ ns, minL m ns ≤ y
  | [], m => ⟨.inl rfl, Int.le_refl _, fun y h => by cases h⟩
  | x :: r, m => by
    obtain ⟨h1, h2, h3⟩ := minL_spec r (if x < m then x else m)
    simp only [minL]
    split at h1 <;> rename_i hlt <;> simp only [hlt, if_true, if_false] at h2 h3 ⊢
    · exact ⟨.inr (by rcases h1 with h | h; · rw [h]; exact List.mem_cons_self
                      · exact List.mem_cons_of_mem _ h), by omega, fun y hy => by
        rcases List.mem_cons.mp hy with rfl | hy
        · exact h2
        · exact h3 y hy⟩
    · exact ⟨by rcases h1 with h | h; · exact .inl h
                · exact .inr (List.mem_cons_of_mem _ h), h2, fun y hy => by
        rcases List.mem_cons.mp hy with rfl | hy
        · omega
        · exact h3 y hy⟩
theorem max_uniq {n m : Int} {ns : List Int} (h1 : m ∈ n :: ns) (h2 : ∀ y, y ∈ n :: ns → y ≤ m) : m = maxL n ns := by
  obtain ⟨g1, g2, g3⟩ := maxL_spec ns n
  have a1 : m ≤ maxL n ns := by
    rcases List.mem_cons.mp h1 with rfl | h
    · exact g2
    · exact g3 m h
  have a2 : maxL n ns ≤ m := by
    rcases g1 with h | h
    · rw [h]; exact h2 n List.mem_cons_self
    · exact h2 _ (List.mem_cons_of_mem _ h)
  omega
theorem min_uniq {n m : Int} {ns : List Int} (h1 : m ∈ n :: ns) (h2 : ∀ y, y ∈ n :: ns → m ≤ y) : m = minL n ns := by
  obtain ⟨g1, g2, g3⟩ := minL_spec ns n
  have a1 : minL n ns ≤ m := by
    rcases List.mem_cons.mp h1 with rfl | h
    · exact g2
    · exact g3 m h
  have a2 : m ≤ minL n ns := by
    rcases g1 with h | h
    · rw [h]; exact h2 n List.mem_cons_self
    · exact h2 _ (List.mem_cons_of_mem _ h)
  omega
theorem insI_perm (x : Int) : ∀ l : List Int, (insI x l).Perm (x :: l)
  | [] => .refl _
  | y :: r => by
    unfold insI
    split
    · exact .refl _
    · exact (List.Perm.cons y (insI_perm x r)).trans (.swap x y r)
theorem sortI_perm : ∀ l : List Int, (sortI l).Perm l
  | [] => .refl _
  | x :: r => (insI_perm x (sortI r)).trans (List.Perm.cons x (sortI_perm r))
theorem insI_sorted (x : Int) : ∀ l : List Int, l.Pairwise (· ≤ ·) → (insI x l).Pairwise (· ≤ ·)
  | [], _ => by simp [insI]
  | y :: r, h => by
    unfold insI
    have h' := List.pairwise_cons.mp h
    split
    · rename_i hxy
      refine List.pairwise_cons.mpr ⟨fun z hz => ?_, h⟩
      rcases List.mem_cons.mp hz with rfl | hz
      · exact hxy
      · exact Int.le_trans hxy (h'.1 z hz)
    · rename_i hxy
      refine List.pairwise_cons.mpr ⟨fun z hz => ?_, insI_sorted x r h'.2⟩
      rcases List.mem_cons.mp ((insI_perm x r).mem_iff.mp hz) with rfl | hz
      · omega
      · exact h'.1 z hz
theorem sortI_sorted : ∀ l : List Int, (sortI l).Pairwise (· ≤ ·)
  | [] => .nil
  | x :: r => insI_sorted x _ (sortI_sorted r)
theorem repl_one {K : PySem.W.Frag} {B : Wo} {vs : List V} {d : D} (r : RepL K B vs [d]) : ∃ v, vs = [v] ∧ Rep K B v d := by
  cases r with
  | cons h1 h2 => cases h2; exact ⟨_, rfl, h1⟩
theorem repl_two {K : PySem.W.Frag} {B : Wo} {vs : List V} {d d' : D} (r : RepL K B vs [d, d']) : ∃ v v', vs = [v, v'] ∧ Rep K B v d ∧ Rep K B v' d' := by
  cases r with
  | cons h1 h2 =>
    cases h2 with
    | cons h3 h4 => cases h4; exact ⟨_, _, rfl, h1, h3⟩
/-- the built-in behind a name -/
def biV : BI → Value
  | .len => .builtin "len" | .int => .type "int" | .sum => .builtin "sum" | .max => .builtin "max" | .min => .builtin "min" | .abs => .builtin "abs"
  | .all => .builtin "all" | .any => .builtin "any" | .tuple => .type "tuple" | .list => .type "list" | .gcd => .builtin "math.gcd" | .sorted => .builtin "sorted" | .divmod => .builtin "divmod"
theorem dpAll_ints {K : PySem.W.Frag} {H : Hp} : ∀ ns : List Int, DpAll K H (ns.map V.int) (ns.map PyData.int)
  | [] => .nil
  | n :: ns => .cons (.int n) (dpAll_ints ns)
theorem alike_ints1 (ns : List Int) : PySem.W.AlikeAll (ns.map PyData.int) := by
  refine ⟨fun x hx y hy => ?_, fun x hx => ?_⟩
  · obtain ⟨i, _, rfl⟩ := List.mem_map.mp hx
    obtain ⟨j, _, rfl⟩ := List.mem_map.mp hy
    rfl
  · obtain ⟨i, _, rfl⟩ := List.mem_map.mp hx
    intro e; cases e
theorem depth_ints1 : ∀ (ns : List Int), PyData.depthAll (ns.map PyData.int) = 0
  | [] => rfl
  | n :: ns => by
    simp only [List.map_cons, PyData.depthAll, depth_ints1 ns, PyData.depth]
    rfl
theorem fold_max : ∀ (ns : List Int) (n : Int), ns.foldl max n = maxL n ns
  | [], _ => rfl
  | x :: r, n => by
    rw [List.foldl_cons, fold_max r, maxL]
    congr 1
    by_cases h : n < x
    · rw [if_pos h]; omega
    · rw [if_neg h]; omega
theorem fold_min : ∀ (ns : List Int) (n : Int), ns.foldl min n = minL n ns
  | [], _ => rfl
  | x :: r, n => by
    rw [List.foldl_cons, fold_min r, minL]
    congr 1
    by_cases h : x < n
    · rw [if_pos h]; omega
    · rw [if_neg h]; omega
def rMaxT (K : PySem.W.Frag) (f : Int → List Int → Int) : List V → Hp → VK → Prop := fun vs H Q => ∃ (a : Addr) (n : Int) (ns : List Int), vs = [V.ref a] ∧ SqT K H a ((n :: ns).map V.int) ∧ Q (.int (f n ns)) H
theorem cr_maxT (hc : X.calm = true) (hu : X.A.units + 64 < cLine) : CallR X (.builtin "max") (rMaxT X.K maxL) := by
  intro pins s σ H vs us Q I r h
  obtain ⟨a, n, ns, rfl, hs, q⟩ := h
  obtain ⟨u, rfl, ru⟩ := vals1 r
  obtain rfl : u = Value.ref a := ru
  obtain ⟨as, r1⟩ := Dp.reads I (.tuple ((n :: ns).map .int)) (.ref a) (.ref a) (.tup hs (dpAll_ints _)) rfl
  cases r1 with
  | tuple h1 h2 h3 h4 =>
  refine PySem.W.max_tuple_data (I.ok.hd hc) ⟨_, h1, h2, _, h3⟩ h4 (alike_ints1 (n :: ns)) (by have := depth_ints1 (n :: ns); rw [List.map_cons] at this; omega) fun i v h' tk bs _ rv hk => ?_
  rw [PySem.W.maxD_ints, fold_max] at rv
  cases rv
  exact ⟨.int _, H, I.kept hk, ⟨_, rfl⟩, q⟩
theorem cr_minT (hc : X.calm = true) (hu : X.A.units + 64 < cLine) : CallR X (.builtin "min") (rMaxT X.K minL) := by
  intro pins s σ H vs us Q I r h
  obtain ⟨a, n, ns, rfl, hs, q⟩ := h
  obtain ⟨u, rfl, ru⟩ := vals1 r
  obtain rfl : u = Value.ref a := ru
  obtain ⟨as, r1⟩ := Dp.reads I (.tuple ((n :: ns).map .int)) (.ref a) (.ref a) (.tup hs (dpAll_ints _)) rfl
  cases r1 with
  | tuple h1 h2 h3 h4 =>
  refine PySem.W.min_tuple_data (I.ok.hd hc) ⟨_, h1, h2, _, h3⟩ h4 (alike_ints1 (n :: ns)) (by have := depth_ints1 (n :: ns); rw [List.map_cons] at this; omega) fun i v h' tk bs _ rv hk => ?_
  rw [PySem.W.minD_ints, fold_min] at rv
  cases rv
  exact ⟨.int _, H, I.kept hk, ⟨_, rfl⟩, q⟩
theorem bi_ok (hc : X.calm = true) (hu : X.A.units + 64 < cLine) {f : BI} {as : List D} {z : D} (h : biSem f as = some z) : CaD X (biV f) as z := by
  unfold biSem at h
  split at h
  · rename_i es
    cases h
    refine ⟨_, call_len_seq, fun B H k vs Q w s r q => ?_⟩
    obtain ⟨v, rfl, rv⟩ := reph_one r
    obtain ⟨p, ys, rfl, h1, h2⟩ := rv.l w
    exact ⟨p, ys, rfl, .inl (.inl (.inl h1)), by rw [h2.len]; exact fin_d w s (.int _) q⟩
  · rename_i es
    cases h
    refine ⟨_, call_len_seq, fun B H k vs Q w s r q => ?_⟩
    obtain ⟨v, rfl, rv⟩ := reph_one r
    have rv := rv.o (fun _ e => by cases e)
    cases rv with
    | @tup p ys _ h1 h2 => exact ⟨p, ys, rfl, .inr (ext_t w.sub h1), by rw [h2.len]; exact fin_d w s (.int _) q⟩
  · rename_i es
    cases h
    refine ⟨_, call_len_seq, fun B H k vs Q w s r q => ?_⟩
    obtain ⟨v, rfl, rv⟩ := reph_one r
    have rv := rv.o (fun _ e => by cases e)
    cases rv with
    | @scr p ys _ h1 h2 => exact ⟨p, ys, rfl, .inl (ext_l w.sub h1), by rw [h2.len]; exact fin_d w s (.int _) q⟩
  · rename_i st
    split at h <;> cases h
    rename_i hz
    refine ⟨_, call_len_str, fun B H k vs Q w s r q => ?_⟩
    obtain ⟨v, rfl, rv⟩ := reph_one r
    have rv := rv.o (fun _ e => by cases e)
    cases rv
    exact ⟨st, rfl, line_of hz, fin_d w s (.int _) q⟩
  · rename_i i
    cases h
    refine ⟨_, call_int1, fun B H k vs Q w s r q => ?_⟩
    obtain ⟨v, rfl, rv⟩ := reph_one r
    have rv := rv.o (fun _ e => by cases e)
    cases rv
    exact .inl ⟨i, rfl, fin_d w s (.int _) q⟩
  · rename_i i
    cases h
    refine ⟨_, call_int1, fun B H k vs Q w s r q => ?_⟩
    obtain ⟨v, rfl, rv⟩ := reph_one r
    have rv := rv.o (fun _ e => by cases e)
    cases rv
    exact .inr ⟨i, rfl, fin_d w s (.int _) q⟩
  · rename_i es
    cases e : toInts es with
    | none => rw [e] at h; cases h
    | some ns =>
      rw [e] at h
      cases h
      obtain rfl := toInts_map e
      refine ⟨_, cr_sum hc, fun B H k vs Q w s r q => ?_⟩
      obtain ⟨v, rfl, rv⟩ := reph_one r
      obtain ⟨p, ys, rfl, h1, h2⟩ := rv.l w
      obtain rfl := h2.ints
      exact ⟨p, ns, rfl, .inl (.inl h1), fin_d w s (.int _) q⟩
  · rename_i i j
    cases h
    refine ⟨_, call_max2 hc, fun B H k vs Q w s r q => ?_⟩
    obtain ⟨v, v', rfl, rv, rv'⟩ := reph_two r
    have rv := rv.o (fun _ e => by cases e)
    have rv' := rv'.o (fun _ e => by cases e)
    cases rv
    cases rv'
    exact ⟨i, j, rfl, fin_d w s (.int _) q⟩
  · rename_i es
    split at h
    · rename_i m ns e
      cases h
      obtain rfl := toInts_map e
      refine ⟨_, cr_maxT hc hu, fun B H k vs Q w s r q => ?_⟩
      obtain ⟨v, rfl, rv⟩ := reph_one r
      have rv := rv.o (fun _ e => by cases e)
      cases rv with
      | @tup p ys _ h1 h2 =>
        obtain rfl := h2.ints
        exact ⟨p, m, ns, rfl, ext_t w.sub h1, fin_d w s (.int _) q⟩
    · cases h
  · rename_i es
    split at h
    · rename_i m ns e
      cases h
      obtain rfl := toInts_map e
      refine ⟨_, cr_max hc, fun B H k vs Q w s r q => ?_⟩
      obtain ⟨v, rfl, rv⟩ := reph_one r
      obtain ⟨p, ys, rfl, h1, h2⟩ := rv.l w
      obtain rfl := h2.ints
      refine ⟨p, m :: ns, rfl, .inl (.inl h1), Nat.succ_pos _, fun mm e1 e2 => ?_⟩
      rw [max_uniq e1 e2]
      exact fin_d w s (.int _) q
    · cases h
  · rename_i i j
    cases h
    refine ⟨_, call_min2 hc, fun B H k vs Q w s r q => ?_⟩
    obtain ⟨v, v', rfl, rv, rv'⟩ := reph_two r
    have rv := rv.o (fun _ e => by cases e)
    have rv' := rv'.o (fun _ e => by cases e)
    cases rv
    cases rv'
    exact ⟨i, j, rfl, fin_d w s (.int _) q⟩
  · rename_i es
    split at h
    · rename_i m ns e
      cases h
      obtain rfl := toInts_map e
      refine ⟨_, cr_minT hc hu, fun B H k vs Q w s r q => ?_⟩
      obtain ⟨v, rfl, rv⟩ := reph_one r
      have rv := rv.o (fun _ e => by cases e)
      cases rv with
      | @tup p ys _ h1 h2 =>
        obtain rfl := h2.ints
        exact ⟨p, m, ns, rfl, ext_t w.sub h1, fin_d w s (.int _) q⟩
    · cases h
  · rename_i es
    split at h
    · rename_i m ns e
      cases h
      obtain rfl := toInts_map e
      refine ⟨_, cr_min hc, fun B H k vs Q w s r q => ?_⟩
      obtain ⟨v, rfl, rv⟩ := reph_one r
      obtain ⟨p, ys, rfl, h1, h2⟩ := rv.l w
      obtain rfl := h2.ints
      refine ⟨p, m :: ns, rfl, .inl (.inl h1), Nat.succ_pos _, fun mm e1 e2 => ?_⟩
      rw [min_uniq e1 e2]
      exact fin_d w s (.int _) q
    · cases h
  · rename_i i
    cases h
    refine ⟨_, call_abs, fun B H k vs Q w s r q => ?_⟩
    obtain ⟨v, rfl, rv⟩ := reph_one r
    have rv := rv.o (fun _ e => by cases e)
    cases rv
    exact ⟨i, rfl, fin_d w s (.int _) q⟩
  · rename_i es
    cases e : toBls es with
    | none => rw [e] at h; cases h
    | some ns =>
      rw [e] at h
      cases h
      obtain rfl := toBls_map e
      refine ⟨_, cr_all hc, fun B H k vs Q w s r q => ?_⟩
      obtain ⟨v, rfl, rv⟩ := reph_one r
      obtain ⟨p, ys, rfl, h1, h2⟩ := rv.l w
      obtain rfl := h2.bls
      exact ⟨p, ns, rfl, .inl (.inl h1), fin_d w s (.bl _) q⟩
  · rename_i es
    cases e : toBls es with
    | none => rw [e] at h; cases h
    | some ns =>
      rw [e] at h
      cases h
      obtain rfl := toBls_map e
      refine ⟨_, cr_any hc, fun B H k vs Q w s r q => ?_⟩
      obtain ⟨v, rfl, rv⟩ := reph_one r
      obtain ⟨p, ys, rfl, h1, h2⟩ := rv.l w
      obtain rfl := h2.bls
      exact ⟨p, ns, rfl, .inl (.inl h1), fin_d w s (.bl _) q⟩
  · rename_i es
    cases h
    refine ⟨_, call_tuple_of, fun B H k vs Q w s r q => ?_⟩
    obtain ⟨v, rfl, rv⟩ := reph_one r
    obtain ⟨p, ys, rfl, h1, h2⟩ := rv.l w
    exact ⟨p, ys, rfl, .inl ⟨.inl (.inl h1), fun o ho => fin_new w s ho (rep_tup_new (w.gone ho) h2) q⟩⟩
  · rename_i es
    cases h
    refine ⟨_, call_tuple_of, fun B H k vs Q w s r q => ?_⟩
    obtain ⟨v, rfl, rv⟩ := reph_one r
    have rv := rv.o (fun _ e => by cases e)
    cases rv with
    | @tup p ys _ h1 h2 => exact ⟨p, ys, rfl, .inr ⟨ext_t w.sub h1, fin_d w s (.tup h1 h2) q⟩⟩
  · rename_i es
    cases h
    refine ⟨_, call_list_of, fun B H k vs Q w s r q => ?_⟩
    obtain ⟨v, rfl, rv⟩ := reph_one r
    obtain ⟨p, ys, rfl, h1, h2⟩ := rv.l w
    exact ⟨p, ys, rfl, .inl (.inl (.inl h1)), fun o ho => fin_new w s ho (rep_lst_new (w.gone ho) h2) q⟩
  · rename_i es
    cases h
    refine ⟨_, call_list_of, fun B H k vs Q w s r q => ?_⟩
    obtain ⟨v, rfl, rv⟩ := reph_one r
    have rv := rv.o (fun _ e => by cases e)
    cases rv with
    | @tup p ys _ h1 h2 => exact ⟨p, ys, rfl, .inr (ext_t w.sub h1), fun o ho => fin_new w s ho (rep_lst_new (w.gone ho) h2) q⟩
  · rename_i i j
    split at h <;> cases h
    rename_i hm
    simp only [divOk, Bool.and_eq_true, Bool.or_eq_true, decide_eq_true_eq] at hm
    have hd : CDivP i j := by
      refine ⟨hm.1, PyProof.noPylong_of_log2 ?_⟩
      rcases hm.2 with h | h
      · exact Nat.lt_trans (small_log h) (by decide)
      · exact h
    refine ⟨_, call_divmodW, fun B H k vs Q w s r q => ?_⟩
    obtain ⟨v, v', rfl, rv, rv'⟩ := reph_two r
    have rv := rv.o (fun _ e => by cases e)
    have rv' := rv'.o (fun _ e => by cases e)
    cases rv
    cases rv'
    exact ⟨i, j, rfl, hd, fun p hp => fin_new w s hp (rep_tup_new (w.gone hp) (.cons (.int _) (.cons (.int _) .nil))) q⟩
  · rename_i i j
    cases h
    refine ⟨_, cr_gcd, fun B H k vs Q w s r q => ?_⟩
    obtain ⟨v, v', rfl, rv, rv'⟩ := reph_two r
    have rv := rv.o (fun _ e => by cases e)
    have rv' := rv'.o (fun _ e => by cases e)
    cases rv
    cases rv'
    exact ⟨i, j, rfl, fin_d w s (.int _) q⟩
  · rename_i es
    split at h
    · rename_i ns e
      split at h
      · rename_i h64
        cases h
        obtain rfl := toInts_map e
        refine ⟨_, cr_sortedX hu, fun B H k vs Q w s r q => ?_⟩
        obtain ⟨v, rfl, rv⟩ := reph_one r
        obtain ⟨p, ys, rfl, h1, h2⟩ := rv.l w
        obtain rfl := h2.ints
        refine .inl ⟨p, ns, rfl, .inl (.inl h1), of_decide_eq_true h64, fun ns' o hp hs ho => ?_⟩
        have e2 : ns' = sortI ns := PySem.W.ksm_same (hp.trans (sortI_perm ns).symm) hs (sortI_sorted ns)
        rw [e2]
        exact fin_new w s ho (rep_lst_new (w.gone ho) (repl_ints _)) q
      · cases h
    · split at h
      · rename_i hok
        cases h
        refine ⟨_, cr_sortedX hu, fun B H k vs Q w s r q => ?_⟩
        obtain ⟨v, rfl, rv⟩ := reph_one r
        obtain ⟨p, ys, rfl, h1, h2⟩ := rv.l w
        exact .inr (sorted_ask w h1 h2 hok fun ys' o hr ho => fin_new w s ho (rep_lst_new (w.gone ho) hr) q)
      · cases h
  · cases h
theorem d_bi (hx : XF Γ w0 ds n sc N X) {s : Str} {p : Pos} {f : BI} (hg : glob sc s = true) (hf : cBI s = some f) (hne : es ≠ []) (hes : ∀ e ∈ es, plainE e = true) (ha : PAD X c es xs) : PED X c (.Call (.Name s p) es [] pos) (.bi f xs) := by
  intro ρ mu k d k' he hav
  simp only [avE] at hav
  simp only [evE] at he
  split at he
  · cases he
  rename_i d1 k1 e1
  cases e2 : biSem f (d1.map (deref k1)) with
  | none => rw [e2] at he; cases he
  | some z =>
    rw [e2] at he
    simp only [Option.map_some, Option.some.injEq, Prod.mk.injEq] at he
    obtain ⟨rfl, rfl⟩ := he
    obtain ⟨h1, h2, h3⟩ := glob_of hx hg
    obtain ⟨r, hr, hq⟩ := bi_ok hx.calm hx.room.units e2
    have rd : ∀ σ H Q, tD X.K ρ mu k z k1 σ H Q → tCB r (tDs X.K ρ mu k d1 k1) σ H Q := fun σ H Q ⟨B, w, s, ri, q⟩ =>
      ⟨B, w, s, ri, fun vs B1 H1 g1 s1 r1 => hq B1 H1 k1 vs Q g1.wd s1 (derefs_rep s1 r1) fun v B2 H2 g2 s2 r2 => q v B2 H2 (g1.trans g2) s2 r2⟩
    have hm : s ∈ biNames → X.mg s = none := fun hm => hx.F.bi s hm
    cases es with
    | nil => exact absurd rfl hne
    | cons e es =>
      have st := star_of (hes e List.mem_cons_self) es X.env
      have ns : (backTo pos (starEach es X.env)).any (·.1) = false := noStar_of fun u hu => hes u (List.mem_cons_of_mem _ hu)
      have hA := ha ρ mu k d1 k1 e1 hav
      unfold cBI at hf
      split at hf
      · rename_i hs
        have hs' := beq_iff_eq.mp hs
        subst hs'
        cases hf
        exact (pe_callB hr h1 (hm (by decide +kernel)) (by decide +kernel) hA h3 h2 st ns).wk rd
      unfold cBI1 at hf
      repeat' split at hf
      all_goals first
        | (cases hf; done)
        | (rename_i hs; have hs' := beq_iff_eq.mp hs; subst hs'; cases hf; exact (pe_callB hr h1 (hm (by decide +kernel)) (by decide +kernel) hA h3 h2 st ns).wk rd)
        | (rename_i hs; have hs' := beq_iff_eq.mp hs; subst hs'; cases hf; exact (pe_callTy hr h1 (hm (by decide +kernel)) (by decide +kernel) hA h3 h2 st ns).wk rd)
theorem d_gcd (hx : XF Γ w0 ds n sc N X) {s : Str} {p : Pos} (hg : glob sc s = true) (hf : s ∈ Γ.gcd) (hne : es ≠ []) (hes : ∀ e ∈ es, plainE e = true) (ha : PAD X c es xs) : PED X c (.Call (.Name s p) es [] pos) (.bi .gcd xs) := by
  intro ρ mu k d k' he hav
  simp only [avE] at hav
  simp only [evE] at he
  split at he
  · cases he
  rename_i d1 k1 e1
  cases e2 : biSem .gcd (d1.map (deref k1)) with
  | none => rw [e2] at he; cases he
  | some z =>
    rw [e2] at he
    simp only [Option.map_some, Option.some.injEq, Prod.mk.injEq] at he
    obtain ⟨rfl, rfl⟩ := he
    obtain ⟨h1, h2, h3⟩ := glob_of hx hg
    obtain ⟨r, hr, hq⟩ := bi_ok hx.calm hx.room.units e2
    cases es with
    | nil => exact absurd rfl hne
    | cons e es =>
      have st := star_of (hes e List.mem_cons_self) es X.env
      have ns : (backTo pos (starEach es X.env)).any (·.1) = false := noStar_of fun u hu => hes u (List.mem_cons_of_mem _ hu)
      exact (pe_callBfun hr h1 (hx.F.gcd s hf) (ha ρ mu k d1 k1 e1 hav) h2 st ns).wk fun σ H Q ⟨B, w, s, ri, q⟩ =>
        ⟨B, w, s, ri, fun vs B1 H1 g1 s1 r1 => hq B1 H1 k1 vs Q g1.wd s1 (derefs_rep s1 r1) fun v B2 H2 g2 s2 r2 => q v B2 H2 (g1.trans g2) s2 r2⟩

/-! ### isinstance -/
def tyS : Nat → String
  | 0 => "int" | 1 => "bool" | 2 => "str" | 3 => "list" | _ => "tuple"
def dTy : D → Option String
  | .non => some "NoneType" | .bl _ => some "bool" | .int _ => some "int" | .str _ => some "str" | .tup _ => some "tuple" | .lst _ => some "list" | _ => none
theorem ty_rep {K : PySem.W.Frag} {B : Wo} {H : Hp} {v : V} {d : D} {s : String} (w : Wd B H) (r : Rep K B v d) (h : dTy d = some s) : TyX K H v (.type s) := by
  cases r with
  | non => cases h; exact .base .non
  | bl b => cases h; exact .base (.bl b)
  | int i => cases h; exact .base (.int i)
  | str x => cases h; exact .base (.str x)
  | @tup a xs es h1 h2 =>
    cases h
    rcases ext_t w.sub h1 with (h1 | ⟨o, h1⟩) | ⟨o, its, m, h1, h3, _⟩
    · exact .base (.tup h1)
    · exact .fTuple h1
    · exact .kTuple h1 h3
  | @lst a xs es h1 h2 => cases h; exact .base (.lst (w.sub _ _ h1))
  | scr _ _ => cases h
  | ref _ => cases h
theorem ty_repH {K : PySem.W.Frag} {B : Wo} {H : Hp} {v : V} {d : D} {s : String} (w : Wd B H) (r : RepH K B H v d) (h : dTy d = some s) : TyX K H v (.type s) := by
  cases r with
  | of r => exact ty_rep w r h
  | lst h1 h2 => cases h; exact .base (.lst h1)
theorem isOf_ty {d : D} {t : Nat} {bb : Bool} (ht : t ≤ 4) (h : isOf d t = some bb) : ∃ s, dTy d = some s ∧ kitB s (tyS t) = some bb := by
  have ht' : t = 0 ∨ t = 1 ∨ t = 2 ∨ t = 3 ∨ t = 4 := by omega
  cases d <;> simp only [isOf] at h <;> first | (cases h; done) | skip
  all_goals
    refine ⟨_, rfl, ?_⟩
    rcases ht' with rfl | rfl | rfl | rfl | rfl <;> (cases h; decide +kernel)
theorem isOfs_kit {K : PySem.W.Frag} {d : D} {s : String} (hs : dTy d = some s) : ∀ {ts : List Nat} {bb : Bool}, (∀ t ∈ ts, t ≤ 4) → isOfs d ts = some bb → PySem.W.kitAny K (.type s) (ts.map fun t => Value.type (tyS t)) = some bb
  | [], bb, _, h => by cases h; exact kitAny_nil
  | t :: ts, bb, ht, h => by
    simp only [isOfs] at h
    split at h
    · rename_i e
      cases h
      obtain ⟨s', h1, h2⟩ := isOf_ty (ht t List.mem_cons_self) e
      rw [hs] at h1; cases h1
      have h3 : PySem.W.kitOne K (.type s) (.type (tyS t)) = some true := kit_ty h2
      show (match PySem.W.kitOne K (.type s) (.type (tyS t)) with
        | some true => some true
        | some false => PySem.W.kitAny K (.type s) (ts.map fun t => Value.type (tyS t))
        | none => none) = some true
      rw [h3]
    · rename_i e
      obtain ⟨s', h1, h2⟩ := isOf_ty (ht t List.mem_cons_self) e
      rw [hs] at h1; cases h1
      exact kitAny_cons (kit_ty h2) (fun _ => isOfs_kit hs (fun t h => ht t (List.mem_cons_of_mem _ h)) h) (fun z => nomatch z)
    · cases h
theorem isOfs_dTy {d : D} {t : Nat} {ts : List Nat} {bb : Bool} (h : isOfs d (t :: ts) = some bb) : ∃ s, dTy d = some s := by
  cases d <;> simp [isOfs, isOf] at h <;> exact ⟨_, rfl⟩
theorem cTy_of (hx : XF Γ w0 ds n sc N X) {e : Expr} {t : Nat} (h : cTy sc e = some t) : t ≤ 4 ∧ plainE e = true ∧ PE X e (tC (.ty (tyS t))) := by
  cases e <;> simp only [cTy] at h <;> first | (cases h; done) | skip
  rename_i s p
  split at h
  · rename_i hg
    obtain ⟨h1, h2, h3⟩ := glob_of hx hg
    repeat' split at h
    all_goals first
      | (cases h; done)
      | (rename_i hs; have hs' := beq_iff_eq.mp hs; subst hs'; cases h; exact ⟨by decide, rfl, pe_bltn h1 (hx.F.bi _ (by decide +kernel)) (by decide +kernel) rfl h3 h2⟩)
  · cases h
theorem d_isi1 (hx : XF Γ w0 ds n sc N X) {s : Str} {p : Pos} {t : Expr} {u : Nat} (hg : glob sc s = true) (hs : (s == ("isinstance" : Str)) = true) (ha0 : plainE a = true) (ht : cTy sc t = some u) (ha : PED X c a x) : PED X c (.Call (.Name s p) [a, t] [] pos) (.isi x [u]) := by
  intro ρ mu k d k' he hav
  simp only [avE] at hav
  simp only [evE] at he
  split at he
  · cases he
  rename_i d1 k1 e1
  cases e2 : isOfs (deref k1 d1) [u] with
  | none => rw [e2] at he; cases he
  | some bb =>
    rw [e2] at he
    simp only [Option.map_some, Option.some.injEq, Prod.mk.injEq] at he
    obtain ⟨rfl, rfl⟩ := he
    obtain ⟨h1, h2, h3⟩ := glob_of hx hg
    have hs' := beq_iff_eq.mp hs
    subst hs'
    obtain ⟨q1, q2, q3⟩ := cTy_of hx ht
    obtain ⟨sd, hsd⟩ := isOfs_dTy e2
    have hk : PySem.W.kitOne X.K (.type sd) (.type (tyS u)) = some bb := by
      have e3 : isOf (deref k1 d1) u = some bb := by
        simp only [isOfs] at e2
        split at e2
        · cases e2; assumption
        · cases e2; assumption
        · cases e2
      obtain ⟨s', g1, g2⟩ := isOf_ty q1 e3
      rw [hsd] at g1; cases g1
      exact kit_ty g2
    refine (pe_callB call_isi h1 (hx.F.bi _ (by decide +kernel)) (by decide +kernel) (pa_cons (ha ρ mu k d1 k1 e1 hav) (pa_cons q3 pa_nil (star_of q2 [] X.env)) (star_of ha0 _ X.env)) h3 h2 (star_of ha0 _ X.env) (noStar_of fun z hz => by
      rcases List.mem_cons.mp hz with rfl | hz
      · exact q2
      · cases hz)).wk fun σ H Q ⟨B, w, s, ri, q⟩ => ⟨B, w, s, ri, fun v B1 H1 g1 s1 r1 => ?_⟩
    exact ⟨v, .ty (tyS u), .type sd, .type (tyS u), bb, rfl, .ty _, ty_repH g1.wd (deref_rep s1 r1) hsd, hk, q _ B1 H1 g1 s1 (.bl bb)⟩
theorem tys_pa (hx : XF Γ w0 ds n sc N X) : ∀ {ts : List Expr} {us : List Nat}, mapO (cTy sc) ts = some us → (∀ u ∈ us, u ≤ 4) ∧ (∀ e ∈ ts, plainE e = true) ∧ PA X ts (fun σ H Q => Q (us.map fun t => V.ty (tyS t)) H)
  | [], us, h => by cases h; exact ⟨(fun _ z => nomatch z), (fun _ z => nomatch z), pa_nil⟩
  | t :: ts, us, h => by
    obtain ⟨u, vs, h1, h2, rfl⟩ := mapO_cons h
    obtain ⟨q1, q2, q3⟩ := cTy_of hx h1
    obtain ⟨g1, g2, g3⟩ := tys_pa hx h2
    refine ⟨fun z hz => ?_, fun z hz => ?_, (pa_cons q3 g3 (star_of q2 ts X.env)).wk fun σ H Q h => h⟩
    · rcases List.mem_cons.mp hz with rfl | hz
      · exact q1
      · exact g1 z hz
    · rcases List.mem_cons.mp hz with rfl | hz
      · exact q2
      · exact g2 z hz
theorem clsv_all : ∀ us : List Nat, Paired ClsV (us.map fun t => V.ty (tyS t)) (us.map fun t => Value.type (tyS t))
  | [] => .nil
  | u :: us => .cons (.ty _) (clsv_all us)
theorem d_isiT (hx : XF Γ w0 ds n sc N X) {s : Str} {p : Pos} {ts : List Expr} {j : Nat} {p2 : Pos} {us : List Nat} (hg : glob sc s = true) (hs : (s == ("isinstance" : Str)) = true) (ha0 : plainE a = true) (hne : us ≠ []) (hlen : us.length ≤ sizeLine) (ht : mapO (cTy sc) ts = some us) (ha : PED X c a x) :
    PED X c (.Call (.Name s p) [a, .Tuple ts j p2] [] pos) (.isi x us) := by
  intro ρ mu k d k' he hav
  simp only [avE] at hav
  simp only [evE] at he
  split at he
  · cases he
  rename_i d1 k1 e1
  cases e2 : isOfs (deref k1 d1) us with
  | none => rw [e2] at he; cases he
  | some bb =>
    rw [e2] at he
    simp only [Option.map_some, Option.some.injEq, Prod.mk.injEq] at he
    obtain ⟨rfl, rfl⟩ := he
    obtain ⟨h1, h2, h3⟩ := glob_of hx hg
    have hs' := beq_iff_eq.mp hs
    subst hs'
    obtain ⟨q1, q2, q3⟩ := tys_pa hx ht
    cases us with
    | nil =>
      -- isinstance(x, ()): the empty tuple
      simp only [isOfs, Option.some.injEq] at e2
      subst e2
      exact absurd rfl hne
    | cons u us =>
    obtain ⟨sd, hsd⟩ := isOfs_dTy e2
    refine (pe_callB call_isiT h1 (hx.F.bi _ (by decide +kernel)) (by decide +kernel) (pa_cons (ha ρ mu k d1 k1 e1 hav) (pa_cons (pe_tup q3) pa_nil rfl) (star_of ha0 _ X.env)) h3 h2 (star_of ha0 _ X.env) rfl).wk fun σ H Q ⟨B, w, s, ri, q⟩ => ⟨B, w, s, ri, fun v B1 H1 g1 s1 r1 => ?_⟩
    refine ⟨by rw [List.length_map]; exact hlen, fun o ho => ?_⟩
    refine ⟨v, o, (u :: us).map (fun t => V.ty (tyS t)), .type sd, _, bb, rfl, upd_same, clsv_all (u :: us), ty_repH (Ge.newOut g1.wd s1 ho).wd (deref_rep (s1.geOut ho) r1) hsd, isOfs_kit hsd q1 e2, ?_⟩
    exact q _ B1 _ (g1.trans (Ge.newOut g1.wd s1 ho)) (s1.geOut ho) (.bl bb)
end
end Mini
namespace Mini
open PySem PySem.Spec PyProof.Rows L2
section
variable {X : Cx} {c : Call} {Γ : CT} {w0 n : Nat} {ds : List Def} {sc : Scope} {N : List Str}
variable {a b e t : Expr} {x y z : E} {pos : Pos} {es : List Expr} {xs : Es}
theorem noAttr {oe : Expr} (h : isCallE oe = false) (x : Str) (env : Env) (q : Sem Value) : attributeBase oe x env q = q := by
  cases oe <;> first | rfl | (simp [isCallE] at h; done)
/-! ### pop -/
theorem d_pop {oe : Expr} {ap cp : Pos} (h1 : isCallE oe = false) (hl : (ap.endLine == cp.line) = true) (ho : PED X c oe x) : PED X c (.Call (.Attribute oe ("pop" : Str) ap) [] [] cp) (.pop x) := by
  intro ρ mu k d k' he hav
  simp only [avE] at hav
  simp only [evE] at he
  split at he <;> first | (cases he; done) | skip
  rename_i r k1 e1
  split at he <;> first | (cases he; done) | skip
  rename_i dl ek
  split at he <;> first | (cases he; done) | skip
  rename_i d' hd
  cases he
  refine (pe_bm0 PySem.F.plainAttrs_list PySem.F.slot_list_pop PySem.F.type_list_pop mt_pop (ho ρ mu k _ _ e1 hav) (noAttr h1 _ _ _) hl).wk fun σ H Q ⟨B, w, s, ri, q⟩ => ⟨B, w, s, ri, fun v B1 H1 g1 s1 r1 => ?_⟩
  cases r1 with
  | @ref p _ hp =>
  obtain ⟨vs, h2, h3, h4⟩ := ref_list s1 hp ek
  refine ⟨.inl ⟨rfl, vs, .inl (.inl h2)⟩, ?_⟩
  rw [List.getLast?_eq_getElem?] at hd
  obtain ⟨u, hu, ru⟩ := h3.get hd
  have hpm := List.mem_of_getElem? hp
  refine ⟨p, vs, u, rfl, rfl, h2, by rw [h3.len]; exact hu, q u B1 _ (g1.trans (Ge.wrS g1.wd hpm)) (s1.wr hp ?_ ?_) ru⟩
  · rw [List.dropLast_eq_take, List.dropLast_eq_take, h3.len]; exact h3.take _
  · rw [List.dropLast_eq_take]; exact noLs_take _ h4
theorem repl_erase {K : PySem.W.Frag} {B : Wo} : ∀ {vs : List V} {ds : List D} (j : Nat), RepL K B vs ds → RepL K B (vs.eraseIdx j) (ds.eraseIdx j)
  | _, _, _, .nil => .nil
  | _, _, 0, .cons _ t => t
  | _, _, j + 1, .cons r t => .cons r (repl_erase j t)
theorem noLs_erase : ∀ {ds : List D} (j : Nat), noLs ds = true → noLs (ds.eraseIdx j) = true
  | [], _, h => h
  | d :: ds, 0, h => by
    simp only [noLs, Bool.and_eq_true] at h
    exact h.2
  | d :: ds, j + 1, h => by
    simp only [noLs, Bool.and_eq_true, List.eraseIdx_cons_succ] at h ⊢
    exact ⟨h.1, noLs_erase j h.2⟩
theorem d_popAt {oe ie : Expr} {ap cp : Pos} (h0 : plainE ie = true) (h1 : isCallE oe = false) (hl : (ap.endLine == cp.line) = true) (ho : PED X c oe x) (hi : PED X c ie y) : PED X c (.Call (.Attribute oe ("pop" : Str) ap) [ie] [] cp) (.popAt x y) := by
  have hs : ∀ es', starEach (ie :: es') X.env = (false, eval ie X.env) :: starEach es' X.env := fun es' => star_of h0 es' X.env
  intro ρ mu k d k' he hav
  simp only [avE, Bool.and_eq_true] at hav
  simp only [evE] at he
  split at he <;> first | (cases he; done) | skip
  rename_i r k1 e1
  split at he <;> first | (cases he; done) | skip
  rename_i i k2 e2
  split at he <;> first | (cases he; done) | skip
  rename_i dl ek
  split at he <;> first | (cases he; done) | skip
  rename_i hln
  split at he <;> first | (cases he; done) | skip
  rename_i j hj
  split at he <;> first | (cases he; done) | skip
  rename_i d' hd
  cases he
  refine (pe_bm PySem.F.plainAttrs_list PySem.F.slot_list_pop PySem.F.type_list_pop mt_popAt (ho ρ mu k _ _ e1 hav.1) (pa_cons (hi ρ mu k1 _ _ e2 hav.2) pa_nil (hs [])) (noAttr h1 _ _ _) (by rw [hs]; rfl) hl (hs []) rfl).wk fun σ H Q ⟨B, w, s, ri, q⟩ => ⟨B, w, s, ri, fun v B1 H1 g1 s1 r1 => ?_⟩
  cases r1 with
  | @ref p _ hp =>
  obtain ⟨ws, hws⟩ := ref_ty s1 hp
  refine ⟨.inl ⟨rfl, ws, .inl (.inl hws)⟩, B1, g1.wd, s1, ri.ext g1.bb, fun v2 B2 H2 g2 s2 r2 => ?_⟩
  cases r2
  have hp2 := g2.bb.get hp
  obtain ⟨vs, h2, h3, h4⟩ := ref_list s2 hp2 ek
  obtain ⟨u, hu, ru⟩ := h3.get hd
  have hpm := List.mem_of_getElem? hp2
  obtain ⟨b1, b2, b3, b4⟩ := ixN_seq hj
  refine ⟨p, vs, i, j, u, rfl, rfl, h2, ?_, ?_, by rw [h3.len]; exact b1, hu, q u B2 _ (g1.trans (g2.trans (Ge.wrS g2.wd hpm))) (s2.wr hp2 (repl_erase j h3) (noLs_erase j h4)) ru⟩
  all_goals
    have hz : dl.length ≤ 16777216 := by simpa [lineOk] using hln
    omega
/-! ### list(range(..)), tuple(range(..)) -/
theorem rng_rep {K : PySem.W.Frag} {B : Wo} (a : Int) (b : Int) : RepL K B (rgV a b) (rngL a 1 (b - a).toNat) := by
  unfold rgV rngL
  generalize List.range (b - a).toNat = l
  induction l with
  | nil => exact .nil
  | cons i l ih =>
    rw [List.map_cons, List.map_cons]
    refine .cons ?_ ih
    rw [Int.mul_one]
    exact .int _
theorem rngArgs_spec {e : Expr} {as : List Expr} (h : rngArgs sc e = some as) : ∃ p2 pos2, e = .Call (.Name ("range" : Str) p2) as [] pos2 ∧ glob sc ("range" : Str) = true ∧ ((∃ a, as = [a]) ∨ ∃ a b, as = [a, b]) := by
  unfold rngArgs at h
  split at h <;> first | (cases h; done) | skip
  rename_i x p args po
  split at h <;> first | (cases h; done) | skip
  rename_i hc
  simp only [Bool.and_eq_true, beq_iff_eq] at hc
  obtain ⟨rfl, hg⟩ := hc
  split at h <;> cases h
  · exact ⟨_, _, rfl, hg, .inl ⟨_, rfl⟩⟩
  · exact ⟨_, _, rfl, hg, .inr ⟨_, _, rfl⟩⟩
/-- the range's bounds -/
def rngB : List D → Option (Int × Int)
  | [.int j] => if rng62 j then some (0, j) else none
  | [.int i, .int j] => if rng62 i && rng62 j then some (i, j) else none
  | _ => none
theorem rngB_of {ds l : List D} (h2 : ds.length ≤ 2) (h : rngSem ds = some l) : ∃ a b, rngB ds = some (a, b) ∧ l = rngL a 1 (b - a).toNat ∧ rng62 a = true ∧ rng62 b = true := by
  unfold rngSem at h
  split at h
  · rename_i j
    split at h <;> cases h
    rename_i hj
    exact ⟨0, j, by simp [rngB, hj], by simp, rfl, hj⟩
  · rename_i i j
    split at h <;> cases h
    rename_i hj
    have hj' := hj
    simp only [Bool.and_eq_true] at hj'
    exact ⟨i, j, by simp [rngB, hj'.1, hj'.2], rfl, hj'.1, hj'.2⟩
  · simp at h2
  · cases h
/-- a range's reading -/
def tRg (K : PySem.W.Frag) (ρ : Rho) (mu : List Nat) (k : Ky) (a b : Int) (k' : Ky) : L2.St → Hp → (Int → Int → Hp → Prop) → Prop := fun σ H Q =>
  ∃ B, Wd B H ∧ StoreAt K k B H ∧ RI K B mu ρ σ ∧ ∀ B' H', Ge B H B' H' → StoreAt K k' B' H' → Q a b H'
theorem prg_wk {e : Expr} {t t' : L2.St → Hp → (Int → Int → Hp → Prop) → Prop} (h : PRg X e t) (w : ∀ σ H Q, t' σ H Q → t σ H Q) : PRg X e t' := fun pins s σ H Q I hw => h pins s σ H Q I (w _ _ _ hw)
theorem prg_one (hx : XF Γ w0 ds n sc N X) {p2 pos2 : Pos} (hg : glob sc ("range" : Str) = true) (h0 : plainE a = true) (ha : PED X c a x) {ρ : Rho} {mu : List Nat} {k k' : Ky} {b : Int}
    (he : evE c x ρ k = some (.int b, k')) (hav : avE mu x = true) : PRg X (.Call (.Name ("range" : Str) p2) [a] [] pos2) (tRg X.K ρ mu k 0 b k') := by
  obtain ⟨g1, g2, g3⟩ := glob_of hx hg
  have hm := hx.F.bi ("range" : Str) (by decide +kernel)
  refine prg_wk (prg_1 g1 hm (ha ρ mu k _ _ he hav) (star_of h0 [] X.env)) fun σ H Q ⟨B, w, s, ri, q⟩ => ⟨B, w, s, ri, fun v B1 H1 g1 s1 r1 => ?_⟩
  cases r1
  exact ⟨b, rfl, q B1 H1 g1 s1⟩
theorem prg_two (hx : XF Γ w0 ds n sc N X) {p2 pos2 : Pos} (hg : glob sc ("range" : Str) = true) (h0 : plainE a = true) (h1 : plainE b = true) (ha : PED X c a x) (hb : PED X c b y) {ρ : Rho} {mu : List Nat} {k k1 k' : Ky} {i j : Int}
    (he : evE c x ρ k = some (.int i, k1)) (he2 : evE c y ρ k1 = some (.int j, k')) (hav : avE mu x = true) (hav2 : avE mu y = true) : PRg X (.Call (.Name ("range" : Str) p2) [a, b] [] pos2) (tRg X.K ρ mu k i j k') := by
  obtain ⟨g1, g2, g3⟩ := glob_of hx hg
  have hm := hx.F.bi ("range" : Str) (by decide +kernel)
  refine prg_wk (prg_2 g1 hm (ha ρ mu k _ _ he hav) (hb ρ mu k1 _ _ he2 hav2) (by (try rw [star_of h0, star_of h1]); try rfl) (by (try rw [star_of h1]); try rfl) (by (try rw [star_of h1]); try rfl)) fun σ H Q ⟨B, w, s, ri, q⟩ => ⟨B, w, s, ri, fun v B1 H1 g1 s1 r1 => ⟨B1, g1.wd, s1, ri.ext g1.bb, fun v2 B2 H2 g2 s2 r2 => ?_⟩⟩
  cases r1
  cases r2
  exact ⟨i, j, rfl, rfl, q B2 H2 (g1.trans g2) s2⟩
/-- a range of one or two ends, by the compiler -/
theorem prg_of (hx : XF Γ w0 ds n sc N X) {e : Expr} {as : List Expr} {ys : List E} (hr : rngArgs sc e = some as) (f : Expr → Option E) (hf : ∀ e x, f e = some x → plainE e = true ∧ PED X c e x) (hm : mapO f as = some ys) {ρ : Rho} {mu : List Nat} {k k' : Ky} {dl l : List D}
    (he : evEs c (toEs ys) ρ k = some (dl, k')) (hav : avEs mu (toEs ys) = true) (hl : rngSem dl = some l) : ∃ a b, PRg X e (tRg X.K ρ mu k a b k') ∧ l = rngL a 1 (b - a).toNat ∧ rng62 a = true ∧ rng62 b = true := by
  obtain ⟨p2, pos2, rfl, hg, ⟨a, rfl⟩ | ⟨a, b, rfl⟩⟩ := rngArgs_spec hr
  · obtain ⟨x, zs, h1, h2, rfl⟩ := mapO_cons hm
    cases h2
    simp only [toEs, evEs] at he
    simp only [toEs, avEs, Bool.and_true] at hav
    split at he
    · cases he
    rename_i d1 k1 e1
    cases he
    obtain ⟨a', b', hb, hl', h3, h4⟩ := rngB_of (by simp) hl
    cases d1 <;> simp only [rngB] at hb <;> first | (cases hb; done) | skip
    split at hb <;> cases hb
    exact ⟨0, _, prg_one hx hg (hf _ _ h1).1 (hf _ _ h1).2 e1 hav, hl', h3, h4⟩
  · obtain ⟨x, zs, h1, h2, rfl⟩ := mapO_cons hm
    obtain ⟨y, zs2, h5, h6, rfl⟩ := mapO_cons h2
    cases h6
    simp only [toEs, evEs] at he
    simp only [toEs, avEs, Bool.and_true, Bool.and_eq_true] at hav
    split at he
    · cases he
    rename_i d1 k1 e1
    split at he
    · cases he
    rename_i d2 k2 e2
    split at e2
    · cases e2
    rename_i d3 k3 e3
    cases e2
    cases he
    obtain ⟨a', b', hb, hl', h3, h4⟩ := rngB_of (by simp) hl
    cases d1 <;> cases d3 <;> simp only [rngB] at hb <;> first | (cases hb; done) | skip
    split at hb <;> cases hb
    exact ⟨_, _, prg_two hx hg (hf _ _ h1).1 (hf _ _ h5).1 (hf _ _ h1).2 (hf _ _ h5).2 e1 e3 hav.1 hav.2, hl', h3, h4⟩
theorem rg_len (a : Int) (m : Nat) : (rngL a 1 m).length = m := by simp [rngL]
theorem d_lrng (hx : XF Γ w0 ds n sc N X) {s : Str} {p pos : Pos} {e : Expr} {as : List Expr} {ys : List E} (hg : glob sc s = true) (hs : s = ("list" : Str) ∨ s = ("tuple" : Str)) (hr : rngArgs sc e = some as) (f : Expr → Option E) (hf : ∀ e x, f e = some x → plainE e = true ∧ PED X c e x) (hm : mapO f as = some ys) :
    PED X c (.Call (.Name s p) [e] [] pos) (.lrng (s == ("tuple" : Str)) (toEs ys)) := by
  intro ρ mu k d k' he hav
  simp only [avE] at hav
  simp only [evE] at he
  split at he
  · cases he
  rename_i dl k1 e1
  have h3 : ∀ l, rngTwo dl = some l → rngSem dl = some l := by
    intro l h
    unfold rngTwo at h
    split at h
    · cases h
    · exact h
  split at he
  · rename_i l hl
    have hl' := h3 l hl
    split at he
    · rename_i hz
      have hz' : l.length ≤ 16777216 := by simpa [lineOk] using hz
      obtain ⟨i, j, hp, rfl, b1, b2⟩ := prg_of hx hr f hf hm e1 hav hl'
      have hpl : plainE e = true := by
        obtain ⟨_, _, rfl, _⟩ := rngArgs_spec hr
        rfl
      obtain ⟨g1, g2, g3⟩ := glob_of hx hg
      rw [rg_len] at hz'
      simp only [rng62, Bool.and_eq_true, decide_eq_true_eq] at b1 b2
      have ok : RgOk i j := ⟨by omega, by omega, by omega, by omega, by omega⟩
      rcases hs with rfl | rfl
      · rw [if_neg (by decide +kernel)] at he
        cases he
        exact (pe_listRg hx.calm g1 (hx.F.bi _ (by decide +kernel)) hp (star_of hpl [] X.env)).wk fun σ H Q ⟨B, w, s, ri, q⟩ => ⟨B, w, s, ri, fun B1 H1 g1 s1 => ⟨ok, fun o ho => fin_new g1.wd s1 ho (rep_lst_new (g1.wd.gone ho) (rng_rep i j)) fun v B2 H2 g2 s2 r2 => q v B2 H2 (g1.trans g2) s2 r2⟩⟩
      · rw [if_pos (by decide +kernel)] at he
        cases he
        exact (pe_tupRg hx.calm g1 (hx.F.bi _ (by decide +kernel)) hp (star_of hpl [] X.env)).wk fun σ H Q ⟨B, w, s, ri, q⟩ => ⟨B, w, s, ri, fun B1 H1 g1 s1 => ⟨ok, fun o ho => fin_new g1.wd s1 ho (rep_tup_new (g1.wd.gone ho) (rng_rep i j)) fun v B2 H2 g2 s2 r2 => q v B2 H2 (g1.trans g2) s2 r2⟩⟩
    · cases he
  · cases he
end
end Mini
namespace Mini
open PySem PySem.Spec PyProof.Rows L2
section
variable {X : Cx} {c : Call} {Γ : CT} {w0 n : Nat} {ds : List Def} {sc : Scope} {N : List Str}
variable {a b e t : Expr} {x y z : E} {pos : Pos} {es : List Expr} {xs : Es}

/-! ### targets -/
def TOk (X : Cx) (sc : Scope) : Prop := ∀ s, isLoc sc s = true → Loc X.env.scope s ∧ (X.fn s = true ∨ X.env.scope.names.lookup s = some .local)
/-- the slots at ts are stored, the others stay -/
structure Upd' (K : PySem.W.Frag) (B : Wo) (ts : List Nat) (ρ ρ' : Rho) (σ σ' : L2.St) : Prop where
  l1 : σ'.length = σ.length
  l2 : ρ'.length = ρ.length
  old : ∀ i, i ∉ ts → σ'[i]? = σ[i]? ∧ ρ'[i]? = ρ[i]?
  new : ∀ i d, i ∈ ts → ρ'[i]? = some (some d) → (∃ v, σ'[i]? = some (some v) ∧ Rep K B v d)
theorem Upd'.refl {K : PySem.W.Frag} {B : Wo} {ρ : Rho} {σ : L2.St} : Upd' K B [] ρ ρ σ σ := ⟨rfl, rfl, fun _ _ => ⟨rfl, rfl⟩, fun _ _ h => by cases h⟩
theorem Upd'.trans {K : PySem.W.Frag} {B : Wo} {ts us : List Nat} {ρ ρ1 ρ2 : Rho} {σ σ1 σ2 : L2.St} (a : Upd' K B ts ρ ρ1 σ σ1) (b : Upd' K B us ρ1 ρ2 σ1 σ2) : Upd' K B (ts ++ us) ρ ρ2 σ σ2 := by
  refine ⟨b.l1.trans a.l1, b.l2.trans a.l2, fun i hi => ?_, fun i d hi h => ?_⟩
  · simp only [List.mem_append, not_or] at hi
    exact ⟨(b.old i hi.2).1.trans (a.old i hi.1).1, (b.old i hi.2).2.trans (a.old i hi.1).2⟩
  · by_cases hu : i ∈ us
    · exact b.new i d hu h
    · have ho := b.old i hu
      rw [ho.2] at h
      rw [ho.1]
      exact a.new i d ((List.mem_append.mp hi).resolve_right hu) h
def PGD (X : Cx) (e : Expr) (tg : Tg) : Prop := ∃ g, PG X e g ∧ ∀ B v d ρ ρ' σ H (Q : L2.St → Hp → Prop), Ext B.b H → σ.length = ρ.length → Rep X.K B v d → asg tg d ρ = some ρ' → (∀ σ', Upd' X.K B (tgSlots tg) ρ ρ' σ σ' → Q σ' H) → g v σ H Q
def PGDs (X : Cx) (es : List Expr) (tg : Tgs) : Prop := ∃ g, PGs X es g ∧ ∀ B vs ds ρ ρ' σ H (Q : L2.St → Hp → Prop), Ext B.b H → σ.length = ρ.length → RepL X.K B vs ds → asgs tg ds ρ = some ρ' → (∀ σ', Upd' X.K B (tgsSlots tg) ρ ρ' σ σ' → Q σ' H) → g vs σ H Q
theorem slotL_of {s : Str} {i : Nat} (h : slotL sc N s = some i) : isLoc sc s = true ∧ N[i]? = some s := by
  unfold slotL at h
  split at h
  · rename_i hv
    simp only [Bool.and_eq_true] at hv
    exact ⟨hv.1, ix_get h⟩
  · cases h
theorem g_name (hn : X.N = N) (nd : N.Nodup) (ht : TOk X sc) {s : Str} {p : Pos} {i : Nat} (h : slotL sc N s = some i) : PGD X (.Name s p) (.name i) := by
  obtain ⟨h1, h2⟩ := slotL_of h
  obtain ⟨h3, h4⟩ := ht s h1
  refine ⟨gName i, pg_name (by rw [hn]; exact nd) (by rw [hn]; exact h2) h3 h4, fun B v d ρ ρ' σ H Q w hl r he q => ?_⟩
  simp only [asg, Option.some.injEq] at he
  subst he
  refine q _ ⟨by simp, by simp, fun j hj => ?_, fun j d' hj h => ?_⟩
  · simp only [tgSlots, List.mem_singleton] at hj
    exact ⟨List.getElem?_set_ne (Ne.symm hj), List.getElem?_set_ne (Ne.symm hj)⟩
  · simp only [tgSlots, List.mem_singleton] at hj
    subst hj
    by_cases hj : j < ρ.length
    · rw [List.getElem?_set_self hj] at h
      cases h
      exact ⟨v, List.getElem?_set_self (by omega), r⟩
    · rw [List.getElem?_eq_none (by simpa using hj)] at h
      cases h
theorem plainTg_assign {e : Expr} {tg : Tg} {m : Nat} (h : cTg sc N m e = some tg) (es : List Expr) (env : Env) : assignEach (e :: es) env = (false, assign e env) :: assignEach es env := by
  cases m with
  | zero => simp [cTg] at h
  | succ m => cases e <;> first | rfl | (simp [cTg] at h)
theorem cTg_ok (hn : X.N = N) (nd : N.Nodup) (hc : X.calm = true) (ht : TOk X sc) : ∀ (m : Nat) (e : Expr) (tg : Tg), cTg sc N m e = some tg → PGD X e tg := by
  intro m
  induction m with
  | zero => intro e tg h; simp [cTg] at h
  | succ m ih =>
    intro e tg h
    cases e <;> simp only [cTg] at h <;> first | (cases h; done) | skip
    · rename_i s p
      cases e1 : slotL sc N s with
      | none => rw [e1] at h; cases h
      | some i =>
        rw [e1] at h
        simp only [Option.map_some, Option.some.injEq] at h
        subst h
        exact g_name hn nd ht e1
    · rename_i es j p
      cases e1 : mapO (cTg sc N m) es with
      | none => rw [e1] at h; cases h
      | some ts =>
        rw [e1] at h
        simp only [Option.map_some, Option.some.injEq] at h
        subst h
        have all : ∀ (es : List Expr) (ts : List Tg), mapO (cTg sc N m) es = some ts → PGDs X es (ts.foldr Tgs.cons .nil) ∧ (assignEach es X.env).length = es.length ∧ (assignEach es X.env).findIdx? (·.1) = none ∧ ts.length = es.length ∧
            ∀ (ds : List D) (ρ ρ' : Rho), asgs (ts.foldr Tgs.cons .nil) ds ρ = some ρ' → ds.length = es.length := by
          intro es
          induction es with
          | nil =>
            intro ts h
            cases h
            refine ⟨⟨gNil, pgs_nil, fun B vs ds ρ ρ' σ H Q w hl r he q => ?_⟩, rfl, rfl, rfl, fun ds ρ ρ' he => ?_⟩
            · cases ds with
              | nil => cases he; cases r; exact ⟨rfl, q σ Upd'.refl⟩
              | cons d ds => cases he
            · cases ds with
              | nil => rfl
              | cons d ds => cases he
          | cons e es ihe =>
            intro ts h
            obtain ⟨u, us, h1, h2, rfl⟩ := mapO_cons h
            obtain ⟨⟨g2, hg2, hq2⟩, hl2, hf2, hl3, hd3⟩ := ihe us h2
            obtain ⟨g1, hg1, hq1⟩ := ih e u h1
            have ha := plainTg_assign h1 es X.env
            refine ⟨⟨gCons g1 g2, pgs_cons hg1 hg2 (by rw [ha]; rfl), fun B vs ds ρ ρ' σ H Q w hl r he q => ?_⟩, by rw [ha]; simp [hl2], by rw [ha]; simp [List.findIdx?_cons, hf2], by simp [hl3], fun ds ρ ρ' he => ?_⟩
            · cases ds with
              | nil => cases he
              | cons d ds =>
                cases r with
                | cons r1 r2 =>
                  simp only [List.foldr_cons, asgs] at he
                  cases e5 : asg u d ρ with
                  | none => rw [e5] at he; cases he
                  | some ρ1 =>
                    rw [e5] at he
                    simp only [Option.bind_some] at he
                    refine ⟨_, _, rfl, hq1 B _ d ρ ρ1 σ H _ w hl r1 e5 fun σ1 u1 => ?_⟩
                    refine hq2 B _ ds ρ1 ρ' σ1 H _ w (by rw [u1.l1, u1.l2]; exact hl) r2 he fun σ2 u2 => ?_
                    exact q σ2 (u1.trans u2)
            · cases ds with
              | nil => cases he
              | cons d ds =>
                simp only [List.foldr_cons, asgs] at he
                cases e5 : asg u d ρ with
                | none => rw [e5] at he; cases he
                | some ρ1 =>
                  rw [e5] at he
                  simp only [Option.bind_some] at he
                  simp [hd3 ds ρ1 ρ' he]
        obtain ⟨⟨g, hg, hq⟩, hl, hf, hl3, hd3⟩ := all es ts e1
        refine ⟨gTup X.K es.length g, pg_tup hc hg hl hf, fun B v d ρ ρ' σ H Q w hlen r he q => ?_⟩
        cases d <;> simp only [asg] at he <;> first | (cases he; done) | skip
        rename_i ds
        cases r with
        | @tup a vs _ h1 h2 =>
          refine ⟨a, vs, rfl, ext_t w h1, by rw [h2.len]; exact hd3 ds ρ ρ' he, hq B vs ds ρ ρ' σ H Q w hlen h2 he q⟩

structure Lt (B : Wo) (B1 : Wo) (H1 : Hp) : Prop where
  bb : Le B B1
  wd : Wd B1 H1
theorem Lt.refl {B : Wo} {H : Hp} (w : Wd B H) : Lt B B H := ⟨Le.refl _, w⟩
theorem Ge.lt {B B' : Wo} {H H' : Hp} (g : Ge B H B' H') : Lt B B' H' := ⟨g.bb, g.wd⟩
/-! ### what is walked -/
def ItD (K : PySem.W.Frag) (J : It) (B : Wo) (H : Hp) (wt : Wch) (es : List D) : Prop :=
  ∀ B1 H1 k, Lt B B1 H1 → StoreAt K k B1 H1 → okW wt k = true → (∀ i d, es[i]? = some d → J.go i H1 ∧ ∀ v H2, J.yld i H1 v H2 → ∃ B2, Ge B1 H1 B2 H2 ∧ StoreAt K k B2 H2 ∧ Rep K B2 v d) ∧ J.stop es.length H1
def tI (K : PySem.W.Frag) (ρ : Rho) (mu : List Nat) (k : Ky) (es : List D) (wt : Wch) (k' : Ky) : TI := fun σ H R =>
  ∃ B, Wd B H ∧ StoreAt K k B H ∧ RI K B mu ρ σ ∧ ∀ J B' H', Ge B H B' H' → StoreAt K k' B' H' → ItD K J B' H' wt es → R J H'
theorem _root_.L2.PI.wk {X : Cx} {tg e : Expr} {t t' : TI} (h : PI X tg e t) (w : ∀ σ H Q, t' σ H Q → t σ H Q) : PI X tg e t' := ⟨fun pins s σ H Q I hw => h.run pins s σ H Q I (w _ _ _ hw)⟩
def PID (X : Cx) (c : Call) (tg e : Expr) (il : I) : Prop := ∀ ρ mu k es wt k', evI c il ρ k = some (es, wt, k') → avI mu il = true → PI X tg e (tI X.K ρ mu k es wt k')
theorem itd_l {K : PySem.W.Frag} {B : Wo} {H : Hp} {p : Addr} {vs : List V} {es : List D} (w : Wd B H) (h : SqL K B.b p vs) (r : RepL K B vs es) : ItD K (Itl K p) B H none es := by
  intro B1 H1 k g s _
  have h1 : SqL K H1 p vs := ext_l g.wd.sub (ext_l g.bb.b h)
  refine ⟨fun i d hi => ?_, ⟨vs, h1, by rw [r.len]; exact Nat.le_refl _⟩⟩
  obtain ⟨v, hv, rv⟩ := r.get hi
  refine ⟨⟨vs, v, h1, hv⟩, fun v' H2 ⟨e1, e2⟩ => ?_⟩
  subst e1
  have := e2 vs h1
  rw [hv] at this
  cases this
  exact ⟨B1, Ge.refl g.wd, s, Rep.ext g.bb _ _ rv⟩
theorem itd_t {K : PySem.W.Frag} {B : Wo} {H : Hp} {p : Addr} {vs : List V} {es : List D} (w : Wd B H) (h : SqT K B.b p vs) (r : RepL K B vs es) : ItD K (Itt K p) B H none es := by
  intro B1 H1 k g s _
  have h1 : SqT K H1 p vs := ext_t g.wd.sub (ext_t g.bb.b h)
  refine ⟨fun i d hi => ?_, ⟨vs, h1, by rw [r.len]; exact Nat.le_refl _⟩⟩
  obtain ⟨v, hv, rv⟩ := r.get hi
  refine ⟨⟨vs, v, h1, hv⟩, fun v' H2 ⟨e1, e2⟩ => ?_⟩
  subst e1
  have := e2 vs h1
  rw [hv] at this
  cases this
  exact ⟨B1, Ge.refl g.wd, s, Rep.ext g.bb _ _ rv⟩
theorem beqDs_both : (∀ a b : D, beqD a b = true → a = b) ∧ ∀ a b : List D, beqDs a b = true → a = b := by
  have key : ∀ a : D, ∀ b, beqD a b = true → a = b := by
    intro a
    exact D.rec (motive_1 := fun a => ∀ b, beqD a b = true → a = b) (motive_2 := fun a => ∀ b, beqDs a b = true → a = b)
      (fun b h => by cases b <;> first | rfl | (simp [beqD] at h; done))
      (fun x b h => by cases b <;> simp [beqD] at h; subst h; rfl)
      (fun x b h => by cases b <;> simp [beqD] at h; subst h; rfl)
      (fun x b h => by cases b <;> simp [beqD] at h; subst h; rfl)
      (fun x ih b h => by cases b <;> simp [beqD] at h; rw [ih _ h])
      (fun x ih b h => by cases b <;> simp [beqD] at h; rw [ih _ h])
      (fun x ih b h => by cases b <;> simp [beqD] at h; rw [ih _ h])
      (fun x b h => by cases b <;> simp [beqD] at h; subst h; rfl)
      (fun b h => by cases b <;> first | rfl | (simp [beqDs] at h; done))
      (fun x xs ih1 ih2 b h => by
        cases b with
        | nil => simp [beqDs] at h
        | cons y ys =>
          simp only [beqDs, Bool.and_eq_true] at h
          rw [ih1 _ h.1, ih2 _ h.2]) a
  refine ⟨key, fun a => ?_⟩
  induction a with
  | nil => intro b h; cases b <;> first | rfl | (simp [beqDs] at h; done)
  | cons x xs ih =>
    intro b h
    cases b with
    | nil => simp [beqDs] at h
    | cons y ys =>
      simp only [beqDs, Bool.and_eq_true] at h
      rw [key _ _ h.1, ih _ h.2]
theorem okW_at {r : Nat} {ds : List D} {k : Ky} (h : okW (some (r, ds)) k = true) : k[r]? = some (.lst ds) := by
  simp only [okW] at h
  split at h
  · rename_i es e
    rw [e, beqDs_both.2 _ _ h]
  · cases h
/-- a list of the store, walked -/
theorem itd_s {K : PySem.W.Frag} {B : Wo} {H : Hp} {p : Addr} {r : Nat} {es : List D} (hp : B.m[r]? = some p) : ItD K (Itl K p) B H (some (r, es)) es := by
  intro B1 H1 k g s hk
  have hk' := okW_at hk
  obtain ⟨vs, h1, h2, _⟩ := ref_list s (g.bb.get hp) hk'
  have h3 : SqL K H1 p vs := .inl (.inl h1)
  refine ⟨fun i d hi => ?_, ⟨vs, h3, by rw [h2.len]; exact Nat.le_refl _⟩⟩
  obtain ⟨v, hv, rv⟩ := h2.get hi
  refine ⟨⟨vs, v, h3, hv⟩, fun v' H2 ⟨e1, e2⟩ => ?_⟩
  subst e1
  have := e2 vs h3
  rw [hv] at this
  cases this
  exact ⟨B1, Ge.refl g.wd, s, rv⟩
theorem i_seq (ha : PED X c a x) : PID X c t a (.seq x) := by
  intro ρ mu k es wt k' he hav
  simp only [avI] at hav
  simp only [evI] at he
  split at he
  · cases he
  rename_i d1 k1 e1
  have hA := ha ρ mu k d1 k1 e1 hav
  cases d1 <;> simp only [items, Option.map_some, Option.map_none, Option.some.injEq, Prod.mk.injEq] at he <;> first | (cases he; done) | skip
  · rename_i st
    obtain ⟨rfl, rfl, rfl⟩ := he
    refine (pi_str hA).wk fun σ H R ⟨B, w, s, ri, q⟩ => ⟨B, w, s, ri, fun v B1 H1 g1 s1 r1 => ?_⟩
    cases r1
    refine ⟨st, rfl, q _ B1 H1 g1 s1 fun B2 H2 k g s _ => ⟨fun i d hi => ?_, ?_⟩⟩
    · rw [List.getElem?_map] at hi
      cases e2 : st.cps.toList[i]? with
      | none => rw [e2] at hi; cases hi
      | some ch =>
        rw [e2] at hi
        cases hi
        have e3 : st.cps[i]? = some ch := by simpa using e2
        refine ⟨?_, fun v' H3 ⟨e4, ch', e5, e6⟩ => ?_⟩
        · have := (Array.getElem?_eq_some_iff.mp e3).1
          exact this
        · subst e4
          rw [e3] at e5
          cases e5
          subst e6
          exact ⟨B2, Ge.refl g.wd, s, .str _⟩
    · show st.cps.size ≤ _
      simp
  · obtain ⟨rfl, rfl, rfl⟩ := he
    refine (pi_tup hA).wk fun σ H R ⟨B, w, s, ri, q⟩ => ⟨B, w, s, ri, fun v B1 H1 g1 s1 r1 => ?_⟩
    cases r1 with
    | @tup p vs _ h1 h2 => exact ⟨p, rfl, ⟨vs, ext_t g1.wd.sub h1⟩, q _ B1 H1 g1 s1 (itd_t g1.wd h1 h2)⟩
  · obtain ⟨rfl, rfl, rfl⟩ := he
    refine (pi_list hA).wk fun σ H R ⟨B, w, s, ri, q⟩ => ⟨B, w, s, ri, fun v B1 H1 g1 s1 r1 => ?_⟩
    cases r1 with
    | @lst p vs _ h1 h2 => exact ⟨p, rfl, ⟨vs, .inl (.inl (g1.wd.sub _ _ h1))⟩, q _ B1 H1 g1 s1 (itd_l g1.wd (.inl (.inl h1)) h2)⟩
  · obtain ⟨rfl, rfl, rfl⟩ := he
    refine (pi_list hA).wk fun σ H R ⟨B, w, s, ri, q⟩ => ⟨B, w, s, ri, fun v B1 H1 g1 s1 r1 => ?_⟩
    cases r1 with
    | @scr p vs _ h1 h2 => exact ⟨p, rfl, ⟨vs, ext_l g1.wd.sub h1⟩, q _ B1 H1 g1 s1 (itd_l g1.wd h1 h2)⟩
  · rename_i r
    split at he <;> first | (cases he; done) | skip
    rename_i dl ek
    cases he
    refine (pi_list hA).wk fun σ H R ⟨B, w, s, ri, q⟩ => ⟨B, w, s, ri, fun v B1 H1 g1 s1 r1 => ?_⟩
    cases r1 with
    | @ref p _ hp =>
      obtain ⟨vs, h1, h2, _⟩ := ref_list s1 hp ek
      exact ⟨p, rfl, ⟨vs, .inl (.inl h1)⟩, q _ B1 H1 g1 s1 (itd_s hp)⟩
theorem itd_r {K : PySem.W.Frag} {B : Wo} {H : Hp} {lo : Int} {m : Nat} : ItD K (Itr lo m) B H none (rngL lo 1 m) := by
  intro B1 H1 k g s _
  refine ⟨fun i d hi => ?_, by show m ≤ _; simp [rngL]⟩
  unfold rngL at hi
  rw [List.getElem?_map] at hi
  by_cases h : i < m
  · rw [List.getElem?_range h] at hi
    cases hi
    refine ⟨h, fun v H2 ⟨e1, e2⟩ => ?_⟩
    subst e1 e2
    exact ⟨B1, Ge.refl g.wd, s, by dsimp only; rw [Int.mul_one]; exact .int _⟩
  · rw [List.getElem?_eq_none (by simpa using h)] at hi
    cases hi
theorem itd_rc {K : PySem.W.Frag} {B : Wo} {H : Hp} {lo st : Int} {m : Nat} : ItD K (Itc lo st m) B H none (rngL lo st m) := by
  intro B1 H1 k g s _
  refine ⟨fun i d hi => ?_, by show m ≤ _; simp [rngL]⟩
  unfold rngL at hi
  rw [List.getElem?_map] at hi
  by_cases h : i < m
  · rw [List.getElem?_range h] at hi
    cases hi
    refine ⟨h, fun v H2 ⟨e1, e2⟩ => ?_⟩
    subst e1 e2
    exact ⟨B1, Ge.refl g.wd, s, .int _⟩
  · rw [List.getElem?_eq_none (by simpa using h)] at hi
    cases hi
theorem i_rng1 (hx : XF Γ w0 ds n sc N X) {p : Pos} (hg : glob sc ("range" : Str) = true) (h1 : plainE a = true) (ha : PED X c a x) : PID X c t (.Call (.Name ("range" : Str) p) [a] [] pos) (.rng (.cons x .nil)) := by
  intro ρ mu k es wt k' he hav
  simp only [avI] at hav
  simp only [evI] at he
  split at he
  · cases he
  rename_i d1 k1 e1
  have hA := (a_cons h1 ha a_nil) ρ mu k d1 k1 e1 hav
  obtain ⟨g1, g2, g3⟩ := glob_of hx hg
  simp only [evEs] at e1
  split at e1
  · cases e1
  rename_i d2 k2 e2
  cases e1
  cases d2 <;> simp only [rngSem, Option.map_none] at he <;> first | (cases he; done) | skip
  rename_i j
  split at he <;> simp only [Option.map_some, Option.map_none, Option.some.injEq, Prod.mk.injEq] at he <;> first | (cases he; done) | skip
  rename_i hj
  obtain ⟨rfl, rfl, rfl⟩ := he
  simp only [rng62, Bool.and_eq_true, decide_eq_true_eq] at hj
  refine (pi_range1 g1 (hx.F.bi _ (by decide +kernel)) hA (star_of h1 [] X.env)).wk fun σ H R ⟨B, w, s, ri, q⟩ => ⟨B, w, s, ri, fun vs B1 H1 g1 s1 r1 => ?_⟩
  obtain ⟨v, rfl, rv⟩ := repl_one r1
  cases rv
  exact ⟨j, rfl, by omega, by omega, q _ B1 H1 g1 s1 itd_r⟩
theorem i_rng2 (hx : XF Γ w0 ds n sc N X) {p : Pos} (hg : glob sc ("range" : Str) = true) (h1 : plainE a = true) (h2 : plainE b = true) (ha : PED X c a x) (hb : PED X c b y) : PID X c t (.Call (.Name ("range" : Str) p) [a, b] [] pos) (.rng (.cons x (.cons y .nil))) := by
  intro ρ mu k es wt k' he hav
  simp only [avI] at hav
  simp only [evI] at he
  split at he
  · cases he
  rename_i d1 k1 e1
  have hA := (a_cons h1 ha (a_cons h2 hb a_nil)) ρ mu k d1 k1 e1 hav
  obtain ⟨g1, g2, g3⟩ := glob_of hx hg
  simp only [evEs] at e1
  split at e1
  · cases e1
  rename_i d2 k2 e2
  split at e1
  · cases e1
  rename_i d3 k3 e3
  split at e3
  · cases e3
  rename_i d4 k4 e4
  cases e3
  cases e1
  cases d2 <;> cases d4 <;> simp only [rngSem, Option.map_none] at he <;> first | (cases he; done) | skip
  rename_i i j
  split at he <;> simp only [Option.map_some, Option.map_none, Option.some.injEq, Prod.mk.injEq] at he <;> first | (cases he; done) | skip
  rename_i hj
  obtain ⟨rfl, rfl, rfl⟩ := he
  simp only [rng62, Bool.and_eq_true, decide_eq_true_eq] at hj
  refine (pi_range2 g1 (hx.F.bi _ (by decide +kernel)) hA (by rw [star_of h1, star_of h2]; rfl) (by rw [star_of h2]; rfl)).wk fun σ H R ⟨B, w, s, ri, q⟩ => ⟨B, w, s, ri, fun vs B1 H1 g1 s1 r1 => ?_⟩
  obtain ⟨v, v', rfl, rv, rv'⟩ := repl_two r1
  cases rv
  cases rv'
  exact ⟨i, j, rfl, by omega, q _ B1 H1 g1 s1 itd_r⟩
theorem i_rng3 (hx : XF Γ w0 ds n sc N X) {p : Pos} (hg : glob sc ("range" : Str) = true) (h1 : plainE a = true) (h2 : plainE b = true) (h3 : plainE e = true) (ha : PED X c a x) (hb : PED X c b y) (hc : PED X c e z) :
    PID X c t (.Call (.Name ("range" : Str) p) [a, b, e] [] pos) (.rng (.cons x (.cons y (.cons z .nil)))) := by
  intro ρ mu k es wt k' he hav
  simp only [avI] at hav
  simp only [evI] at he
  split at he
  · cases he
  rename_i d1 k1 e1
  have hA := (a_cons h1 ha (a_cons h2 hb (a_cons h3 hc a_nil))) ρ mu k d1 k1 e1 hav
  obtain ⟨g1, g2, g3⟩ := glob_of hx hg
  simp only [evEs] at e1
  split at e1
  · cases e1
  rename_i d2 k2 e2
  split at e1
  · cases e1
  rename_i d3 k3 e3
  split at e3
  · cases e3
  rename_i d4 k4 e4
  split at e3
  · cases e3
  rename_i d5 k5 e5
  split at e5
  · cases e5
  rename_i d6 k6 e6
  cases e5
  cases e3
  cases e1
  cases d2 <;> cases d4 <;> cases d6 <;> simp only [rngSem, Option.map_none] at he <;> first | (cases he; done) | skip
  rename_i i j st
  split at he <;> simp only [Option.map_some, Option.map_none, Option.some.injEq, Prod.mk.injEq] at he <;> first | (cases he; done) | skip
  rename_i hj
  obtain ⟨rfl, rfl, rfl⟩ := he
  simp only [Bool.and_eq_true, decide_eq_true_eq] at hj
  refine (pi_range3 g1 (hx.F.bi _ (by decide +kernel)) hA (star_of h1 _ X.env) (noStar_of fun u hu => by
    rcases List.mem_cons.mp hu with rfl | hu
    · exact h2
    · rcases List.mem_cons.mp hu with rfl | hu
      · exact h3
      · cases hu)).wk fun σ H R ⟨B, w, s, ri, q⟩ => ⟨B, w, s, ri, fun vs B1 H1 g1 s1 r1 => ?_⟩
  cases r1 with
  | cons q1 r1 =>
    obtain ⟨v, v', rfl, rv, rv'⟩ := repl_two r1
    cases q1
    cases rv
    cases rv'
    exact ⟨i, j, st, _, rfl, ⟨hj.1.1.1, hj.1.1.2, hj.1.2, by omega⟩, q _ B1 H1 g1 s1 itd_rc⟩
theorem enumL_get : ∀ {es : List D} {i : Nat} {m : Nat} {d : D}, (enumL m es)[i]? = some d → ∃ d', es[i]? = some d' ∧ d = .tup [.int ((m + i : Nat) : Int), d']
  | [], i, m, d, h => by simp [enumL] at h
  | d0 :: es, 0, m, d, h => by simp [enumL] at h; exact ⟨d0, rfl, h.symm⟩
  | d0 :: es, i + 1, m, d, h => by
    simp only [enumL, List.getElem?_cons_succ] at h
    obtain ⟨d', h1, h2⟩ := enumL_get h
    exact ⟨d', by simpa using h1, by rw [h2, show m + 1 + i = m + (i + 1) by omega]⟩
theorem enumL_len : ∀ (es : List D) (m : Nat), (enumL m es).length = es.length
  | [], _ => rfl
  | _ :: es, m => by simp [enumL, enumL_len es (m + 1)]
theorem i_enum (hx : XF Γ w0 ds n sc N X) {p tpos : Pos} {elts : List Expr} {kk : Nat} (hg : glob sc ("enumerate" : Str) = true) (h1 : plainE a = true) (ha : PED X c a x) : PID X c (.Tuple elts kk tpos) (.Call (.Name ("enumerate" : Str) p) [a] [] pos) (.enum x) := by
  intro ρ mu k es wt k' he hav
  simp only [avI] at hav
  simp only [evI] at he
  obtain ⟨g1, g2, g3⟩ := glob_of hx hg
  split at he <;> first | (cases he; done) | skip
  · rename_i ls k1 e1
    cases he
    have hA := (a_cons h1 ha a_nil) ρ mu k [.lst ls] _ (by simp only [evEs]; rw [e1]) (by simp only [avEs, hav]; rfl)
    refine (pi_enum g1 (hx.F.bi _ (by decide +kernel)) hA (star_of h1 [] X.env)).wk fun σ H R ⟨B, w, s, ri, q⟩ => ⟨B, w, s, ri, fun vs B1 H1 g1 s1 r1 => ?_⟩
    obtain ⟨v, rfl, rv⟩ := repl_one r1
    cases rv with
    | @lst p vs _ h1 h2 =>
      refine ⟨p, vs, rfl, .inl (.inl (g1.wd.sub _ _ h1)), q _ B1 H1 g1 s1 fun B2 H2 k g s _ => ⟨fun i d hi => ?_, ?_⟩⟩
      · have hq : SqL X.K H2 p vs := .inl (.inl (g.wd.sub _ _ (g.bb.b _ _ h1)))
        obtain ⟨d', hd, rfl⟩ := enumL_get hi
        obtain ⟨v, hv, rv⟩ := h2.get hd
        refine ⟨⟨vs, v, hq, hv⟩, fun v' H3 ⟨T, u, e2, hT, e3, e4⟩ => ?_⟩
        subst e2 e3
        have := e4 vs hq
        rw [hv] at this
        cases this
        refine ⟨_, Ge.new g.wd s hT, s.ge g.wd hT, ?_⟩
        rw [Nat.zero_add]
        exact rep_tup_new (g.wd.gone hT) (.cons (.int _) (.cons (Rep.ext g.bb _ _ rv) .nil))
      · exact ⟨vs, .inl (.inl (g.wd.sub _ _ (g.bb.b _ _ h1))), by rw [h2.len, enumL_len]; exact Nat.le_refl _⟩
  · rename_i ls k1 e1
    cases he
    have hA := (a_cons h1 ha a_nil) ρ mu k [.tup ls] _ (by simp only [evEs]; rw [e1]) (by simp only [avEs, hav]; rfl)
    refine (pi_enumT g1 (hx.F.bi _ (by decide +kernel)) hA (star_of h1 [] X.env)).wk fun σ H R ⟨B, w, s, ri, q⟩ => ⟨B, w, s, ri, fun vs B1 H1 g1 s1 r1 => ?_⟩
    obtain ⟨v, rfl, rv⟩ := repl_one r1
    cases rv with
    | @tup p vs _ h1 h2 =>
      refine ⟨p, vs, rfl, ext_t g1.wd.sub h1, q _ B1 H1 g1 s1 fun B2 H2 k g s _ => ⟨fun i d hi => ?_, ?_⟩⟩
      · have hq : SqT X.K H2 p vs := ext_t g.wd.sub (ext_t g.bb.b h1)
        obtain ⟨d', hd, rfl⟩ := enumL_get hi
        obtain ⟨v, hv, rv⟩ := h2.get hd
        refine ⟨⟨vs, v, hq, hv⟩, fun v' H3 ⟨T, u, e2, hT, e3, e4⟩ => ?_⟩
        subst e2 e3
        have := e4 vs hq
        rw [hv] at this
        cases this
        refine ⟨_, Ge.new g.wd s hT, s.ge g.wd hT, ?_⟩
        rw [Nat.zero_add]
        exact rep_tup_new (g.wd.gone hT) (.cons (.int _) (.cons (Rep.ext g.bb _ _ rv) .nil))
      · exact ⟨vs, ext_t g.wd.sub (ext_t g.bb.b h1), by rw [h2.len, enumL_len]; exact Nat.le_refl _⟩
  · rename_i r k1 e1
    split at he <;> first | (cases he; done) | skip
    rename_i ls ek
    cases he
    have hA := (a_cons h1 ha a_nil) ρ mu k [.ref r] _ (by simp only [evEs]; rw [e1]) (by simp only [avEs, hav]; rfl)
    refine (pi_enum g1 (hx.F.bi _ (by decide +kernel)) hA (star_of h1 [] X.env)).wk fun σ H R ⟨B, w, s, ri, q⟩ => ⟨B, w, s, ri, fun vs B1 H1 g1 s1 r1 => ?_⟩
    obtain ⟨v, rfl, rv⟩ := repl_one r1
    cases rv with
    | @ref p _ hp =>
      obtain ⟨vs0, h2, h3, _⟩ := ref_list s1 hp ek
      refine ⟨p, vs0, rfl, .inl (.inl h2), q _ B1 H1 g1 s1 fun B2 H2 k g s hk => ?_⟩
      obtain ⟨vs, h4, h5, _⟩ := ref_list s (g.bb.get hp) (okW_at hk)
      have hq : SqL X.K H2 p vs := .inl (.inl h4)
      refine ⟨fun i d hi => ?_, ⟨vs, hq, by rw [h5.len, enumL_len]; exact Nat.le_refl _⟩⟩
      obtain ⟨d', hd, rfl⟩ := enumL_get hi
      obtain ⟨v, hv, rv⟩ := h5.get hd
      refine ⟨⟨vs, v, hq, hv⟩, fun v' H3 ⟨T, u, e2, hT, e3, e4⟩ => ?_⟩
      subst e2 e3
      have := e4 vs hq
      rw [hv] at this
      cases this
      refine ⟨_, Ge.new g.wd s hT, s.ge g.wd hT, ?_⟩
      rw [Nat.zero_add]
      exact rep_tup_new (g.wd.gone hT) (.cons (.int _) (.cons (Rep.ext (Le.refl _) _ _ rv) .nil))
theorem zipL_get : ∀ {es fs : List D} {i : Nat} {d : D}, (zipL es fs)[i]? = some d → ∃ d1 d2, es[i]? = some d1 ∧ fs[i]? = some d2 ∧ d = .tup [d1, d2]
  | [], _, i, d, h => by simp [zipL] at h
  | _ :: _, [], i, d, h => by simp [zipL] at h
  | d1 :: es, d2 :: fs, 0, d, h => by simp [zipL] at h; exact ⟨d1, d2, rfl, rfl, h.symm⟩
  | d1 :: es, d2 :: fs, i + 1, d, h => by
    simp only [zipL, List.getElem?_cons_succ] at h
    obtain ⟨a, b, h1, h2, h3⟩ := zipL_get h
    exact ⟨a, b, by simpa using h1, by simpa using h2, h3⟩
theorem zipL_len : ∀ (es fs : List D), es.length ≤ (zipL es fs).length ∨ fs.length ≤ (zipL es fs).length
  | [], _ => .inl (Nat.zero_le _)
  | _ :: _, [] => .inr (Nat.zero_le _)
  | _ :: es, _ :: fs => by
    rcases zipL_len es fs with h | h
    · exact .inl (by simp [zipL, h])
    · exact .inr (by simp [zipL, h])
theorem i_zip (hx : XF Γ w0 ds n sc N X) {p tpos : Pos} {elts : List Expr} {kk : Nat} (hg : glob sc ("zip" : Str) = true) (h1 : plainE a = true) (h2 : plainE b = true) (ha : PED X c a x) (hb : PED X c b y) :
    PID X c (.Tuple elts kk tpos) (.Call (.Name ("zip" : Str) p) [a, b] [] pos) (.zip x y) := by
  intro ρ mu k es wt k' he hav
  simp only [avI, Bool.and_eq_true] at hav
  simp only [evI] at he
  obtain ⟨g1, g2, g3⟩ := glob_of hx hg
  split at he
  · cases he
  rename_i d1 k1 e1
  split at he
  · cases he
  rename_i d2 k2 e2
  have hA := (a_cons h1 ha (a_cons h2 hb a_nil)) ρ mu k [d1, d2] k2 (by simp only [evEs]; rw [e1]; simp only; rw [e2]) (by simp only [avEs, hav.1, hav.2]; rfl)
  have hP := RZ.pi_zipA (p := p) (pos := pos) (elts := elts) (kk := kk) (tpos := tpos) g1 (hx.F.bi _ (by decide +kernel)) hA (star_of h1 _ X.env) (noStar_of fun u hu => by
    rcases List.mem_cons.mp hu with rfl | hu
    · exact h2
    · cases hu)
  split at he <;> first | (cases he; done) | skip
  · rename_i xs1 ys1
    cases he
    refine hP.wk fun σ H R ⟨B, w, s, ri, q⟩ => ⟨B, w, s, ri, fun vs B1 H1 g1 s1 r1 => ?_⟩
    obtain ⟨v, v', rfl, rv, rv'⟩ := repl_two r1
    cases rv with
    | @lst p vs _ h1 h2 =>
    cases rv' with
    | @lst p' vs' _ h3 h4 =>
    have m1 : ∀ B2 H2, Lt B1 B2 H2 → SqL X.K H2 p vs := fun B2 H2 g => .inl (.inl (g.wd.sub _ _ (g.bb.b _ _ h1)))
    have m2 : ∀ B2 H2, Lt B1 B2 H2 → SqL X.K H2 p' vs' := fun B2 H2 g => .inl (.inl (g.wd.sub _ _ (g.bb.b _ _ h3)))
    refine ⟨p, p', vs, vs', rfl, .inl ⟨m1 _ _ (Lt.refl g1.wd), m2 _ _ (Lt.refl g1.wd), q _ B1 H1 g1 s1 fun B2 H2 k g s _ => ⟨fun i d hi => ?_, ?_⟩⟩⟩
    · obtain ⟨da, db, hd1, hd2, rfl⟩ := zipL_get hi
      obtain ⟨v, hv, rv⟩ := h2.get hd1
      obtain ⟨v', hv', rv'⟩ := h4.get hd2
      refine ⟨⟨vs, vs', v, v', m1 _ _ g, m2 _ _ g, hv, hv'⟩, fun u H3 ⟨T, u1, u2, e2, hT, e3, e4, e5⟩ => ?_⟩
      subst e2 e3
      have t1 := e4 vs (m1 _ _ g)
      have t2 := e5 vs' (m2 _ _ g)
      rw [hv] at t1
      rw [hv'] at t2
      cases t1
      cases t2
      exact ⟨_, Ge.new g.wd s hT, s.ge g.wd hT, rep_tup_new (g.wd.gone hT) (.cons (Rep.ext g.bb _ _ rv) (.cons (Rep.ext g.bb _ _ rv') .nil))⟩
    · exact ⟨vs, vs', m1 _ _ g, m2 _ _ g, by rw [h2.len, h4.len]; exact zipL_len _ _⟩
  · rename_i xs1 ys1
    cases he
    refine hP.wk fun σ H R ⟨B, w, s, ri, q⟩ => ⟨B, w, s, ri, fun vs B1 H1 g1 s1 r1 => ?_⟩
    obtain ⟨v, v', rfl, rv, rv'⟩ := repl_two r1
    cases rv with
    | @tup p vs _ h1 h2 =>
    cases rv' with
    | @tup p' vs' _ h3 h4 =>
    have m1 : ∀ B2 H2, Lt B1 B2 H2 → SqT X.K H2 p vs := fun B2 H2 g => ext_t g.wd.sub (ext_t g.bb.b h1)
    have m2 : ∀ B2 H2, Lt B1 B2 H2 → SqT X.K H2 p' vs' := fun B2 H2 g => ext_t g.wd.sub (ext_t g.bb.b h3)
    refine ⟨p, p', vs, vs', rfl, .inr ⟨m1 _ _ (Lt.refl g1.wd), m2 _ _ (Lt.refl g1.wd), q _ B1 H1 g1 s1 fun B2 H2 k g s _ => ⟨fun i d hi => ?_, ?_⟩⟩⟩
    · obtain ⟨da, db, hd1, hd2, rfl⟩ := zipL_get hi
      obtain ⟨v, hv, rv⟩ := h2.get hd1
      obtain ⟨v', hv', rv'⟩ := h4.get hd2
      refine ⟨⟨vs, vs', v, v', m1 _ _ g, m2 _ _ g, hv, hv'⟩, fun u H3 ⟨T, u1, u2, e2, hT, e3, e4, e5⟩ => ?_⟩
      subst e2 e3
      have t1 := e4 vs (m1 _ _ g)
      have t2 := e5 vs' (m2 _ _ g)
      rw [hv] at t1
      rw [hv'] at t2
      cases t1
      cases t2
      exact ⟨_, Ge.new g.wd s hT, s.ge g.wd hT, rep_tup_new (g.wd.gone hT) (.cons (Rep.ext g.bb _ _ rv) (.cons (Rep.ext g.bb _ _ rv') .nil))⟩
    · exact ⟨vs, vs', m1 _ _ g, m2 _ _ g, by rw [h2.len, h4.len]; exact zipL_len _ _⟩
theorem i_rev (hx : XF Γ w0 ds n sc N X) {p : Pos} (hg : glob sc ("reversed" : Str) = true) (h1 : plainE a = true) (ha : PED X c a x) : PID X c t (.Call (.Name ("reversed" : Str) p) [a] [] pos) (.rev x) := by
  intro ρ mu k es wt k' he hav
  simp only [avI] at hav
  simp only [evI] at he
  obtain ⟨g1, g2, g3⟩ := glob_of hx hg
  have key : ∀ (vs : List V) (ls : List D) (B : Wo) (i : Nat) (d : D), RepL X.K B vs ls → ls.reverse[i]? = some d → i < vs.length ∧ ∃ v, vs[vs.length - 1 - i]? = some v ∧ Rep X.K B v d := by
    intro vs ls B i d r hi
    have hlt : i < ls.length := by
      have := (List.getElem?_eq_some_iff.mp hi).1
      simpa using this
    rw [List.getElem?_reverse hlt] at hi
    obtain ⟨v, hv, rv⟩ := r.get hi
    rw [r.len]
    exact ⟨hlt, v, hv, rv⟩
  split at he <;> first | (cases he; done) | skip
  · rename_i ls k1 e1
    cases he
    refine (RT.pi_revA g1 (hx.F.bi _ (by decide +kernel)) (ha ρ mu k _ _ e1 hav) (star_of h1 [] X.env)).wk fun σ H R ⟨B, w, s, ri, q⟩ => ⟨B, w, s, ri, fun v B1 H1 g1 s1 rv => ?_⟩
    cases rv with
    | @lst p vs _ h1 h2 =>
      have m1 : ∀ B2 H2, Lt B1 B2 H2 → SqL X.K H2 p vs := fun B2 H2 g => .inl (.inl (g.wd.sub _ _ (g.bb.b _ _ h1)))
      refine ⟨p, vs, rfl, .inl ⟨m1 _ _ (Lt.refl g1.wd), q _ B1 H1 g1 s1 fun B2 H2 k g s _ => ⟨fun i d hi => ?_, ?_⟩⟩⟩
      · obtain ⟨hlt, v, hv, rv⟩ := key vs ls B1 i d h2 hi
        refine ⟨⟨hlt, vs, v, m1 _ _ g, hv⟩, fun u H3 ⟨e2, e3⟩ => ?_⟩
        subst e2
        have t1 := e3 vs (m1 _ _ g)
        rw [hv] at t1
        cases t1
        exact ⟨B2, Ge.refl g.wd, s, Rep.ext g.bb _ _ rv⟩
      · show vs.length ≤ _
        rw [List.length_reverse, h2.len]
        exact Nat.le_refl _
  · rename_i ls k1 e1
    cases he
    refine (RT.pi_revA g1 (hx.F.bi _ (by decide +kernel)) (ha ρ mu k _ _ e1 hav) (star_of h1 [] X.env)).wk fun σ H R ⟨B, w, s, ri, q⟩ => ⟨B, w, s, ri, fun v B1 H1 g1 s1 rv => ?_⟩
    cases rv with
    | @tup p vs _ h1 h2 =>
      have m1 : ∀ B2 H2, Lt B1 B2 H2 → SqT X.K H2 p vs := fun B2 H2 g => ext_t g.wd.sub (ext_t g.bb.b h1)
      refine ⟨p, vs, rfl, .inr ⟨m1 _ _ (Lt.refl g1.wd), q _ B1 H1 g1 s1 fun B2 H2 k g s _ => ⟨fun i d hi => ?_, ?_⟩⟩⟩
      · obtain ⟨hlt, v, hv, rv⟩ := key vs ls B1 i d h2 hi
        refine ⟨⟨hlt, vs, v, m1 _ _ g, hv⟩, fun u H3 ⟨e2, e3⟩ => ?_⟩
        subst e2
        have t1 := e3 vs (m1 _ _ g)
        rw [hv] at t1
        cases t1
        exact ⟨B2, Ge.refl g.wd, s, Rep.ext g.bb _ _ rv⟩
      · show vs.length ≤ _
        rw [List.length_reverse, h2.len]
        exact Nat.le_refl _
theorem rngL_rev (a : Int) (m : Nat) : (rngL a 1 m).reverse = rngL (a + (m : Int) - 1) (-1) m := by
  refine List.ext_getElem (by simp [rngL]) fun i h1 h2 => ?_
  simp only [rngL, List.length_reverse, List.length_map, List.length_range] at h1 h2
  simp only [rngL, List.getElem_reverse, List.getElem_map, List.getElem_range, List.length_map, List.length_range]
  congr 1
  omega
theorem i_revr (hx : XF Γ w0 ds n sc N X) {p pos : Pos} {e : Expr} {as : List Expr} {ys : List E} (hg : glob sc ("reversed" : Str) = true) (hr : rngArgs sc e = some as) (f : Expr → Option E) (hf : ∀ e x, f e = some x → plainE e = true ∧ PED X c e x) (hm : mapO f as = some ys) :
    PID X c t (.Call (.Name ("reversed" : Str) p) [e] [] pos) (.revr (toEs ys)) := by
  intro ρ mu k es wt k' he hav
  simp only [avI] at hav
  simp only [evI] at he
  split at he
  · cases he
  rename_i dl k1 e1
  have key : ∃ l, rngSem dl = some l ∧ es = l.reverse ∧ wt = none ∧ k' = k1 := by
    split at he <;> first | (cases he; done) | skip
    all_goals
      rename_i d0
      cases e2 : rngSem _ with
      | none => rw [e2] at he; cases he
      | some l =>
        rw [e2] at he
        simp only [Option.map_some, Option.some.injEq, Prod.mk.injEq] at he
        obtain ⟨rfl, rfl, rfl⟩ := he
        exact ⟨l, rfl, rfl, rfl, rfl⟩
  obtain ⟨l, hl, rfl, rfl, rfl⟩ := key
  obtain ⟨i, j, hp, rfl, b1, b2⟩ := prg_of hx hr f hf hm e1 hav hl
  have hpl : plainE e = true := by
    obtain ⟨_, _, rfl, _⟩ := rngArgs_spec hr
    rfl
  obtain ⟨g1, g2, g3⟩ := glob_of hx hg
  simp only [rng62, Bool.and_eq_true, decide_eq_true_eq] at b1 b2
  rw [rngL_rev]
  exact (pi_revR g1 (hx.F.bi _ (by decide +kernel)) hp (star_of hpl [] X.env)).wk fun σ H R ⟨B, w, s, ri, q⟩ => ⟨B, w, s, ri, fun B1 H1 g1 s1 => ⟨by omega, by omega, by omega, by omega, q _ B1 H1 g1 s1 itd_rc⟩⟩
end
end Mini
namespace Mini
open PySem PySem.Spec PyProof.Rows L2
section
variable {X : Cx} {c : Call} {Γ : CT} {w0 n : Nat} {ds : List Def} {sc : Scope} {N : List Str}
variable {a b e t : Expr} {x y z : E} {pos : Pos} {es : List Expr} {xs : Es}

/-! ### comprehensions -/
theorem wipe_get {σ : L2.St} : ∀ {vs : List Nat} {i : Nat}, (wipe σ vs)[i]? = if i ∈ vs then (if i < σ.length then some none else none) else σ[i]?
  | [], i => by simp [wipe]
  | v :: vs, i => by
    unfold wipe
    by_cases h : v = i
    · subst h
      simp only [List.mem_cons, true_or, if_true]
      by_cases hl : v < σ.length
      · rw [List.getElem?_set_self (by rw [wipe_length]; exact hl), if_pos hl]
      · rw [List.getElem?_eq_none (by simp [wipe_length]; omega), if_neg hl]
    · rw [List.getElem?_set_ne h, wipe_get]
      have : (i ∈ v :: vs) = (i ∈ vs) := by simp [Ne.symm h]
      simp only [this]
theorem wipeR_get {ρ : Rho} : ∀ {vs : List Nat} {i : Nat}, (wipeR ρ vs)[i]? = if i ∈ vs then (if i < ρ.length then some none else none) else ρ[i]?
  | [], i => by simp [wipeR]
  | v :: vs, i => by
    have hl : ∀ us : List Nat, (wipeR ρ us).length = ρ.length := fun us => by
      induction us with
      | nil => rfl
      | cons u us ih => unfold wipeR; rw [List.length_set, ih]
    unfold wipeR
    by_cases h : v = i
    · subst h
      simp only [List.mem_cons, true_or, if_true]
      by_cases hl' : v < ρ.length
      · rw [List.getElem?_set_self (by rw [hl]; exact hl'), if_pos hl']
      · rw [List.getElem?_eq_none (by simp [hl]; omega), if_neg hl']
    · rw [List.getElem?_set_ne h, wipeR_get]
      have : (i ∈ v :: vs) = (i ∈ vs) := by simp [Ne.symm h]
      simp only [this]
theorem wipeR_length {ρ : Rho} : ∀ {vs : List Nat}, (wipeR ρ vs).length = ρ.length
  | [] => rfl
  | v :: vs => by unfold wipeR; rw [List.length_set, wipeR_length]
theorem ri_wipe {K : PySem.W.Frag} {B : Wo} {mu : List Nat} {ρ : Rho} {σ : L2.St} {vs : List Nat} (h : RI K B mu ρ σ) : RI K B mu (wipeR ρ vs) (wipe σ vs) := by
  refine ⟨by rw [wipe_length, wipeR_length]; exact h.1, fun i d hi hd => ?_⟩
  rw [wipeR_get] at hd
  rw [wipe_get]
  by_cases hv : i ∈ vs
  · rw [if_pos hv] at hd
    split at hd <;> cases hd
  · rw [if_neg hv] at hd ⊢
    exact h.2 i d hi hd
theorem ri_upd {K : PySem.W.Frag} {B : Wo} {mu ts : List Nat} {ρ ρ' : Rho} {σ σ' : L2.St} (h : RI K B mu ρ σ) (u : Upd' K B ts ρ ρ' σ σ') : RI K B mu ρ' σ' := by
  refine ⟨by rw [u.l1, u.l2]; exact h.1, fun i d hi hd => ?_⟩
  by_cases ht : i ∈ ts
  · exact u.new i d ht hd
  · have := u.old i ht
    rw [this.2] at hd
    rw [this.1]
    exact h.2 i d hi hd
theorem wipe_back {K : PySem.W.Frag} {B : Wo} {ts vs : List Nat} {ρ ρ' : Rho} {σ σ' : L2.St} (u : Upd' K B ts ρ ρ' (wipe σ vs) σ') (hs : ∀ i ∈ ts, i ∈ vs) : wipe σ' vs = wipe σ vs := by
  refine List.ext_getElem? fun i => ?_
  rw [wipe_get, wipe_get]
  by_cases hv : i ∈ vs
  · rw [if_pos hv, if_pos hv, u.l1, wipe_length]
  · rw [if_neg hv, if_neg hv, (u.old i fun h => hv (hs i h)).1, wipe_get, if_neg hv]

/-- a new list, apart from all that stood -/
def tFr (K : PySem.W.Frag) (ρ : Rho) (mu : List Nat) (k : Ky) (ds : List D) (k' : Ky) : TE := fun σ H Q =>
  ∃ B, Wd B H ∧ StoreAt K k B H ∧ RI K B mu ρ σ ∧ ∀ p vs B' H', H p = none → Ge B H B' H' → StoreAt K k' B' H' → H' p = some (.lst vs) → B'.b p = none → p ∉ B'.m → RepL K B' vs ds → Q (.ref p) H'
theorem none_back {K : PySem.W.Frag} {B B' : Wo} {H H' : Hp} {k : Ky} {p : Addr} (g : Ge B H B' H') (s : StoreAt K k B' H') (hp : H' p = none) : H p = none := by
  cases e : H p with
  | none => rfl
  | some o =>
    have := g.hh p o (fun h => s.ne hp (g.bb.mem h)) e
    rw [hp] at this
    cases this
/-- what stood outside of the store goes to what stands for good -/
theorem Ge.fix {B B' : Wo} {H H' : Hp} {p : Addr} {o : HO} (g : Ge B H B' H') (hp : H p = none) (hl : H' p = some o) (hb : B'.b p = none) (hm : p ∉ B'.m) : Ge B H (B'.upd p o) H' := by
  refine ⟨g.hh, g.bb.trans (Le.upd hb), ⟨fun x u ho => ?_, fun x hx => ?_⟩, fun x u ho hn => ?_, g.nw⟩
  · by_cases hx : x = p
    · subst hx
      have h' : L2.upd B'.b x o x = some u := ho
      rw [upd_same] at h'; cases h'; exact hl
    · have h' : L2.upd B'.b p o x = some u := ho
      rw [upd_ne hx] at h'; exact g.wd.sub x u h'
  · show L2.upd B'.b p o x = none
    rw [upd_ne (fun e => hm (by rw [← e]; exact hx))]; exact g.wd.spn x hx
  · show L2.upd B'.b p o x = none
    rw [upd_ne (ne_of_none ho hp)]; exact g.old x u ho hn
theorem tFr_of {K : PySem.W.Frag} {ρ : Rho} {mu : List Nat} {k k' : Ky} {ds : List D} {σ : L2.St} {H : Hp} {Q : VK} (h : tD K ρ mu k (.lst ds) k' σ H Q) : tFr K ρ mu k ds k' σ H Q := by
  obtain ⟨B, w, s, ri, q⟩ := h
  refine ⟨B, w, s, ri, fun p vs B' H' hp g s' hl hb hm r => ?_⟩
  exact q (.ref p) (B'.upd p (.lst vs)) H' (g.fix hp hl hb hm) (s'.mono rfl (Le.upd hb) fun _ _ _ h => h) (rep_lst_new hb r)
/-- the reading of a comprehension, from those of its parts -/
theorem comp_rd {K : PySem.W.Frag} {tg : Tg} {g : TG} {tt : TT} {te : TE} {wi : TI} {vs : List Nat} {f : Rho → Ky → Option (D × Ky)} {q : Rho → Ky → Option (Bool × Ky)} {ρ : Rho} {mu : List Nat} {k k1 k2 : Ky} {es ys : List D} {wt : Wch} {σ : L2.St} {H : Hp} {Q : VK}
    (hg : ∀ B v d ρ ρ' σ H (Q : L2.St → Hp → Prop), Ext B.b H → σ.length = ρ.length → Rep K B v d → asg tg d ρ = some ρ' → (∀ σ', Upd' K B (tgSlots tg) ρ ρ' σ σ' → Q σ' H) → g v σ H Q)
    (hs : ∀ i ∈ tgSlots tg, i ∈ vs)
    (hi : ∀ σ H R, tI K ρ mu k es wt k1 σ H R → wi σ H R)
    (hcond : ∀ d ρ' k b k', asg tg d (wipeR ρ vs) = some ρ' → q ρ' k = some (b, k') → ∀ σ H Q, tDT K ρ' mu k b k' σ H Q → tt σ H Q)
    (helt : ∀ d ρ' k' k'' y, asg tg d (wipeR ρ vs) = some ρ' → f ρ' k' = some (y, k'') → ∀ σ H Q, tD K ρ' mu k' y k'' σ H Q → te σ H Q)
    (hl : lineOk es.length = true) (hc : compW wt f q tg (wipeR ρ vs) es k1 = some (ys, k2)) (h : tFr K ρ mu k ys k2 σ H Q) : tLc wi g tt te vs σ H Q := by
  obtain ⟨B, w, s, ri, hQ⟩ := h
  refine hi σ H _ ⟨B, w, s, ri, fun J B1 H1 g1 s1 hJ => ?_⟩
  intro D hD
  have hsp := s1.ne hD
  have hB1D := g1.wd.gone hD
  -- what stands at a turn
  let Inv' : Nat → Hp → Prop := fun i H2 => i ≤ es.length ∧ ∃ B2 ki rest accv accd, Ge B1 H1 B2 H2 ∧ B2.b D = none ∧ D ∉ B2.m ∧ StoreAt K ki B2 H2 ∧ H2 D = some (.lst accv) ∧ RepL K B2 accv accd ∧ accd.length ≤ i ∧
    compW wt f q tg (wipeR ρ vs) (es.drop i) ki = some (rest, k2) ∧ accd ++ rest = ys
  refine ⟨fun i m H2 => m = es.length - i ∧ Inv' i H2, ⟨es.length, by simp, Nat.zero_le _, B1, k1, ys, [], [], Ge.newOut g1.wd s1 hD, hB1D, hsp, s1.geOut hD, upd_same, .nil, Nat.zero_le _, by simpa using hc, rfl⟩, ?_⟩
  rintro i m H2 ⟨rfl, hile, B2, ki, rest, accv, accd, g2, hb2, hm2, s2, hd2, ra, hlen, hcomp, happ⟩
  by_cases hlt : i < es.length
  · refine .inr ?_
    have hdi : es[i]? = some es[i] := List.getElem?_eq_getElem hlt
    have hdrop : es.drop i = es[i] :: es.drop (i + 1) := List.drop_eq_getElem_cons hlt
    rw [hdrop] at hcomp
    simp only [compW] at hcomp
    split at hcomp <;> first | (cases hcomp; done) | skip
    rename_i hok
    obtain ⟨hgo, hy⟩ := (hJ B2 H2 ki g2.lt s2 hok).1 i _ hdi
    refine ⟨hgo, Inv' (i + 1), fun H' hH' => ⟨es.length - (i + 1), by omega, rfl, hH'⟩, fun v H3 hyld => ?_⟩
    obtain ⟨B3, g3, s3, r3⟩ := hy v H3 hyld
    split at hcomp
    · cases hcomp
    rename_i ρ1 easg
    have hd3 : H3 D = some (.lst accv) := g3.hh D _ hm2 hd2
    have hm3 : D ∉ B3.m := g3.nin hm2 hd2
    have hb3 : B3.b D = none := g3.old D _ hd2 hb2
    have g13 := g2.trans g3
    refine hg B3 v _ _ ρ1 _ H3 _ g3.wd.sub (by rw [wipe_length, wipeR_length]; exact ri.1) r3 easg fun σ3 u3 => ?_
    refine ⟨wipe_back u3 hs, ?_⟩
    have ri3 : RI K B3 mu ρ1 σ3 := ri_upd (ri_wipe (ri.ext (g1.bb.trans g13.bb))) u3
    split at hcomp
    · cases hcomp
    · rename_i ka eq
      -- left out
      refine hcond _ ρ1 _ _ _ easg eq _ _ _ ⟨B3, g3.wd, s3, ri3, fun B4 H4 g4 s4 => ?_⟩
      refine iteF ?_
      exact ⟨hlt, B4, ka, rest, accv, accd, g13.trans g4, g4.old D _ hd3 hb3, g4.nin hm3 hd3, s4, g4.hh D _ hm3 hd3, RepL.ext (g3.bb.trans g4.bb) _ _ ra, by omega, hcomp, happ⟩
    · rename_i ka eq
      split at hcomp
      · cases hcomp
      rename_i yv kb ef
      split at hcomp
      · cases hcomp
      rename_i zs kc ec
      cases hcomp
      refine hcond _ ρ1 _ _ _ easg eq _ _ _ ⟨B3, g3.wd, s3, ri3, fun B4 H4 g4 s4 => ?_⟩
      refine iteT ?_
      refine helt _ ρ1 ka _ _ easg ef _ _ _ ⟨B4, g4.wd, s4, ri3.ext g4.bb, fun v5 B5 H5 g5 s5 r5 => ?_⟩
      have hd4 : H4 D = some (.lst accv) := g4.hh D _ hm3 hd3
      have hm4 : D ∉ B4.m := g4.nin hm3 hd3
      have hd5 : H5 D = some (.lst accv) := g5.hh D _ hm4 hd4
      have hm5 : D ∉ B5.m := g5.nin hm4 hd4
      have hb5 : B5.b D = none := g5.old D _ hd4 (g4.old D _ hd3 hb3)
      have g15 := g13.trans (g4.trans g5)
      have hz : accv.length < sizeLine := by
        rw [ra.len]
        have : es.length ≤ 16777216 := by simpa [lineOk] using hl
        show _ < 2 ^ 24
        omega
      refine ⟨accv, hd5, hz, hlt, B5, kb, zs, accv ++ [v5], accd ++ [yv], ⟨fun p o hne ho => ?_, g15.bb, ⟨fun p o ho => ?_, g15.wd.spn⟩, g15.old, g15.nw⟩, hb5, hm5, s5.mono rfl (Le.refl _) (fun a u ha hu => by rw [upd_ne (fun e => hm5 (by rw [← e]; exact ha))]; exact hu), upd_same, (RepL.ext (g3.bb.trans (g4.bb.trans g5.bb)) _ _ ra).append (.cons r5 .nil), by simp; omega, ec, by simpa using happ⟩
      · rw [upd_ne (ne_of_none ho hD)]; exact g15.hh p o hne ho
      · rw [upd_ne (ne_of_none ho hb5)]; exact g15.wd.sub p o ho
  · refine .inl ?_
    have hi : i = es.length := by omega
    subst hi
    rw [List.drop_length] at hcomp
    simp only [compW] at hcomp
    split at hcomp <;> first | (cases hcomp; done) | skip
    rename_i hok
    refine ⟨(hJ B2 H2 ki g2.lt s2 hok).2, ?_⟩
    simp only [Option.some.injEq, Prod.mk.injEq] at hcomp
    obtain ⟨rfl, rfl⟩ := hcomp
    rw [List.append_nil] at happ
    subst happ
    exact hQ D accv B2 H2 (none_back g1 s1 hD) (g1.trans g2) s2 hd2 hb2 hm2 ra

theorem lookup_relS_keep' {scope sc : Scope} {s : Str} {k : NameKind} (hk : k ≠ .free) (h : scope.names.lookup s = some k) : (relS scope sc).names.lookup s = some k := lookup_relS_keep hk h
theorem xf_blk (hx : XF Γ w0 ds n sc N X) {scope : Scope} (s : Shared) (H : Hp) (C : Addr) (cl : List (Str × Addr)) (fp : List Addr) : XF Γ w0 ds n (relS scope sc) N (X.blk s H scope (compEnvC scope cl C X.env) fp) := by
  refine ⟨hx.F, ?_, hx.nn, hx.nd, hx.calm, hx.room⟩
  show (compEnvC scope cl C X.env).scope = _
  rw [← hx.sc]
  rfl
theorem tok_blk (hx : XF Γ w0 ds n sc N X) {scope : Scope} (s : Shared) (H : Hp) (C : Addr) (cl : List (Str × Addr)) (fp : List Addr) : TOk (X.blk s H scope (compEnvC scope cl C X.env) fp) scope := by
  intro u hu
  have hsc : (X.blk s H scope (compEnvC scope cl C X.env) fp).env.scope = relS scope X.env.scope := rfl
  unfold isLoc at hu
  split at hu
  · rename_i hk
    have := lookup_relS_keep' (sc := X.env.scope) (by decide) hk
    exact ⟨.inl (by rw [hsc]; exact this), .inr (by rw [hsc]; exact this)⟩
  · rename_i hk
    have := lookup_relS_keep' (sc := X.env.scope) (by decide) hk
    refine ⟨.inr (by rw [hsc]; exact this), .inl ?_⟩
    show (scope.names.lookup u == some .cell) = true
    rw [hk]; rfl
  · cases hu
theorem cTgIn_of {scope : Scope} {own : List Nat} {e : Expr} {tg : Tg} (h : cTgIn scope N own e = some tg) : cTg scope N 8 e = some tg ∧ ∀ i ∈ tgSlots tg, i ∈ own := by
  unfold cTgIn at h
  split at h
  · cases h
  · rename_i t ht
    split at h
    · rename_i ha
      cases h
      refine ⟨ht, fun i hi => ?_⟩
      have := List.all_eq_true.mp ha i hi
      simpa using this
    · cases h
/-- one reading for all states -/
def tDU (K : PySem.W.Frag) (c : Call) (il : E) : TE := fun σ H Q => ∃ ρ mu k d k', evE c il ρ k = some (d, k') ∧ avE mu il = true ∧ tD K ρ mu k d k' σ H Q
def tTU (K : PySem.W.Frag) (c : Call) (il : T) : TT := fun σ H Q => ∃ ρ mu k d k', evT c il ρ k = some (d, k') ∧ avT mu il = true ∧ tDT K ρ mu k d k' σ H Q
theorem peU (h : PED X c e x) : PE X e (tDU X.K c x) := ⟨fun pins s σ H Q I ⟨ρ, mu, k, d, k', h1, h2, h3⟩ => (h ρ mu k d k' h1 h2).run pins s σ H Q I h3⟩
theorem ptU {x : T} (h : PTD X c e x) : PT X e (tTU X.K c x) := ⟨fun pins s σ H Q I ⟨ρ, mu, k, d, k', h1, h2, h3⟩ => (h ρ mu k d k' h1 h2).run pins s σ H Q I h3⟩
/-- a target's reading, the same in every context over K -/
def gU (K : PySem.W.Frag) (tg : Tg) : TG := fun v σ H Q => ∃ B d ρ ρ', Ext B.b H ∧ σ.length = ρ.length ∧ Rep K B v d ∧ asg tg d ρ = some ρ' ∧ ∀ σ', Upd' K B (tgSlots tg) ρ ρ' σ σ' → Q σ' H
theorem pgU {tg : Tg} (h : PGD X e tg) : PG X e (gU X.K tg) := by
  obtain ⟨g, h1, h2⟩ := h
  exact ⟨fun pins s σ H v u Q I r ⟨B, d, ρ, ρ', q1, q2, q3, q4, q5⟩ => h1.run pins s σ H v u Q I r (h2 B v d ρ ρ' σ H Q q1 q2 q3 q4 q5)⟩
theorem gU_ok {K : PySem.W.Frag} {tg : Tg} : ∀ B v d ρ ρ' σ H (Q : L2.St → Hp → Prop), Ext B.b H → σ.length = ρ.length → Rep K B v d → asg tg d ρ = some ρ' → (∀ σ', Upd' K B (tgSlots tg) ρ ρ' σ σ' → Q σ' H) → gU K tg v σ H Q :=
  fun B v d ρ ρ' σ H Q q1 q2 q3 q4 q5 => ⟨B, d, ρ, ρ', q1, q2, q3, q4, q5⟩
def tIU (K : PySem.W.Frag) (c : Call) (il : I) : TI := fun σ H R => ∃ ρ mu k es wt k', evI c il ρ k = some (es, wt, k') ∧ avI mu il = true ∧ tI K ρ mu k es wt k' σ H R
theorem piU {il : I} (h : PID X c t e il) : PI X t e (tIU X.K c il) := ⟨fun pins s σ H Q I ⟨ρ, mu, k, d, wt, k', h1, h2, h3⟩ => (h ρ mu k d wt k' h1 h2).run pins s σ H Q I h3⟩
/-- all that is asked of a comprehension's parts -/
structure CParts (X : Cx) (c : Call) (N : List Str) (scope : Scope) (tg it elt : Expr) (tgd : Tg) (itd : I) (eltd : E) : Prop where
  ok : BlkOk X.N X.env.scope scope (ownOf N scope.names)
  tgt : ∀ (s : Shared) (H : Hp) (C : Addr) (cl : List (Str × Addr)) (fp : List Addr), PGD (X.blk s H scope (compEnvC scope cl C X.env) fp) tg tgd
  own : ∀ i ∈ tgSlots tgd, i ∈ (ownOf N scope.names).map (·.2)
  itr : PID X c tg it itd
  elt : ∀ (s : Shared) (H : Hp) (C : Addr) (cl : List (Str × Addr)) (fp : List Addr), PED (X.blk s H scope (compEnvC scope cl C X.env) fp) c elt eltd
theorem comp0_rd {scope : Scope} {tg it elt : Expr} {tgd : Tg} {itd : I} {eltd : E} (P : CParts X c N scope tg it elt tgd itd eltd) {ρ : Rho} {mu : List Nat} {k k' : Ky} {d : D} (he : evE c (.comp0 eltd tgd itd ((ownOf N scope.names).map (·.2))) ρ k = some (d, k')) (hav : avE mu (.comp0 eltd tgd itd ((ownOf N scope.names).map (·.2))) = true) :
    ∃ ys, d = .lst ys ∧ ∀ σ H Q, tFr X.K ρ mu k ys k' σ H Q → tLc (tIU X.K c itd) (gU X.K tgd) tYes (tDU X.K c eltd) ((ownOf N scope.names).map (·.2)) σ H Q := by
  simp only [evE] at he
  simp only [avE, Bool.and_eq_true] at hav
  split at he
  · cases he
  rename_i es wt k1 e1
  split at he
  · rename_i hl
    split at he
    · cases he
    rename_i ys k2 e2
    cases he
    refine ⟨ys, rfl, fun σ H Q h => ?_⟩
    exact comp_rd gU_ok P.own (fun _ _ _ h => ⟨ρ, mu, k, es, wt, k1, e1, hav.2, h⟩) (fun d ρ' k b k' _ e σ H Q ⟨B, w, s, ri, q⟩ => by
      simp only [Option.some.injEq, Prod.mk.injEq] at e
      obtain ⟨rfl, rfl⟩ := e
      exact q B H (Ge.refl w) s) (fun d ρ' k' k'' y _ e σ H Q h => ⟨ρ', mu, k', y, k'', e, hav.1, h⟩) hl e2 h
  · cases he
theorem comp1_rd {scope : Scope} {tg it elt : Expr} {tgd : Tg} {itd : I} {eltd : E} {qd : T} (P : CParts X c N scope tg it elt tgd itd eltd) {ρ : Rho} {mu : List Nat} {k k' : Ky} {d : D} (he : evE c (.comp1 eltd tgd itd qd ((ownOf N scope.names).map (·.2))) ρ k = some (d, k')) (hav : avE mu (.comp1 eltd tgd itd qd ((ownOf N scope.names).map (·.2))) = true) :
    ∃ ys, d = .lst ys ∧ ∀ σ H Q, tFr X.K ρ mu k ys k' σ H Q → tLc (tIU X.K c itd) (gU X.K tgd) (tTU X.K c qd) (tDU X.K c eltd) ((ownOf N scope.names).map (·.2)) σ H Q := by
  simp only [evE] at he
  simp only [avE, Bool.and_eq_true] at hav
  split at he
  · cases he
  rename_i es wt k1 e1
  split at he
  · rename_i hl
    split at he
    · cases he
    rename_i ys k2 e2
    cases he
    refine ⟨ys, rfl, fun σ H Q h => ?_⟩
    exact comp_rd gU_ok P.own (fun _ _ _ h => ⟨ρ, mu, k, es, wt, k1, e1, hav.1.2, h⟩) (fun d ρ' k b k' _ e σ H Q h => ⟨ρ', mu, k, b, k', e, hav.2, h⟩) (fun d ρ' k' k'' y _ e σ H Q h => ⟨ρ', mu, k', y, k'', e, hav.1.1, h⟩) hl e2 h
  · cases he
theorem d_comp0 (hx : XF Γ w0 ds n sc N X) {scope : Scope} {tg it elt : Expr} {tgd : Tg} {itd : I} {eltd : E} (hit : plainE it = true) (P : CParts X c N scope tg it elt tgd itd eltd) :
    PED X c (.ListComp elt [⟨tg, it, [], 0⟩] scope pos) (.comp0 eltd tgd itd ((ownOf N scope.names).map (·.2))) := by
  intro ρ mu k d k' he hav
  obtain ⟨ys, rfl, h2⟩ := comp0_rd P he hav
  exact (pe_lc hx.calm (by rw [hx.nn]; exact hx.nd) (piU P.itr) P.ok (fun s H C cl fp => pgU (P.tgt s H C cl fp)) (fun s H C cl fp => pts_nil) (fun s H C cl fp => peU (P.elt s H C cl fp)) (noSet_of hit X.env)).wk fun σ H Q h => h2 σ H Q (tFr_of h)
theorem d_comp1 (hx : XF Γ w0 ds n sc N X) {scope : Scope} {tg it elt q : Expr} {tgd : Tg} {itd : I} {eltd : E} {qd : T} (hit : plainE it = true) (P : CParts X c N scope tg it elt tgd itd eltd)
    (hq : ∀ (s : Shared) (H : Hp) (C : Addr) (cl : List (Str × Addr)) (fp : List Addr), PTD (X.blk s H scope (compEnvC scope cl C X.env) fp) c q qd) :
    PED X c (.ListComp elt [⟨tg, it, [q], 0⟩] scope pos) (.comp1 eltd tgd itd qd ((ownOf N scope.names).map (·.2))) := by
  intro ρ mu k d k' he hav
  obtain ⟨ys, rfl, h2⟩ := comp1_rd P he hav
  exact (pe_lc hx.calm (by rw [hx.nn]; exact hx.nd) (piU P.itr) P.ok (fun s H C cl fp => pgU (P.tgt s H C cl fp)) (fun s H C cl fp => pts_one (ptU (hq s H C cl fp))) (fun s H C cl fp => peU (P.elt s H C cl fp)) (noSet_of hit X.env)).wk fun σ H Q h => h2 σ H Q (tFr_of h)
end
end Mini
namespace Mini
open PySem PySem.Spec PyProof.Rows L2
section
variable {c : Call} {Γ : CT} {w0 n : Nat} {ds : List Def}

theorem mapO_plain {m : Nat} {sc : Scope} {N : List Str} : ∀ {es : List Expr} {xs : List E}, mapO (cE Γ m sc N) es = some xs → ∀ e ∈ es, plainE e = true
  | [], _, _ => fun e h => by cases h
  | e :: es, xs, h => by
    obtain ⟨y, zs, h1, h2, _⟩ := mapO_cons h
    intro e' he
    rcases List.mem_cons.mp he with rfl | he
    · exact cE_shape h1
    · exact mapO_plain h2 e' he
theorem mapO_pad {m : Nat} {sc : Scope} {N : List Str} {X : Cx} (ih : ∀ e il, cE Γ m sc N e = some il → PED X c e il) : ∀ {es : List Expr} {xs : List E}, mapO (cE Γ m sc N) es = some xs → PAD X c es (toEs xs)
  | [], _, h => by cases h; exact a_nil
  | e :: es, xs, h => by
    obtain ⟨y, zs, h1, h2, rfl⟩ := mapO_cons h
    exact a_cons (cE_shape h1) (ih e y h1) (mapO_pad ih h2)
theorem mapO_ne {α β : Type} {f : α → Option β} {xs : List α} {ys : List β} (h : mapO f xs = some ys) : ys.length = xs.length := by
  induction xs generalizing ys with
  | nil => cases h; rfl
  | cons x xs ih =>
    obtain ⟨y, zs, h1, h2, rfl⟩ := mapO_cons h
    simp [ih h2]

theorem d_ands {X : Cx} {c : Call} {pos : Pos} {f : Expr → Option E} (hf : ∀ e x, f e = some x → PED X c e x) : ∀ (es : List Expr) (x : E) (r : List E), mapO f es = some (x :: r) → PED X c (.BoolOp .And es pos) (foldB .and x r)
  | [], _, _, h => by cases h
  | [e], x, r, h => by
    obtain ⟨y, zs, h1, h2, h3⟩ := mapO_cons h
    cases h3
    cases h2
    exact d_one (hf _ _ h1)
  | e :: e2 :: es, x, r, h => by
    obtain ⟨y, zs, h1, h2, h3⟩ := mapO_cons h
    cases h3
    obtain ⟨z, zs', h4, h5, rfl⟩ := mapO_cons h2
    exact d_and (hf _ _ h1) (d_ands hf (e2 :: es) z zs' h2)
theorem d_ors {X : Cx} {c : Call} {pos : Pos} {f : Expr → Option E} (hf : ∀ e x, f e = some x → PED X c e x) : ∀ (es : List Expr) (x : E) (r : List E), mapO f es = some (x :: r) → PED X c (.BoolOp .Or es pos) (foldB .or x r)
  | [], _, _, h => by cases h
  | [e], x, r, h => by
    obtain ⟨y, zs, h1, h2, h3⟩ := mapO_cons h
    cases h3
    cases h2
    exact d_one (hf _ _ h1)
  | e :: e2 :: es, x, r, h => by
    obtain ⟨y, zs, h1, h2, h3⟩ := mapO_cons h
    cases h3
    obtain ⟨z, zs', h4, h5, rfl⟩ := mapO_cons h2
    exact d_or (hf _ _ h1) (d_ors hf (e2 :: es) z zs' h2)
theorem w_ands {X : Cx} {c : Call} {pos : Pos} {f : Expr → Option T} (hf : ∀ e x, f e = some x → PTD X c e x) : ∀ (es : List Expr) (x : T) (r : List T), mapO f es = some (x :: r) → PWD X c (.BoolOp .And es pos) (foldB .and x r)
  | [], _, _, h => by cases h
  | [e], x, r, h => by
    obtain ⟨y, zs, h1, h2, h3⟩ := mapO_cons h
    cases h3
    cases h2
    exact w_and1 (hf _ _ h1)
  | e :: e2 :: es, x, r, h => by
    obtain ⟨y, zs, h1, h2, h3⟩ := mapO_cons h
    cases h3
    obtain ⟨z, zs', h4, h5, rfl⟩ := mapO_cons h2
    exact w_and (hf _ _ h1) (w_ands hf (e2 :: es) z zs' h2)
theorem w_ors {X : Cx} {c : Call} {pos : Pos} {f : Expr → Option T} (hf : ∀ e x, f e = some x → PTD X c e x) : ∀ (es : List Expr) (x : T) (r : List T), mapO f es = some (x :: r) → PWD X c (.BoolOp .Or es pos) (foldB .or x r)
  | [], _, _, h => by cases h
  | [e], x, r, h => by
    obtain ⟨y, zs, h1, h2, h3⟩ := mapO_cons h
    cases h3
    cases h2
    exact w_or1 (hf _ _ h1)
  | e :: e2 :: es, x, r, h => by
    obtain ⟨y, zs, h1, h2, h3⟩ := mapO_cons h
    cases h3
    obtain ⟨z, zs', h4, h5, rfl⟩ := mapO_cons h2
    exact w_or (hf _ _ h1) (w_ors hf (e2 :: es) z zs' h2)
structure IH (Γ : CT) (w0 : Nat) (ds : List Def) (n : Nat) (m : Nat) : Prop where
  e : ∀ {sc : Scope} {N : List Str} {X : Cx} {e : Expr} {il : E}, XF Γ w0 ds n sc N X → cE Γ m sc N e = some il → PED X (run w0 ds n) e il
  t : ∀ {sc : Scope} {N : List Str} {X : Cx} {e : Expr} {il : T}, XF Γ w0 ds n sc N X → cT Γ m sc N e = some il → PTD X (run w0 ds n) e il
  i : ∀ {sc : Scope} {N : List Str} {X : Cx} {tg e : Expr} {il : I}, XF Γ w0 ds n sc N X → cI Γ m sc N tg e = some il → PID X (run w0 ds n) tg e il ∧ plainE e = true

theorem parts_of {m : Nat} (ih : IH Γ w0 ds n m) {sc : Scope} {N : List Str} {X : Cx} (hx : XF Γ w0 ds n sc N X) {scope : Scope} {tg it elt : Expr} {tgd : Tg} {itd : I} {eltd : E}
    (hb : blkC N sc scope (ownOf N scope.names) = true) (h1 : cTgIn scope N ((ownOf N scope.names).map (·.2)) tg = some tgd) (h2 : cI Γ m sc N tg it = some itd) (h3 : cE Γ m (relS scope sc) N elt = some eltd) :
    CParts X (run w0 ds n) N scope tg it elt tgd itd eltd := by
  obtain ⟨q1, q2⟩ := cTgIn_of h1
  refine ⟨?_, fun s H C cl fp => ?_, q2, (ih.i hx h2).1, fun s H C cl fp => ih.e (xf_blk hx s H C cl fp) h3⟩
  · rw [hx.nn, hx.sc]; exact blkOk_by hb
  · exact cTg_ok (X := X.blk s H scope (compEnvC scope cl C X.env) fp) hx.nn hx.nd hx.calm (tok_blk hx s H C cl fp) 8 tg tgd q1

theorem step_e {m : Nat} (ih : IH Γ w0 ds n m) {sc : Scope} {N : List Str} {X : Cx} {e : Expr} {il : E} (hx : XF Γ w0 ds n sc N X) (h : cE Γ (m + 1) sc N e = some il) : PED X (run w0 ds n) e il := by
  cases e <;> simp only [cE] at h <;> first | (cases h; done) | skip
  · -- BoolOp
    rename_i op vs pos
    split at h <;> first | (cases h; done) | skip
    · rename_i x y r h1
      cases h
      exact d_ands (fun e il => ih.e hx) vs x (y :: r) h1
    · rename_i x y r h1
      cases h
      exact d_ors (fun e il => ih.e hx) vs x (y :: r) h1
  · -- BinOp
    rename_i a op b pos
    split at h <;> first | (cases h; done) | skip
    rename_i o x y h1 h2 h3
    cases h
    exact d_bin h1 (ih.e hx h2) (ih.e hx h3)
  · -- UnaryOp
    rename_i op a pos
    split at h <;> first | (cases h; done) | skip
    · rename_i x _ h1; cases h; exact d_neg (ih.e hx h1)
    · rename_i x _ h1; cases h; exact d_not (ih.e hx h1)
  · -- IfExp
    rename_i t a b pos
    split at h <;> first | (cases h; done) | skip
    rename_i x y z h1 h2 h3
    cases h
    exact d_ite (ih.t hx h1) (ih.e hx h2) (ih.e hx h3)
  · -- ListComp
    rename_i elt gens scope pos
    split at h <;> first | (cases h; done) | skip
    rename_i tg it ifs asy
    split at h <;> first | (cases h; done) | skip
    rename_i hb
    simp only [Bool.and_eq_true] at hb
    have ha : asy = 0 := by simpa using hb.1
    subst ha
    split at h <;> first | (cases h; done) | skip
    rename_i tgd itd eltd h1 h2 h3
    have P := parts_of ih hx hb.2 h1 h2 h3
    have hit := (ih.i hx h2).2
    split at h <;> first | (cases h; done) | skip
    · cases h
      exact d_comp0 hx hit P
    · rename_i q
      cases e1 : cT Γ m (relS scope sc) N q with
      | none => rw [e1] at h; cases h
      | some qd =>
        rw [e1] at h
        cases h
        exact d_comp1 hx hit P fun s H C cl fp => ih.t (xf_blk hx s H C cl fp) e1
  · -- Compare
    rename_i a ops bs pos
    split at h
    · rename_i op b
      split at h
      · split at h <;> first | (cases h; done) | skip
        rename_i j p
        cases e1 : cE Γ m sc N a with
        | none => rw [e1] at h; cases h
        | some x => rw [e1] at h; cases h; exact d_isN (ih.e hx e1)
      · split at h <;> first | (cases h; done) | skip
        rename_i j p
        cases e1 : cE Γ m sc N a with
        | none => rw [e1] at h; cases h
        | some x => rw [e1] at h; cases h; exact d_notN (ih.e hx e1)
      · split at h <;> first | (cases h; done) | skip
        rename_i o x y h1 h2 h3
        cases h
        exact d_cmp hx.room h1 (cE_shape h3) (ih.e hx h2) (ih.e hx h3)
    · rename_i op op' b e
      split at h <;> first | (cases h; done) | skip
      rename_i o o' x y z h1 h2 h3 h4 h5
      cases h
      exact d_chain hx.room h1 h2 (cE_shape h4) (cE_shape h5) (ih.e hx h3) (ih.e hx h4) (ih.e hx h5)
    · cases h
  · -- Call
    rename_i f args kw pos
    split at h <;> first | (cases h; done) | skip
    rotate_left
    · -- pop
      rename_i oe mm ap
      split at h <;> first | (cases h; done) | skip
      rename_i hc
      simp only [Bool.and_eq_true, Bool.not_eq_true'] at hc
      obtain ⟨⟨hl, hcall⟩, hm⟩ := hc
      have hm' := beq_iff_eq.mp hm
      subst hm'
      split at h <;> first | (cases h; done) | skip
      · cases e1 : cE Γ m sc N oe with
        | none => rw [e1] at h; cases h
        | some x => rw [e1] at h; cases h; exact d_pop hcall hl (ih.e hx e1)
      · rename_i a
        split at h <;> first | (cases h; done) | skip
        rename_i x y h1 h2
        cases h
        exact d_popAt (cE_shape h2) hcall hl (ih.e hx h1) (ih.e hx h2)
    rename_i s p
    split at h <;> first | (cases h; done) | skip
    rename_i hg
    split at h
    · rename_i i hi
      cases e1 : mapO (cE Γ m sc N) args with
      | none => rw [e1] at h; cases h
      | some xs =>
        rw [e1] at h
        cases h
        cases args with
        | nil => cases e1; exact d_call0 hx rfl hg hi
        | cons a as => exact d_call hx rfl hg hi (by simp) (mapO_plain e1) (mapO_pad (fun e il => ih.e hx) e1)
    · split at h
      · rename_i hs
        split at h <;> first | (cases h; done) | skip
        rename_i a t
        split at h
        · cases h
        rename_i y hy
        split at h <;> first | (cases h; done) | skip
        · rename_i ts j p2
          split at h <;> first | (cases h; done) | skip
          rename_i hlen
          cases e1 : mapO (cTy sc) ts with
          | none => rw [e1] at h; cases h
          | some us =>
            rw [e1] at h
            cases h
            have hl := mapO_ne e1
            exact d_isiT hx hg hs (cE_shape hy) (by intro e; rw [e] at hl; simp at hl; omega) (by show _ ≤ 2 ^ 24; omega) e1 (ih.e hx hy)
        · rename_i z pz
          cases e1 : cTy sc (.Name z pz) with
          | none => rw [e1] at h; cases h
          | some u =>
            rw [e1] at h
            cases h
            exact d_isi1 hx hg hs (cE_shape hy) e1 (ih.e hx hy)
      · split at h
        · rename_i hgcd
          split at h <;> first | (cases h; done) | skip
          rename_i a b
          cases e1 : mapO (cE Γ m sc N) [a, b] with
          | none => rw [e1] at h; cases h
          | some xs =>
            rw [e1] at h
            cases h
            exact d_gcd hx hg (by simpa using hgcd) (by simp) (mapO_plain e1) (mapO_pad (fun e il => ih.e hx) e1)
        · split at h
          · rename_i as hr
            split at hr <;> first | (cases hr; done) | skip
            rename_i hs
            split at hr <;> first | (cases hr; done) | skip
            rename_i a
            cases e1 : mapO (cE Γ m sc N) as with
            | none => rw [e1] at h; cases h
            | some ys =>
              rw [e1] at h
              cases h
              refine d_lrng hx hg ?_ hr _ (fun e il he => ⟨cE_shape he, ih.e hx he⟩) e1
              simp only [Bool.or_eq_true, beq_iff_eq] at hs
              exact hs
          split at h <;> first | (cases h; done) | skip
          rename_i b a as hb _
          cases e1 : mapO (cE Γ m sc N) (a :: as) with
          | none => rw [e1] at h; cases h
          | some xs =>
            rw [e1] at h
            cases h
            exact d_bi hx hg hb (by simp) (mapO_plain e1) (mapO_pad (fun e il => ih.e hx) e1)
  · -- Constant
    rename_i cst j pos
    split at h <;> first | (cases h; done) | skip
    · cases h; exact d_int
    · cases h; exact d_bl
    · cases h; exact d_non
    · cases h; exact d_str
  · -- Subscript
    rename_i a i pos
    split at h
    · rename_i lo hi st p2
      split at h <;> first | (cases h; done) | skip
      rename_i x h1
      split at h
      · cases h; exact d_sli0 (ih.e hx h1)
      · rename_i l
        cases e1 : cE Γ m sc N l with
        | none => rw [e1] at h; cases h
        | some u => rw [e1] at h; cases h; exact d_sli1 (ih.e hx h1) (ih.e hx e1)
      · rename_i l
        cases e1 : cE Γ m sc N l with
        | none => rw [e1] at h; cases h
        | some u => rw [e1] at h; cases h; exact d_sli2 (ih.e hx h1) (ih.e hx e1)
      · split at h <;> first | (cases h; done) | skip
        rename_i l' h' u v h2 h3
        cases h
        exact d_sli3 (ih.e hx h1) (ih.e hx h2) (ih.e hx h3)
    · split at h <;> first | (cases h; done) | skip
      rename_i x y h1 h2
      cases h
      exact d_idx (cE_shape h2) (ih.e hx h1) (ih.e hx h2)
  · -- Name
    rename_i s p
    split at h
    · rename_i hg
      cases e1 : Γ.consts.lookup s with
      | none => rw [e1] at h; cases h
      | some d => rw [e1] at h; cases h; exact d_cst hx hg e1
    · cases e1 : slot sc N s with
      | none => rw [e1] at h; cases h
      | some i => rw [e1] at h; cases h; exact d_var hx e1
  · -- List
    rename_i es pos
    cases e1 : mapO (cE Γ m sc N) es with
    | none => rw [e1] at h; cases h
    | some xs => rw [e1] at h; cases h; exact d_lst (mapO_pad (fun e il => ih.e hx) e1)
  · -- Tuple
    rename_i es j pos
    cases e1 : mapO (cE Γ m sc N) es with
    | none => rw [e1] at h; cases h
    | some xs => rw [e1] at h; cases h; exact d_tup (mapO_pad (fun e il => ih.e hx) e1)

theorem step_t {m : Nat} (ihs : ∀ m', m' ≤ m → IH Γ w0 ds n m') {sc : Scope} {N : List Str} {X : Cx} {e : Expr} {il : T} (hx : XF Γ w0 ds n sc N X) (h : cT Γ (m + 1) sc N e = some il) : PTD X (run w0 ds n) e il := by
  have ih := ihs m (Nat.le_refl _)
  have dflt : ∀ e il, (∀ env whole, isTrue e env whole = (do let v ← whole; standAt e.pos; holding [v] (truthy v))) → (cE Γ m sc N e).map T.val = some il → PTD X (run w0 ds n) e il := by
    intro e il he h
    cases e1 : cE Γ m sc N e with
    | none => rw [e1] at h; cases h
    | some x => rw [e1] at h; cases h; exact t_truth he (ih.e hx e1)
  cases e <;> simp only [cT] at h <;> first | (exact dflt _ _ (fun _ _ => rfl) h) | (cases h; done) | skip
  · rename_i op vs pos
    split at h <;> first | (cases h; done) | skip
    · rename_i x y r h1
      cases h
      exact w_pt (w_ands (fun e il => ih.t hx) vs x (y :: r) h1)
    · rename_i x y r h1
      cases h
      exact w_pt (w_ors (fun e il => ih.t hx) vs x (y :: r) h1)
  · -- UnaryOp
    rename_i op a pos
    cases op <;> simp only [cT] at h
    · exact dflt _ _ (fun _ _ => rfl) h
    · cases e1 : cT Γ m sc N a with
      | none => rw [e1] at h; cases h
      | some x => rw [e1] at h; cases h; exact t_not (ih.t hx e1)
    · exact dflt _ _ (fun _ _ => rfl) h
    · exact dflt _ _ (fun _ _ => rfl) h
  · -- Compare: by its own rules
    rename_i a ops bs pos
    cases m with
    | zero => simp [cE] at h
    | succ m =>
      have ih2 := ihs m (Nat.le_succ _)
      simp only [cE] at h
      split at h
      · rename_i op b
        split at h
        · split at h <;> first | (simp at h; done) | skip
          rename_i j p
          cases e1 : cE Γ m sc N a with
          | none => rw [e1] at h; simp at h
          | some x => rw [e1] at h; cases h; exact t_isN (ih2.e hx e1)
        · split at h <;> first | (simp at h; done) | skip
          rename_i j p
          cases e1 : cE Γ m sc N a with
          | none => rw [e1] at h; simp at h
          | some x => rw [e1] at h; cases h; exact t_notN (ih2.e hx e1)
        · split at h <;> first | (simp at h; done) | skip
          rename_i o x y h1 h2 h3
          cases h
          exact t_cmp hx.room h1 (cE_shape h3) (ih2.e hx h2) (ih2.e hx h3)
      · rename_i op op' b e
        split at h <;> first | (simp at h; done) | skip
        rename_i o o' x y z h1 h2 h3 h4 h5
        cases h
        exact t_chain hx.room h1 h2 (cE_shape h4) (cE_shape h5) (ih2.e hx h3) (ih2.e hx h4) (ih2.e hx h5)
      · simp at h
theorem step_i {m : Nat} (ih : IH Γ w0 ds n m) {sc : Scope} {N : List Str} {X : Cx} {tg e : Expr} {il : I} (hx : XF Γ w0 ds n sc N X) (h : cI Γ (m + 1) sc N tg e = some il) : PID X (run w0 ds n) tg e il ∧ plainE e = true := by
  have dflt : ∀ e il, (cE Γ m sc N e).map I.seq = some il → PID X (run w0 ds n) tg e il ∧ plainE e = true := by
    intro e il h
    cases e1 : cE Γ m sc N e with
    | none => rw [e1] at h; cases h
    | some x => rw [e1] at h; cases h; exact ⟨i_seq (ih.e hx e1), cE_shape e1⟩
  simp only [cI] at h
  split at h
  · rename_i s px args kw po
    split at h
    · rename_i hs
      have hs' := beq_iff_eq.mp hs
      subst hs'
      split at h <;> first | (cases h; done) | skip
      rename_i hg
      simp only [Bool.and_eq_true, List.isEmpty_iff] at hg
      obtain ⟨hg, rfl⟩ := hg
      split at h <;> first | (cases h; done) | skip
      · rename_i a
        cases e1 : mapO (cE Γ m sc N) [a] with
        | none => rw [e1] at h; cases h
        | some xs =>
          rw [e1] at h
          cases h
          obtain ⟨x, zs, h1, h2, rfl⟩ := mapO_cons e1
          cases h2
          exact ⟨i_rng1 hx hg (cE_shape h1) (ih.e hx h1), rfl⟩
      · rename_i a b
        cases e1 : mapO (cE Γ m sc N) [a, b] with
        | none => rw [e1] at h; cases h
        | some xs =>
          rw [e1] at h
          cases h
          obtain ⟨x, zs, h1, h2, rfl⟩ := mapO_cons e1
          obtain ⟨y, zs, h3, h4, rfl⟩ := mapO_cons h2
          cases h4
          exact ⟨i_rng2 hx hg (cE_shape h1) (cE_shape h3) (ih.e hx h1) (ih.e hx h3), rfl⟩
      · rename_i a b e
        cases e1 : mapO (cE Γ m sc N) [a, b, e] with
        | none => rw [e1] at h; cases h
        | some xs =>
          rw [e1] at h
          cases h
          obtain ⟨x, zs, h1, h2, rfl⟩ := mapO_cons e1
          obtain ⟨y, zs, h3, h4, rfl⟩ := mapO_cons h2
          obtain ⟨z, zs, h5, h6, rfl⟩ := mapO_cons h4
          cases h6
          exact ⟨i_rng3 hx hg (cE_shape h1) (cE_shape h3) (cE_shape h5) (ih.e hx h1) (ih.e hx h3) (ih.e hx h5), rfl⟩
    · split at h
      · rename_i hs
        have hs' := beq_iff_eq.mp hs
        subst hs'
        split at h <;> first | (cases h; done) | skip
        rename_i hg
        simp only [Bool.and_eq_true, List.isEmpty_iff] at hg
        obtain ⟨⟨hg, rfl⟩, ht⟩ := hg
        split at h <;> first | (cases h; done) | skip
        rename_i a
        cases tg <;> simp only [isTupE, Bool.false_eq_true] at ht
        cases e1 : cE Γ m sc N a with
        | none => rw [e1] at h; cases h
        | some x => rw [e1] at h; cases h; exact ⟨i_enum hx hg (cE_shape e1) (ih.e hx e1), rfl⟩
      · split at h
        · rename_i hs
          have hs' := beq_iff_eq.mp hs
          subst hs'
          split at h <;> first | (cases h; done) | skip
          rename_i hg
          simp only [Bool.and_eq_true, List.isEmpty_iff] at hg
          obtain ⟨⟨hg, rfl⟩, ht⟩ := hg
          split at h <;> first | (cases h; done) | skip
          rename_i a b
          cases tg <;> simp only [isTupE, Bool.false_eq_true] at ht
          split at h <;> first | (cases h; done) | skip
          rename_i x y h1 h2
          cases h
          exact ⟨i_zip hx hg (cE_shape h1) (cE_shape h2) (ih.e hx h1) (ih.e hx h2), rfl⟩
        · split at h
          · rename_i hs
            have hs' := beq_iff_eq.mp hs
            subst hs'
            split at h <;> first | (cases h; done) | skip
            rename_i hg
            simp only [Bool.and_eq_true, List.isEmpty_iff] at hg
            obtain ⟨hg, rfl⟩ := hg
            split at h <;> first | (cases h; done) | skip
            rename_i a
            split at h
            · rename_i as hr
              cases e1 : mapO (cE Γ m sc N) as with
              | none => rw [e1] at h; cases h
              | some ys => rw [e1] at h; cases h; exact ⟨i_revr hx hg hr _ (fun e il he => ⟨cE_shape he, ih.e hx he⟩) e1, rfl⟩
            cases e1 : cE Γ m sc N a with
            | none => rw [e1] at h; cases h
            | some x => rw [e1] at h; cases h; exact ⟨i_rev hx hg (cE_shape e1) (ih.e hx e1), rfl⟩
          · exact dflt _ _ h
  · exact dflt _ _ h
theorem all_ih : ∀ m, ∀ m', m' ≤ m → IH Γ w0 ds n m' := by
  intro m
  induction m with
  | zero =>
    intro m' hm
    obtain rfl : m' = 0 := by omega
    exact ⟨fun _ h => by simp [cE] at h, fun _ h => by simp [cT] at h, fun _ h => by simp [cI] at h⟩
  | succ m ih =>
    intro m' hm
    by_cases h : m' = m + 1
    · subst h
      exact ⟨fun hx h => step_e (ih m (Nat.le_refl _)) hx h, fun hx h => step_t ih hx h, fun hx h => step_i (ih m (Nat.le_refl _)) hx h⟩
    · exact ih m' (by omega)
theorem ih_at (m : Nat) : IH Γ w0 ds n m := all_ih m m (Nat.le_refl _)
end
end Mini
namespace Mini
open PySem PySem.Spec PyProof.Rows L2

/-- the state at a statement; B0, H0: at the def's entry -/
structure RS (K : PySem.W.Frag) (B0 : Wo) (H0 : Hp) (s : Sta) (B : Wo) (σ : L2.St) (H : Hp) : Prop where
  ge : Ge B0 H0 B H
  spot : StoreAt K s.k B H
  ri : RI K B s.mu s.ρ σ
  own : ∀ i, i ∈ s.mu → ∃ a vs ds, σ[i]? = some (some (.ref a)) ∧ s.ρ[i]? = some (some (.lst ds)) ∧ H a = some (.lst vs) ∧ RepL K B vs ds ∧ B.b a = none ∧ H0 a = none ∧ a ∉ B.m
  apart : ∀ i j a, i ∈ s.mu → j ∈ s.mu → σ[i]? = some (some (.ref a)) → σ[j]? = some (some (.ref a)) → i = j
section
variable {K : PySem.W.Frag} {B0 B : Wo} {H0 H : Hp} {s : Sta} {σ : L2.St}
theorem RS.wd (r : RS K B0 H0 s B σ H) : Wd B H := r.ge.wd
theorem RS.step {B' : Wo} {H' : Hp} {k : Ky} (r : RS K B0 H0 s B σ H) (g : Ge B H B' H') (hs : StoreAt K k B' H') : RS K B0 H0 { s with k := k } B' σ H' := by
  refine ⟨r.ge.trans g, hs, r.ri.ext g.bb, fun i hi => ?_, r.apart⟩
  obtain ⟨a, vs, ds, h1, h2, h3, h4, h5, h6, h7⟩ := r.own i hi
  exact ⟨a, vs, ds, h1, h2, g.hh a _ h7 h3, RepL.ext g.bb _ _ h4, g.old a _ h3 h5, h6, g.nin h7 h3⟩
/-- some of the mutable lists stand for good -/
theorem RS.freeze (r : RS K B0 H0 s B σ H) (mu' : List Nat) (hm : ∀ i ∈ mu', i ∈ s.mu) :
    ∃ B1, RS K B0 H0 { s with mu := mu' } B1 σ H ∧ Le B B1 ∧ B1.m = B.m ∧ (∀ i a, i ∈ s.mu → i ∉ mu' → σ[i]? = some (some (.ref a)) → B1.b a = H a) ∧ ∀ a, B.b a = none → B1.b a = none ∨ ∃ i, i ∈ s.mu ∧ i ∉ mu' ∧ σ[i]? = some (some (.ref a)) := by
  classical
  let M : Addr → Prop := fun a => ∃ i, i ∈ s.mu ∧ i ∉ mu' ∧ σ[i]? = some (some (.ref a))
  let B1 : Wo := ⟨B.m, fun a => if M a then H a else B.b a⟩
  have hM : ∀ a, M a → B1.b a = H a := fun a h => if_pos h
  have hN : ∀ a, ¬ M a → B1.b a = B.b a := fun a h => if_neg h
  have hMB : ∀ a, M a → B.b a = none ∧ H0 a = none ∧ a ∉ B.m := fun a ⟨i, h1, h2, h3⟩ => by
    obtain ⟨a', vs, ds, g1, g2, g3, g4, g5, g6, g7⟩ := r.own i h1
    rw [h3] at g1
    cases g1
    exact ⟨g5, g6, g7⟩
  have ext : Le B B1 := ⟨List.prefix_refl _, fun a o h => by
    rw [hN a fun hm => by rw [(hMB a hm).1] at h; cases h]
    exact h⟩
  have w1 : Wd B1 H := ⟨fun a o h => by
    by_cases hm : M a
    · rw [hM a hm] at h; exact h
    · rw [hN a hm] at h; exact r.wd.sub a o h, fun a h => by
    rw [hN a fun hm => (hMB a hm).2.2 h]
    exact r.wd.spn a h⟩
  refine ⟨B1, ⟨⟨r.ge.hh, r.ge.bb.trans ext, w1, fun a o h hb => ?_, r.ge.nw⟩, r.spot.mono rfl ext (fun _ _ _ h => h), ⟨r.ri.1, fun i d hi hd => ?_⟩, fun i hi => ?_, fun i j a hi hj => r.apart i j a (hm i hi) (hm j hj)⟩, ext, rfl, fun i a h1 h2 h3 => hM a ⟨i, h1, h2, h3⟩, fun a hb => ?_⟩
  · rw [hN a fun hm => by rw [(hMB a hm).2.1] at h; cases h]
    exact r.ge.old a o h hb
  · by_cases hmu : i ∈ s.mu
    · obtain ⟨a', vs, ds, g1, g2, g3, g4, g5, g6, g7⟩ := r.own i hmu
      have hd' : s.ρ[i]? = some (some d) := hd
      rw [g2] at hd'
      cases hd'
      refine ⟨.ref a', g1, .lst ?_ (RepL.ext ext _ _ g4)⟩
      rw [hM a' ⟨i, hmu, hi, g1⟩]
      exact g3
    · obtain ⟨v, h1, h2⟩ := r.ri.2 i d hmu hd
      exact ⟨v, h1, Rep.ext ext _ _ h2⟩
  · obtain ⟨a', vs, ds, g1, g2, g3, g4, g5, g6, g7⟩ := r.own i (hm i hi)
    refine ⟨a', vs, ds, g1, g2, g3, RepL.ext ext _ _ g4, ?_, g6, g7⟩
    rw [hN a' fun ⟨j, h1, h2, h3⟩ => h2 (by rw [← r.apart i j a' (hm i hi) h1 g1 h3]; exact hi)]
    exact g5
  · by_cases hm : M a
    · exact .inr hm
    · exact .inl (by rw [hN a hm]; exact hb)
mutual
theorem rep_mask {B B' : Wo} (hm : B'.m = B.m) (h : ∀ a o, B.b a = some o → (∀ xs, o ≠ .lst xs) → B'.b a = some o) : ∀ (d : D) (v : V), noL d = true → Rep K B v d → Rep K B' v d
  | .non, _, _, r => by cases r; exact .non
  | .bl b, _, _, r => by cases r; exact .bl b
  | .int i, _, _, r => by cases r; exact .int i
  | .str x, _, _, r => by cases r; exact .str x
  | .tup ds, _, n, r => by
    cases r with
    | tup h1 h2 =>
      refine .tup ?_ (repl_mask hm h ds _ (by simpa [noL] using n) h2)
      rcases h1 with (h1 | ⟨o, h1⟩) | h1
      · exact .inl (.inl (h _ _ h1 fun xs e => by cases e))
      · exact .inl (.inr ⟨o, h _ _ h1 fun xs e => by cases e⟩)
      · exact .inr h1
  | .lst ds, _, n, _ => by simp [noL] at n
  | .scr ds, _, n, _ => by simp [noL] at n
  | .ref i, _, _, r => by
    cases r with
    | ref h => exact .ref (by rw [hm]; exact h)
theorem repl_mask {B B' : Wo} (hm : B'.m = B.m) (h : ∀ a o, B.b a = some o → (∀ xs, o ≠ .lst xs) → B'.b a = some o) : ∀ (ds : List D) (vs : List V), noLs ds = true → RepL K B vs ds → RepL K B' vs ds
  | [], _, _, r => by cases r; exact .nil
  | d :: ds, _, n, r => by
    simp only [noLs, Bool.and_eq_true] at n
    cases r with
    | cons h1 h2 => exact .cons (rep_mask hm h d _ n.1 h1) (repl_mask hm h ds _ n.2 h2)
end
theorem store_mask {B B' : Wo} {k : Ky} (hm : B'.m = B.m) (h : ∀ a o, B.b a = some o → (∀ xs, o ≠ .lst xs) → B'.b a = some o) (s : StoreAt K k B H) : StoreAt K k B' H := by
  refine ⟨by rw [hm]; exact s.len, by rw [hm]; exact s.nd, fun i a o h1 h2 => ?_⟩
  rw [hm] at h1
  have := s.at' i a o h1 h2
  cases o with
  | lst ds => obtain ⟨vs, q1, q2, q3⟩ := this; exact ⟨vs, q1, repl_mask hm h _ _ q3 q2, q3⟩
  | ins c fs => exact this.elim
/-- the mutable lists come back -/
theorem RS.thaw {B1 B2 : Wo} {H2 : Hp} {k : Ky} (r : RS K B0 H0 s B σ H) (hfix : ∀ i a, i ∈ s.mu → σ[i]? = some (some (.ref a)) → B1.b a = H a) (hB1 : ∀ a, B.b a = none → B1.b a = none ∨ ∃ i, i ∈ s.mu ∧ σ[i]? = some (some (.ref a))) (hx : Le B B1) (hxm : B1.m = B.m)
    (g : Ge B1 H B2 H2) (hs : StoreAt K k B2 H2) :
    ∃ B3, RS K B0 H0 { s with k := k } B3 σ H2 ∧ Le B B3 ∧ Ge B H B3 H2 ∧ B3.m = B2.m ∧ (∀ p, H p = none → B3.b p = B2.b p) ∧ ∀ a o, B2.b a = some o → (∀ xs, o ≠ .lst xs) → B3.b a = some o := by
  classical
  let M : Addr → Prop := fun a => ∃ i, i ∈ s.mu ∧ σ[i]? = some (some (.ref a))
  let B3 : Wo := ⟨B2.m, fun a => if M a then none else B2.b a⟩
  have hM : ∀ a, M a → B3.b a = none := fun a h => if_pos h
  have hN : ∀ a, ¬ M a → B3.b a = B2.b a := fun a h => if_neg h
  have own' : ∀ a, M a → ∃ vs, H a = some (.lst vs) ∧ B.b a = none ∧ a ∉ B.m := fun a ⟨i, h1, h3⟩ => by
    obtain ⟨a', vs, ds, g1, g2, g3, g4, g5, g6, g7⟩ := r.own i h1
    rw [h3] at g1
    cases g1
    exact ⟨vs, g3, g5, g7⟩
  have ext : Le B B3 := ⟨(hx.trans g.bb).m, fun a o h => by
    rw [hN a fun hm => by obtain ⟨_, _, e, _⟩ := own' a hm; rw [e] at h; cases h]
    exact g.bb.b a o (hx.b a o h)⟩
  have msk : ∀ a o, B2.b a = some o → (∀ xs, o ≠ .lst xs) → B3.b a = some o := fun a o h hl => by
    rw [hN a fun hm => ?_]
    · exact h
    · obtain ⟨vs, e, _, e3⟩ := own' a hm
      obtain ⟨i, h1, h3⟩ := hm
      have e1 := hfix i a h1 h3
      have e2 := g.bb.b a _ (e1.trans e)
      rw [h] at e2
      cases e2
      exact hl vs rfl
  have g3 : Ge B H B3 H2 := by
    refine ⟨fun a o hn h => g.hh a o (by rw [hxm]; exact hn) h, ext, ⟨fun a o h => ?_, fun a h => ?_⟩, fun a o h hb => ?_, fun a h => ?_⟩
    · by_cases hm : M a
      · rw [hM a hm] at h; cases h
      · rw [hN a hm] at h; exact g.wd.sub a o h
    · by_cases hm : M a
      · exact hM a hm
      · rw [hN a hm]; exact g.wd.spn a h
    · by_cases hm : M a
      · exact hM a hm
      · rw [hN a hm]
        rcases hB1 a hb with h1 | h1
        · exact g.old a o h h1
        · exact (hm h1).elim
    · have := g.nw a h
      rwa [hxm] at this
  refine ⟨B3, r.step g3 (store_mask (B := B2) (B' := B3) rfl msk hs), ext, g3, rfl, fun p hp => hN p fun hm => ?_, msk⟩
  obtain ⟨vs, e, _⟩ := own' p hm
  rw [hp] at e
  cases e
end
mutual
theorem avE_all (mu : List Nat) : ∀ (e : E), (∀ i ∈ mu, avE [i] e = true) → avE mu e = true
  | .var i, h => by
    simp only [avE, Bool.not_eq_true']
    cases hc : mu.contains i with
    | false => rfl
    | true =>
      have hm : i ∈ mu := by simpa using hc
      have := h i hm
      simp [avE] at this
  | .cst _, _ => rfl
  | .bin _ a b, h => by
    simp only [avE, Bool.and_eq_true] at h ⊢
    exact ⟨avE_all mu a fun i hi => (h i hi).1, avE_all mu b fun i hi => (h i hi).2⟩
  | .neg a, h => by
    simp only [avE] at h ⊢
    exact avE_all mu a h
  | .cmp _ a b, h => by
    simp only [avE, Bool.and_eq_true] at h ⊢
    exact ⟨avE_all mu a fun i hi => (h i hi).1, avE_all mu b fun i hi => (h i hi).2⟩
  | .chain _ _ a b c, h => by
    simp only [avE, Bool.and_eq_true] at h ⊢
    exact ⟨⟨avE_all mu a fun i hi => (h i hi).1.1, avE_all mu b fun i hi => (h i hi).1.2⟩, avE_all mu c fun i hi => (h i hi).2⟩
  | .isN a, h => by
    simp only [avE] at h ⊢
    exact avE_all mu a h
  | .notN a, h => by
    simp only [avE] at h ⊢
    exact avE_all mu a h
  | .and a b, h => by
    simp only [avE, Bool.and_eq_true] at h ⊢
    exact ⟨avE_all mu a fun i hi => (h i hi).1, avE_all mu b fun i hi => (h i hi).2⟩
  | .or a b, h => by
    simp only [avE, Bool.and_eq_true] at h ⊢
    exact ⟨avE_all mu a fun i hi => (h i hi).1, avE_all mu b fun i hi => (h i hi).2⟩
  | .not a, h => by
    simp only [avE] at h ⊢
    exact avE_all mu a h
  | .ite t a b, h => by
    simp only [avE, Bool.and_eq_true] at h ⊢
    exact ⟨⟨avT_all mu t fun i hi => (h i hi).1.1, avE_all mu a fun i hi => (h i hi).1.2⟩, avE_all mu b fun i hi => (h i hi).2⟩
  | .tup es, h => by
    simp only [avE] at h ⊢
    exact avEs_all mu es h
  | .lst es, h => by
    simp only [avE] at h ⊢
    exact avEs_all mu es h
  | .idx a b, h => by
    simp only [avE, Bool.and_eq_true] at h ⊢
    exact ⟨avE_all mu a fun i hi => (h i hi).1, avE_all mu b fun i hi => (h i hi).2⟩
  | .sli _ a b c, h => by
    simp only [avE, Bool.and_eq_true] at h ⊢
    exact ⟨⟨avE_all mu a fun i hi => (h i hi).1.1, avE_all mu b fun i hi => (h i hi).1.2⟩, avE_all mu c fun i hi => (h i hi).2⟩
  | .call _ es, h => by
    simp only [avE] at h ⊢
    exact avEs_all mu es h
  | .bi _ es, h => by
    simp only [avE] at h ⊢
    exact avEs_all mu es h
  | .isi a _, h => by
    simp only [avE] at h ⊢
    exact avE_all mu a h
  | .comp0 a _ it _, h => by
    simp only [avE, Bool.and_eq_true] at h ⊢
    exact ⟨avE_all mu a fun i hi => (h i hi).1, avI_all mu it fun i hi => (h i hi).2⟩
  | .comp1 a _ it t _, h => by
    simp only [avE, Bool.and_eq_true] at h ⊢
    exact ⟨⟨avE_all mu a fun i hi => (h i hi).1.1, avI_all mu it fun i hi => (h i hi).1.2⟩, avT_all mu t fun i hi => (h i hi).2⟩
  | .cell a, h => by
    simp only [avE] at h ⊢
    exact avE_all mu a h
  | .pop a, h => by
    simp only [avE] at h ⊢
    exact avE_all mu a h
  | .popAt a b, h => by
    simp only [avE, Bool.and_eq_true] at h ⊢
    exact ⟨avE_all mu a fun i hi => (h i hi).1, avE_all mu b fun i hi => (h i hi).2⟩
  | .lrng _ es, h => by
    simp only [avE] at h ⊢
    exact avEs_all mu es h
theorem avT_all (mu : List Nat) : ∀ (e : T), (∀ i ∈ mu, avT [i] e = true) → avT mu e = true
  | .val e, h => by
    simp only [avT] at h ⊢
    exact avE_all mu e h
  | .not t, h => by
    simp only [avT] at h ⊢
    exact avT_all mu t h
  | .and a b, h => by
    simp only [avT, Bool.and_eq_true] at h ⊢
    exact ⟨avT_all mu a fun i hi => (h i hi).1, avT_all mu b fun i hi => (h i hi).2⟩
  | .or a b, h => by
    simp only [avT, Bool.and_eq_true] at h ⊢
    exact ⟨avT_all mu a fun i hi => (h i hi).1, avT_all mu b fun i hi => (h i hi).2⟩
  | .ite a b c, h => by
    simp only [avT, Bool.and_eq_true] at h ⊢
    exact ⟨⟨avT_all mu a fun i hi => (h i hi).1.1, avT_all mu b fun i hi => (h i hi).1.2⟩, avT_all mu c fun i hi => (h i hi).2⟩
theorem avEs_all (mu : List Nat) : ∀ (e : Es), (∀ i ∈ mu, avEs [i] e = true) → avEs mu e = true
  | .nil, _ => rfl
  | .cons e es, h => by
    simp only [avEs, Bool.and_eq_true] at h ⊢
    exact ⟨avE_all mu e fun i hi => (h i hi).1, avEs_all mu es fun i hi => (h i hi).2⟩
theorem avI_all (mu : List Nat) : ∀ (e : I), (∀ i ∈ mu, avI [i] e = true) → avI mu e = true
  | .seq e, h => by
    simp only [avI] at h ⊢
    exact avE_all mu e h
  | .rng es, h => by
    simp only [avI] at h ⊢
    exact avEs_all mu es h
  | .enum e, h => by
    simp only [avI] at h ⊢
    exact avE_all mu e h
  | .zip a b, h => by
    simp only [avI, Bool.and_eq_true] at h ⊢
    exact ⟨avE_all mu a fun i hi => (h i hi).1, avE_all mu b fun i hi => (h i hi).2⟩
  | .rev e, h => by
    simp only [avI] at h ⊢
    exact avE_all mu e h
  | .revr es, h => by
    simp only [avI] at h ⊢
    exact avEs_all mu es h
end
section
variable {K : PySem.W.Frag} {c : Call} {B0 B : Wo} {H0 H : Hp} {s : Sta} {σ : L2.St} {il : E} {d : D} {k : Ky}
/-- an expression whose value holds no list: every slot may be named -/
theorem ev_pure {Q : VK} (r : RS K B0 H0 s B σ H) (he : evE c il s.ρ s.k = some (d, k)) (hn : noL d = true) (q : ∀ v B' H', RS K B0 H0 { s with k := k } B' σ H' → Le B B' → Ge B H B' H' → Rep K B' v d → Q v H') : tDU K c il σ H Q := by
  obtain ⟨B1, r1, x1, m1, f1, f2⟩ := r.freeze [] (fun _ h => by cases h)
  refine ⟨s.ρ, [], s.k, d, k, he, avE_all [] il (fun _ h => (by cases h)), B1, r1.wd, r1.spot, r1.ri, fun v B2 H2 g2 s2 r2 => ?_⟩
  obtain ⟨B3, r3, x3, g3, m3, _, h3⟩ := r.thaw (fun i a h1 h2 => f1 i a h1 (by simp) h2) (fun a hb => (f2 a hb).imp id fun ⟨i, h1, _, h2⟩ => ⟨i, h1, h2⟩) x1 m1 g2 s2
  exact q v B3 H2 r3 x3 g3 (rep_mask m3 h3 d v hn r2)
/-- the value is dropped -/
theorem ev_drop {Q : VK} (r : RS K B0 H0 s B σ H) (he : evE c il s.ρ s.k = some (d, k)) (q : ∀ v B' H', RS K B0 H0 { s with k := k } B' σ H' → Le B B' → Q v H') : tDU K c il σ H Q := by
  obtain ⟨B1, r1, x1, m1, f1, f2⟩ := r.freeze [] (fun _ h => by cases h)
  refine ⟨s.ρ, [], s.k, d, k, he, avE_all [] il (fun _ h => (by cases h)), B1, r1.wd, r1.spot, r1.ri, fun v B2 H2 g2 s2 r2 => ?_⟩
  obtain ⟨B3, r3, x3, g3, m3, _, h3⟩ := r.thaw (fun i a h1 h2 => f1 i a h1 (by simp) h2) (fun a hb => (f2 a hb).imp id fun ⟨i, h1, _, h2⟩ => ⟨i, h1, h2⟩) x1 m1 g2 s2
  exact q v B3 H2 r3 x3
theorem ev_test {tt : T} {b : Bool} {Q : Bool → Hp → Prop} (r : RS K B0 H0 s B σ H) (he : evT c tt s.ρ s.k = some (b, k)) (q : ∀ B' H', RS K B0 H0 { s with k := k } B' σ H' → Le B B' → Q b H') : tTU K c tt σ H Q := by
  obtain ⟨B1, r1, x1, m1, f1, f2⟩ := r.freeze [] (fun _ h => by cases h)
  refine ⟨s.ρ, [], s.k, b, k, he, avT_all [] tt (fun _ h => (by cases h)), B1, r1.wd, r1.spot, r1.ri, fun B2 H2 g2 s2 => ?_⟩
  obtain ⟨B3, r3, x3, g3, m3, _, h3⟩ := r.thaw (fun i a h1 h2 => f1 i a h1 (by simp) h2) (fun a hb => (f2 a hb).imp id fun ⟨i, h1, _, h2⟩ => ⟨i, h1, h2⟩) x1 m1 g2 s2
  exact q B3 H2 r3 x3
/-- any value: the mutable lists that are named stand for good from here on -/
theorem ev_any {Q : VK} (r : RS K B0 H0 s B σ H) (he : evE c il s.ρ s.k = some (d, k)) (q : ∀ v B' H', RS K B0 H0 (s.keep (fun m => avE m il) k) B' σ H' → Le B B' → Rep K B' v d → Q v H') : tDU K c il σ H Q := by
  obtain ⟨B1, r1, x1, m1, f1, f2⟩ := r.freeze (s.mu.filter fun i => avE [i] il) (fun i h => (List.mem_filter.mp h).1)
  refine ⟨s.ρ, _, s.k, d, k, he, avE_all (s.mu.filter fun i => avE [i] il) il fun i h => (List.mem_filter.mp h).2, B1, r1.wd, r1.spot, r1.ri, fun v B2 H2 g2 s2 r2 => ?_⟩
  exact q v B2 H2 (r1.step g2 s2) (x1.trans g2.bb) r2
theorem ev_st {s1 : Sta} {Q : VK} (r : RS K B0 H0 s B σ H) (he : stE c il s = some (d, s1)) (q : ∀ v B' H', RS K B0 H0 s1 B' σ H' → Le B B' → Rep K B' v d → Q v H') : tDU K c il σ H Q := by
  unfold stE at he
  split at he
  · cases he
  rename_i d' k' e1
  simp only [Option.some.injEq, Prod.mk.injEq] at he
  obtain ⟨rfl, rfl⟩ := he
  by_cases hn : noL d' = true
  · rw [if_pos hn] at q
    exact ev_pure r e1 hn fun v B' H' r' x g rv => q v B' H' r' x rv
  · rw [if_neg hn] at q
    exact ev_any r e1 q
end
end Mini
namespace Mini
open PySem PySem.Spec PyProof.Rows L2
section
variable {X : Cx} {c : Call} {Γ : CT} {w0 n : Nat} {ds : List Def} {sc : Scope} {N : List Str}
variable {a b e t : Expr} {x y z : E} {pos : Pos} {es : List Expr} {xs : Es}

/-! ### new lists -/
def tFU (K : PySem.W.Frag) (c : Call) (il : E) : TE := fun σ H Q => ∃ ρ mu k ds k', evE c il ρ k = some (.lst ds, k') ∧ avE mu il = true ∧ tFr K ρ mu k ds k' σ H Q
theorem f_lst (ha : PAD X c es xs) : PE X (.List es pos) (tFU X.K c (.lst xs)) := by
  refine ⟨fun pins s σ H Q I ⟨ρ, mu, k, ds, k', he, hav, h⟩ => ?_⟩
  simp only [evE] at he
  cases e1 : evEs c xs ρ k with
  | none => rw [e1] at he; cases he
  | some p =>
    obtain ⟨d1, k1⟩ := p
    rw [e1] at he
    simp only [Option.bind_some] at he
    split at he
    · rename_i hz
      cases he
      refine (pe_lst (ha ρ mu k _ _ e1 (by simpa [avE] using hav))).run pins s σ H Q I ?_
      obtain ⟨B, w, s', ri, q⟩ := h
      refine ⟨B, w, s', ri, fun vs B1 H1 g1 s1 r1 => ⟨by rw [r1.len]; exact line_of hz, fun p hp => ?_⟩⟩
      exact q p vs B1 _ (none_back g1 s1 hp) (g1.trans (Ge.newOut g1.wd s1 hp)) (s1.geOut hp) upd_same (g1.wd.gone hp) (s1.ne hp) r1
    · cases he
theorem f_comp0 (hx : XF Γ w0 ds n sc N X) {scope : Scope} {tg it elt : Expr} {tgd : Tg} {itd : I} {eltd : E} (hit : plainE it = true) (P : CParts X c N scope tg it elt tgd itd eltd) :
    PE X (.ListComp elt [⟨tg, it, [], 0⟩] scope pos) (tFU X.K c (.comp0 eltd tgd itd ((ownOf N scope.names).map (·.2)))) := by
  refine ⟨fun pins s σ H Q I ⟨ρ, mu, k, ds, k', he, hav, h⟩ => ?_⟩
  obtain ⟨ys, e1, h2⟩ := comp0_rd P he hav
  cases e1
  exact (pe_lc hx.calm (by rw [hx.nn]; exact hx.nd) (piU P.itr) P.ok (fun s H C cl fp => pgU (P.tgt s H C cl fp)) (fun s H C cl fp => pts_nil) (fun s H C cl fp => peU (P.elt s H C cl fp)) (noSet_of hit X.env)).run pins s σ H Q I (h2 σ H Q h)
theorem f_comp1 (hx : XF Γ w0 ds n sc N X) {scope : Scope} {tg it elt q : Expr} {tgd : Tg} {itd : I} {eltd : E} {qd : T} (hit : plainE it = true) (P : CParts X c N scope tg it elt tgd itd eltd)
    (hq : ∀ (s : Shared) (H : Hp) (C : Addr) (cl : List (Str × Addr)) (fp : List Addr), PTD (X.blk s H scope (compEnvC scope cl C X.env) fp) c q qd) :
    PE X (.ListComp elt [⟨tg, it, [q], 0⟩] scope pos) (tFU X.K c (.comp1 eltd tgd itd qd ((ownOf N scope.names).map (·.2)))) := by
  refine ⟨fun pins s σ H Q I ⟨ρ, mu, k, ds, k', he, hav, h⟩ => ?_⟩
  obtain ⟨ys, e1, h2⟩ := comp1_rd P he hav
  cases e1
  exact (pe_lc hx.calm (by rw [hx.nn]; exact hx.nd) (piU P.itr) P.ok (fun s H C cl fp => pgU (P.tgt s H C cl fp)) (fun s H C cl fp => pts_one (ptU (hq s H C cl fp))) (fun s H C cl fp => peU (P.elt s H C cl fp)) (noSet_of hit X.env)).run pins s σ H Q I (h2 σ H Q h)
theorem biSem_list {as dl : List D} (h : biSem .list as = some (.lst dl)) : as = [.lst dl] ∨ as = [.tup dl] := by
  cases as with
  | nil => simp [biSem] at h
  | cons u us =>
    cases us with
    | nil => cases u <;> simp [biSem] at h <;> subst h <;> simp
    | cons _ _ => simp [biSem] at h
theorem biSem_sorted {as dl : List D} (h : biSem .sorted as = some (.lst dl)) : (∃ ns : List Int, as = [.lst (ns.map .int)] ∧ ns.length < 64 ∧ dl = (sortI ns).map .int) ∨ ∃ es : List D, as = [.lst es] ∧ sortOkD es = true ∧ dl = sortD es := by
  cases as with
  | nil => simp [biSem] at h
  | cons u us =>
    cases us with
    | nil =>
      cases u <;> simp only [biSem] at h <;> first | (cases h; done) | skip
      split at h
      · rename_i ns e
        split at h
        · rename_i h64
          cases h
          exact .inl ⟨ns, by rw [toInts_map e], of_decide_eq_true h64, rfl⟩
        · cases h
      · split at h
        · rename_i hok
          cases h
          exact .inr ⟨_, rfl, hok, rfl⟩
        · cases h
    | cons _ _ => simp [biSem] at h
theorem f_list (hx : XF Γ w0 ds n sc N X) {p : Pos} (hg : glob sc ("list" : Str) = true) (hne : es ≠ []) (hes : ∀ e ∈ es, plainE e = true) (ha : PAD X c es xs) :
    PE X (.Call (.Name ("list" : Str) p) es [] pos) (tFU X.K c (.bi .list xs)) := by
  refine ⟨fun pins sh σ H Q I ⟨ρ, mu, k, dl, k', he, hav, h⟩ => ?_⟩
  simp only [avE] at hav
  simp only [evE] at he
  split at he
  · cases he
  rename_i d1 k1 e1
  cases e2 : biSem .list (d1.map (deref k1)) with
  | none => rw [e2] at he; cases he
  | some z =>
    rw [e2] at he
    simp only [Option.map_some, Option.some.injEq, Prod.mk.injEq] at he
    obtain ⟨rfl, rfl⟩ := he
    obtain ⟨h1, h2, h3⟩ := glob_of hx hg
    cases es with
    | nil => exact absurd rfl hne
    | cons e es =>
      have st := star_of (hes e List.mem_cons_self) es X.env
      have ns : (backTo pos (starEach es X.env)).any (·.1) = false := noStar_of fun u hu => hes u (List.mem_cons_of_mem _ hu)
      have hA := ha ρ mu k d1 k1 e1 hav
      obtain ⟨B, w, s', ri, q⟩ := h
      refine (pe_callTy call_list_of h1 (hx.F.bi _ (by decide +kernel)) (by decide +kernel) hA h3 h2 st ns).run pins sh σ H Q I ⟨B, w, s', ri, fun vs B1 H1 g1 s1 r1 => ?_⟩
      have rr := derefs_rep s1 r1
      rcases biSem_list e2 with e3 | e3
      · rw [e3] at rr
        obtain ⟨v, rfl, rv⟩ := reph_one rr
        obtain ⟨pa, ys, rfl, h4, h5⟩ := rv.l g1.wd
        exact ⟨pa, ys, rfl, .inl (.inl (.inl h4)), fun l hl => q l ys B1 _ (none_back g1 s1 hl) (g1.trans (Ge.newOut g1.wd s1 hl)) (s1.geOut hl) upd_same (g1.wd.gone hl) (s1.ne hl) h5⟩
      · rw [e3] at rr
        obtain ⟨v, rfl, rv⟩ := reph_one rr
        have rv := rv.o (fun _ h => by cases h)
        cases rv with
        | @tup pa ys _ h4 h5 =>
          exact ⟨pa, ys, rfl, .inr (ext_t g1.wd.sub h4), fun l hl => q l ys B1 _ (none_back g1 s1 hl) (g1.trans (Ge.newOut g1.wd s1 hl)) (s1.geOut hl) upd_same (g1.wd.gone hl) (s1.ne hl) h5⟩
theorem f_sorted (hx : XF Γ w0 ds n sc N X) {p : Pos} (hg : glob sc ("sorted" : Str) = true) (hne : es ≠ []) (hes : ∀ e ∈ es, plainE e = true) (ha : PAD X c es xs) :
    PE X (.Call (.Name ("sorted" : Str) p) es [] pos) (tFU X.K c (.bi .sorted xs)) := by
  refine ⟨fun pins sh σ H Q I ⟨ρ, mu, k, dl, k', he, hav, h⟩ => ?_⟩
  simp only [avE] at hav
  simp only [evE] at he
  split at he
  · cases he
  rename_i d1 k1 e1
  cases e2 : biSem .sorted (d1.map (deref k1)) with
  | none => rw [e2] at he; cases he
  | some z =>
    rw [e2] at he
    simp only [Option.map_some, Option.some.injEq, Prod.mk.injEq] at he
    obtain ⟨rfl, rfl⟩ := he
    obtain ⟨h1, h2, h3⟩ := glob_of hx hg
    cases es with
    | nil => exact absurd rfl hne
    | cons e es =>
      have st := star_of (hes e List.mem_cons_self) es X.env
      have ns : (backTo pos (starEach es X.env)).any (·.1) = false := noStar_of fun u hu => hes u (List.mem_cons_of_mem _ hu)
      have hA := ha ρ mu k d1 k1 e1 hav
      obtain ⟨B, w, s', ri, q⟩ := h
      refine (pe_callB (cr_sortedX hx.room.units) h1 (hx.F.bi _ (by decide +kernel)) (by decide +kernel) hA h3 h2 st ns).run pins sh σ H Q I ⟨B, w, s', ri, fun vs B1 H1 g1 s1 r1 => ?_⟩
      have rr := derefs_rep s1 r1
      rcases biSem_sorted e2 with ⟨ms, e3, h64, rfl⟩ | ⟨es', e3, hok, rfl⟩
      · rw [e3] at rr
        obtain ⟨v, rfl, rv⟩ := reph_one rr
        obtain ⟨pa, ys, rfl, h4, h5⟩ := rv.l g1.wd
        obtain rfl := h5.ints
        refine .inl ⟨pa, ms, rfl, .inl (.inl h4), h64, fun ns' o hp hs ho => ?_⟩
        have e2 : ns' = sortI ms := PySem.W.ksm_same (hp.trans (sortI_perm ms).symm) hs (sortI_sorted ms)
        rw [e2]
        exact q o _ B1 _ (none_back g1 s1 ho) (g1.trans (Ge.newOut g1.wd s1 ho)) (s1.geOut ho) upd_same (g1.wd.gone ho) (s1.ne ho) (repl_ints _)
      · rw [e3] at rr
        obtain ⟨v, rfl, rv⟩ := reph_one rr
        obtain ⟨pa, ys, rfl, h4, h5⟩ := rv.l g1.wd
        exact .inr (sorted_ask g1.wd h4 h5 hok fun ys' o hr ho => q o _ B1 _ (none_back g1 s1 ho) (g1.trans (Ge.newOut g1.wd s1 ho)) (s1.geOut ho) upd_same (g1.wd.gone ho) (s1.ne ho) hr)
theorem f_rep (ha : PED X c a x) (hb : PED X c b y) : PE X (.BinOp a .Mult b pos) (tFU X.K c (.bin .mul x y)) := by
  refine ⟨fun pins s σ H Q I ⟨ρ, mu, k, dl, k', he, hav, h⟩ => ?_⟩
  simp only [avE, Bool.and_eq_true] at hav
  simp only [evE] at he
  split at he
  · cases he
  rename_i d1 k1 e1
  split at he
  · cases he
  rename_i d2 k2 e2
  have key : ∃ (xs : List D) (j : Int), deref k2 d1 = .lst xs ∧ deref k2 d2 = .int j ∧ -9223372036854775808 ≤ j ∧ j < 9223372036854775808 ∧ xs.length * j.toNat ≤ 16777216 ∧ dl = (List.replicate j.toNat xs).flatten ∧ k' = k2 := by
    generalize deref k2 d1 = u at he
    generalize deref k2 d2 = v at he
    cases u <;> cases v <;> simp only [boSem, Option.map_none] at he <;> first | (cases he; done) | skip
    · split at he <;> cases he
    · rename_i xs j
      split at he <;> first | (cases he; done) | skip
      rename_i hc
      simp only [Bool.and_eq_true, decide_eq_true_eq] at hc
      simp only [Option.map_some, Option.some.injEq, Prod.mk.injEq, D.lst.injEq] at he
      exact ⟨xs, j, rfl, rfl, hc.1.1, hc.1.2, by simpa [lineOk] using hc.2, he.1.symm, he.2.symm⟩
  obtain ⟨xs, j, h1, h2, h3, h4, h5, rfl, rfl⟩ := key
  obtain ⟨B, w, s', ri, q⟩ := h
  refine (pe_op op_rep (ha ρ mu k _ _ e1 hav.1) (hb ρ mu k1 _ _ e2 hav.2)).run pins s σ H Q I ⟨B, w, s', ri, fun v1 B1 H1 g1 s1 r1 => ⟨B1, g1.wd, s1, ri.ext g1.bb, fun v2 B2 H2 g2 s2 r2 => ?_⟩⟩
  have r1' := deref_rep s2 (Rep.ext g2.bb _ _ r1)
  have r2' := deref_rep s2 r2
  rw [h1] at r1'
  rw [h2] at r2'
  obtain ⟨p, vs, rfl, h6, h7⟩ := r1'.l g2.wd
  have r2' := r2'.o (fun _ e => by cases e)
  cases r2'
  refine ⟨p, j, vs, rfl, rfl, h6, by omega, by omega, by rw [h7.len]; exact h5, fun o ho => ?_⟩
  have g12 := g1.trans g2
  exact q o _ B2 _ (none_back g12 s2 ho) (g12.trans (Ge.newOut g2.wd s2 ho)) (s2.geOut ho) upd_same (g2.wd.gone ho) (s2.ne ho) (repl_rep h7)
/-- the shapes of new lists -/
theorem fresh_e {m : Nat} {il : E} (hx : XF Γ w0 ds n sc N X) (hc : c = run w0 ds n) (h : cE Γ (m + 1) sc N e = some il) (hf : freshShape e = true) : PE X e (tFU X.K c il) ∨ isComp e = true := by
  have ih := ih_at (Γ := Γ) (w0 := w0) (ds := ds) (n := n) m
  subst hc
  cases e <;> try (simp only [freshShape, Bool.false_eq_true] at hf)
  case ListComp => exact .inr rfl
  case BinOp a op b pos =>
    cases a <;> first | (simp [freshShape] at hf; done) | skip
    cases op <;> first | (simp [freshShape] at hf; done) | skip
    simp only [cE] at h
    split at h <;> first | (cases h; done) | skip
    rename_i o x y h1 h2 h3
    cases h1
    cases h
    exact .inl (f_rep (ih.e hx h2) (ih.e hx h3))
  case Call f args kw q =>
    cases f <;> simp only [freshShape, Bool.false_eq_true] at hf
    rename_i s p
    simp only [cE] at h
    split at h <;> first | (cases h; done) | skip
    rotate_left
    · rename_i heq; cases heq
    rename_i heq
    cases heq
    split at h <;> first | (cases h; done) | skip
    rename_i hg
    split at h
    · rename_i i hi
      obtain ⟨_, _, _, _, hm, _⟩ := hx.F.fns s i hi
      have h2 : X.mg s = none := by
        simp only [Bool.or_eq_true, Bool.and_eq_true] at hf
        rcases hf with hf | hf
        · have hs' := beq_iff_eq.mp hf; subst hs'; exact hx.F.bi _ (by decide +kernel)
        · have hs' := beq_iff_eq.mp hf.1; subst hs'; exact hx.F.bi _ (by decide +kernel)
      rw [hm] at h2
      cases h2
    · simp only [Bool.or_eq_true, Bool.and_eq_true] at hf
      rcases hf with hf | hf
      · have hs' := beq_iff_eq.mp hf
        subst hs'
        have n1 : (("sorted" : Str) == ("isinstance" : Str)) = false := by decide +kernel
        have n2 : (("sorted" : Str) == ("list" : Str)) = false := by decide +kernel
        have n3 : (("sorted" : Str) == ("tuple" : Str)) = false := by decide +kernel
        rw [n1] at h
        simp only [Bool.false_eq_true, if_false, n2, n3, Bool.or_self] at h
        split at h
        · rename_i hgc
          have h1 := hx.F.gcd _ (List.contains_iff_mem.mp hgc)
          have h2 := hx.F.bi ("sorted" : Str) (by decide +kernel)
          rw [h2] at h1
          cases h1
        · split at h <;> first | (cases h; done) | skip
          rename_i bb a as hb
          have e3 : cBI ("sorted" : Str) = some .sorted := rfl
          rw [e3] at hb
          cases hb
          cases e1 : mapO (cE Γ m sc N) (a :: as) with
          | none => rw [e1] at h; cases h
          | some xs =>
            rw [e1] at h
            cases h
            exact .inl (f_sorted hx hg (by simp) (mapO_plain e1) (mapO_pad (fun e il => ih.e hx) e1))
      · obtain ⟨hf1, hf2⟩ := hf
        have hs' := beq_iff_eq.mp hf1
        subst hs'
        have n1 : (("list" : Str) == ("isinstance" : Str)) = false := by decide +kernel
        rw [n1] at h
        simp only [Bool.false_eq_true, if_false] at h
        split at h
        · rename_i hgc
          have h1 := hx.F.gcd _ (List.contains_iff_mem.mp hgc)
          have h2 := hx.F.bi ("list" : Str) (by decide +kernel)
          rw [h2] at h1
          cases h1
        · split at h
          · rename_i as hr
            split at hr <;> first | (cases hr; done) | skip
            split at hr <;> first | (cases hr; done) | skip
            rename_i a
            cases a <;> first | (simp [rngArgs] at hr; done) | (simp at hf2; done)
          split at h <;> first | (cases h; done) | skip
          rename_i bb a as hb _
          have e3 : cBI ("list" : Str) = some .list := rfl
          rw [e3] at hb
          cases hb
          cases e1 : mapO (cE Γ m sc N) (a :: as) with
          | none => rw [e1] at h; cases h
          | some xs =>
            rw [e1] at h
            cases h
            exact .inl (f_list hx hg (by simp) (mapO_plain e1) (mapO_pad (fun e il => ih.e hx) e1))
  case List es p =>
    simp only [cE] at h
    cases e1 : mapO (cE Γ m sc N) es with
    | none => rw [e1] at h; cases h
    | some xs => rw [e1] at h; cases h; exact .inl (f_lst (mapO_pad (fun e il => ih.e hx) e1))
/-- the reading of a new list that goes into the store -/
theorem cell_fr {K : PySem.W.Frag} {ρ : Rho} {mu : List Nat} {k k1 : Ky} {dl : List D} {σ : L2.St} {H : Hp} {Q : VK} (hn : noLs dl = true) (h : tD K ρ mu k (.ref k1.length) (k1 ++ [.lst dl]) σ H Q) : tFr K ρ mu k dl k1 σ H Q := by
  obtain ⟨B, w, s, ri, q⟩ := h
  refine ⟨B, w, s, ri, fun p vs B1 H1 hp g1 s1 hl hb hm r1 => ?_⟩
  refine q (.ref p) (B1.push p) H1 (g1.push hp hb) (s1.push hm ⟨vs, hl, r1, hn⟩) (.ref ?_)
  show (B1.m ++ [p])[k1.length]? = some p
  rw [← s1.len]; simp
theorem cell_fu {K : PySem.W.Frag} {il : E} {σ : L2.St} {H : Hp} {Q : VK} (h : tDU K c (.cell il) σ H Q) : tFU K c il σ H Q := by
  obtain ⟨ρ, mu, k, d, k', he, hav, h⟩ := h
  simp only [avE] at hav
  simp only [evE] at he
  split at he <;> first | (cases he; done) | skip
  rename_i dl k1 e1
  split at he <;> cases he
  rename_i hn
  exact ⟨ρ, mu, k, dl, k1, e1, hav, cell_fr hn h⟩
/-- a new list of the store -/
theorem d_cell (h : PE X e (tFU X.K c x)) : PED X c e (.cell x) := fun ρ mu k d k' he hav => h.wk fun σ H Q q => cell_fu ⟨ρ, mu, k, d, k', he, hav, q⟩

/-! ### the state, changed -/
variable {K : PySem.W.Frag} {B0 B : Wo} {H0 H : Hp} {s : Sta} {σ : L2.St} {il : E} {d : D} {k : Ky}
theorem mem_filter_ne {i j : Nat} {mu : List Nat} : j ∈ mu.filter (· != i) ↔ j ∈ mu ∧ j ≠ i := by
  rw [List.mem_filter]
  simp
theorem RS.put {v : V} (r : RS K B0 H0 s B σ H) (i : Nat) (rv : Rep K B v d) : RS K B0 H0 (s.put i d) B (σ.set i (some v)) H := by
  refine ⟨r.ge, r.spot, ⟨by simp [Sta.put, r.ri.1], fun j d' hj hd => ?_⟩, fun j hj => ?_, fun j j' a hj hj' h1 h2 => ?_⟩
  · by_cases hji : j = i
    · subst hji
      have hl : j < s.ρ.length := by
        by_cases hl : j < s.ρ.length
        · exact hl
        · have hd' : (s.ρ.set j (some d))[j]? = some (some d') := hd
          rw [List.getElem?_eq_none (by simpa using hl)] at hd'
          cases hd'
      have hd' : (s.ρ.set j (some d))[j]? = some (some d') := hd
      rw [List.getElem?_set_self hl] at hd'
      cases hd'
      exact ⟨v, List.getElem?_set_self (by rw [r.ri.1]; exact hl), rv⟩
    · have hd' : (s.ρ.set i (some d))[j]? = some (some d') := hd
      rw [List.getElem?_set_ne (Ne.symm hji)] at hd'
      rw [List.getElem?_set_ne (Ne.symm hji)]
      exact r.ri.2 j d' (fun hm => hj (mem_filter_ne.mpr ⟨hm, hji⟩)) hd'
  · obtain ⟨hm, hji⟩ := mem_filter_ne.mp hj
    obtain ⟨a, vs, ds, h1, h2, h3⟩ := r.own j hm
    exact ⟨a, vs, ds, by rw [List.getElem?_set_ne (Ne.symm hji)]; exact h1, by show (s.ρ.set i _)[j]? = _; rw [List.getElem?_set_ne (Ne.symm hji)]; exact h2, h3⟩
  · obtain ⟨hm, hji⟩ := mem_filter_ne.mp hj
    obtain ⟨hm', hji'⟩ := mem_filter_ne.mp hj'
    rw [List.getElem?_set_ne (Ne.symm hji)] at h1
    rw [List.getElem?_set_ne (Ne.symm hji')] at h2
    exact r.apart j j' a hm hm' h1 h2
/-- a new list in a slot -/
theorem RS.putNew {p : Addr} {vs : List V} {dl : List D} (r : RS K B0 H0 s B σ H) (i : Nat) (hi : i < s.ρ.length) (hl : H p = some (.lst vs)) (hb : B.b p = none) (h0 : H0 p = none) (hsp : p ∉ B.m) (rv : RepL K B vs dl)
    (hn : ∀ j a, j ∈ s.mu → σ[j]? = some (some (.ref a)) → a ≠ p) : RS K B0 H0 { ρ := s.ρ.set i (some (.lst dl)), mu := i :: s.mu.filter (· != i), k := s.k } B (σ.set i (some (.ref p))) H := by
  have hiσ : i < σ.length := by rw [r.ri.1]; exact hi
  refine ⟨r.ge, r.spot, ⟨by simp [r.ri.1], fun j d' hj hd => ?_⟩, fun j hj => ?_, fun j j' a hj hj' h1 h2 => ?_⟩
  · simp only [List.mem_cons, not_or] at hj
    have hd' : (s.ρ.set i (some (.lst dl)))[j]? = some (some d') := hd
    rw [List.getElem?_set_ne (Ne.symm hj.1)] at hd' ⊢
    exact r.ri.2 j d' (fun hm => hj.2 (mem_filter_ne.mpr ⟨hm, hj.1⟩)) hd'
  · rcases List.mem_cons.mp hj with rfl | hj
    · exact ⟨p, vs, dl, List.getElem?_set_self hiσ, List.getElem?_set_self hi, hl, rv, hb, h0, hsp⟩
    · obtain ⟨hm, hji⟩ := mem_filter_ne.mp hj
      obtain ⟨a, vs, ds, h1, h2, h3⟩ := r.own j hm
      exact ⟨a, vs, ds, by rw [List.getElem?_set_ne (Ne.symm hji)]; exact h1, by show (s.ρ.set i _)[j]? = _; rw [List.getElem?_set_ne (Ne.symm hji)]; exact h2, h3⟩
  · rcases List.mem_cons.mp hj with rfl | hj
    · rcases List.mem_cons.mp hj' with rfl | hj'
      · rfl
      · obtain ⟨hm', hji'⟩ := mem_filter_ne.mp hj'
        rw [List.getElem?_set_self hiσ] at h1
        rw [List.getElem?_set_ne (Ne.symm hji')] at h2
        cases h1
        exact (hn j' _ hm' h2 rfl).elim
    · obtain ⟨hm, hji⟩ := mem_filter_ne.mp hj
      rw [List.getElem?_set_ne (Ne.symm hji)] at h1
      rcases List.mem_cons.mp hj' with rfl | hj'
      · rw [List.getElem?_set_self hiσ] at h2
        cases h2
        exact (hn j _ hm h1 rfl).elim
      · obtain ⟨hm', hji'⟩ := mem_filter_ne.mp hj'
        rw [List.getElem?_set_ne (Ne.symm hji')] at h2
        exact r.apart j j' a hm hm' h1 h2
/-- a mutable list changed -/
theorem RS.wr {a : Addr} {vs vs' : List V} {dl dl' : List D} {i : Nat} (r : RS K B0 H0 s B σ H) (hi : i ∈ s.mu) (ha : σ[i]? = some (some (.ref a))) (hd : s.ρ[i]? = some (some (.lst dl))) (rv : RepL K B vs' dl') : RS K B0 H0 { s with ρ := s.ρ.set i (some (.lst dl')) } B σ (upd H a (.lst vs')) := by
  obtain ⟨a', vs0, ds0, g1, g2, g3, g4, g5, g6, g7⟩ := r.own i hi
  rw [ha] at g1
  cases g1
  have hil : i < s.ρ.length := (List.getElem?_eq_some_iff.mp hd).1
  have ge' : Ge B0 H0 B (upd H a (.lst vs')) := by
    refine ⟨fun x o hne hx => ?_, r.ge.bb, ⟨fun x o hx => ?_, r.wd.spn⟩, r.ge.old, r.ge.nw⟩
    · rw [upd_ne (ne_of_none hx g6)]; exact r.ge.hh x o hne hx
    · rw [upd_ne (ne_of_none hx g5)]; exact r.wd.sub x o hx
  refine ⟨ge', r.spot.mono rfl (Le.refl _) (fun x u hx hu => by rw [upd_ne (fun e => g7 (by rw [← e]; exact hx))]; exact hu), ⟨by simp [r.ri.1], fun j d' hj hd' => ?_⟩, fun j hj => ?_, r.apart⟩
  · have hji : j ≠ i := fun e => hj (by rw [e]; exact hi)
    have hd'' : (s.ρ.set i (some (.lst dl')))[j]? = some (some d') := hd'
    rw [List.getElem?_set_ne (Ne.symm hji)] at hd''
    exact r.ri.2 j d' hj hd''
  · by_cases hji : j = i
    · subst hji
      exact ⟨a, vs', dl', ha, List.getElem?_set_self hil, upd_same, rv, g5, g6, g7⟩
    · obtain ⟨b, ws, es, h1, h2, h3, h4, h5, h6, h7⟩ := r.own j hj
      have hne : b ≠ a := fun e => hji (r.apart j i a hj hi (by rw [h1, e]) ha)
      exact ⟨b, ws, es, h1, by show (s.ρ.set i _)[j]? = _; rw [List.getElem?_set_ne (Ne.symm hji)]; exact h2, by rw [upd_ne hne]; exact h3, h4, h5, h6, h7⟩
theorem RS.wrS {k : Ky} {a : Addr} {o : HO} (r : RS K B0 H0 s B σ H) (ha : a ∈ B.m) (hs : StoreAt K k B (upd H a o)) : RS K B0 H0 { s with k := k } B σ (upd H a o) := by
  have hb : B.b a = none := r.wd.spn a ha
  have ge' : Ge B0 H0 B (upd H a o) := by
    refine ⟨fun x u hne hx => ?_, r.ge.bb, ⟨fun x u hx => ?_, r.wd.spn⟩, r.ge.old, r.ge.nw⟩
    · rw [upd_ne fun e => by
        subst e
        rcases r.ge.nw x ha with h | h
        · exact hne h
        · rw [hx] at h; cases h]
      exact r.ge.hh x u hne hx
    · rw [upd_ne (ne_of_none hx hb)]; exact r.wd.sub x u hx
  refine ⟨ge', hs, r.ri, fun j hj => ?_, r.apart⟩
  obtain ⟨b, ws, es, h1, h2, h3, h4, h5, h6, h7⟩ := r.own j hj
  exact ⟨b, ws, es, h1, h2, by rw [upd_ne (fun e => h7 (by rw [e]; exact ha))]; exact h3, h4, h5, h6, h7⟩
/-- a new flat list comes -/
theorem ev_fresh {dl : List D} {Q : VK} (r : RS K B0 H0 s B σ H) (he : evE c il s.ρ s.k = some (.lst dl, k)) (hn : noLs dl = true) (q : ∀ p vs B' H', RS K B0 H0 { s with k := k } B' σ H' → Le B B' → H p = none → H' p = some (.lst vs) → B'.b p = none → H0 p = none → p ∉ B'.m → (∀ j a, j ∈ s.mu → σ[j]? = some (some (.ref a)) → a ≠ p) → RepL K B' vs dl → Q (.ref p) H') : tFU K c il σ H Q := by
  obtain ⟨B1, r1, x1, m1, f1, f2⟩ := r.freeze [] (fun _ h => by cases h)
  refine ⟨s.ρ, [], s.k, dl, k, he, avE_all [] il (fun _ h => (by cases h)), B1, r1.wd, r1.spot, r1.ri, fun p vs B2 H2 hp g2 s2 hl hb hm r2 => ?_⟩
  obtain ⟨B3, r3, x3, g3, m3, h4, h3⟩ := r.thaw (fun i a h1 h2 => f1 i a h1 (by simp) h2) (fun a hb => (f2 a hb).imp id fun ⟨i, h1, _, h2⟩ => ⟨i, h1, h2⟩) x1 m1 g2 s2
  have hsp : p ∉ B.m := r.spot.ne hp
  refine q p vs B3 H2 r3 x3 hp hl (by rw [h4 p hp]; exact hb) ?_ (by rw [m3]; exact hm) (fun j a hj ha e => ?_) (repl_mask m3 h3 dl vs hn r2)
  · cases e : H0 p with
    | none => rfl
    | some o =>
      have := r.ge.hh p o (fun h => hsp (r.ge.bb.mem h)) e
      rw [hp] at this
      cases this
  · subst e
    obtain ⟨a', vs', ds', g1, g2', g3', _⟩ := r.own j hj
    rw [ha] at g1
    cases g1
    rw [hp] at g3'
    cases g3'
theorem ev_freshAny {dl : List D} {Q : VK} (r : RS K B0 H0 s B σ H) (he : evE c il s.ρ s.k = some (.lst dl, k)) (q : ∀ v B' H', RS K B0 H0 (s.keep (fun m => avE m il) k) B' σ H' → Le B B' → Rep K B' v (.lst dl) → Q v H') : tFU K c il σ H Q := by
  obtain ⟨ρ, mu, k0, d0, k1, h1, h2, h3⟩ := ev_any (K := K) (Q := Q) r he q
  obtain ⟨B1, r1, x1, m1, f1, f2⟩ := r.freeze (s.mu.filter fun i => avE [i] il) (fun i h => (List.mem_filter.mp h).1)
  exact ⟨s.ρ, _, s.k, dl, k, he, avE_all (s.mu.filter fun i => avE [i] il) il fun i h => (List.mem_filter.mp h).2, tFr_of ⟨B1, r1.wd, r1.spot, r1.ri, fun v B2 H2 g2 s2 r2 => q v B2 H2 (r1.step g2 s2) (x1.trans g2.bb) r2⟩⟩
end
end Mini
namespace Mini
open PySem PySem.Spec PyProof.Rows L2

def Fin' (K : PySem.W.Frag) (B0 : Wo) (H0 : Hp) (B : Wo) (o : O) (D : Ends) : Prop :=
  match o with
  | .nx s' => ∀ B' σ' H', Le B B' → RS K B0 H0 s' B' σ' H' → D.nx σ' H'
  | .bk s' => ∀ B' σ' H', Le B B' → RS K B0 H0 s' B' σ' H' → D.bk σ' H'
  | .ct s' => ∀ B' σ' H', Le B B' → RS K B0 H0 s' B' σ' H' → D.ct σ' H'
  | .rt d k => ∀ v B' H', Ge B0 H0 B' H' → StoreAt K k B' H' → Rep K B' v d → D.rt v H'
theorem Fin'.mono {K : PySem.W.Frag} {B0 B B1 : Wo} {H0 : Hp} {o : O} {D : Ends} (f : Fin' K B0 H0 B o D) (e : Le B B1) : Fin' K B0 H0 B1 o D := by
  cases o with
  | nx s => exact fun B' σ' H' e' r => f B' σ' H' (e.trans e') r
  | bk s => exact fun B' σ' H' e' r => f B' σ' H' (e.trans e') r
  | ct s => exact fun B' σ' H' e' r => f B' σ' H' (e.trans e') r
  | rt d k => exact f
def tSU (K : PySem.W.Frag) (c : Call) (w : Nat) (il : S) : TS := fun D σ H => ∃ B0 H0 s o B, evS c w il s = some o ∧ RS K B0 H0 s B σ H ∧ Fin' K B0 H0 B o D
def tSsU (K : PySem.W.Frag) (c : Call) (w : Nat) (il : Ss) : TS := fun D σ H => ∃ B0 H0 s o B, evSs c w il s = some o ∧ RS K B0 H0 s B σ H ∧ Fin' K B0 H0 B o D
theorem _root_.L2.PS.wk {X : Cx} {st : Stmt} {t t' : TS} (h : PS X st t) (w : ∀ D σ H, t' D σ H → t D σ H) : PS X st t' := ⟨fun pins s σ H D I hw => h.run pins s σ H D I (w _ _ _ hw)⟩
theorem _root_.L2.PSs.wk {X : Cx} {st : List Stmt} {t t' : TS} (h : PSs X st t) (w : ∀ D σ H, t' D σ H → t D σ H) : PSs X st t' := ⟨fun pins s σ H D I hw => h.run pins s σ H D I (w _ _ _ hw)⟩

structure XS (Γ : CT) (w0 : Nat) (ds : List Def) (n : Nat) (sc : Scope) (N : List Str) (X : Cx) : Prop where
  x : XF Γ w0 ds n sc N X
  fn : ∀ s, X.fn s = true
  po : PassesOwn (model X.prog X.w) X.A X.env X.xe
section
variable {X : Cx} {c : Call} {w : Nat} {Γ : CT} {w0 n : Nat} {ds : List Def} {sc : Scope} {N : List Str}
variable {a b e t : Expr} {x y z : E} {pos : Pos} {es : List Expr} {xs : Es}
theorem tok_of (hx : XS Γ w0 ds n sc N X) : TOk X sc := by
  intro s hs
  refine ⟨?_, .inl (hx.fn s)⟩
  unfold L2.Loc
  rw [hx.x.sc]
  unfold isLoc at hs
  split at hs
  · exact .inl (by assumption)
  · exact .inr (by assumption)
  · cases hs
theorem loc_of (hx : XS Γ w0 ds n sc N X) {s : Str} {i : Nat} (h : slotL sc N s = some i) : X.N.Nodup ∧ X.N[i]? = some s ∧ Loc X.env.scope s ∧ (X.fn s = true ∨ X.env.scope.names.lookup s = some .local) := by
  obtain ⟨h1, h2⟩ := slotL_of h
  exact ⟨by rw [hx.x.nn]; exact hx.x.nd, by rw [hx.x.nn]; exact h2, (tok_of hx s h1).1, (tok_of hx s h1).2⟩
theorem noSw {e : Expr} (h : isComp e = false) (h0 : plainE e = true) (tg : Option Expr) (l : Nat) (env : Env) : swapsWith e tg l env = pure false := by
  cases e <;> first | rfl | (simp [plainE] at h0; done) | (simp [isComp] at h; done)

theorem tgMu_mem : ∀ (tg : Tg) (mu : List Nat) (j : Nat), j ∈ tgMu tg mu ↔ j ∈ mu ∧ j ∉ tgSlots tg := by
  intro tg
  exact Tg.rec (motive_1 := fun tg => ∀ (mu : List Nat) (j : Nat), j ∈ tgMu tg mu ↔ j ∈ mu ∧ j ∉ tgSlots tg) (motive_2 := fun ts => ∀ (mu : List Nat) (j : Nat), j ∈ tgsMu ts mu ↔ j ∈ mu ∧ j ∉ tgsSlots ts)
    (fun i mu j => by simp only [tgMu, tgSlots, mem_filter_ne, List.mem_singleton])
    (fun ts ih mu j => by simp only [tgMu, tgSlots]; exact ih mu j)
    (fun mu j => by simp [tgsMu, tgsSlots])
    (fun t ts ih1 ih2 mu j => by simp only [tgsMu, tgsSlots, ih2, ih1, List.mem_append, not_or, and_assoc]) tg
theorem RS.updT {K : PySem.W.Frag} {B0 B : Wo} {H0 H : Hp} {s : Sta} {σ σ' : L2.St} {tg : Tg} {ρ' : Rho} (r : RS K B0 H0 s B σ H) (u : Upd' K B (tgSlots tg) s.ρ ρ' σ σ') : RS K B0 H0 { ρ := ρ', mu := tgMu tg s.mu, k := s.k } B σ' H := by
  refine ⟨r.ge, r.spot, ⟨by rw [u.l1, u.l2]; exact r.ri.1, fun j d hj hd => ?_⟩, fun j hj => ?_, fun j j' a hj hj' h1 h2 => ?_⟩
  · by_cases ht : j ∈ tgSlots tg
    · exact u.new j d ht hd
    · have o := u.old j ht
      have hd' : ρ'[j]? = some (some d) := hd
      rw [o.2] at hd'
      rw [o.1]
      exact r.ri.2 j d (fun hm => hj ((tgMu_mem tg s.mu j).mpr ⟨hm, ht⟩)) hd'
  · obtain ⟨hm, ht⟩ := (tgMu_mem tg s.mu j).mp hj
    obtain ⟨a, vs, dl, g1, g2, g3⟩ := r.own j hm
    have o := u.old j ht
    exact ⟨a, vs, dl, o.1.trans g1, o.2.trans g2, g3⟩
  · obtain ⟨hm, ht⟩ := (tgMu_mem tg s.mu j).mp hj
    obtain ⟨hm', ht'⟩ := (tgMu_mem tg s.mu j').mp hj'
    rw [(u.old j ht).1] at h1
    rw [(u.old j' ht').1] at h2
    exact r.apart j j' a hm hm' h1 h2
theorem s_set (hx : XS Γ w0 ds n sc N X) {s : Str} {p : Pos} {i : Nat} (hi : slotL sc N s = some i) (hsw : swapsWith e (some (.Name s p)) pos.line X.env = pure false) (he : PED X c e x) : PS X (.Assign [.Name s p] e pos) (tSU X.K c w (.set i x)) := by
  obtain ⟨h1, h2, h3, h4⟩ := loc_of hx hi
  refine (ps_set h1 h2 h3 (peU he) hsw h4).wk fun D σ H ⟨B0, H0, s, o, B, ev, r, f⟩ => ?_
  simp only [evS] at ev
  split at ev
  · cases ev
  rename_i d s1 e1
  cases ev
  show tDU X.K c x σ H fun v H1 => D.nx (σ.set i (some v)) H1
  exact ev_st r e1 fun v B' H' r' x' rv => f B' _ H' x' (r'.put i rv)
/-- name = a new flat list -/
theorem new_rd {K : PySem.W.Frag} {i : Nat} {il : E} {D : Ends} {σ : L2.St} {H : Hp} (h : tSU K c w (.new i il) D σ H) : tFU K c il σ H fun v H1 => D.nx (σ.set i (some v)) H1 := by
  obtain ⟨B0, H0, s, o, B, ev, r, f⟩ := h
  simp only [evS] at ev
  split at ev <;> first | (cases ev; done) | skip
  rename_i dl k e1
  split at ev
  · rename_i hn
    cases ev
    simp only [Bool.and_eq_true, decide_eq_true_eq] at hn
    refine ev_fresh r e1 hn.1 fun p vs B' H' r' x' hp hl hb h0 hsp hne rv => ?_
    exact f B' _ H' x' (r'.putNew i hn.2 hl hb h0 hsp rv hne)
  · cases ev
    exact ev_freshAny r e1 fun v B' H' r' x' rv => f B' _ H' x' (r'.put i rv)
theorem sw_no (hx : XS Γ w0 ds n sc N X) {s : Str} (h : swNo sc s = true) (hc : isComp e = true) (p : Pos) (l : Nat) : swapsWith e (some (.Name s p)) l X.env = pure false := by
  cases e <;> first | (simp [isComp] at hc; done) | skip
  have hk : X.env.kindOf s = some .cell := by
    show X.env.scope.names.lookup s = _
    rw [hx.x.sc]; simpa [swNo] using h
  unfold swapsWith
  simp only [hk]
  have h2 : (NameKind.cell == NameKind.local) = false := by decide
  simp [h2]
theorem s_new (hx : XS Γ w0 ds n sc N X) {s : Str} {p : Pos} {i : Nat} (hi : slotL sc N s = some i) (hsw : swapsWith e (some (.Name s p)) pos.line X.env = pure false) (he : PE X e (tFU X.K c x)) : PS X (.Assign [.Name s p] e pos) (tSU X.K c w (.new i x)) := by
  obtain ⟨h1, h2, h3, h4⟩ := loc_of hx hi
  exact (ps_set h1 h2 h3 he hsw h4).wk fun D σ H h => new_rd h
theorem sw_of (hx : XS Γ w0 ds n sc N X) {s : Str} {p : Pos} {elt : Expr} {gs : List Comprehension} {scope : Scope} {pc : Pos} (h : swOk sc s p (.ListComp elt gs scope pc) = true) (l : Nat) : X.env.scope.names.lookup s = some .local ∧ swapsWith (.ListComp elt gs scope pc) (some (.Name s p)) l X.env = pure true := by
  simp only [swOk, Bool.and_eq_true, Bool.not_eq_true'] at h
  obtain ⟨⟨⟨h1, h2⟩, h3⟩, h4⟩ := h
  have h1' : sc.kind = .function := by
    cases hk : sc.kind <;> rw [hk] at h1 <;> first | rfl | (exact absurd h1 (by decide))
  have h2' : sc.names.lookup s = some .local := by simpa using h2
  refine ⟨by rw [hx.x.sc]; exact h2', sw_true (by rw [hx.x.sc]; exact h1') (by rw [hx.x.sc]; exact h2') h3 h4⟩
theorem s_newc0 (hx : XS Γ w0 ds n sc N X) {s : Str} {p pc : Pos} {i : Nat} {scope : Scope} {tg it elt : Expr} {tgd : Tg} {itd : I} {eltd : E} (hi : slotL sc N s = some i) (hs : swOk sc s p (.ListComp elt [⟨tg, it, [], 0⟩] scope pc) = true) (hit : plainE it = true) (P : CParts X c N scope tg it elt tgd itd eltd) :
    PS X (.Assign [.Name s p] (.ListComp elt [⟨tg, it, [], 0⟩] scope pc) pos) (tSU X.K c w (.new i (.comp0 eltd tgd itd ((ownOf N scope.names).map (·.2))))) := by
  obtain ⟨h1, h2, h3, h4⟩ := loc_of hx hi
  obtain ⟨h5, h6⟩ := sw_of hx hs pos.line
  refine (ps_setLc (g := gU X.K tgd) (tt := tYes) (te := tDU X.K c eltd) hx.x.calm h1 h2 h5 h6 (piU P.itr) P.ok (fun s H C cl fp => pgU (P.tgt s H C cl fp)) (fun s H C cl fp => pts_nil) (fun s H C cl fp => peU (P.elt s H C cl fp)) (noSet_of hit X.env)).wk fun D σ H h => ?_
  obtain ⟨ρ, mu, k, dl, k', he, hav, h⟩ := new_rd h
  obtain ⟨ys, e1, hr⟩ := comp0_rd P he hav
  cases e1
  exact hr σ H _ h
theorem s_newc1 (hx : XS Γ w0 ds n sc N X) {s : Str} {p pc : Pos} {i : Nat} {scope : Scope} {tg it elt q : Expr} {tgd : Tg} {itd : I} {eltd : E} {qd : T} (hi : slotL sc N s = some i) (hs : swOk sc s p (.ListComp elt [⟨tg, it, [q], 0⟩] scope pc) = true) (hit : plainE it = true) (P : CParts X c N scope tg it elt tgd itd eltd)
    (hq : ∀ (s : Shared) (H : Hp) (C : Addr) (cl : List (Str × Addr)) (fp : List Addr), PTD (X.blk s H scope (compEnvC scope cl C X.env) fp) c q qd) :
    PS X (.Assign [.Name s p] (.ListComp elt [⟨tg, it, [q], 0⟩] scope pc) pos) (tSU X.K c w (.new i (.comp1 eltd tgd itd qd ((ownOf N scope.names).map (·.2))))) := by
  obtain ⟨h1, h2, h3, h4⟩ := loc_of hx hi
  obtain ⟨h5, h6⟩ := sw_of hx hs pos.line
  refine (ps_setLc (g := gU X.K tgd) (tt := tTU X.K c qd) (te := tDU X.K c eltd) hx.x.calm h1 h2 h5 h6 (piU P.itr) P.ok (fun s H C cl fp => pgU (P.tgt s H C cl fp)) (fun s H C cl fp => pts_one (ptU (hq s H C cl fp))) (fun s H C cl fp => peU (P.elt s H C cl fp)) (noSet_of hit X.env)).wk fun D σ H h => ?_
  obtain ⟨ρ, mu, k, dl, k', he, hav, h⟩ := new_rd h
  obtain ⟨ys, e1, hr⟩ := comp1_rd P he hav
  cases e1
  exact hr σ H _ h
/-- name = a new list of the store -/
theorem cell_rd {K : PySem.W.Frag} {i : Nat} {il : E} {D : Ends} {σ : L2.St} {H : Hp} (h : tSU K c w (.set i (.cell il)) D σ H) : tFU K c il σ H fun v H1 => D.nx (σ.set i (some v)) H1 := by
  obtain ⟨B0, H0, s, o, B, ev, r, f⟩ := h
  simp only [evS] at ev
  split at ev
  · cases ev
  rename_i d s1 e1
  cases ev
  exact cell_fu (ev_st r e1 fun v B' H' r' x' rv => f B' _ H' x' (r'.put i rv))
theorem s_cellc0 (hx : XS Γ w0 ds n sc N X) {s : Str} {p pc : Pos} {i : Nat} {scope : Scope} {tg it elt : Expr} {tgd : Tg} {itd : I} {eltd : E} (hi : slotL sc N s = some i) (hs : swOk sc s p (.ListComp elt [⟨tg, it, [], 0⟩] scope pc) = true) (hit : plainE it = true) (P : CParts X c N scope tg it elt tgd itd eltd) :
    PS X (.Assign [.Name s p] (.ListComp elt [⟨tg, it, [], 0⟩] scope pc) pos) (tSU X.K c w (.set i (.cell (.comp0 eltd tgd itd ((ownOf N scope.names).map (·.2)))))) := by
  obtain ⟨h1, h2, h3, h4⟩ := loc_of hx hi
  obtain ⟨h5, h6⟩ := sw_of hx hs pos.line
  refine (ps_setLc (g := gU X.K tgd) (tt := tYes) (te := tDU X.K c eltd) hx.x.calm h1 h2 h5 h6 (piU P.itr) P.ok (fun s H C cl fp => pgU (P.tgt s H C cl fp)) (fun s H C cl fp => pts_nil) (fun s H C cl fp => peU (P.elt s H C cl fp)) (noSet_of hit X.env)).wk fun D σ H h => ?_
  obtain ⟨ρ, mu, k, dl, k', he, hav, h⟩ := cell_rd h
  obtain ⟨ys, e1, hr⟩ := comp0_rd P he hav
  cases e1
  exact hr σ H _ h
theorem s_cellc1 (hx : XS Γ w0 ds n sc N X) {s : Str} {p pc : Pos} {i : Nat} {scope : Scope} {tg it elt q : Expr} {tgd : Tg} {itd : I} {eltd : E} {qd : T} (hi : slotL sc N s = some i) (hs : swOk sc s p (.ListComp elt [⟨tg, it, [q], 0⟩] scope pc) = true) (hit : plainE it = true) (P : CParts X c N scope tg it elt tgd itd eltd)
    (hq : ∀ (s : Shared) (H : Hp) (C : Addr) (cl : List (Str × Addr)) (fp : List Addr), PTD (X.blk s H scope (compEnvC scope cl C X.env) fp) c q qd) :
    PS X (.Assign [.Name s p] (.ListComp elt [⟨tg, it, [q], 0⟩] scope pc) pos) (tSU X.K c w (.set i (.cell (.comp1 eltd tgd itd qd ((ownOf N scope.names).map (·.2)))))) := by
  obtain ⟨h1, h2, h3, h4⟩ := loc_of hx hi
  obtain ⟨h5, h6⟩ := sw_of hx hs pos.line
  refine (ps_setLc (g := gU X.K tgd) (tt := tTU X.K c qd) (te := tDU X.K c eltd) hx.x.calm h1 h2 h5 h6 (piU P.itr) P.ok (fun s H C cl fp => pgU (P.tgt s H C cl fp)) (fun s H C cl fp => pts_one (ptU (hq s H C cl fp))) (fun s H C cl fp => peU (P.elt s H C cl fp)) (noSet_of hit X.env)).wk fun D σ H h => ?_
  obtain ⟨ρ, mu, k, dl, k', he, hav, h⟩ := cell_rd h
  obtain ⟨ys, e1, hr⟩ := comp1_rd P he hav
  cases e1
  exact hr σ H _ h
/-- all constants: no swap -/
theorem cst_sw (hx : XS Γ w0 ds n sc N X) {ts vs : List Expr} {tk vk : Nat} {tp vp : Pos} (h : cstOk vs = true) : swappedStores [.Tuple ts tk tp] (.Tuple vs vk vp) X.env = pure none := by
  have h' : vs.all (foldedForSure 8) = true := h
  unfold swappedStores
  simp only [h']
  repeat' split
  all_goals first | rfl | (exfalso; simp_all; done)
theorem s_asg (hx : XS Γ w0 ds n sc N X) {ts : List Expr} {j : Nat} {p : Pos} {tg : Tg} (hg : cTg sc N 9 (.Tuple ts j p) = some tg) (h0 : plainE e = true) (hne : swappedStores [.Tuple ts j p] e X.env = pure none) (he : PED X c e x) : PS X (.Assign [.Tuple ts j p] e pos) (tSU X.K c w (.asg tg x)) := by
  have G := cTg_ok hx.x.nn hx.x.nd hx.x.calm (tok_of hx) 9 _ _ hg
  refine (ps_asg (peU he) (pgU G) (by cases e <;> first | rfl | (simp [plainE] at h0; done)) hne rfl).wk fun D σ H ⟨B0, H0, s, o, B, ev, r, f⟩ => ?_
  simp only [evS] at ev
  split at ev
  · cases ev
  rename_i d s1 e1
  cases e2 : asg tg d s1.ρ with
  | none => rw [e2] at ev; cases ev
  | some ρ' =>
    rw [e2] at ev
    cases ev
    refine ev_st r e1 fun v B' H' r' x' rv => ⟨B', d, s1.ρ, ρ', r'.wd.sub, r'.ri.1, rv, e2, fun σ' u => f B' σ' H' x' ?_⟩
    exact r'.updT u
/-- name op= e -/
theorem aug_ok {op : Operator} {o : BO} (ho : cBO op = some o) {x y z : D} (h : augSem o x y = some z) : ∃ r, OpR X (inplaceOp op) r ∧ RD X.K r x y z := by
  cases op <;> simp [cBO] at ho <;> subst ho
  · cases x <;> cases y <;> simp only [augSem] at h <;> first | (cases h; done) | skip
    · cases h; exact ⟨_, iop_add, rd_int fun _ => .int _⟩
    · split at h <;> cases h
      rename_i a b hz
      refine ⟨_, iop_add_str, fun B H k vx vy Q w s rx ry q => ?_⟩
      have rx := rx.o (fun _ e => by cases e)
      have ry := ry.o (fun _ e => by cases e)
      cases rx
      cases ry
      exact ⟨a, b, rfl, rfl, line_of hz, fin_d w s (.str _) q⟩
  · cases x <;> cases y <;> simp only [augSem] at h <;> first | (cases h; done) | skip
    cases h; exact ⟨_, iop_sub, rd_int fun _ => .int _⟩
  · cases x <;> cases y <;> simp only [augSem] at h <;> first | (cases h; done) | skip
    split at h <;> cases h
    rename_i hm
    simp only [small64, Bool.or_eq_true, Bool.and_eq_true, decide_eq_true_eq] at hm
    refine ⟨_, iop_mul, rd_intC ?_ fun _ => .int _⟩
    rcases hm with hm | hm
    · exact .inl ⟨by omega, by omega⟩
    · exact .inr ⟨by omega, by omega⟩
  · cases x <;> cases y <;> simp only [augSem] at h <;> cases h
  · cases x <;> cases y <;> simp only [augSem] at h <;> cases h
  · cases x <;> cases y <;> simp only [augSem] at h <;> cases h
  · cases x <;> cases y <;> simp only [augSem] at h <;> first | (cases h; done) | skip
    split at h <;> cases h
    rename_i hm
    exact ⟨_, iop_shr, rd_intC (of_decide_eq_true hm) fun _ => .int _⟩
  · cases x <;> cases y <;> simp only [augSem] at h <;> cases h
  · cases x <;> cases y <;> simp only [augSem] at h <;> cases h
theorem augSem_noL {o : BO} {x y z : D} (h : augSem o x y = some z) : noL x = true ∧ noL y = true := by
  cases o <;> cases x <;> cases y <;> simp only [augSem] at h <;> first | (cases h; done) | exact ⟨rfl, rfl⟩
theorem s_aug (hx : XS Γ w0 ds n sc N X) {s : Str} {p : Pos} {i : Nat} {op : Operator} {o : BO} (hi : slotL sc N s = some i) (ho : cBO op = some o) (he : PED X c e x) : PS X (.AugAssign (.Name s p) op e pos) (tSU X.K c w (.aug i o x)) := by
  obtain ⟨h1, h2, h3, h4⟩ := loc_of hx hi
  refine ⟨fun pins sh σ H D I h => ?_⟩
  obtain ⟨B0, H0, s, o', B, ev, r, f⟩ := h
  simp only [evS] at ev
  split at ev <;> first | (cases ev; done) | skip
  rename_i d0 hd0
  split at ev
  · cases ev
  rename_i d1 k1 e1
  cases e2 : augSem o d0 d1 with
  | none => rw [e2] at ev; cases ev
  | some z =>
    rw [e2] at ev
    cases ev
    obtain ⟨rr, hop, hrd⟩ := aug_ok (X := X) ho e2
    obtain ⟨n0, n1⟩ := augSem_noL e2
    have hmu : i ∉ s.mu := fun hm => by
      obtain ⟨a, vs, dl, g1, g2, _⟩ := r.own i hm
      rw [hd0] at g2
      cases g2
      simp [noL] at n0
    obtain ⟨v0, hv0, rv0⟩ := r.ri.2 i d0 hmu hd0
    refine (ps_aug h1 h2 h3 (peU he) (ti := rr) hop h4).run pins sh σ H D I ⟨v0, hv0, ?_⟩
    refine ev_pure r e1 n1 fun v B' H' r' x' g rv => ?_
    refine hrd B' H' _ v0 v _ r'.wd r'.spot (.of (Rep.ext x' _ _ rv0)) (.of rv) fun v2 B2 H2 g2 s2 r2 => ?_
    exact f B2 _ H2 (x'.trans g2.bb) ((r'.step g2 s2).put i r2)
end
end Mini
namespace Mini
open PySem PySem.Spec PyProof.Rows L2
section
variable {X : Cx} {c : Call} {w : Nat} {Γ : CT} {w0 n : Nat} {ds : List Def} {sc : Scope} {N : List Str}
variable {a b e t : Expr} {x y z : E} {pos : Pos} {es : List Expr} {xs : Es}
theorem slot_of {s : Str} {i : Nat} (hx : XS Γ w0 ds n sc N X) (h : slot sc N s = some i) (p : Pos) : PE X (.Name s p) (tVar i) := by
  unfold slot at h
  split at h
  · rename_i hv
    simp only [okName, Bool.and_eq_true, Bool.not_eq_true'] at hv
    have hN : X.N[i]? = some s := by rw [hx.x.nn]; exact ix_get h
    have hvis : Vis X.env.scope s := by
      rw [hx.x.sc]
      have h1 := hv.1
      unfold isVis at h1
      unfold Vis
      split at h1
      · exact .inl (by assumption)
      · exact .inr (.inl (by assumption))
      · exact .inr (.inr (by assumption))
      · cases h1
    exact pe_var hN hvis hv.2.1.1 hv.2.1.2
  · cases h
theorem not_mu {K : PySem.W.Frag} {B0 B : Wo} {H0 H : Hp} {s : Sta} {σ : L2.St} {i r : Nat} (q : RS K B0 H0 s B σ H) (hd : s.ρ[i]? = some (some (.ref r))) : i ∉ s.mu := fun hm => by
  obtain ⟨_, _, _, _, e, _⟩ := q.own i hm
  rw [hd] at e
  cases e
theorem ref_slot {K : PySem.W.Frag} {B0 B : Wo} {H0 H : Hp} {s : Sta} {σ : L2.St} {i r : Nat} (q : RS K B0 H0 s B σ H) (hd : s.ρ[i]? = some (some (.ref r))) : ∃ a, σ[i]? = some (some (.ref a)) ∧ B.m[r]? = some a := by
  obtain ⟨v, hv, rv⟩ := q.ri.2 i _ (not_mu q hd) hd
  cases rv with
  | ref h => exact ⟨_, hv, h⟩
theorem s_app (hx : XS Γ w0 ds n sc N X) {s : Str} {p ap cp : Pos} {i : Nat} (hi : slot sc N s = some i) (h0 : plainE e = true) (hl : (ap.endLine == cp.line) = true) (he : PED X c e x) :
    PS X (.Expr (.Call (.Attribute (.Name s p) ("append" : Str) ap) [e] [] cp) pos) (tSU X.K c w (.app i x)) := by
  have hs : ∀ es', starEach (e :: es') X.env = (false, eval e X.env) :: starEach es' X.env := fun es' => star_of h0 es' X.env
  refine (ps_expr (pe_bm PySem.F.plainAttrs_list PySem.F.slot_list_append PySem.F.type_list_append mt_append (slot_of hx hi p) (pa_cons (peU he) pa_nil (hs [])) rfl (by rw [hs]; rfl) hl (hs []) rfl)).wk fun D σ H ⟨B0, H0, s, o, B, ev, r, f⟩ => ?_
  simp only [evS] at ev
  split at ev <;> first | (cases ev; done) | skip
  · rename_i rr hd
    split at ev
    · cases ev
    rename_i d k e1
    split at ev <;> first | (cases ev; done) | skip
    rename_i dl ek
    split at ev
    · rename_i hc
      cases ev
      simp only [Bool.and_eq_true, decide_eq_true_eq] at hc
      obtain ⟨hn, hz⟩ := hc
      obtain ⟨q, g1, g2⟩ := ref_slot r hd
      obtain ⟨u, hu⟩ := r.spot.has (List.mem_of_getElem? g2)
      have hsl : s.k[rr]? ≠ none := fun e => by
        have h1 := List.getElem?_eq_none_iff.mp e
        have h2 := (List.getElem?_eq_some_iff.mp g2).1
        rw [r.spot.len] at h2
        omega
      cases ek0 : s.k[rr]? with
      | none => exact (hsl ek0).elim
      | some ob =>
        refine ⟨_, g1, ?_⟩
        have hty : ∃ ws, H q = some (.lst ws) := by
          cases ob with
          | lst d0 => obtain ⟨ws, h1, _⟩ := ref_list r.spot g2 ek0; exact ⟨ws, h1⟩
          | ins cc fs => exact (r.spot.at' _ _ _ g2 ek0).elim
        obtain ⟨ws, hws⟩ := hty
        refine ⟨.inl ⟨rfl, ws, .inl (.inl hws)⟩, ?_⟩
        refine ev_pure r e1 hn fun v B' H' r' x' g rv => ?_
        have g2' := x'.get g2
        obtain ⟨vs, h1, h2, h3⟩ := ref_list r'.spot g2' ek
        refine ⟨q, vs, v, rfl, rfl, h1, by rw [h2.len]; exact hz, ?_⟩
        exact f B' _ _ x' (r'.wrS (List.mem_of_getElem? g2') (r'.spot.wr g2' (h2.append (.cons rv .nil)) (noLs_app h3 (by simp [noLs, hn]))))
    · cases ev
  · rename_i dl hd
    split at ev
    · cases ev
    rename_i d k e1
    split at ev
    · rename_i hc
      cases ev
      simp only [Bool.and_eq_true, decide_eq_true_eq, List.contains_iff_mem] at hc
      obtain ⟨⟨hm, hn⟩, hz⟩ := hc
      obtain ⟨q, vs, dl', g1, g2, g3, g4, g5, g6, g7⟩ := r.own i hm
      rw [hd] at g2
      cases g2
      refine ⟨_, g1, .inl ⟨rfl, vs, .inl (.inl g3)⟩, ?_⟩
      refine ev_pure r e1 hn fun v B' H' r' x' g rv => ?_
      refine ⟨q, vs, v, rfl, rfl, g.hh q _ g7 g3, by rw [g4.len]; exact hz, ?_⟩
      exact f B' _ _ x' (r'.wr (vs := vs) (dl := dl) hm g1 hd ((RepL.ext x' _ _ g4).append (.cons rv .nil)))
    · cases ev
theorem s_appX {oe : Expr} {ap cp : Pos} (h0 : plainE e = true) (h1 : isCallE oe = false) (hl : (ap.endLine == cp.line) = true) (ho : PED X c oe y) (he : PED X c e x) :
    PS X (.Expr (.Call (.Attribute oe ("append" : Str) ap) [e] [] cp) pos) (tSU X.K c w (.appX y x)) := by
  have hs : ∀ es', starEach (e :: es') X.env = (false, eval e X.env) :: starEach es' X.env := fun es' => star_of h0 es' X.env
  refine (ps_expr (pe_bm PySem.F.plainAttrs_list PySem.F.slot_list_append PySem.F.type_list_append mt_append (peU ho) (pa_cons (peU he) pa_nil (hs [])) (noAttr h1 _ _ _) (by rw [hs]; rfl) hl (hs []) rfl)).wk fun D σ H ⟨B0, H0, s, o, B, ev, r, f⟩ => ?_
  simp only [evS] at ev
  split at ev <;> first | (cases ev; done) | skip
  rename_i rr k1 e1
  split at ev <;> first | (cases ev; done) | skip
  rename_i d k2 e2
  split at ev <;> first | (cases ev; done) | skip
  rename_i dl ek
  split at ev
  · rename_i hc
    cases ev
    simp only [Bool.and_eq_true, decide_eq_true_eq] at hc
    obtain ⟨hn, hz⟩ := hc
    refine ev_pure r e1 rfl fun v0 B1 H1 r1 x1 g1 rv0 => ?_
    cases rv0 with
    | @ref q _ hq =>
    obtain ⟨ws, hws⟩ := ref_ty r1.spot hq
    refine ⟨.inl ⟨rfl, ws, .inl (.inl hws)⟩, ?_⟩
    refine ev_pure r1 e2 hn fun v B2 H2 r2 x2 g2 rv => ?_
    have hq' := x2.get hq
    obtain ⟨vs, h1, h2, h3⟩ := ref_list r2.spot hq' ek
    refine ⟨q, vs, v, rfl, rfl, h1, by rw [h2.len]; exact hz, ?_⟩
    exact f B2 _ _ (x1.trans x2) (r2.wrS (List.mem_of_getElem? hq') (r2.spot.wr hq' (h2.append (.cons rv .nil)) (noLs_app h3 (by simp [noLs, hn]))))
  · cases ev
theorem s_pop (hx : XS Γ w0 ds n sc N X) {s : Str} {p ap cp : Pos} {i : Nat} (hi : slot sc N s = some i) (hl : (ap.endLine == cp.line) = true) :
    PS X (.Expr (.Call (.Attribute (.Name s p) ("pop" : Str) ap) [] [] cp) pos) (tSU X.K c w (.pop i)) := by
  refine (ps_expr (pe_bm0 PySem.F.plainAttrs_list PySem.F.slot_list_pop PySem.F.type_list_pop mt_pop (slot_of hx hi p) rfl hl)).wk fun D σ H ⟨B0, H0, s, o, B, ev, r, f⟩ => ?_
  simp only [evS] at ev
  split at ev <;> first | (cases ev; done) | skip
  · rename_i rr hd
    split at ev <;> first | (cases ev; done) | skip
    rename_i dl ek
    split at ev
    · cases ev
    rename_i hne
    cases ev
    obtain ⟨q, g1, g2⟩ := ref_slot r hd
    obtain ⟨vs, h1, h2, h3⟩ := ref_list r.spot g2 ek
    have hne' : vs ≠ [] := fun e => by subst e; cases h2; exact hne rfl
    refine ⟨_, g1, .inl ⟨rfl, vs, .inl (.inl h1)⟩, ⟨q, vs, vs.getLast hne', rfl, rfl, h1, ?_, ?_⟩⟩
    · rw [List.getLast_eq_getElem]; exact List.getElem?_eq_getElem _
    · refine f B _ _ (Le.refl _) (r.wrS (List.mem_of_getElem? g2) (r.spot.wr g2 ?_ ?_))
      · rw [List.dropLast_eq_take, List.dropLast_eq_take, h2.len]
        exact h2.take _
      · rw [List.dropLast_eq_take]; exact noLs_take _ h3
  · rename_i dl hd
    split at ev
    · rename_i hc
      cases ev
      simp only [Bool.and_eq_true, List.contains_iff_mem, Bool.not_eq_true', List.isEmpty_eq_false_iff] at hc
      obtain ⟨hm, hne⟩ := hc
      obtain ⟨q, vs, dl', g1, g2, g3, g4, g5, g6, g7⟩ := r.own i hm
      rw [hd] at g2
      cases g2
      have hne' : vs ≠ [] := fun e => by subst e; cases g4; exact hne rfl
      refine ⟨_, g1, .inl ⟨rfl, vs, .inl (.inl g3)⟩, ⟨q, vs, vs.getLast hne', rfl, rfl, g3, ?_, ?_⟩⟩
      · rw [List.getLast_eq_getElem]; exact List.getElem?_eq_getElem _
      · refine f B _ _ (Le.refl _) (r.wr (vs := vs) (dl := dl) hm g1 hd ?_)
        rw [List.dropLast_eq_take, List.dropLast_eq_take, g4.len]
        exact g4.take _
    · cases ev
theorem s_setI (hx : XS Γ w0 ds n sc N X) {s : Str} {p p2 : Pos} {i : Nat} {ie : Expr} (hi : slot sc N s = some i) (h0 : plainE e = true) (h1 : plainE ie = true) (he : PED X c e x) (hie : PED X c ie y) (hc0 : isComp e = false) :
    PS X (.Assign [.Subscript (.Name s p) ie p2] e pos) (tSU X.K c w (.setI i y x)) := by
  refine (ps_asg (peU he) (pg_sub (slot_of hx hi p) (peU hie) set_list (by intro v; cases ie <;> first | rfl | (simp [plainE] at h1; done))) (by cases e <;> first | rfl | (simp [plainE] at h0; done) | (simp [isComp] at hc0; done)) (by cases e <;> first | rfl | (simp [plainE] at h0; done)) rfl).wk fun D σ H ⟨B0, H0, s, o, B, ev, r, f⟩ => ?_
  simp only [evS] at ev
  split at ev
  · cases ev
  rename_i d k1 e1
  split at ev <;> first | (cases ev; done) | skip
  rename_i j k2 e2
  split at ev <;> first | (cases ev; done) | skip
  · rename_i rr hd
    split at ev <;> first | (cases ev; done) | skip
    rename_i dl ek
    split at ev
    · rename_i hn
      cases e3 : ixN dl.length j with
      | none => rw [e3] at ev; cases ev
      | some jj =>
        rw [e3] at ev
        cases ev
        refine ev_pure r e1 hn fun v B1 H1 r1 x1 g1 rv => ?_
        obtain ⟨q, q1, q2⟩ := ref_slot r hd
        refine ⟨_, q1, ?_⟩
        refine ev_pure r1 e2 rfl fun v2 B2 H2 r2 x2 g2 rv2 => ?_
        cases rv2
        have hq' := x2.get (x1.get q2)
        obtain ⟨vs, h1, h2, h3⟩ := ref_list r2.spot hq' ek
        refine ⟨q, vs, j, jj, rfl, rfl, h1, by rw [h2.len]; exact e3, ?_⟩
        exact f B2 _ _ (x1.trans x2) (r2.wrS (List.mem_of_getElem? hq') (r2.spot.wr hq' (h2.set jj (Rep.ext x2 _ _ rv)) (noLs_set jj h3 hn)))
    · cases ev
  · rename_i dl hd
    split at ev
    · rename_i hc
      simp only [Bool.and_eq_true, List.contains_iff_mem] at hc
      obtain ⟨hm, hn⟩ := hc
      cases e3 : ixN dl.length j with
      | none => rw [e3] at ev; cases ev
      | some jj =>
        rw [e3] at ev
        cases ev
        refine ev_pure r e1 hn fun v B1 H1 r1 x1 g1 rv => ?_
        obtain ⟨q, vs, dl', q1, q2, q3, q4, q5, q6, q7⟩ := r.own i hm
        rw [hd] at q2
        cases q2
        refine ⟨_, q1, ?_⟩
        refine ev_pure r1 e2 rfl fun v2 B2 H2 r2 x2 g2 rv2 => ?_
        cases rv2
        have q3' := g1.hh q _ q7 q3
        refine ⟨q, vs, j, jj, rfl, rfl, g2.hh q _ (g1.nin q7 q3) q3', by rw [q4.len]; exact e3, ?_⟩
        refine f B2 _ _ (x1.trans x2) (r2.wr (vs := vs) (dl := dl) hm q1 hd ?_)
        exact (RepL.ext (x1.trans x2) _ _ q4).set jj (Rep.ext x2 _ _ rv)
    · cases ev
theorem s_setX {oe ie : Expr} {p2 : Pos} (h0 : plainE e = true) (h1 : plainE ie = true) (he : PED X c e x) (ho : PED X c oe z) (hie : PED X c ie y) (hc0 : isComp e = false) :
    PS X (.Assign [.Subscript oe ie p2] e pos) (tSU X.K c w (.setX z y x)) := by
  refine (ps_asg (peU he) (pg_sub (peU ho) (peU hie) set_list (by intro v; cases ie <;> first | rfl | (simp [plainE] at h1; done))) (by cases e <;> first | rfl | (simp [plainE] at h0; done) | (simp [isComp] at hc0; done)) (by cases e <;> first | rfl | (simp [plainE] at h0; done)) rfl).wk fun D σ H ⟨B0, H0, s, o, B, ev, r, f⟩ => ?_
  simp only [evS] at ev
  split at ev
  · cases ev
  rename_i d k1 e1
  split at ev <;> first | (cases ev; done) | skip
  rename_i rr k2 e2
  split at ev <;> first | (cases ev; done) | skip
  rename_i j k3 e3
  split at ev <;> first | (cases ev; done) | skip
  rename_i dl ek
  split at ev
  · rename_i hn
    cases e4 : ixN dl.length j with
    | none => rw [e4] at ev; cases ev
    | some jj =>
      rw [e4] at ev
      cases ev
      refine ev_pure r e1 hn fun v B1 H1 r1 x1 g1 rv => ?_
      refine ev_pure r1 e2 rfl fun v0 B2 H2 r2 x2 g2 rv0 => ?_
      cases rv0 with
      | @ref q _ hq =>
      refine ev_pure r2 e3 rfl fun v2 B3 H3 r3 x3 g3 rv2 => ?_
      cases rv2
      have hq' := x3.get hq
      obtain ⟨vs, h1, h2, h3⟩ := ref_list r3.spot hq' ek
      refine ⟨q, vs, j, jj, rfl, rfl, h1, by rw [h2.len]; exact e4, ?_⟩
      exact f B3 _ _ ((x1.trans x2).trans x3) (r3.wrS (List.mem_of_getElem? hq') (r3.spot.wr hq' (h2.set jj (Rep.ext (x2.trans x3) _ _ rv)) (noLs_set jj h3 hn)))
  · cases ev
/-- a[i], by values, of a list -/
theorem get_list : PGet X (rIxL X.K) := by
  intro pins s σ H o i ov iv Q I rx ry h
  obtain ⟨p, xs, i, z, rfl, rfl, hq, he, q⟩ := h
  cases rx
  obtain ⟨t, rfl⟩ := ry
  obtain ⟨its, r, pl, hz⟩ := I.list hq
  obtain ⟨j, h1, h2, h3, h4, h5⟩ := L2.atI_get he
  obtain ⟨w, ew, rw'⟩ := r.get h2
  have hl := r.length
  have hn := line63
  have fin : EP X pins σ Q w s := ⟨z, H, I, rw', q⟩
  by_cases h0 : 0 ≤ i
  · have hj : i.toNat = j := by
      rw [seqIndex_of h0 h5] at h1
      exact Option.some.inj h1
    exact wpAny_getItem_list pl.isList h0 (by omega) (by rw [hj]; simpa using ew) fin
  · have hj : (i + (its.toArray.size : Int)).toNat = j := by
      rw [seqIndex_neg (by omega) h4] at h1
      rw [List.size_toArray, ← hl]
      exact Option.some.inj h1
    exact wpAny_getItem_list_neg pl.isList (by omega) (by rw [List.size_toArray] <;> omega) (by omega) (by rw [hj]; simpa using ew) fin
theorem s_augX {oe ie : Expr} {op : Operator} {o : BO} {p2 : Pos} (ho : cBO op = some o) (h1 : isSli ie = false) (hx0 : PED X c oe x) (hie : PED X c ie y) (he : PED X c e z) :
    PS X (.AugAssign (.Subscript oe ie p2) op e pos) (tSU X.K c w (.augX x y o z)) := by
  refine ⟨fun pins sh σ H D I h => ?_⟩
  obtain ⟨B0, H0, s, o', B, ev, r, f⟩ := h
  simp only [evS] at ev
  split at ev <;> first | (cases ev; done) | skip
  rename_i rr k1 e1
  split at ev <;> first | (cases ev; done) | skip
  rename_i j k2 e2
  split at ev <;> first | (cases ev; done) | skip
  rename_i dl ek
  split at ev <;> first | (cases ev; done) | skip
  rename_i d0 hd0
  split at ev <;> first | (cases ev; done) | skip
  rename_i d1 k3 e3
  split at ev <;> first | (cases ev; done) | skip
  rename_i dz hz
  split at ev <;> first | (cases ev; done) | skip
  rename_i dl' ek'
  split at ev <;> first | (cases ev; done) | skip
  rename_i hn
  cases e4 : ixN dl'.length j with
  | none => rw [e4] at ev; cases ev
  | some jj =>
    rw [e4] at ev
    cases ev
    obtain ⟨tr, hop, hrd⟩ := aug_ok (X := X) ho hz
    obtain ⟨n0, n1⟩ := augSem_noL hz
    refine (ps_augS (peU hx0) (peU hie) get_list (peU he) hop set_list (by intro ov iv new; cases ie <;> first | rfl | (simp [isSli] at h1; done))).run pins sh σ H D I ?_
    refine ev_pure r e1 rfl fun v B1 H1 r1 x1 g1 rv => ?_
    cases rv with
    | @ref q _ hq =>
    refine ev_pure r1 e2 rfl fun v2 B2 H2 r2 x2 g2 rv2 => ?_
    cases rv2
    have hq2 := x2.get hq
    obtain ⟨vs, h2, h3, h4⟩ := ref_list r2.spot hq2 ek
    obtain ⟨u, hu, ru⟩ := atI_rep h3 hd0
    refine ⟨q, vs, j, u, rfl, rfl, .inl (.inl h2), hu, ?_⟩
    refine ev_pure r2 e3 n1 fun v3 B3 H3 r3 x3 g3 rv3 => ?_
    refine hrd B3 H3 _ u v3 _ r3.wd r3.spot (.of (Rep.ext x3 _ _ ru)) (.of rv3) fun v4 B4 H4 g4 s4 r4 => ?_
    have hq4 := g4.bb.get (x3.get hq2)
    obtain ⟨vs', h5, h6, h7⟩ := ref_list s4 hq4 ek'
    refine ⟨q, vs', j, jj, rfl, rfl, h5, by rw [h6.len]; exact e4, ?_⟩
    have r4' := r3.step g4 s4
    exact f B4 _ _ (((x1.trans x2).trans x3).trans g4.bb) (r4'.wrS (List.mem_of_getElem? hq4) (s4.wr hq4 (h6.set jj r4) (noLs_set jj h7 hn)))
theorem s_par (hx : XS Γ w0 ds n sc N X) {s1 s2 : Str} {px py pt pt2 : Pos} {kt k2 : Nat} {i j : Nat} (hi : slotL sc N s1 = some i) (hj : slotL sc N s2 = some j) (hp : parOk sc s1 s2 px py a b = true) (ha0 : plainE a = true) (hb0 : plainE b = true) (ha : PED X c a x) (hb : PED X c b y) :
    PS X (.Assign [.Tuple [.Name s1 px, .Name s2 py] kt pt] (.Tuple [a, b] k2 pt2) pos) (tSU X.K c w (.par i j x y)) := by
  simp only [parOk, Bool.and_eq_true, Bool.not_eq_true', beq_eq_false_iff_ne] at hp
  obtain ⟨⟨⟨⟨⟨⟨p0, p1⟩, p2⟩, p3⟩, p4⟩, p5⟩, p6⟩ := hp
  have p1' : X.env.scope.names.lookup s1 = some .local := by rw [hx.x.sc]; simpa using p1
  have p2' : X.env.scope.names.lookup s2 = some .local := by rw [hx.x.sc]; simpa using p2
  have p0' : X.env.scope.kind = .function := by
    rw [hx.x.sc]
    cases hk : sc.kind <;> rw [hk] at p0 <;> first | rfl | (exact absurd p0 (by decide))
  obtain ⟨n1, n2, _, _⟩ := loc_of hx hi
  obtain ⟨_, n3, _, _⟩ := loc_of hx hj
  have hij : i ≠ j := fun e => by subst e; rw [n2] at n3; cases n3; exact p4 rfl
  have hsw : swappedStores [.Tuple [.Name s1 px, .Name s2 py] kt pt] (.Tuple [a, b] k2 pt2) X.env = pure (some [s1, s2]) := by
    have hst : ([a, b].any fun | .Starred .. => true | _ => false) = false := by
      cases a <;> cases b <;> first | rfl | (simp [plainE] at ha0 hb0; done)
    have hk1 : X.env.kindOf s1 = some .local := p1'
    have hk2 : X.env.kindOf s2 = some .local := p2'
    have hbk : X.env.blockKind = .function := by unfold Env.blockKind; rw [p0']; rfl
    have hne : s2 ≠ s1 := fun e => p4 e.symm
    have hf : ([a, b].all (foldedForSure 8)) = false := by simpa using p5
    have hc : ([a, b].all (constantsAlone 8)) = false := by simpa using p6
    have p3' : py.line = px.line := by have := beq_iff_eq.mp p3; exact this.symm
    unfold swappedStores
    simp [hk1, hk2, hbk, hst, hf, hc, Expr.pos, p3', List.eraseDups_cons, hne]
    intro h
    rcases h with h | h
    · cases a <;> first | (cases h; done) | (simp [plainE] at ha0; done)
    · cases b <;> first | (cases h; done) | (simp [plainE] at hb0; done)
  refine (ps_par hx.x.calm n1 n2 n3 hij p1' p2' (pa_cons (peU ha) (pa_cons (peU hb) pa_nil (star_of hb0 [] X.env)) (star_of ha0 _ X.env)) hsw rfl).wk fun D σ H ⟨B0, H0, s, o, B, ev, r, f⟩ => ?_
  simp only [evS] at ev
  split at ev
  · cases ev
  rename_i d1 k1 e1
  split at ev
  · cases ev
  rename_i d2 k2 e2
  split at ev
  · rename_i hn
    cases ev
    simp only [Bool.and_eq_true] at hn
    refine ev_pure r e1 hn.1 fun v B1 H1 r1 x1 g1 rv => ?_
    refine ev_pure r1 e2 hn.2 fun v2 B2 H2 r2 x2 g2 rv2 => ?_
    exact ⟨v, v2, rfl, f B2 _ _ (x1.trans x2) ((r2.put i (Rep.ext x2 _ _ rv)).put j rv2)⟩
  · cases ev
end
end Mini
namespace Mini
open PySem PySem.Spec PyProof.Rows L2
section
variable {X : Cx} {c : Call} {w : Nat} {Γ : CT} {w0 n : Nat} {ds : List Def} {sc : Scope} {N : List Str}
variable {a b e t : Expr} {x y z : E} {pos : Pos} {es : List Expr} {xs : Es}
theorem s_ret (he : PED X c e x) : PS X (.Return (some e) pos) (tSU X.K c w (.ret x)) := by
  refine (ps_ret (peU he)).wk fun D σ H ⟨B0, H0, s, o, B, ev, r, f⟩ => ?_
  simp only [evS] at ev
  split at ev
  · cases ev
  rename_i d k e1
  cases ev
  exact ev_any r e1 fun v B' H' r' x' rv => f v B' H' r'.ge r'.spot rv
theorem s_retN : PS X (.Return none pos) (tSU X.K c w .retN) := by
  refine ps_retN.wk fun D σ H ⟨B0, H0, s, o, B, ev, r, f⟩ => ?_
  simp only [evS, Option.some.injEq] at ev
  subst ev
  exact f .non B H r.ge r.spot .non
theorem s_pass : PS X (.Pass pos) (tSU X.K c w .pass) := by
  refine ps_pass.wk fun D σ H ⟨B0, H0, s, o, B, ev, r, f⟩ => ?_
  simp only [evS, Option.some.injEq] at ev
  subst ev
  exact f B σ H (Le.refl _) r
theorem s_doc {x : Str} {j : Nat} {p1 : Pos} : PS X (.Expr (.Constant (.str x) j p1) pos) (tSU X.K c w .pass) := by
  refine ps_doc.wk fun D σ H ⟨B0, H0, s, o, B, ev, r, f⟩ => ?_
  simp only [evS, Option.some.injEq] at ev
  subst ev
  exact f B σ H (Le.refl _) r
theorem s_brk : PS X (.Break pos) (tSU X.K c w .brk) := by
  refine ps_break.wk fun D σ H ⟨B0, H0, s, o, B, ev, r, f⟩ => ?_
  simp only [evS, Option.some.injEq] at ev
  subst ev
  exact f B σ H (Le.refl _) r
theorem s_cnt : PS X (.Continue pos) (tSU X.K c w .cnt) := by
  refine ps_continue.wk fun D σ H ⟨B0, H0, s, o, B, ev, r, f⟩ => ?_
  simp only [evS, Option.some.injEq] at ev
  subst ev
  exact f B σ H (Le.refl _) r
theorem s_never {st : Stmt} : PS X st (tSU X.K c w .never) := by
  refine ps_never.wk fun D σ H ⟨B0, H0, s, o, B, ev, r, f⟩ => ?_
  simp only [evS] at ev
  cases ev
theorem s_expr (h0 : plainE e = true) (hc : isComp e = false) (he : PED X c e x) : PS X (.Expr e pos) (tSU X.K c w (.expr x)) := by
  refine (ps_expr (peU he) (noSw hc h0 _ _ _)).wk fun D σ H ⟨B0, H0, s, o, B, ev, r, f⟩ => ?_
  simp only [evS] at ev
  split at ev
  · cases ev
  rename_i d k e1
  cases ev
  exact ev_drop r e1 fun v B' H' r' x' => f B' σ H' x' r'
theorem s_ite {tt : T} {a b : List Stmt} {u v : Ss} (ht : PTD X c t tt) (ha : PSs X a (tSsU X.K c w u)) (hb : PSs X b (tSsU X.K c w v)) : PS X (.If t a b pos) (tSU X.K c w (.ite tt u v)) := by
  refine (ps_if (ptU ht) ha hb).wk fun D σ H ⟨B0, H0, s, o, B, ev, r, f⟩ => ?_
  simp only [evS] at ev
  split at ev
  · cases ev
  · rename_i k e1
    refine ev_test r e1 fun B' H' r' x' => ?_
    exact iteT ⟨B0, H0, _, o, B', ev, r', f.mono x'⟩
  · rename_i k e1
    refine ev_test r e1 fun B' H' r' x' => ?_
    exact iteF ⟨B0, H0, _, o, B', ev, r', f.mono x'⟩
theorem s_nil : PSs X [] (tSsU X.K c w .nil) := by
  refine pss_nil.wk fun D σ H ⟨B0, H0, s, o, B, ev, r, f⟩ => ?_
  simp only [evSs, Option.some.injEq] at ev
  subst ev
  exact f B σ H (Le.refl _) r
theorem s_cons {st : Stmt} {rest : List Stmt} {u : S} {v : Ss} (h1 : PS X st (tSU X.K c w u)) (h2 : PSs X rest (tSsU X.K c w v)) : PSs X (st :: rest) (tSsU X.K c w (.cons u v)) := by
  refine (pss_cons h1 h2).wk fun D σ H ⟨B0, H0, s, o, B, ev, r, f⟩ => ?_
  simp only [evSs] at ev
  cases e1 : evS c w u s with
  | none => rw [e1] at ev; cases ev
  | some o1 =>
    rw [e1] at ev
    refine ⟨B0, H0, s, o1, B, e1, r, ?_⟩
    cases o1 with
    | nx s1 => exact fun B' σ' H' x' r' => ⟨B0, H0, s1, o, B', ev, r', f.mono x'⟩
    | rt d k => cases ev; exact f
    | bk s1 => cases ev; exact f
    | ct s1 => cases ev; exact f
theorem s_while (hx : XS Γ w0 ds n sc N X) {tt : T} {a : List Stmt} {u : Ss} (ht : PTD X c t tt) (ha : PSs X a (tSsU X.K c w u)) : PS X (.While t a [] pos) (tSU X.K c w (.while tt u)) := by
  refine (ps_while hx.po (ptU ht) ha).wk fun D σ H ⟨B0, H0, s, o, B, ev, r, f⟩ => ?_
  simp only [evS] at ev
  refine ⟨fun m σ' H' => ∃ s' B', Le B B' ∧ RS X.K B0 H0 s' B' σ' H' ∧ whileD (fun s => evT c tt s.ρ s.k) (fun s => evSs c w u s) m s' = some o, ⟨w, s, B, Le.refl _, r, ev⟩, ?_⟩
  rintro m σ1 H1 ⟨s1, B1, x1, r1, ev1⟩
  cases m with
  | zero => simp [whileD] at ev1
  | succ m =>
    simp only [whileD] at ev1
    split at ev1
    · cases ev1
    · rename_i k e1
      cases ev1
      refine ev_test r1 e1 fun B' H' r' x' => ?_
      exact iteF (f B' σ1 H' (x1.trans x') r')
    · rename_i k e1
      refine ev_test r1 e1 fun B' H' r' x' => ?_
      refine iteT ?_
      cases e2 : evSs c w u { s1 with k := k } with
      | none => rw [e2] at ev1; cases ev1
      | some o1 =>
        rw [e2] at ev1
        refine ⟨_, fun σ' H' h => ⟨m, Nat.lt_succ_self m, h⟩, ⟨B0, H0, _, o1, B', e2, r', ?_⟩⟩
        cases o1 with
        | nx s2 => exact fun B2 σ' H2 x2 r2 => ⟨s2, B2, (x1.trans x').trans x2, r2, ev1⟩
        | ct s2 => exact fun B2 σ' H2 x2 r2 => ⟨s2, B2, (x1.trans x').trans x2, r2, ev1⟩
        | bk s2 => cases ev1; exact fun B2 σ' H2 x2 r2 => f B2 σ' H2 ((x1.trans x').trans x2) r2
        | rt d k => cases ev1; exact f
theorem s_for (hx : XS Γ w0 ds n sc N X) {tge ite : Expr} {tg : Tg} {it : I} {a : List Stmt} {u : Ss} (hg : PGD X tge tg) (h0 : plainE ite = true) (hi : PID X c tge ite it) (ha : PSs X a (tSsU X.K c w u)) : PS X (.For tge ite a [] pos) (tSU X.K c w (.for tg it u)) := by
  refine (ps_for hx.po hx.x.calm (piU hi) (pgU hg) ha (noSet_of h0 X.env)).wk fun D σ H ⟨B0, H0, s, o, B, ev, r, f⟩ => ?_
  simp only [evS] at ev
  split at ev
  · cases ev
  rename_i es wt k e1
  obtain ⟨B1, r1, x1, m1, f1, f2⟩ := r.freeze (s.mu.filter fun i => avI [i] it) (fun i h => (List.mem_filter.mp h).1)
  refine ⟨s.ρ, _, s.k, es, wt, k, e1, avI_all (s.mu.filter fun i => avI [i] it) it fun i h => (List.mem_filter.mp h).2, B1, r1.wd, r1.spot, r1.ri, fun J B2 H2 g2 s2 hJ => ?_⟩
  have r2 : RS X.K B0 H0 (s.keep (fun m => avI m it) k) B2 σ H2 := r1.step g2 s2
  have x2 : Le B B2 := x1.trans g2.bb
  refine ⟨fun i m σ' H' => m = es.length - i ∧ i ≤ es.length ∧ ∃ si Bi, Le B2 Bi ∧ RS X.K B0 H0 si Bi σ' H' ∧ forW wt tg (fun s => evSs c w u s) (es.drop i) si = some o, ⟨es.length, rfl, Nat.zero_le _, _, B2, Le.refl _, r2, ev⟩, ?_⟩
  rintro i m σ3 H3 ⟨rfl, hile, si, Bi, xi, ri, ei⟩
  by_cases hlt : i < es.length
  · refine .inr ?_
    have hdi : es[i]? = some es[i] := List.getElem?_eq_getElem hlt
    have hdrop : es.drop i = es[i] :: es.drop (i + 1) := List.drop_eq_getElem_cons hlt
    rw [hdrop] at ei
    simp only [forW] at ei
    split at ei <;> first | (cases ei; done) | skip
    rename_i hok
    obtain ⟨hgo, hy⟩ := (hJ Bi H3 si.k ⟨xi, ri.wd⟩ ri.spot hok).1 i _ hdi
    split at ei
    · cases ei
    rename_i ρ1 easg
    refine ⟨hgo, fun σ' H' => i + 1 ≤ es.length ∧ ∃ sj Bj, Le B2 Bj ∧ RS X.K B0 H0 sj Bj σ' H' ∧ forW wt tg (fun s => evSs c w u s) (es.drop (i + 1)) sj = some o, fun σ' H' hH' => ⟨es.length - (i + 1), by omega, rfl, hH'⟩, fun v H4 hyld => ?_⟩
    obtain ⟨B4, g4, s4, r4⟩ := hy v H4 hyld
    have r5 : RS X.K B0 H0 si B4 σ3 H4 := ri.step g4 s4
    cases e2 : evSs c w u { ρ := ρ1, mu := tgMu tg si.mu, k := si.k } with
    | none => rw [e2] at ei; cases ei
    | some o1 =>
      rw [e2] at ei
      refine ⟨B4, _, si.ρ, ρ1, g4.wd.sub, r5.ri.1, r4, easg, fun σ5 u5 => ⟨B0, H0, _, o1, B4, e2, r5.updT u5, ?_⟩⟩
      cases o1 with
      | nx s6 => exact fun B6 σ' H6 x6 r6 => ⟨hlt, s6, B6, (xi.trans g4.bb).trans x6, r6, ei⟩
      | ct s6 => exact fun B6 σ' H6 x6 r6 => ⟨hlt, s6, B6, (xi.trans g4.bb).trans x6, r6, ei⟩
      | bk s6 => cases ei; exact fun B6 σ' H6 x6 r6 => f B6 σ' H6 (x2.trans ((xi.trans g4.bb).trans x6)) r6
      | rt d k => cases ei; exact f
  · refine .inl ?_
    have hi : i = es.length := by omega
    subst hi
    rw [List.drop_length] at ei
    simp only [forW] at ei
    split at ei <;> first | (cases ei; done) | skip
    rename_i hok
    refine ⟨(hJ Bi H3 si.k ⟨xi, ri.wd⟩ ri.spot hok).2, ?_⟩
    simp only [Option.some.injEq] at ei
    subst ei
    exact f Bi σ3 H3 (x2.trans xi) ri
end
end Mini
namespace Mini
open PySem PySem.Spec PyProof.Rows L2
section
variable {X : Cx} {w : Nat} {Γ : CT} {w0 n : Nat} {ds : List Def} {sc : Scope} {N : List Str}
theorem swOk_pos {sc : Scope} {s : Str} {p : Pos} {e : Expr} (h : swOk sc s p e = true) : isComp e = true := by
  cases e <;> first | rfl | (simp [swOk] at h; done)
theorem comp_noset (hx : XS Γ w0 ds n sc N X) {m : Nat} {s : Str} {p pos : Pos} {i : Nat} {e : Expr} {y : E} (hi : slotL sc N s = some i) (hs : swOk sc s p e = true) (h : cE Γ m sc N e = some y) : PS X (.Assign [.Name s p] e pos) (tSU X.K (run w0 ds n) w (.new i y)) := by
  have hc := swOk_pos hs
  cases e <;> simp only [isComp, Bool.false_eq_true] at hc
  rename_i elt gens scope pc
  cases m with
  | zero => simp [cE] at h
  | succ m =>
    simp only [cE] at h
    split at h <;> first | (cases h; done) | skip
    rename_i tg it ifs asy
    split at h <;> first | (cases h; done) | skip
    rename_i hb
    simp only [Bool.and_eq_true, beq_iff_eq] at hb
    obtain ⟨ha, hb⟩ := hb
    subst ha
    split at h <;> first | (cases h; done) | skip
    rename_i tgd itd eltd h1 h2 h3
    have P := parts_of (ih_at m) hx.x hb h1 h2 h3
    have hpl := ((ih_at m).i hx.x h2).2
    split at h <;> first | (cases h; done) | skip
    · cases h
      exact s_newc0 hx hi hs hpl P
    · rename_i q
      cases h4 : cT Γ m (relS scope sc) N q with
      | none => rw [h4] at h; cases h
      | some qd =>
        rw [h4] at h
        cases h
        exact s_newc1 hx hi hs hpl P (fun s H C cl fp => (ih_at m).t (xf_blk hx.x s H C cl fp) h4)
theorem comp_cell (hx : XS Γ w0 ds n sc N X) {m : Nat} {s : Str} {p pos : Pos} {i : Nat} {e : Expr} {y : E} (hi : slotL sc N s = some i) (hs : swOk sc s p e = true) (h : cE Γ m sc N e = some y) : PS X (.Assign [.Name s p] e pos) (tSU X.K (run w0 ds n) w (.set i (.cell y))) := by
  have hc := swOk_pos hs
  cases e <;> simp only [isComp, Bool.false_eq_true] at hc
  rename_i elt gens scope pc
  cases m with
  | zero => simp [cE] at h
  | succ m =>
    simp only [cE] at h
    split at h <;> first | (cases h; done) | skip
    rename_i tg it ifs asy
    split at h <;> first | (cases h; done) | skip
    rename_i hb
    simp only [Bool.and_eq_true, beq_iff_eq] at hb
    obtain ⟨ha, hb⟩ := hb
    subst ha
    split at h <;> first | (cases h; done) | skip
    rename_i tgd itd eltd h1 h2 h3
    have P := parts_of (ih_at m) hx.x hb h1 h2 h3
    have hpl := ((ih_at m).i hx.x h2).2
    split at h <;> first | (cases h; done) | skip
    · cases h
      exact s_cellc0 hx hi hs hpl P
    · rename_i q
      cases h4 : cT Γ m (relS scope sc) N q with
      | none => rw [h4] at h; cases h
      | some qd =>
        rw [h4] at h
        cases h
        exact s_cellc1 hx hi hs hpl P (fun s H C cl fp => (ih_at m).t (xf_blk hx.x s H C cl fp) h4)
/-- a comprehension's reading, as a new list -/
theorem comp_fu (hx : XS Γ w0 ds n sc N X) {m : Nat} {e : Expr} {y : E} (hc : isComp e = true) (h : cE Γ m sc N e = some y) : PE X e (tFU X.K (run w0 ds n) y) := by
  cases e <;> simp only [isComp, Bool.false_eq_true] at hc
  rename_i elt gens scope pc
  cases m with
  | zero => simp [cE] at h
  | succ m =>
    simp only [cE] at h
    split at h <;> first | (cases h; done) | skip
    rename_i tg it ifs asy
    split at h <;> first | (cases h; done) | skip
    rename_i hb
    simp only [Bool.and_eq_true, beq_iff_eq] at hb
    obtain ⟨ha, hb⟩ := hb
    subst ha
    split at h <;> first | (cases h; done) | skip
    rename_i tgd itd eltd h1 h2 h3
    have P := parts_of (ih_at m) hx.x hb h1 h2 h3
    have hpl := ((ih_at m).i hx.x h2).2
    split at h <;> first | (cases h; done) | skip
    · cases h
      exact f_comp0 hx.x hpl P
    · rename_i q
      cases h4 : cT Γ m (relS scope sc) N q with
      | none => rw [h4] at h; cases h
      | some qd =>
        rw [h4] at h
        cases h
        exact f_comp1 hx.x hpl P (fun s H C cl fp => (ih_at m).t (xf_blk hx.x s H C cl fp) h4)
theorem fresh_not {e : Expr} (h : isComp e = false) (m : Nat) {X : Cx} {y : E} (hx : XS Γ w0 ds n sc N X) (hf : freshShape e = true) (he : cE Γ m sc N e = some y) : PE X e (tFU X.K (run w0 ds n) y) := by
  cases m with
  | zero => simp [cE] at he
  | succ m =>
    rcases fresh_e hx.x rfl he hf with h1 | h1
    · exact h1
    · rw [h] at h1; cases h1
theorem cS_ok (hx : XS Γ w0 ds n sc N X) : ∀ m, (∀ st il, cS Γ sc N m st = some il → PS X st (tSU X.K (run w0 ds n) w il)) := by
  intro m
  induction m with
  | zero => intro st il h; simp [cS] at h
  | succ m ih =>
    have ihs : ∀ l ys, mapO (cS Γ sc N m) l = some ys → PSs X l (tSsU X.K (run w0 ds n) w (toSs ys)) := by
      intro l
      induction l with
      | nil => intro ys h; cases h; exact s_nil
      | cons st l ihl =>
        intro ys h
        obtain ⟨y, zs, h1, h2, rfl⟩ := mapO_cons h
        exact s_cons (ih st y h1) (ihl zs h2)
    have E : ∀ {e : Expr} {y : E}, cE Γ m sc N e = some y → PED X (run w0 ds n) e y := fun h => (ih_at m).e hx.x h
    intro st il h
    cases st <;> try (simp only [cS] at h; first | (cases h; done) | skip)
    case Assign tgs e pos =>
      split at h
      · rename_i s py
        split at h
        · cases h
        rename_i i hi
        split at h
        · cases h
        rename_i hcs
        cases e1 : cE Γ m sc N e with
        | none =>
          rw [e1] at h
          split at h <;> cases h
        | some y =>
          rw [e1] at h
          by_cases hc : isComp e = true
          · have hf : freshShape e = true := by
              cases e <;> simp [isComp] at hc <;> rfl
            have hsw : swOk sc s py e = true ∨ swNo sc s = true := by
              cases h1 : swOk sc s py e with
              | true => exact .inl rfl
              | false =>
                cases h2 : swNo sc s with
                | true => exact .inr rfl
                | false => simp [hc, h1, h2] at hcs
            split at h
            · simp only [Option.bind_some, hf, if_true] at h
              cases h
              rcases hsw with hs | hs
              · exact comp_cell hx hi hs e1
              · exact s_set hx hi (sw_no hx hs hc _ _) (d_cell (comp_fu hx hc e1))
            · simp only [Option.map_some, Option.some.injEq, hf, if_true] at h
              subst h
              rcases hsw with hs | hs
              · exact comp_noset hx hi hs e1
              · exact s_new hx hi (sw_no hx hs hc _ _) (comp_fu hx hc e1)
          · have hc' : isComp e = false := by simpa using hc
            split at h
            · simp only [Option.bind_some] at h
              split at h <;> cases h
              rename_i hf
              exact s_set hx hi (noSw hc' (cE_shape e1) _ _ _) (d_cell (fresh_not hc' m hx hf e1))
            · simp only [Option.map_some, Option.some.injEq] at h
              by_cases hf : freshShape e = true
              · rw [if_pos hf] at h
                subst h
                exact s_new hx hi (noSw hc' (cE_shape e1) _ _ _) (fresh_not hc' m hx hf e1)
              · rw [if_neg hf] at h
                subst h
                exact s_set hx hi (noSw hc' (cE_shape e1) _ _ _) (E e1)
      · rename_i ts tk tp
        split at h
        · rename_i vs k2 tp2
          split at h
          · rename_i s1 px s2 py a b
            split at h
            · rename_i hp
              split at h
              · rename_i i j u v hi hj h1 h2
                cases h
                refine s_par hx hi hj hp (cE_shape h1) (cE_shape h2) ?_ (E h2)
                split
                · rename_i hcc
                  simp only [Bool.and_eq_true, Bool.not_eq_true'] at hcc
                  exact d_cell (fresh_not hcc.2 m hx hcc.1.2 h1)
                · exact E h1
              · cases h
            · split at h <;> first | (cases h; done) | skip
              rename_i hk
              split at h <;> first | (cases h; done) | skip
              rename_i u y h1 h2
              cases h
              exact s_asg hx h1 (cE_shape h2) (cst_sw hx hk) (E h2)
          · cases h
        · rename_i hnt
          split at h
          · rename_i u y h1 h2
            cases h
            refine s_asg hx h1 (cE_shape h2) ?_ (E h2)
            have h0 := cE_shape h2
            cases e <;> first | rfl | exact (hnt _ _ _ rfl).elim | (simp [plainE] at h0; done)
          · cases h
      · rename_i s p ie p2
        split at h
        · cases h
        rename_i hc
        split at h
        · rename_i i u y hi h1 h2
          cases h
          exact s_setI hx hi (cE_shape h2) (cE_shape h1) (E h2) (E h1) (by simpa using hc)
        · cases h
      · rename_i oe ie p2 _
        split at h
        · cases h
        rename_i hc
        split at h
        · rename_i z u y ho h1 h2
          cases h
          exact s_setX (cE_shape h2) (cE_shape h1) (E h2) (E ho) (E h1) (by simpa using hc)
        · cases h
      · cases h
    case AugAssign tg op e pos =>
      cases tg <;> simp only [cS] at h <;> first | (cases h; done) | skip
      · split at h
        · cases h
        rename_i hsl
        split at h
        · rename_i o x y z ho h1 h2 h3
          cases h
          exact s_augX ho (by simpa using hsl) (E h1) (E h2) (E h3)
        · cases h
      split at h
      · rename_i i o y hi ho h1
        cases h
        exact s_aug hx hi ho (E h1)
      · cases h
    case Return o pos =>
      split at h
      · cases h; exact s_retN
      · rename_i e
        cases e1 : cE Γ m sc N e with
        | none => rw [e1] at h; cases h
        | some y => rw [e1] at h; cases h; exact s_ret (E e1)
    case If t a b pos =>
      split at h
      · rename_i u y z h1 h2 h3
        cases h
        exact s_ite ((ih_at m).t hx.x h1) (ihs _ _ h2) (ihs _ _ h3)
      · cases h
    case For tg it body els pos =>
      cases els with
      | cons _ _ => simp [cS] at h
      | nil =>
        simp only [cS] at h
        split at h
        · rename_i u y z h1 h2 h3
          cases h
          obtain ⟨q1, q2⟩ := (ih_at m).i hx.x h2
          exact s_for hx (cTg_ok hx.x.nn hx.x.nd hx.x.calm (tok_of hx) 8 _ _ h1) q2 q1 (ihs _ _ h3)
        · cases h
    case While t body els pos =>
      cases els with
      | cons _ _ => simp [cS] at h
      | nil =>
        simp only [cS] at h
        split at h
        · rename_i u y h1 h2
          cases h
          exact s_while hx ((ih_at m).t hx.x h1) (ihs _ _ h2)
        · cases h
    case Expr e pos =>
      split at h
      · cases h; exact s_doc
      · rename_i s p mm ap args cp
        split at h
        · cases h
        · rename_i hl
          have hl' : (ap.endLine == cp.line) = true := by simpa using hl
          split at h
          · rename_i hm
            have hm' := beq_iff_eq.mp hm
            subst hm'
            split at h <;> first | (cases h; done) | skip
            split at h <;> first | (cases h; done) | skip
            rename_i i y hi h1
            cases h
            exact s_app hx hi (cE_shape h1) hl' (E h1)
          · split at h
            · rename_i hm
              have hm' := beq_iff_eq.mp hm
              subst hm'
              split at h <;> first | (cases h; done) | skip
              cases e1 : slot sc N s with
              | none => rw [e1] at h; cases h
              | some i => rw [e1] at h; cases h; exact s_pop hx e1 hl'
            · cases h
      · rename_i oe mm ap args cp _
        split at h
        · cases h
        · rename_i hl
          simp only [Bool.or_eq_true, Bool.not_eq_true', not_or, Bool.not_eq_false, Bool.not_eq_true] at hl
          split at h
          · rename_i hm
            have hm' := beq_iff_eq.mp hm
            subst hm'
            split at h <;> first | (cases h; done) | skip
            split at h <;> first | (cases h; done) | skip
            rename_i z y hz h1
            cases h
            exact s_appX (cE_shape h1) hl.2 hl.1 (E hz) (E h1)
          · cases h
      · rename_i s p args kw q
        cases e1 : cE Γ m sc N (.Call (.Name s p) args kw q) with
        | none => rw [e1] at h; cases h
        | some y => rw [e1] at h; cases h; exact s_expr rfl rfl (E e1)
      · cases h
    case Pass pos => cases h; exact s_pass
    case Break pos => cases h; exact s_brk
    case Continue pos => cases h; exact s_cnt
    case Raise => cases h; exact s_never
theorem cSs_ok (hx : XS Γ w0 ds n sc N X) {m : Nat} {l : List Stmt} {il : Ss} (h : cSs Γ sc N m l = some il) : PSs X l (tSsU X.K (run w0 ds n) w il) := by
  unfold cSs at h
  cases e : mapO (cS Γ sc N m) l with
  | none => rw [e] at h; cases h
  | some ys =>
    rw [e] at h
    cases h

    induction l generalizing ys with
    | nil => cases e; exact s_nil
    | cons st l ihl =>
      obtain ⟨y, zs, h1, h2, rfl⟩ := mapO_cons e
      exact s_cons (cS_ok hx m st y h1) (ihl zs h2)
end
end Mini
namespace Mini
open PySem PySem.Spec PyProof.Rows L2
section
variable {P : Program} {wd : World} {K : PySem.W.Frag} {mg : Str → Option Value} {base : Heap} {Γ : CT} {ds : List Def} {w0 n : Nat}
theorem repl_start {H : Wo} {ps ns : Nat} {vs : List V} {as : List D} (r : RepL K H vs as) (N : List Str) (hl : as.length = ps) : RI K H [] (as.map some ++ List.replicate (N.length - ps) none) (L2.start N vs) := by
  refine ⟨by simp [L2.start, r.len, hl], fun i d hi hd => ?_⟩
  unfold L2.start
  rw [List.getElem?_append] at hd ⊢
  rw [List.length_map] at hd ⊢
  rw [r.len]
  by_cases h : i < as.length
  · rw [if_pos h] at hd ⊢
    rw [List.getElem?_map] at hd ⊢
    cases e : as[i]? with
    | none => rw [e] at hd; cases hd
    | some d' =>
      rw [e] at hd
      cases hd
      obtain ⟨v, h1, h2⟩ := r.get e
      exact ⟨v, by rw [h1]; rfl, h2⟩
  · rw [if_neg h] at hd
    rw [List.getElem?_replicate] at hd
    split at hd <;> cases hd

mutual
theorem rep_cut {B : Wo} {n : Nat} : ∀ (d : D) (v : V), below n d = true → Rep K B v d → Rep K ⟨B.m.take n, B.b⟩ v d
  | .non, _, _, r => by cases r; exact .non
  | .bl b, _, _, r => by cases r; exact .bl b
  | .int i, _, _, r => by cases r; exact .int i
  | .str x, _, _, r => by cases r; exact .str x
  | .tup ds, _, n, r => by
    cases r with
    | tup h1 h2 => exact .tup h1 (repl_cut ds _ (by simpa [below] using n) h2)
  | .lst ds, _, n, r => by
    cases r with
    | lst h1 h2 => exact .lst h1 (repl_cut ds _ (by simpa [below] using n) h2)
  | .scr ds, _, n, r => by
    cases r with
    | scr h1 h2 => exact .scr h1 (repl_cut ds _ (by simpa [below] using n) h2)
  | .ref i, _, n, r => by
    cases r with
    | ref h =>
      refine .ref ?_
      show (List.take _ _)[i]? = _
      rw [List.getElem?_take, if_pos (by simpa [below] using n)]
      exact h
theorem repl_cut {B : Wo} {n : Nat} : ∀ (ds : List D) (vs : List V), belows n ds = true → RepL K B vs ds → RepL K ⟨B.m.take n, B.b⟩ vs ds
  | [], _, _, r => by cases r; exact .nil
  | d :: ds, _, n, r => by
    simp only [belows, Bool.and_eq_true] at n
    cases r with
    | cons h1 h2 => exact .cons (rep_cut d _ n.1 h1) (repl_cut ds _ n.2 h2)
end
theorem endK_ok {B B' : Wo} {H H' : Hp} {k k1 k' : Ky} {x d : D} {v : V} {Q : VK} (s : StoreAt K k B H) (g : Ge B H B' H') (s' : StoreAt K k1 B' H') (r : Rep K B' v x) (h : endK k x k1 = some (d, k'))
    (q : ∀ v B' H', Ge B H B' H' → StoreAt K k' B' H' → Rep K B' v d → Q v H') : Q v H' := by
  unfold endK at h
  split at h
  · rename_i hc
    cases h
    simp only [Bool.and_eq_true, decide_eq_true_eq] at hc
    obtain ⟨⟨h1, h2⟩, h3⟩ := hc
    have hm : B'.m.take k.length = B.m := by
      obtain ⟨t, ht⟩ := g.bb.m
      rw [← ht, List.take_append_of_le_length (by rw [s.len]; exact Nat.le_refl _), ← s.len, List.take_length]
    have hsub : ∀ a ∈ B'.m.take k.length, a ∈ B'.m := fun a ha => List.mem_of_mem_take ha
    refine q v ⟨B'.m.take k.length, B'.b⟩ H' ⟨g.hh, ⟨by rw [hm]; exact List.prefix_refl _, g.bb.b⟩, ⟨g.wd.sub, fun a ha => g.wd.spn a (hsub a ha)⟩, g.old, fun a ha => g.nw a (hsub a ha)⟩ ⟨?_, ?_, fun i a o h4 h5 => ?_⟩ (rep_cut _ _ h2 r)
    · show (B'.m.take k.length).length = (k1.take k.length).length
      rw [List.length_take, List.length_take, s'.len]
    · exact List.Sublist.nodup (List.take_sublist _ _) s'.nd
    · have h4' : (B'.m.take k.length)[i]? = some a := h4
      rw [List.getElem?_take] at h4' h5
      split at h4' <;> first | (cases h4'; done) | skip
      rename_i hi
      rw [if_pos hi] at h5
      have hb : belowOb k.length o = true := List.all_eq_true.mp h3 o (List.mem_of_getElem? (by rw [List.getElem?_take, if_pos hi]; exact h5 : (k1.take k.length)[i]? = some o))
      have := s'.at' i a o h4' h5
      cases o with
      | lst ds => obtain ⟨vs, q1, q2, q3⟩ := this; exact ⟨vs, q1, repl_cut _ _ hb q2, q3⟩
      | ins c fs => exact this.elim
  · cases h
    exact q v B' H' g s' r
theorem fn_ok {x qual : Str} {st : Stmt} {f : Addr} {fd : FuncData} {N ps : List Str} {m i : Nat} {body : Ss} (Fc : Facts Γ P wd K mg base n w0 ds) (F : Fun K x qual st f fd) (S : FnScope N ps (defScope st)) (hc : cSs Γ (defScope st) N m (defBody st) = some body)
    (hi : ds[i]? = some ⟨ps.length, N.length, body⟩) : FnOk P wd K mg base CX0 (n + 1) f fd ps (spOf K w0 ds (n + 1) i) := by
  have shape : ∀ {as : List D} {k k' : Ky} {d : D}, run w0 ds (n + 1) i as k = some (d, k') → as.length = ps.length ∧ (match evSs (run w0 ds n) w0 body { ρ := as.map some ++ List.replicate (N.length - ps.length) none, mu := [], k := k } with
        | some (.nx s) => endK k .non s.k
        | some (.rt x k') => endK k x k'
        | _ => none) = some (d, k') := by
    intro as k k' d h
    simp only [run, hi] at h
    split at h
    · rename_i hl
      exact ⟨beq_iff_eq.mp hl, h⟩
    · cases h
  refine F.ok S (fun vs H Q E h => ?_) (fun cdv A outer s H vs Q E hr h => ?_)
  · obtain ⟨B, k, as, d, k', _, _, r, hrun, _⟩ := h
    rw [r.len]
    exact (shape hrun).1
  · obtain ⟨B, k, as, d, k', w, s', r, hrun, q⟩ := h
    obtain ⟨hl, hrun⟩ := shape hrun
    have hx : XS Γ w0 ds n (defScope st) N (cxOf CX0 P wd K mg base N qual (defScope st) f cdv A outer s H E).nox := ⟨⟨Fc, rfl, rfl, S.nd, rfl, hr⟩, fun _ => rfl, PassesOwn.never⟩
    refine ⟨_, cSs_ok (w := w0) hx hc, ?_⟩
    cases e : evSs (run w0 ds n) w0 body { ρ := as.map some ++ List.replicate (N.length - ps.length) none, mu := [], k := k } with
    | none => rw [e] at hrun; cases hrun
    | some o =>
      rw [e] at hrun
      refine ⟨B, H, _, o, B, e, ⟨Ge.refl w, s', repl_start (ns := 0) r N hl, fun j hj => (by cases hj), fun j j' a hj => (by cases hj)⟩, ?_⟩
      cases o with
      | nx s1 => exact fun B' σ' H' x' r' => endK_ok (K := K) s' r'.ge r'.spot (x := .non) .non hrun q
      | rt d1 k1 => exact fun v B' H' g s1 r1 => endK_ok s' g s1 r1 hrun q
      | bk s1 => cases hrun
      | ct s1 => cases hrun
theorem run_zero {i : Nat} {as : List D} {k : Ky} : run w0 ds 0 i as k = none := rfl
structure DefFact (Γ : CT) (K : PySem.W.Frag) (mg : Str → Option Value) (ds : List Def) (x : Str) (i : Nat) : Prop where
  ex : ∃ (qual : Str) (st : Stmt) (f : Addr) (fd : FuncData) (N ps : List Str) (m : Nat) (body : Ss), Fun K x qual st f fd ∧ FnScope N ps (defScope st) ∧ cSs Γ (defScope st) N m (defBody st) = some body ∧ ds[i]? = some ⟨ps.length, N.length, body⟩ ∧ mg x = some (.ref f) ∧ Binds K fd ps []
structure Base (Γ : CT) (K : PySem.W.Frag) (mg : Str → Option Value) (ds : List Def) : Prop where
  fns : ∀ p ∈ Γ.fns, DefFact Γ K mg ds p.1 p.2
  consts : ∀ p ∈ Γ.consts, ∃ v u, mg p.1 = some u ∧ RelV v u ∧ ∀ B, Rep K B v p.2
  gcd : ∀ x ∈ Γ.gcd, mg x = some (.builtin "math.gcd")
  bi : ∀ x ∈ biNames, mg x = none
theorem lookup_in {α : Type} {x : Str} {i : α} : ∀ {l : List (Str × α)}, l.lookup x = some i → (x, i) ∈ l
  | [], h => by cases h
  | (y, j) :: l, h => by
    unfold List.lookup at h
    split at h
    · rename_i e
      cases h
      rw [beq_iff_eq.mp e]
      exact List.mem_cons_self
    · exact List.mem_cons_of_mem _ (lookup_in h)
theorem facts (b : Base Γ K mg ds) : ∀ n, Facts Γ P wd K mg base n w0 ds := by
  intro n
  induction n with
  | zero =>
    refine ⟨fun x i h => ?_, fun x d h => b.consts _ (lookup_in h), b.gcd, b.bi⟩
    obtain ⟨qual, st, f, fd, N, ps, m, body, F, S, hc, hi, hm, hb⟩ := (b.fns _ (lookup_in h)).ex
    refine ⟨f, fd, ps, ⟨fun vs H Q E h => ?_, fun A outer s H args us vs Q E hr he hb' hv h => ?_⟩, hm, F.kp, hb⟩
    · obtain ⟨_, _, _, _, _, _, _, _, h, _⟩ := h
      cases h
    · obtain ⟨_, _, _, _, _, _, _, _, h, _⟩ := h
      cases h
  | succ n ih =>
    refine ⟨fun x i h => ?_, fun x d h => b.consts _ (lookup_in h), b.gcd, b.bi⟩
    obtain ⟨qual, st, f, fd, N, ps, m, body, F, S, hc, hi, hm, hb⟩ := (b.fns _ (lookup_in h)).ex
    exact ⟨f, fd, ps, fn_ok ih F S hc hi, hm, F.kp, hb⟩
/-- the law's own promise -/
def spLaw (w0 : Nat) (ds : List Def) (n i : Nat) (K : PySem.W.Frag) : Sp := spOf K w0 ds n i
theorem law_end {w0 : Nat} {ds : List Def} {n i m : Nat} (h : ∀ ns : List Int, ns.length ≤ m → ∃ k, run w0 ds n i [.scr (ns.map .int)] [] = some (.bl true, k)) (K : PySem.W.Frag) (H : Hp) (a : Addr) (ns : List Int) (hl : ns.length ≤ m) (_ : Only H) (hS : SqL K H a (ns.map V.int)) :
    spLaw w0 ds n i K [.ref a] H (fun v _ => v = .bl true) fun _ _ _ => False := by
  obtain ⟨k, hk⟩ := h ns hl
  exact ⟨⟨[], H⟩, [], _, _, _, ⟨Ext.refl _, fun _ e => by cases e⟩, ⟨rfl, List.nodup_nil, fun i a o h => by simp at h⟩, .cons (.scr hS (repl_ints ns)) .nil, hk, fun v B' H' _ _ r => by cases r; rfl⟩
end
end Mini
namespace Mini
open PySem PySem.Spec PyProof.Rows L2
/-! ### how the evaluator answers -/
def fin (k : Ky) : Option O → Option (D × Ky)
  | some (.nx s) => endK k .non s.k
  | some (.rt x k') => endK k x k'
  | _ => none
/-- the fuel of a while -/
def WF : Nat := 1000000
/-- what runs defs -/
structure Rn where
  go : Nat → Call
/-- rn runs the defs ds -/
class Runs (rn : Rn) (ds : outParam (List Def)) : Prop where
  eq : ∀ (n f : Nat) (as : List D) (k : Ky) (d : Def), ds[f]? = some d → as.length = d.ps → rn.go (n + 1) f as k = fin k (evSs (rn.go n) WF d.body { ρ := as.map some ++ List.replicate (d.ns - d.ps) none, mu := [], k := k })
instance runs_run {ds : List Def} : Runs ⟨run WF ds⟩ ds := ⟨fun n f as k d h hl => by
  simp only [run, h, hl, beq_self_eq_true, if_true]
  rfl⟩
@[simp] theorem deref_int (k : Ky) (i : Int) : deref k (.int i) = .int i := rfl
@[simp] theorem deref_non (k : Ky) : deref k .non = .non := rfl
@[simp] theorem deref_bl (k : Ky) (b : Bool) : deref k (.bl b) = .bl b := rfl
@[simp] theorem deref_str (k : Ky) (x : Str) : deref k (.str x) = .str x := rfl
@[simp] theorem deref_tup (k : Ky) (x : List D) : deref k (.tup x) = .tup x := rfl
@[simp] theorem deref_lst (k : Ky) (x : List D) : deref k (.lst x) = .lst x := rfl
@[simp] theorem deref_scr (k : Ky) (x : List D) : deref k (.scr x) = .scr x := rfl
theorem run_eq {rn : Rn} {ds : List Def} [Runs rn ds] {n f : Nat} {as : List D} {k : Ky} {d : Def} (h : ds[f]? = some d) (hl : as.length = d.ps) : rn.go (n + 1) f as k = fin k (evSs (rn.go n) WF d.body { ρ := as.map some ++ List.replicate (d.ns - d.ps) none, mu := [], k := k }) := Runs.eq n f as k d h hl
theorem endK_le (k k' : Ky) (d : D) (h : k'.length ≤ k.length) : endK k d k' = some (d, k') := by
  have : ¬ k.length < k'.length := by omega
  simp [endK, this]
theorem endK_same (k : Ky) (d : D) : endK k d k = some (d, k) := endK_le k k d (Nat.le_refl _)
/-- what a store holds refers to what stands in it -/
def KOk (k : Ky) : Prop := k.all (belowOb k.length) = true
theorem endK_drop (k l : Ky) (d : D) (h1 : below k.length d = true) (h2 : KOk k) : endK k d (k ++ l) = some (d, k) := by
  unfold endK
  rw [List.take_left' rfl]
  unfold KOk at h2
  by_cases h : k.length < (k ++ l).length
  · simp only [decide_eq_true h, h1, h2, Bool.and_self, if_true]
  · have : l = [] := by cases l with
      | nil => rfl
      | cons _ _ => simp at h
    subst this
    simp
theorem fin_rt (k : Ky) (d : D) : fin k (some (.rt d k)) = some (d, k) := endK_same k d
theorem fin_nx (k : Ky) (s : Sta) (h : s.k = k) : fin k (some (.nx s)) = some (.non, k) := by subst h; exact endK_same _ _
theorem forD_inv {tg : Tg} {body : Sta → Option O} {I : Nat → Sta → Prop} {J : Sta → Prop} : ∀ (ds : List D) (m : Nat) (s : Sta),
    (∀ i d s, ds[i]? = some d → I (m + i) s → ∃ ρ o, asg tg d s.ρ = some ρ ∧ body { ρ := ρ, mu := tgMu tg s.mu, k := s.k } = some o ∧ (match o with | .nx s' => I (m + i + 1) s' | .ct s' => I (m + i + 1) s' | .bk s' => J s' | .rt _ _ => False)) →
    (∀ s, I (m + ds.length) s → J s) → I m s → ∃ s', forW none tg body ds s = some (.nx s') ∧ J s'
  | [], m, s, _, h2, h3 => ⟨s, rfl, h2 s h3⟩
  | d :: ds, m, s, h1, h2, h3 => by
    obtain ⟨ρ, o, e1, e2, h⟩ := h1 0 d s rfl h3
    have next : ∀ s', I (m + 1) s' → ∃ s'', forW none tg body ds s' = some (.nx s'') ∧ J s'' := fun s' hs' =>
      forD_inv ds (m + 1) s' (fun i d s hd hs => by
        have := h1 (i + 1) d s (by simpa using hd) (by rw [show m + (i + 1) = m + 1 + i by omega]; exact hs)
        rw [show m + (i + 1) = m + 1 + i by omega] at this
        exact this) (fun s hs => h2 s (by rw [List.length_cons, show m + (ds.length + 1) = m + 1 + ds.length by omega]; exact hs)) hs'
    simp only [forW, okW, if_true, e1, e2]
    cases o with
    | nx s' => exact next s' h
    | ct s' => exact next s' h
    | bk s' => exact ⟨s', rfl, h⟩
    | rt d k => exact h.elim
theorem compD_pure {f : Rho → Ky → Option (D × Ky)} {g : Rho → Ky → Option (Bool × Ky)} {tg : Tg} {ρ : Rho} {k : Ky} (r : D → Rho) (p : D → Bool) (h : D → D) : ∀ (xs : List D),
    (∀ x ∈ xs, asg tg x ρ = some (r x) ∧ g (r x) k = some (p x, k) ∧ (p x = true → f (r x) k = some (h x, k))) → compW none f g tg ρ xs k = some ((xs.filter p).map h, k)
  | [], _ => rfl
  | x :: xs, hh => by
    obtain ⟨h1, h2, h3⟩ := hh x List.mem_cons_self
    have ih := compD_pure r p h xs fun y hy => hh y (List.mem_cons_of_mem _ hy)
    simp only [compW, okW, if_true, h1, h2]
    cases hp : p x with
    | false => simp only [ih, List.filter_cons, hp]; rfl
    | true => simp only [h3 hp, ih, List.filter_cons, hp]; rfl
/-! ### the draws -/
def bDraw : Ss := (.cons (.ite (.val (.cmp .lt (.var 1) (.bi .len (.cons (.var 0) .nil)))) (.cons (.ret (.bin .mod (.bi .int (.cons (.idx (.var 0) (.var 1)) .nil)) (.var 2))) .nil) .nil) (.cons (.set 3 (.bin .mod (.bi .int (.cons (.bin .add (.bin .add (.bin .mul (.idx (.var 0) (.bin .mod (.bi .int (.cons (.var 1) .nil)) (.bi .len (.cons (.var 0) .nil)))) (.cst (.int 40692))) (.bin .mul (.var 1) (.cst (.int 7919)))) (.cst (.int 3))) .nil)) (.cst (.int 2147483399)))) (.cons (.ret (.bin .mod (.bi .int (.cons (.bin .mod (.bi .int (.cons (.bin .add (.bin .mul (.var 3) (.cst (.int 48271))) (.var 1)) .nil)) (.cst (.int 2147483647))) .nil)) (.var 2))) .nil)))
def bTake (dr : Nat) : Ss := (.cons (.setI 1 (.cst (.int 0)) (.bin .add (.idx (.var 1) (.cst (.int 0))) (.cst (.int 1)))) (.cons (.ret (.call dr (.cons (.var 0) (.cons (.bin .sub (.idx (.var 1) (.cst (.int 0))) (.cst (.int 1))) (.cons (.var 2) .nil))))) .nil))
def body1 : Ss := (.cons (.ite (.val (.cmp .eq (.var 3) (.cst (.int 0)))) (.cons .brk .nil) .nil) (.cons (.app 1 (.bin .mod (.bi .int (.cons (.var 3) .nil)) (.cst (.int 997)))) (.cons (.set 3 (.bin .fdiv (.var 3) (.cst (.int 997)))) .nil)))
def body2 : Ss := (.cons (.set 5 (.bin .mod (.bi .int (.cons (.bin .add (.bin .add (.bin .mul (.var 2) (.cst (.int 48271))) (.bin .mul (.var 4) (.cst (.int 69621)))) (.cst (.int 11))) .nil)) (.cst (.int 2147483647)))) (.cons (.app 1 (.bin .mod (.bi .int (.cons (.bin .add (.bin .mul (.var 5) (.cst (.int 16807))) (.var 4)) .nil)) (.cst (.int 2147483629)))) .nil))
def bodyO : Ss := (.cons (.ite (.val (.cmp .ge (.var 2) (.bin .pow (.cst (.int 10)) (.cst (.int 18))))) (.cons (.set 3 (.var 2)) (.cons (.for (.name 4) (.rng (.cons (.cst (.int 60)) .nil)) body1) .nil)) (.cons (.for (.name 4) (.rng (.cons (.cst (.int 4)) .nil)) body2) .nil)) .nil)
def bNumbers : Ss := (.cons (.new 1 (.lst .nil)) (.cons (.for (.name 2) (.seq (.sli 2 (.var 0) (.cst .non) (.cst (.int 63)))) bodyO) (.cons (.ite (.val (.cmp .eq (.bi .len (.cons (.var 1) .nil)) (.cst (.int 0)))) (.cons (.app 1 (.cst (.int 0))) .nil) .nil) (.cons (.ret (.var 1)) .nil))))
section
variable {rn : Rn} {w : Nat} {ds : List Def} [Runs rn ds] {n : Nat} {k : Ky}
theorem atI_map {α β : Type} (f : α → β) (xs : List α) (i : Int) : atI (xs.map f) i = (atI xs i).map f := by
  unfold atI
  rw [List.length_map]
  cases ixN xs.length i <;> simp
theorem atI_in {α : Type} {xs : List α} {i : Int} (h0 : 0 ≤ i) (h1 : i < xs.length) : ∃ x, atI xs i = some x ∧ x ∈ xs := by
  unfold atI ixN
  rw [if_pos h0, if_pos h1]
  have : i.toNat < xs.length := by omega
  exact ⟨xs[i.toNat], by simp [List.getElem?_eq_getElem this], List.getElem_mem this⟩
theorem draw_ok {f : Nat} (hf : ds[f]? = some ⟨3, 4, bDraw⟩) (row : List Int) (hr : row ≠ []) (a lim : Int) (ha : 0 ≤ a) (hl : 0 < lim) : ∃ v : Int, rn.go (n + 1) f [.lst (row.map .int), .int a, .int lim] k = some (.int v, k) ∧ 0 ≤ v ∧ v < lim := by
  rw [run_eq (rn := rn) hf rfl]
  have hlen : 0 < row.length := List.length_pos_iff.mpr hr
  by_cases hlt : a < row.length
  · obtain ⟨x, hx, _⟩ := atI_in (xs := row) ha hlt
    refine ⟨x % lim, ?_, Int.emod_nonneg _ (by omega), Int.emod_lt_of_pos _ hl⟩
    simp [bDraw, evSs, evS, evE, evT, evEs, biSem, boSem, coSem, truth, idxSem, atI_map, hx, hlt, hl, fin_rt]
  · have hm0 : 0 ≤ a % (row.length : Int) := Int.emod_nonneg _ (by omega)
    have hm1 : a % (row.length : Int) < row.length := Int.emod_lt_of_pos _ (by omega)
    obtain ⟨x, hx, _⟩ := atI_in (xs := row) hm0 hm1
    have hlen' : (0 : Int) < row.length := by omega
    refine ⟨((x * 40692 + a * 7919 + 3) % 2147483399 * 48271 + a) % 2147483647 % lim, ?_, Int.emod_nonneg _ (by omega), Int.emod_lt_of_pos _ hl⟩
    simp [bDraw, evSs, evS, evE, evT, evEs, biSem, boSem, coSem, truth, idxSem, atI_map, hx, hlt, hl, fin_rt, hlen', stE, noL, Sta.put, mulOk, small64, hlen]
/-- a list of the store -/
def lstK (k : Ky) (r : Nat) : Option (List D) := match k[r]? with
  | some (.lst ds) => some ds
  | _ => none
theorem take_ok {f dr r : Nat} (hf : ds[f]? = some ⟨3, 3, bTake dr⟩) (hd : ds[dr]? = some ⟨3, 4, bDraw⟩) (row : List Int) (hr : row ≠ []) (m lim : Int) (hm : 0 ≤ m) (hl : 0 < lim) (hk : k[r]? = some (.lst [.int m])) : ∃ v : Int, rn.go (n + 2) f [.lst (row.map .int), .ref r, .int lim] k = some (.int v, k.set r (.lst [.int (m + 1)])) ∧ 0 ≤ v ∧ v < lim := by
  obtain ⟨v, hv, h1, h2⟩ := draw_ok (rn := rn) (n := n) (k := k.set r (.lst [.int (m + 1)])) hd row hr m lim hm hl
  refine ⟨v, ?_, h1, h2⟩
  rw [run_eq (rn := rn) hf rfl]
  have hrl : r < k.length := (List.getElem?_eq_some_iff.mp hk).1
  have a0 : ∀ x : D, atI [x] 0 = some x := fun _ => rfl
  have i0 : ixN 1 0 = some 0 := rfl
  have s0 : ∀ x y : D, [x].set 0 y = [y] := fun _ _ => rfl
  have e1 : (k.set r (.lst [.int (m + 1)]))[r]? = some (.lst [.int (m + 1)]) := List.getElem?_set_self hrl
  simp [bTake, evSs, evS, evE, evT, evEs, biSem, boSem, idxSem, hk, a0, i0, e1, noL, hv]
  exact endK_le _ _ _ (by simp)
end
end Mini
namespace Mini
open PySem PySem.Spec PyProof.Rows L2
section
variable {rn : Rn} {w : Nat} {ds : List Def} [Runs rn ds] {n : Nat} {k : Ky} {c : Call}
theorem body1_ok (a x4 x5 : Option D) (row : List Int) (x l : Int) (hl : row.length < 16777216) : evSs c w body1 ⟨[a, some (.lst (row.map .int)), some (.int x), some (.int l), x4, x5], [1], k⟩ = if l = 0 then some (.bk ⟨[a, some (.lst (row.map .int)), some (.int x), some (.int l), x4, x5], [1], k⟩) else some (.nx ⟨[a, some (.lst ((row ++ [l % 997]).map .int)), some (.int x), some (.int (l / 997)), x4, x5], [1], k⟩) := by
  by_cases h : l = 0
  · subst h
    simp [body1, evSs, evS, evE, evT, evEs, coSem, eqD, truth]
  · simp [body1, evSs, evS, evE, evT, evEs, coSem, eqD, truth, h, biSem, boSem, noL, hl, divOk, small64, stE, Sta.put]
theorem body2_ok (a x3 x5 : Option D) (row : List Int) (x l : Int) (hl : row.length < 16777216) : ∃ y z : Int, evSs c w body2 ⟨[a, some (.lst (row.map .int)), some (.int x), x3, some (.int l), x5], [1], k⟩ = some (.nx ⟨[a, some (.lst ((row ++ [y]).map .int)), some (.int x), x3, some (.int l), some (.int z)], [1], k⟩) := by
  refine ⟨((x * 48271 + l * 69621 + 11) % 2147483647 * 16807 + l) % 2147483629, (x * 48271 + l * 69621 + 11) % 2147483647, ?_⟩
  simp [body2, evSs, evS, evE, evT, evEs, coSem, eqD, truth, biSem, boSem, noL, hl, mulOk, small64, stE, Sta.put]
theorem numbers_ok {f : Nat} (hf : ds[f]? = some ⟨1, 6, bNumbers⟩) (ns : List Int) : ∃ row : List Int, row ≠ [] ∧ rn.go (n + 1) f [.scr (ns.map .int)] k = some (.lst (row.map .int), k) := by
  rw [run_eq (rn := rn) hf rfl]
  let J : Sta → Prop := fun s => ∃ (row : List Int) (x2 x3 x4 x5 : Option D), s = ⟨[some (.scr (ns.map .int)), some (.lst (row.map .int)), x2, x3, x4, x5], [1], k⟩ ∧ row.length ≤ 10000
  let I : Nat → Sta → Prop := fun i s => ∃ (row : List Int) (x2 x3 x4 x5 : Option D), s = ⟨[some (.scr (ns.map .int)), some (.lst (row.map .int)), x2, x3, x4, x5], [1], k⟩ ∧ row.length ≤ 60 * i
  have hcut : ∃ ms : List Int, cutD (ns.map .int) none (some 63) = ms.map .int ∧ ms.length ≤ 63 := by
    refine ⟨(ns.drop (HT.sIx ns.length 0 none)).take (HT.sIx ns.length ns.length (some 63) - HT.sIx ns.length 0 none), ?_, ?_⟩
    · unfold cutD
      rw [List.map_take, List.map_drop, List.length_map]
    · rw [List.length_take, HT.sIx_none, show HT.sIx ns.length ns.length (some 63) = min 63 ns.length from HT.sIx_nat ns.length ns.length 63]
      omega
  obtain ⟨ms, hms, hml⟩ := hcut
  have loop := forD_inv (tg := .name 2) (I := I) (J := J) (body := fun s => evSs (rn.go n) WF bodyO s) (ms.map .int) 0 ⟨[some (.scr (ns.map .int)), some (.lst []), none, none, none, none], [1], k⟩
    (fun i d s hd hI => ?_) (fun s hs => ?_) ⟨[], none, none, none, none, rfl, by simp⟩
  · obtain ⟨s1, e1, row, x2, x3, x4, x5, rfl, hrl⟩ := loop
    refine ⟨if row = [] then [0] else row, by split <;> simp_all, ?_⟩
    have e0 : evSs (rn.go n) WF bNumbers ⟨[some (.scr (ns.map .int)), none, none, none, none, none], [], k⟩ = some (.rt (.lst ((if row = [] then [0] else row).map .int)) k) := by
      have e1' := e1
      by_cases h0 : row = []
      · subst h0
        simp only [bNumbers]
        simp [evSs, evS, evE, evT, evEs, evI, sliSem, items, hms, noLs, Sta.keep, avI, avE, avEs, lineOk, e1', coSem, eqD, truth, biSem, noL]
      · have h1 : ¬ (row.length : Int) = 0 := by
          cases row with
          | nil => exact (h0 rfl).elim
          | cons _ _ => simp; omega
        simp only [bNumbers]
        simp [evSs, evS, evE, evT, evEs, evI, sliSem, items, hms, noLs, Sta.keep, avI, avE, avEs, lineOk, e1', coSem, eqD, truth, biSem, noL, h0, h1]
    show fin k (evSs _ _ bNumbers ⟨[some (.scr (ns.map .int)), none, none, none, none, none], [], k⟩) = _
    rw [e0, fin_rt]
  · obtain ⟨row, x2, x3, x4, x5, rfl, hrl⟩ := hI
    rw [List.getElem?_map] at hd
    cases hx : ms[i]? with
    | none => rw [hx] at hd; cases hd
    | some x =>
      rw [hx] at hd
      cases hd
      have hi : i < 63 := by
        have := (List.getElem?_eq_some_iff.mp hx).1
        omega
      by_cases hbig : (1000000000000000000 : Int) ≤ x
      · have l1 := forD_inv (tg := .name 4) (body := fun s => evSs (rn.go n) WF body1 s) (I := fun j s => ∃ (row' : List Int) (x3 : Int) (x4 x5 : Option D), s = ⟨[some (.scr (ns.map .int)), some (.lst (row'.map .int)), some (.int x), some (.int x3), x4, x5], [1], k⟩ ∧ row'.length ≤ 60 * i + j)
          (J := fun s => ∃ (row' : List Int) (x3 : Int) (x4 x5 : Option D), s = ⟨[some (.scr (ns.map .int)), some (.lst (row'.map .int)), some (.int x), some (.int x3), x4, x5], [1], k⟩ ∧ row'.length ≤ 60 * (i + 1)) (rngL 0 1 60) 0 ⟨[some (.scr (ns.map .int)), some (.lst (row.map .int)), some (.int x), some (.int x), x4, x5], [1], k⟩
          (fun j d s hd' hI' => ?_) (fun s hs => ?_) ⟨row, x, x4, x5, rfl, by omega⟩
        · obtain ⟨s2, e2, row', x3', x4', x5', rfl, hr'⟩ := l1
          refine ⟨_, .nx ⟨[some (.scr (ns.map .int)), some (.lst (row'.map .int)), some (.int x), some (.int x3'), x4', x5'], [1], k⟩, rfl, ?_, ⟨row', _, _, _, _, rfl, by omega⟩⟩
          have e2' : forW none (.name 4) (fun s => evSs (rn.go n) WF body1 s) (rngL 0 1 60) ⟨[some (.scr (ns.map .int)), some (.lst (row.map .int)), some (.int x), some (.int x), x4, x5], [1], k⟩ = _ := e2
          simp [bodyO, evSs, evS, evE, evT, evEs, evI, boSem, coSem, truth, hbig, tgMu, small64, stE, noL, Sta.put, rngSem, rng62, Sta.keep, avI, avE, avEs, e2']
        · obtain ⟨row', l', x4', x5', rfl, hr'⟩ := hI'
          have hj : j < 60 := by
            have := (List.getElem?_eq_some_iff.mp hd').1
            simpa [rngL] using this
          have hb := body1_ok (w := WF) (c := rn.go n) (k := k) (some (.scr (ns.map .int))) (some d) x5' row' x l' (by omega)
          by_cases h0 : l' = 0
          · rw [if_pos h0] at hb
            exact ⟨_, _, rfl, hb, ⟨row', l', _, _, rfl, by omega⟩⟩
          · rw [if_neg h0] at hb
            exact ⟨_, _, rfl, hb, ⟨_, _, _, _, rfl, by simp; omega⟩⟩
        · obtain ⟨row', l', x4', x5', rfl, hr'⟩ := hs
          exact ⟨row', l', x4', x5', rfl, by simpa [rngL, Nat.mul_add] using hr'⟩
      · have l1 := forD_inv (tg := .name 4) (body := fun s => evSs (rn.go n) WF body2 s) (I := fun j s => ∃ (row' : List Int) (x4 x5 : Option D), s = ⟨[some (.scr (ns.map .int)), some (.lst (row'.map .int)), some (.int x), x3, x4, x5], [1], k⟩ ∧ row'.length ≤ 60 * i + j)
          (J := fun s => ∃ (row' : List Int) (x4 x5 : Option D), s = ⟨[some (.scr (ns.map .int)), some (.lst (row'.map .int)), some (.int x), x3, x4, x5], [1], k⟩ ∧ row'.length ≤ 60 * (i + 1)) (rngL 0 1 4) 0 ⟨[some (.scr (ns.map .int)), some (.lst (row.map .int)), some (.int x), x3, x4, x5], [1], k⟩
          (fun j d s hd' hI' => ?_) (fun s hs => ?_) ⟨row, x4, x5, rfl, by omega⟩
        · obtain ⟨s2, e2, row', x4', x5', rfl, hr'⟩ := l1
          refine ⟨_, .nx ⟨[some (.scr (ns.map .int)), some (.lst (row'.map .int)), some (.int x), x3, x4', x5'], [1], k⟩, rfl, ?_, ⟨row', _, _, _, _, rfl, by omega⟩⟩
          have e2' : forW none (.name 4) (fun s => evSs (rn.go n) WF body2 s) (rngL 0 1 4) ⟨[some (.scr (ns.map .int)), some (.lst (row.map .int)), some (.int x), x3, x4, x5], [1], k⟩ = _ := e2
          simp [bodyO, evSs, evS, evE, evT, evEs, evI, boSem, coSem, truth, hbig, tgMu, small64, stE, noL, Sta.put, rngSem, rng62, Sta.keep, avI, avE, avEs, e2']
        · obtain ⟨row', x4', x5', rfl, hr'⟩ := hI'
          have hj : j < 4 := by
            have := (List.getElem?_eq_some_iff.mp hd').1
            simpa [rngL] using this
          unfold rngL at hd'
          rw [List.getElem?_map] at hd'
          cases hq : (List.range 4)[j]? with
          | none => rw [hq] at hd'; cases hd'
          | some q =>
            rw [hq] at hd'
            cases hd'
            obtain ⟨y, z, hb⟩ := body2_ok (w := WF) (c := rn.go n) (k := k) (some (.scr (ns.map .int))) x3 x5' row' x (0 + (q : Int) * 1) (by omega)
            exact ⟨_, _, rfl, hb, ⟨_, _, _, rfl, by simp; omega⟩⟩
        · obtain ⟨row', x4', x5', rfl, hr'⟩ := hs
          exact ⟨row', x4', x5', rfl, by have : row'.length ≤ 60 * i + (0 + 4) := by simpa [rngL] using hr'
                                         omega⟩
  · obtain ⟨row, x2, x3, x4, x5, rfl, hrl⟩ := hs
    refine ⟨row, x2, x3, x4, x5, rfl, ?_⟩
    rw [List.length_map] at hrl
    omega

theorem seq_nx {a : S} {b : Ss} {s s' : Sta} (h : evS c w a s = some (.nx s')) : evSs c w (.cons a b) s = evSs c w b s' := by simp only [evSs, h]
theorem mulOk_l {i j : Int} (h1 : -18446744073709551616 < i) (h2 : i < 18446744073709551616) : mulOk i j = true := by
  simp only [mulOk, small64, decide_eq_true h1, decide_eq_true h2]; rfl
theorem mulOk_r {i j : Int} (h1 : -18446744073709551616 < j) (h2 : j < 18446744073709551616) : mulOk i j = true := by
  simp only [mulOk, small64, decide_eq_true h1, decide_eq_true h2]
  simp
theorem divOk_of {j : Int} (h1 : 0 < j) (h2 : j < 18446744073709551616) : divOk j = true := by
  have h3 : (-18446744073709551616 : Int) < j := by omega
  simp only [divOk, small64, decide_eq_true h1, decide_eq_true h2, decide_eq_true h3]; rfl
theorem rng62_of {j : Int} (h1 : -4611686018427387904 ≤ j) (h2 : j < 4611686018427387904) : rng62 j = true := by
  simp only [rng62, decide_eq_true h1, decide_eq_true h2]; rfl
theorem lineOk_of {n : Nat} (h : n ≤ 16777216) : lineOk n = true := decide_eq_true h
theorem compD_int {f : Rho → Ky → Option (D × Ky)} {g : Rho → Ky → Option (Bool × Ky)} {tg : Tg} {ρ : Rho} {k : Ky} (r : Int → Rho) (p : Int → Bool) (h : Int → D) : ∀ (xs : List Int),
    (∀ x ∈ xs, asg tg (.int x) ρ = some (r x) ∧ g (r x) k = some (p x, k) ∧ (p x = true → f (r x) k = some (h x, k))) → compW none f g tg ρ (xs.map .int) k = some ((xs.filter p).map h, k)
  | [], _ => rfl
  | x :: xs, hh => by
    obtain ⟨h1, h2, h3⟩ := hh x List.mem_cons_self
    have ih := compD_int r p h xs fun y hy => hh y (List.mem_cons_of_mem _ hy)
    simp only [List.map_cons, compW, okW, if_true, h1, h2]
    cases hp : p x with
    | false => simp only [ih, List.filter_cons, hp]; rfl
    | true => simp only [h3 hp, ih, List.filter_cons, hp]; rfl
def R (n : Nat) : List Int := (List.range n).map fun (t : Nat) => (t : Int)
theorem rngL_R (n : Nat) : rngL 0 1 n = (R n).map .int := by
  simp only [rngL, R, List.map_map]
  congr 1
  funext t
  simp
theorem mem_R {n : Nat} {x : Int} (h : x ∈ R n) : 0 ≤ x ∧ x < n := by
  simp only [R, List.mem_map, List.mem_range] at h
  obtain ⟨t, h1, rfl⟩ := h
  omega
theorem anyEq_int (x : Int) : ∀ ys : List Int, anyEq (.int x) (ys.map .int) = some (decide (x ∈ ys))
  | [] => by simp [anyEq]
  | y :: ys => by
    simp only [List.map_cons, anyEq, eqD]
    by_cases h : y = x
    · subst h
      simp [anyEq_int y ys]
    · simp [h, anyEq_int x ys, Ne.symm h, fun e : x = y => h e.symm]
theorem fine_int (x : Int) : (D.int x).fine 60 = true := rfl
/-! ### _law_so -/
def bSoL (f : Nat) : Ss := (.cons (.ite (.not (.val (.call f (.cons (.idx (.var 0) (.var 2)) (.cons (.idx (.var 1) (.var 2)) .nil))))) (.cons (.ret (.cst (.bl false))) .nil) .nil) .nil)
def bSo (f : Nat) : Ss := (.cons (.ite (.val (.isN (.var 1))) (.cons (.ret (.isN (.var 0))) .nil) .nil) (.cons (.ite (.val (.isi (.var 1) [4])) (.cons (.ite (.or (.not (.val (.isi (.var 0) [4]))) (.val (.cmp .ne (.bi .len (.cons (.var 0) .nil)) (.bi .len (.cons (.var 1) .nil))))) (.cons (.ret (.cst (.bl false))) .nil) .nil) (.cons (.for (.name 2) (.rng (.cons (.bi .len (.cons (.var 1) .nil)) .nil)) (bSoL f)) (.cons (.ret (.cst (.bl true))) .nil))) .nil) (.cons (.ite (.or (.val (.isi (.var 1) [1])) (.val (.isi (.var 0) [1]))) (.cons (.ret (.and (.isi (.var 1) [1]) (.and (.isi (.var 0) [1]) (.cmp .eq (.var 0) (.var 1))))) .nil) .nil) (.cons (.ite (.val (.isi (.var 1) [0])) (.cons (.ret (.and (.isi (.var 0) [0]) (.cmp .eq (.var 0) (.var 1)))) .nil) .nil) (.cons (.ret (.and (.isi (.var 1) [2]) (.and (.isi (.var 0) [2]) (.cmp .eq (.var 0) (.var 1))))) .nil)))))
theorem rngL_get {lo st : Int} {m i : Nat} {d : D} (h : (rngL lo st m)[i]? = some d) : i < m ∧ d = .int (lo + i * st) := by
  unfold rngL at h
  rw [List.getElem?_map] at h
  by_cases hi : i < m
  · rw [List.getElem?_range hi] at h
    cases h
    exact ⟨hi, rfl⟩
  · rw [List.getElem?_eq_none (by simpa using hi)] at h
    cases h
theorem atI_get {α : Type} {xs : List α} {i : Nat} {x : α} (h : xs[i]? = some x) : atI xs (i : Int) = some x := by
  have hl := (List.getElem?_eq_some_iff.mp h).1
  unfold atI ixN
  rw [if_pos (by omega), if_pos (by omega)]
  simpa using h
theorem so_int {f : Nat} (hf : ds[f]? = some ⟨2, 3, bSo f⟩) (a : Int) : rn.go (n + 1) f [.int a, .int a] k = some (.bl true, k) := by
  rw [run_eq (rn := rn) hf rfl]
  simp [bSo, evSs, evS, evE, evT, evEs, isOfs, isOf, truth, coSem, eqD, fin_rt]
theorem so_pair {f : Nat} (hf : ds[f]? = some ⟨2, 3, bSo f⟩) (a b : Int) : rn.go (n + 2) f [.tup [.int a, .int b], .tup [.int a, .int b]] k = some (.bl true, k) := by
  rw [run_eq (rn := rn) hf rfl]
  have h1 : ∀ x, evSs (rn.go (n + 1)) WF (bSoL f) ⟨[some (.tup [.int a, .int b]), some (.tup [.int a, .int b]), some (.int 0)], x, k⟩ = some (.nx ⟨[some (.tup [.int a, .int b]), some (.tup [.int a, .int b]), some (.int 0)], x, k⟩) := by
    intro x
    simp [bSoL, evSs, evS, evE, evT, evEs, idxSem, atI, ixN, so_int hf, truth]
  have h2 : ∀ x, evSs (rn.go (n + 1)) WF (bSoL f) ⟨[some (.tup [.int a, .int b]), some (.tup [.int a, .int b]), some (.int 1)], x, k⟩ = some (.nx ⟨[some (.tup [.int a, .int b]), some (.tup [.int a, .int b]), some (.int 1)], x, k⟩) := by
    intro x
    simp [bSoL, evSs, evS, evE, evT, evEs, idxSem, atI, ixN, so_int hf, truth]
  have hr : rngL 0 1 2 = [.int 0, .int 1] := rfl
  simp [bSo, evSs, evS, evE, evT, evEs, evI, isOfs, isOf, truth, coSem, eqD, fin_rt, biSem, rngSem, rng62, hr, forW, okW, asg, h1, h2, Sta.keep, tgMu]
end
end Mini
namespace Mini
open PySem PySem.Spec PyProof.Rows L2
/-! ### the laws' own fractions -/
def bGcdL : Ss := (.cons (.ite (.val (.cmp .eq (.var 3) (.cst (.int 0)))) (.cons .brk .nil) .nil) (.cons (.set 5 (.bin .mod (.bi .int (.cons (.var 2) .nil)) (.var 3))) (.cons (.set 2 (.var 3)) (.cons (.set 3 (.var 5)) .nil))))
def bGcd : Ss := (.cons (.set 2 (.ite (.val (.cmp .ge (.var 0) (.cst (.int 0)))) (.var 0) (.neg (.var 0)))) (.cons (.set 3 (.ite (.val (.cmp .ge (.var 1) (.cst (.int 0)))) (.var 1) (.neg (.var 1)))) (.cons (.for (.name 4) (.rng (.cons (.cst (.int 20000)) .nil)) bGcdL) (.cons (.ret (.var 2)) .nil))))
def bRed (f g : Nat) : Ss := (.cons (.ite (.val (.cmp .lt (.var 1) (.cst (.int 0)))) (.cons (.ret (.call f (.cons (.neg (.var 0)) (.cons (.neg (.var 1)) .nil)))) .nil) .nil) (.cons (.set 2 (.call g (.cons (.var 0) (.cons (.var 1) .nil)))) (.cons (.ite (.val (.cmp .eq (.var 2) (.cst (.int 0)))) (.cons (.ret (.tup (.cons (.cst (.int 0)) (.cons (.cst (.int 1)) .nil)))) .nil) .nil) (.cons (.ret (.tup (.cons (.bin .fdiv (.var 0) (.var 2)) (.cons (.bin .fdiv (.var 1) (.var 2)) .nil)))) .nil))))
section
variable {rn : Rn} {w : Nat} {ds : List Def} [Runs rn ds] {n : Nat} {k : Ky} {c : Call}
theorem gcdL_zero (x0 x1 x4 x5 : Option D) (l : Int) : evSs c w bGcdL ⟨[x0, x1, some (.int l), some (.int 0), x4, x5], [], k⟩ = some (.bk ⟨[x0, x1, some (.int l), some (.int 0), x4, x5], [], k⟩) := by
  simp [bGcdL, evSs, evS, evE, evT, evEs, coSem, eqD, truth]
theorem gcdL_pos (x0 x1 x4 x5 : Option D) (l r : Int) (h : 0 < r) : evSs c w bGcdL ⟨[x0, x1, some (.int l), some (.int r), x4, x5], [], k⟩ = some (.nx ⟨[x0, x1, some (.int r), some (.int (l % r)), x4, some (.int (l % r))], [], k⟩) := by
  have : ¬ r = 0 := by omega
  simp [bGcdL, evSs, evS, evE, evT, evEs, coSem, eqD, truth, biSem, boSem, stE, noL, Sta.put, h, this]
theorem euclid_step {l r B i : Nat} (hr : 0 < r) (hl : r ≤ l) (h : l * r * 2 ^ i ≤ B) : r * (l % r) * 2 ^ (i + 1) ≤ B := by
  have h1 : l % r < r := Nat.mod_lt _ hr
  have h2 : 2 * (l % r) ≤ l := by
    have := Nat.div_add_mod l r
    have hq : 1 ≤ l / r := Nat.div_pos hl hr
    have : r * 1 ≤ r * (l / r) := Nat.mul_le_mul_left r hq
    omega
  calc r * (l % r) * 2 ^ (i + 1) = r * (2 * (l % r)) * 2 ^ i := by rw [Nat.pow_succ]; ac_rfl
    _ ≤ r * l * 2 ^ i := Nat.mul_le_mul_right _ (Nat.mul_le_mul_left _ h2)
    _ = l * r * 2 ^ i := by rw [Nat.mul_comm r l]
    _ ≤ B := h
/-- the largest that the loops are shown for -/
def HUGE : Nat := 2 ^ 8000
theorem huge_sq {n : Nat} (h : n < HUGE) : n * n < 2 ^ 16000 := by
  have h1 : n * n < HUGE * HUGE := Nat.mul_lt_mul'' h h
  have h2 : HUGE * HUGE = 2 ^ 16000 := by unfold HUGE; rw [← Nat.pow_add]
  omega
theorem huge_of {n : Nat} (h : n < 18446744073709551616) : n < HUGE := by
  have : (2 : Nat) ^ 64 ≤ HUGE := Nat.pow_le_pow_right (by omega) (by omega)
  have e : (2 : Nat) ^ 64 = 18446744073709551616 := by decide
  omega
theorem huge_log {n : Nat} (h : n < HUGE) : n.log2 < 8001 := by
  rcases Nat.eq_zero_or_pos n with h0 | h0
  · subst h0; decide
  · have h2 := (Nat.log2_lt (by omega)).mpr (show n < 2 ^ 8000 from h)
    omega
theorem divOk_huge {j : Int} (h1 : 0 < j) (h2 : j.natAbs < HUGE) : divOk j = true := by
  have h3 := huge_log h2
  have h4 : j.natAbs.log2 < 9000 := by omega
  simp only [divOk, decide_eq_true h1, decide_eq_true h4, Bool.or_true]
  rfl
theorem mulOk_huge {i j : Int} (h1 : i.natAbs < HUGE) (h2 : j.natAbs < HUGE) : mulOk i j = true := by
  have h3 := huge_log h1
  have h4 := huge_log h2
  have h5 : i.natAbs.log2 + j.natAbs.log2 < 1000000 := by omega
  simp only [mulOk, decide_eq_true h5, Bool.or_true]
theorem gcd_ok {f : Nat} (hf : ds[f]? = some ⟨2, 6, bGcd⟩) (a b : Int) (hb : b.natAbs < HUGE) : rn.go (n + 1) f [.int a, .int b] k = some (.int (Nat.gcd a.natAbs b.natAbs : Nat), k) := by
  rw [run_eq (rn := rn) hf rfl]
  have loop := forD_inv (tg := .name 4) (body := fun s => evSs (rn.go n) WF bGcdL s)
    (I := fun i s => ∃ (l r : Nat) (x4 x5 : Option D), s = ⟨[some (.int a), some (.int b), some (.int l), some (.int r), x4, x5], [], k⟩ ∧ Nat.gcd l r = Nat.gcd a.natAbs b.natAbs ∧ (r = 0 ∨ (i = 0 ∧ r = b.natAbs) ∨ (0 < i ∧ r ≤ l ∧ l * r * 2 ^ (i - 1) ≤ b.natAbs * b.natAbs)))
    (J := fun s => ∃ (l : Nat) (x4 x5 : Option D), s = ⟨[some (.int a), some (.int b), some (.int l), some (.int 0), x4, x5], [], k⟩ ∧ l = Nat.gcd a.natAbs b.natAbs)
    (rngL 0 1 20000) 0 ⟨[some (.int a), some (.int b), some (.int (a.natAbs : Nat)), some (.int (b.natAbs : Nat)), none, none], [], k⟩
    (fun i d s hd hI => by
      obtain ⟨l, r, x4, x5, rfl, hg, hc⟩ := hI
      by_cases h0 : r = 0
      · subst h0
        exact ⟨_, _, rfl, gcdL_zero _ _ _ _ _, ⟨l, _, _, rfl, by simpa using hg⟩⟩
      · have hr : 0 < r := by omega
        refine ⟨_, _, rfl, gcdL_pos _ _ _ _ _ _ (by omega), ⟨r, l % r, _, _, by rw [Int.natCast_emod], ?_, ?_⟩⟩
        · rw [← hg, Nat.gcd_comm l r, Nat.gcd_rec r l, Nat.gcd_comm]
        · right; right
          refine ⟨by omega, Nat.le_of_lt (Nat.mod_lt _ hr), ?_⟩
          rcases hc with hc | ⟨hi, hc⟩ | ⟨hi, hl, hc⟩
          · exact (h0 hc).elim
          · rw [hi, hc]
            have : l % b.natAbs ≤ b.natAbs := Nat.le_of_lt (Nat.mod_lt _ (by omega))
            simpa using Nat.mul_le_mul_left b.natAbs this
          · have := euclid_step (i := 0 + i - 1) hr hl hc
            rw [show 0 + i + 1 - 1 = 0 + i - 1 + 1 by omega]
            exact this)
    (fun s hs => by
      obtain ⟨l, r, x4, x5, rfl, hg, hc⟩ := hs
      have hlen : (rngL 0 1 20000).length = 20000 := by simp [rngL]
      have h0 : r = 0 := by
        rcases hc with hc | ⟨hi, hc⟩ | ⟨hi, hl, hc⟩
        · exact hc
        · rw [hlen] at hi; omega
        · rw [hlen] at hc
          rcases Nat.eq_zero_or_pos r with h | h
          · exact h
          · exfalso
            have h1 : 1 ≤ l * r := Nat.mul_pos (by omega) h
            have h2 : 2 ^ 16000 ≤ 2 ^ (0 + 20000 - 1) := Nat.pow_le_pow_right (by omega) (by omega)
            have h3 : b.natAbs * b.natAbs < 2 ^ 16000 := huge_sq hb
            have h4 : 1 * 2 ^ (0 + 20000 - 1) ≤ l * r * 2 ^ (0 + 20000 - 1) := Nat.mul_le_mul_right _ h1
            exact absurd (Nat.lt_of_lt_of_le h3 h2) (Nat.not_lt.mpr (by rw [Nat.one_mul] at h4; exact Nat.le_trans h4 hc))
      subst h0
      exact ⟨l, _, _, rfl, by simpa using hg⟩) ⟨a.natAbs, b.natAbs, none, none, rfl, rfl, .inr (.inl ⟨rfl, rfl⟩)⟩
  obtain ⟨s1, e1, l, x4, x5, rfl, hl⟩ := loop
  have s1 : evS (rn.go n) WF (.set 2 (.ite (.val (.cmp .ge (.var 0) (.cst (.int 0)))) (.var 0) (.neg (.var 0)))) ⟨[some (.int a), some (.int b), none, none, none, none], [], k⟩ = some (.nx ⟨[some (.int a), some (.int b), some (.int (a.natAbs : Nat)), none, none, none], [], k⟩) := by
    by_cases h : 0 ≤ a
    · have : (a.natAbs : Int) = a := by omega
      simp [evS, stE, evE, evT, coSem, truth, h, noL, Sta.put, this]
    · have : (a.natAbs : Int) = -a := by omega
      simp [evS, stE, evE, evT, coSem, truth, h, noL, Sta.put, this]
  have s2 : evS (rn.go n) WF (.set 3 (.ite (.val (.cmp .ge (.var 1) (.cst (.int 0)))) (.var 1) (.neg (.var 1)))) ⟨[some (.int a), some (.int b), some (.int (a.natAbs : Nat)), none, none, none], [], k⟩ = some (.nx ⟨[some (.int a), some (.int b), some (.int (a.natAbs : Nat)), some (.int (b.natAbs : Nat)), none, none], [], k⟩) := by
    by_cases h : 0 ≤ b
    · have : (b.natAbs : Int) = b := by omega
      simp [evS, stE, evE, evT, coSem, truth, h, noL, Sta.put, this]
    · have : (b.natAbs : Int) = -b := by omega
      simp [evS, stE, evE, evT, coSem, truth, h, noL, Sta.put, this]
  have s3 : evS (rn.go n) WF (.for (.name 4) (.rng (.cons (.cst (.int 20000)) .nil)) bGcdL) ⟨[some (.int a), some (.int b), some (.int (a.natAbs : Nat)), some (.int (b.natAbs : Nat)), none, none], [], k⟩ = some (.nx ⟨[some (.int a), some (.int b), some (.int l), some (.int 0), x4, x5], [], k⟩) := by
    have r1 : rngSem [.int 20000] = some (rngL 0 1 20000) := by
      have : rng62 20000 = true := rfl
      simp only [rngSem, this, if_true]
      rfl
    simp only [deref_int, deref_tup, deref_bl, evS, evI, evE, evEs, r1, Option.map_some, Sta.keep, List.filter_nil]
    exact e1
  show fin k (evSs (rn.go n) WF bGcd ⟨[some (.int a), some (.int b), none, none, none, none], [], k⟩) = _
  unfold bGcd
  rw [seq_nx s1, seq_nx s2, seq_nx s3]
  simp only [evSs, evS, evE, deref_int, deref_tup, deref_bl, List.getElem?_cons_succ, List.getElem?_cons_zero, fin_rt, hl]
/-- n over d in lowest terms, d > 0 -/
def fr (p q : Int) : D := .tup [.int p, .int q]
def rdc (a b : Int) : D := fr (a / (Nat.gcd a.natAbs b.natAbs : Nat)) (b / (Nat.gcd a.natAbs b.natAbs : Nat))
theorem red_pos {f g : Nat} (hf : ds[f]? = some ⟨2, 3, bRed f g⟩) (hg : ds[g]? = some ⟨2, 6, bGcd⟩) (a b : Int) (h : 0 < b) (hb : b.natAbs < HUGE) : rn.go (n + 2) f [.int a, .int b] k = some (rdc a b, k) := by
  rw [run_eq (rn := rn) hf rfl]
  have h1 : ¬ b < 0 := by omega
  have hgp : 0 < Nat.gcd a.natAbs b.natAbs := Nat.gcd_pos_of_pos_right _ (by omega)
  have hgl : Nat.gcd a.natAbs b.natAbs ≤ b.natAbs := Nat.gcd_le_right _ (by omega)
  have e := gcd_ok (rn := rn) (n := n) (k := k) hg a b hb
  generalize hG : Nat.gcd a.natAbs b.natAbs = G at *
  have h2 : ¬ ((G : Int) = 0) := by omega
  have h3 : divOk (G : Int) = true := divOk_huge (by omega) (Nat.lt_of_le_of_lt (by rw [Int.natAbs_natCast]; exact hgl) hb)
  have hl : lineOk 2 = true := rfl
  have hG0 : ¬ G = 0 := by omega
  simp [bRed, evSs, evS, stE, evE, evEs, evT, coSem, eqD, truth, h1, e, noL, Sta.put, boSem, h3, fin_rt, hl, rdc, fr, hG, hG0]
theorem red_neg {f g : Nat} (hf : ds[f]? = some ⟨2, 3, bRed f g⟩) (hg : ds[g]? = some ⟨2, 6, bGcd⟩) (a b : Int) (h : b < 0) (hb : b.natAbs < HUGE) : rn.go (n + 3) f [.int a, .int b] k = some (rdc (-a) (-b), k) := by
  rw [run_eq (rn := rn) hf rfl]
  have e := red_pos (rn := rn) (n := n) (k := k) hf hg (-a) (-b) (by omega) (by rw [Int.natAbs_neg]; exact hb)
  simp [bRed, evSs, evS, stE, evE, evEs, evT, coSem, eqD, truth, h, e, fin_rt]
end
end Mini
namespace Mini
open PySem PySem.Spec PyProof.Rows L2
section
variable {rn : Rn} {w : Nat} {ds : List Def} [Runs rn ds] {n : Nat} {k : Ky} {c : Call}
/-! ### they are the rationals -/
def ofR (x : Rat) : D := fr x.num x.den
/-- small enough for all that is done -/
def SM : Nat := 2 ^ 2000
theorem sm_sq {a b : Nat} (h1 : a < SM) (h2 : b < SM) : a * b < HUGE := by
  have h : a * b < SM * SM := Nat.mul_lt_mul'' h1 h2
  have e : SM * SM = 2 ^ 4000 := by unfold SM; rw [← Nat.pow_add]
  have : (2 : Nat) ^ 4000 ≤ HUGE := Nat.pow_le_pow_right (by omega) (by omega)
  omega
theorem sm_64 : 18446744073709551616 ≤ SM := by
  have : (2 : Nat) ^ 64 ≤ SM := Nat.pow_le_pow_right (by omega) (by omega)
  have e : (2 : Nat) ^ 64 = 18446744073709551616 := by decide
  omega
theorem sm_huge {a : Nat} (h1 : a < SM) : a < HUGE := by
  have := sm_sq h1 (show 1 < SM by have := sm_64; omega)
  omega
def sm (x : Rat) : Prop := x.num.natAbs < SM ∧ x.den < SM
theorem rdc_norm (a : Int) (d : Nat) (h : d ≠ 0) : rdc a d = ofR (Rat.normalize a d h) := by
  rw [Rat.normalize_eq]
  simp only [rdc, ofR, fr, Int.natAbs_natCast, Int.natCast_ediv]
def bAdd (r : Nat) : Ss := (.cons (.ret (.call r (.cons (.bin .add (.bin .mul (.idx (.var 0) (.cst (.int 0))) (.idx (.var 1) (.cst (.int 1)))) (.bin .mul (.idx (.var 1) (.cst (.int 0))) (.idx (.var 0) (.cst (.int 1))))) (.cons (.bin .mul (.idx (.var 0) (.cst (.int 1))) (.idx (.var 1) (.cst (.int 1)))) .nil)))) .nil)
def bSub (r : Nat) : Ss := (.cons (.ret (.call r (.cons (.bin .sub (.bin .mul (.idx (.var 0) (.cst (.int 0))) (.idx (.var 1) (.cst (.int 1)))) (.bin .mul (.idx (.var 1) (.cst (.int 0))) (.idx (.var 0) (.cst (.int 1))))) (.cons (.bin .mul (.idx (.var 0) (.cst (.int 1))) (.idx (.var 1) (.cst (.int 1)))) .nil)))) .nil)
def bMul (r : Nat) : Ss := (.cons (.ret (.call r (.cons (.bin .mul (.idx (.var 0) (.cst (.int 0))) (.idx (.var 1) (.cst (.int 0)))) (.cons (.bin .mul (.idx (.var 0) (.cst (.int 1))) (.idx (.var 1) (.cst (.int 1)))) .nil)))) .nil)
def bLess : Ss := (.cons (.ret (.cmp .lt (.bin .mul (.idx (.var 0) (.cst (.int 0))) (.idx (.var 1) (.cst (.int 1)))) (.bin .mul (.idx (.var 1) (.cst (.int 0))) (.idx (.var 0) (.cst (.int 1)))))) .nil)
/-- a def that takes n, d > 0 to lowest terms -/
def RedOk (rn : Rn) (m r : Nat) : Prop := ∀ (n : Nat) (k : Ky) (a : Int) (d : Nat) (h : d ≠ 0), d < HUGE → rn.go (n + m) r [.int a, .int d] k = some (ofR (Rat.normalize a d h), k)
theorem red_ok {f g : Nat} (hf : ds[f]? = some ⟨2, 3, bRed f g⟩) (hg : ds[g]? = some ⟨2, 6, bGcd⟩) : RedOk rn 2 f := by
  intro n k a d h hd
  rw [← rdc_norm]
  exact red_pos hf hg a d (by omega) (by rw [Int.natAbs_natCast]; exact hd)
theorem den_mul {x y : Rat} (hx : sm x) (hy : sm y) : x.den * y.den ≠ 0 ∧ x.den * y.den < HUGE :=
  ⟨Nat.mul_ne_zero x.den_nz y.den_nz, sm_sq hx.2 hy.2⟩
theorem sm_mul {x y : Rat} (hx : sm x) (hy : sm y) : mulOk x.num (y.den : Int) = true ∧ mulOk x.num y.num = true ∧ mulOk (x.den : Int) (y.den : Int) = true ∧ mulOk (x.den : Int) y.num = true := by
  have h1 : ((x.den : Int)).natAbs < HUGE := by rw [Int.natAbs_natCast]; exact sm_huge hx.2
  have h2 : ((y.den : Int)).natAbs < HUGE := by rw [Int.natAbs_natCast]; exact sm_huge hy.2
  exact ⟨mulOk_huge (sm_huge hx.1) h2, mulOk_huge (sm_huge hx.1) (sm_huge hy.1), mulOk_huge h1 h2, mulOk_huge h1 (sm_huge hy.1)⟩
theorem at0 (a b : D) : atI [a, b] 0 = some a := rfl
theorem at1 (a b : D) : atI [a, b] 1 = some b := rfl
theorem ev_add (c : Call) (x y : Rat) (hx : sm x) (hy : sm y) : evE c (.bin .add (.bin .mul (.idx (.var 0) (.cst (.int 0))) (.idx (.var 1) (.cst (.int 1)))) (.bin .mul (.idx (.var 1) (.cst (.int 0))) (.idx (.var 0) (.cst (.int 1))))) [some (ofR x), some (ofR y)] k = some (.int (x.num * y.den + y.num * x.den), k) := by
  simp only [evE, deref_int, deref_tup, deref_bl, deref_lst, List.getElem?_cons_succ, List.getElem?_cons_zero, ofR, fr, idxSem, at0, at1, boSem, (sm_mul hx hy).1, (sm_mul hx hy).2.1, (sm_mul hx hy).2.2.1, (sm_mul hy hx).1, if_true, Option.map_some]
theorem ev_sub (c : Call) (x y : Rat) (hx : sm x) (hy : sm y) : evE c (.bin .sub (.bin .mul (.idx (.var 0) (.cst (.int 0))) (.idx (.var 1) (.cst (.int 1)))) (.bin .mul (.idx (.var 1) (.cst (.int 0))) (.idx (.var 0) (.cst (.int 1))))) [some (ofR x), some (ofR y)] k = some (.int (x.num * y.den - y.num * x.den), k) := by
  simp only [evE, deref_int, deref_tup, deref_bl, deref_lst, List.getElem?_cons_succ, List.getElem?_cons_zero, ofR, fr, idxSem, at0, at1, boSem, (sm_mul hx hy).1, (sm_mul hx hy).2.1, (sm_mul hx hy).2.2.1, (sm_mul hy hx).1, if_true, Option.map_some]
theorem ev_mul (c : Call) (x y : Rat) (hx : sm x) (hy : sm y) : evE c (.bin .mul (.idx (.var 0) (.cst (.int 0))) (.idx (.var 1) (.cst (.int 0)))) [some (ofR x), some (ofR y)] k = some (.int (x.num * y.num), k) := by
  simp only [evE, deref_int, deref_tup, deref_bl, deref_lst, List.getElem?_cons_succ, List.getElem?_cons_zero, ofR, fr, idxSem, at0, at1, boSem, (sm_mul hx hy).1, (sm_mul hx hy).2.1, (sm_mul hx hy).2.2.1, (sm_mul hy hx).1, if_true, Option.map_some]
theorem ev_den (c : Call) (x y : Rat) (hx : sm x) (hy : sm y) : evE c (.bin .mul (.idx (.var 0) (.cst (.int 1))) (.idx (.var 1) (.cst (.int 1)))) [some (ofR x), some (ofR y)] k = some (.int ((x.den : Int) * y.den), k) := by
  simp only [evE, deref_int, deref_tup, deref_bl, deref_lst, List.getElem?_cons_succ, List.getElem?_cons_zero, ofR, fr, idxSem, at0, at1, boSem, (sm_mul hx hy).1, (sm_mul hx hy).2.1, (sm_mul hx hy).2.2.1, (sm_mul hy hx).1, if_true, Option.map_some]
theorem ev_call (c : Call) (r : Nat) (a b : E) (u v : Int) (ρ : Rho) (dd : D) (h1 : evE c a ρ k = some (.int u, k)) (h2 : evE c b ρ k = some (.int v, k)) (e : c r [.int u, .int v] k = some (dd, k)) : fin k (evSs c w (.cons (.ret (.call r (.cons a (.cons b .nil)))) .nil) ⟨ρ, [], k⟩) = some (dd, k) := by
  simp only [evSs, evS, evE, deref_int, deref_tup, deref_bl, evEs, h1, h2, e, fin_rt]
theorem add_ok {f r m : Nat} (hf : ds[f]? = some ⟨2, 2, bAdd r⟩) (hr : RedOk rn m r) (x y : Rat) (hx : sm x) (hy : sm y) : rn.go (n + m + 1) f [ofR x, ofR y] k = some (ofR (x + y), k) := by
  obtain ⟨h0, h1⟩ := den_mul hx hy
  have e := hr n k (x.num * y.den + y.num * x.den) (x.den * y.den) h0 h1
  rw [Int.natCast_mul] at e
  rw [Rat.add_def, run_eq (rn := rn) hf rfl]
  exact ev_call _ r _ _ _ _ _ _ (ev_add _ x y hx hy) (ev_den _ x y hx hy) e
theorem sub_ok {f r m : Nat} (hf : ds[f]? = some ⟨2, 2, bSub r⟩) (hr : RedOk rn m r) (x y : Rat) (hx : sm x) (hy : sm y) : rn.go (n + m + 1) f [ofR x, ofR y] k = some (ofR (x - y), k) := by
  obtain ⟨h0, h1⟩ := den_mul hx hy
  have e := hr n k (x.num * y.den - y.num * x.den) (x.den * y.den) h0 h1
  rw [Int.natCast_mul] at e
  rw [Rat.sub_def, run_eq (rn := rn) hf rfl]
  exact ev_call _ r _ _ _ _ _ _ (ev_sub _ x y hx hy) (ev_den _ x y hx hy) e
theorem mul_ok {f r m : Nat} (hf : ds[f]? = some ⟨2, 2, bMul r⟩) (hr : RedOk rn m r) (x y : Rat) (hx : sm x) (hy : sm y) : rn.go (n + m + 1) f [ofR x, ofR y] k = some (ofR (x * y), k) := by
  obtain ⟨h0, h1⟩ := den_mul hx hy
  have e := hr n k (x.num * y.num) (x.den * y.den) h0 h1
  rw [Int.natCast_mul] at e
  rw [Rat.mul_def, run_eq (rn := rn) hf rfl]
  exact ev_call _ r _ _ _ _ _ _ (ev_mul _ x y hx hy) (ev_den _ x y hx hy) e
theorem less_ok {f : Nat} (hf : ds[f]? = some ⟨2, 2, bLess⟩) (x y : Rat) (hx : sm x) (hy : sm y) : rn.go (n + 1) f [ofR x, ofR y] k = some (.bl (decide (x < y)), k) := by
  rw [run_eq (rn := rn) hf rfl]
  show fin k (evSs _ _ bLess ⟨[some (ofR x), some (ofR y)], [], k⟩) = _
  have e : decide (x < y) = decide (x.num * (y.den : Int) < y.num * (x.den : Int)) := decide_eq_decide.mpr (Rat.lt_iff x y)
  rw [e]
  simp only [deref_int, deref_tup, deref_bl, bLess, evSs, evS, evE, evEs, List.getElem?_cons_succ, List.getElem?_cons_zero, ofR, fr, idxSem, at0, at1, boSem, (sm_mul hx hy).1, (sm_mul hy hx).1, if_true, Option.map_some, coSem, fin_rt]
end
end Mini
namespace Mini
open PySem PySem.Spec PyProof.Rows L2
/-! ### walking: what holds behind -/
/-- a phantom: what stands in a type is not rewritten -/
def Wt {β : Type} (Q : β) : Type := Unit
def OPQd {α : Type} (o : Option α) (Q : α → Prop) : Prop := match o with | none => False | some x => Q x
def VEd (c : Call) (e : E) (ρ : Rho) (k : Ky) (Q : D → Ky → Prop) : Prop := OPQd (evE c e ρ k) fun p => Q p.1 p.2
def VTd (c : Call) (t : T) (ρ : Rho) (k : Ky) (Q : Bool → Ky → Prop) : Prop := OPQd (evT c t ρ k) fun p => Q p.1 p.2
def VSd (c : Call) (es : Es) (ρ : Rho) (k : Ky) (Q : List D → Ky → Prop) : Prop := OPQd (evEs c es ρ k) fun p => Q p.1 p.2
def VId (c : Call) (it : I) (ρ : Rho) (k : Ky) (Q : List D → Wch → Ky → Prop) : Prop := OPQd (evI c it ρ k) fun p => Q p.1 p.2.1 p.2.2
def WPd (c : Call) (w : Nat) (ss : Ss) (s : Sta) (Q : O → Prop) : Prop := OPQd (evSs c w ss s) Q
def WSd (c : Call) (w : Nat) (st : S) (s : Sta) (Q : O → Prop) : Prop := OPQd (evS c w st s) Q
def FRd (c : Call) (w : Nat) (wt : Wch) (tg : Tg) (body : Ss) (ds : List D) (s : Sta) (Q : O → Prop) : Prop := OPQd (forW wt tg (fun s => evSs c w body s) ds s) Q
def WHd (c : Call) (w : Nat) (t : T) (body : Ss) (n : Nat) (s : Sta) (Q : O → Prop) : Prop := OPQd (whileD (fun s => evT c t s.ρ s.k) (fun s => evSs c w body s) n s) Q
def CMd (c : Call) (wt : Wch) (e : E) (tg : Tg) (ds : List D) (ρ : Rho) (k : Ky) (Q : List D → Ky → Prop) : Prop := OPQd (compW wt (fun ρ k => evE c e ρ k) (fun _ k => some (true, k)) tg ρ ds k) fun p => Q p.1 p.2
def CNd (c : Call) (wt : Wch) (e : E) (t : T) (tg : Tg) (ds : List D) (ρ : Rho) (k : Ky) (Q : List D → Ky → Prop) : Prop := OPQd (compW wt (fun ρ k => evE c e ρ k) (fun ρ k => evT c t ρ k) tg ρ ds k) fun p => Q p.1 p.2
def nxtd (o : O) (P : Sta → Prop) (r : Prop) : Prop := match o with | .nx s => P s | _ => r
def slotv (ρ : Rho) (i : Nat) : Option D := match ρ[i]? with | some (some d) => some d | _ => none
def lslot (ρ : Rho) (i : Nat) : Option (List D) := match ρ[i]? with | some (some (.lst ds)) => some ds | _ => none
def isNonD : D → Bool | .non => true | _ => false
def negD : D → Option D | .int i => some (.int (-i)) | _ => none
def blD : D → Option Bool | .bl b => some b | _ => none
def itemsK (k : Ky) (x : D) : Option (List D × Wch) := match x with
  | .ref r => (lstK k r).map fun ds => (ds, some (r, ds))
  | x => (items x).map (·, none)
def enumK (k : Ky) (x : D) : Option (List D × Wch) := match x with
  | .lst ds => some (enumL 0 ds, none)
  | .tup ds => some (enumL 0 ds, none)
  | .ref r => (lstK k r).map fun ds => (enumL 0 ds, some (r, ds))
  | _ => none
def zipD : D → D → Option (List D) | .lst xs, .lst ys => some (zipL xs ys) | .tup xs, .tup ys => some (zipL xs ys) | _, _ => none
def revrD (as : List D) : Option (List D) := match as with
  | [_] => (rngSem as).map (·.reverse)
  | [_, _] => (rngSem as).map (·.reverse)
  | _ => none
def lrngD (t : Bool) (as : List D) : Option D := match rngTwo as with
  | some l => if lineOk l.length then some (if t then .tup l else .lst l) else none
  | none => none
def revD : D → Option (List D) | .lst ds => some ds.reverse | .tup ds => some ds.reverse | _ => none
def VBd (c : Call) (b : Bool) (e : E) (ρ : Rho) (k : Ky) (Q : Option Int → Ky → Prop) : Prop := if b = true then VEd c e ρ k (fun x k => OPQd (toInt x) fun i => Q (some i) k) else Q none k
def keepM (d : D) (e : E) (mu : List Nat) : List Nat := if noL d = true then mu else mu.filter fun i => avE [i] e
def newS (s : Sta) (e : E) (i : Nat) (d : D) (k : Ky) : Option O := match d with
  | .lst ds => if (noLs ds && decide (i < s.ρ.length)) = true then some (.nx ⟨s.ρ.set i (some (.lst ds)), i :: s.mu.filter (· != i), k⟩) else some (.nx ⟨s.ρ.set i (some (.lst ds)), (s.mu.filter fun j => avE [j] e).filter (· != i), k⟩)
  | _ => none
def appD (s : Sta) (i : Nat) (x d : D) (k : Ky) : Option O := match x with
  | .lst ds => if s.mu.contains i && noL d && decide (ds.length < 16777216) then some (.nx ⟨s.ρ.set i (some (.lst (ds ++ [d]))), s.mu, k⟩) else none
  | .ref r => match lstK k r with
    | some ds => if noL d && decide (ds.length < 16777216) then some (.nx ⟨s.ρ, s.mu, k.set r (.lst (ds ++ [d]))⟩) else none
    | none => none
  | _ => none
def popD (s : Sta) (i : Nat) (x : D) : Option O := match x with
  | .lst ds => if s.mu.contains i && !ds.isEmpty then some (.nx ⟨s.ρ.set i (some (.lst ds.dropLast)), s.mu, s.k⟩) else none
  | .ref r => match lstK s.k r with
    | some ds => if ds.isEmpty then none else some (.nx ⟨s.ρ, s.mu, s.k.set r (.lst ds.dropLast)⟩)
    | none => none
  | _ => none
def setD (s : Sta) (i : Nat) (x : D) (j : Int) (d : D) (k : Ky) : Option O := match x with
  | .lst ds => if s.mu.contains i && noL d then (ixN ds.length j).map fun j => .nx ⟨s.ρ.set i (some (.lst (ds.set j d))), s.mu, k⟩ else none
  | .ref r => match lstK k r with
    | some ds => if noL d then (ixN ds.length j).map fun j => .nx ⟨s.ρ, s.mu, k.set r (.lst (ds.set j d))⟩ else none
    | none => none
  | _ => none
def refD : D → Option Nat | .ref r => some r | _ => none
def lstD : D → Option (List D) | .lst ds => some ds | _ => none
section
variable {c : Call} {w : Nat} {ρ : Rho} {k : Ky} {s : Sta}
@[simp] theorem opq_some_d {α : Type} (x : α) (Q : α → Prop) : OPQd (some x) Q ↔ Q x := Iff.rfl
@[simp] theorem opq_none_d {α : Type} (Q : α → Prop) : OPQd (none : Option α) Q ↔ False := Iff.rfl
@[simp] theorem opq_ite_d {α : Type} (b : Prop) [Decidable b] (x : α) (Q : α → Prop) : OPQd (if b then some x else none) Q ↔ b ∧ Q x := by
  by_cases h : b <;> simp [h, OPQd]
@[simp] theorem opq_map_d {α β : Type} (f : α → β) (o : Option α) (Q : β → Prop) : OPQd (o.map f) Q ↔ OPQd o fun x => Q (f x) := by
  cases o <;> rfl
@[simp] theorem nxt_nx_d (P : Sta → Prop) (r : Prop) : nxtd (.nx s) P r = P s := rfl
@[simp] theorem nxt_rt_d (d : D) (P : Sta → Prop) (r : Prop) : nxtd (.rt d k) P r = r := rfl
@[simp] theorem nxt_bk_d (P : Sta → Prop) (r : Prop) : nxtd (.bk s) P r = r := rfl
@[simp] theorem nxt_ct_d (P : Sta → Prop) (r : Prop) : nxtd (.ct s) P r = r := rfl
@[simp] theorem slotv_succ_d (x : Option D) (i : Nat) : slotv (x :: ρ) (i + 1) = slotv ρ i := by simp [slotv]
@[simp] theorem slotv_zero_d (d : D) : slotv (some d :: ρ) 0 = some d := rfl
@[simp] theorem lslot_succ_d (x : Option D) (i : Nat) : lslot (x :: ρ) (i + 1) = lslot ρ i := by simp [lslot]
@[simp] theorem lslot_zero_d (ds : List D) : lslot (some (.lst ds) :: ρ) 0 = some ds := rfl
/-! ### expressions -/
variable {Q : D → Ky → Prop} {QB : Bool → Ky → Prop} {QL : List D → Ky → Prop} {QI : List D → Wch → Ky → Prop} {QO : O → Prop}
theorem ve_var_d (i : Nat) : VEd c (.var i) ρ k Q ↔ OPQd (slotv ρ i) fun d => Q d k := by
  unfold VEd slotv
  simp only [evE]
  cases ρ[i]? with
  | none => rfl
  | some o => cases o <;> rfl
theorem ve_cst_d (d : D) : VEd c (.cst d) ρ k Q ↔ Q d k := Iff.rfl
theorem ve_bin_d (op : BO) (a b : E) : VEd c (.bin op a b) ρ k Q ↔ VEd c a ρ k fun x k1 => VEd c b ρ k1 fun y k2 => OPQd (boSem op (deref k2 x) (deref k2 y)) fun z => Q z k2 := by
  unfold VEd
  simp only [evE]
  cases evE c a ρ k with
  | none => rfl
  | some p => obtain ⟨x, k1⟩ := p; simp only [opq_some_d]; cases evE c b ρ k1 with
    | none => rfl
    | some q => obtain ⟨y, k2⟩ := q; simp only [opq_some_d]; cases boSem op (deref k2 x) (deref k2 y) <;> rfl
theorem ve_neg_d (a : E) : VEd c (.neg a) ρ k Q ↔ VEd c a ρ k fun x k1 => OPQd (negD x) fun z => Q z k1 := by
  unfold VEd
  simp only [evE]
  cases evE c a ρ k with
  | none => rfl
  | some p => obtain ⟨x, k1⟩ := p; cases x <;> rfl
theorem ve_cmp_d (op : CO) (a b : E) : VEd c (.cmp op a b) ρ k Q ↔ VEd c a ρ k fun x k1 => VEd c b ρ k1 fun y k2 => OPQd (coSem op (deref k2 x) (deref k2 y)) fun z => Q (.bl z) k2 := by
  unfold VEd
  simp only [evE]
  cases evE c a ρ k with
  | none => rfl
  | some p => obtain ⟨x, k1⟩ := p; simp only [opq_some_d]; cases evE c b ρ k1 with
    | none => rfl
    | some q => obtain ⟨y, k2⟩ := q; simp only [opq_some_d]; cases coSem op (deref k2 x) (deref k2 y) <;> rfl
theorem ve_chain_d (op op' : CO) (a b e : E) : VEd c (.chain op op' a b e) ρ k Q ↔ VEd c a ρ k fun x k1 => VEd c b ρ k1 fun y k2 => OPQd (coSem op (deref k2 x) (deref k2 y)) fun t => if t = true then VEd c e ρ k2 fun z k3 => OPQd (coSem op' (deref k3 y) (deref k3 z)) fun u => Q (.bl u) k3 else Q (.bl false) k2 := by
  unfold VEd
  simp only [evE]
  cases evE c a ρ k with
  | none => rfl
  | some p => obtain ⟨x, k1⟩ := p; simp only [opq_some_d]; cases evE c b ρ k1 with
    | none => rfl
    | some q =>
      obtain ⟨y, k2⟩ := q
      simp only [opq_some_d]
      cases coSem op (deref k2 x) (deref k2 y) with
      | none => rfl
      | some t =>
        cases t
        · simp
        · simp only [opq_some_d, if_true]
          cases evE c e ρ k2 with
          | none => rfl
          | some r => obtain ⟨z, k3⟩ := r; simp only [opq_some_d]; cases coSem op' (deref k3 y) (deref k3 z) <;> rfl
theorem ve_isN_d (a : E) : VEd c (.isN a) ρ k Q ↔ VEd c a ρ k fun x k1 => Q (.bl (isNonD x)) k1 := by
  unfold VEd
  simp only [evE]
  cases evE c a ρ k with
  | none => rfl
  | some p => obtain ⟨x, k1⟩ := p; cases x <;> rfl
theorem ve_notN_d (a : E) : VEd c (.notN a) ρ k Q ↔ VEd c a ρ k fun x k1 => Q (.bl (!isNonD x)) k1 := by
  unfold VEd
  simp only [evE]
  cases evE c a ρ k with
  | none => rfl
  | some p => obtain ⟨x, k1⟩ := p; cases x <;> rfl
theorem ve_and_d (a b : E) : VEd c (.and a b) ρ k Q ↔ VEd c a ρ k fun x k1 => OPQd (blD x) fun t => if t = true then VEd c b ρ k1 Q else Q (.bl false) k1 := by
  unfold VEd
  simp only [evE]
  cases evE c a ρ k with
  | none => rfl
  | some p => obtain ⟨x, k1⟩ := p; cases x <;> simp only [opq_some_d, blD, opq_none_d] <;> try rfl
              rename_i b; cases b <;> simp
theorem ve_or_d (a b : E) : VEd c (.or a b) ρ k Q ↔ VEd c a ρ k fun x k1 => OPQd (blD x) fun t => if t = true then Q (.bl true) k1 else VEd c b ρ k1 Q := by
  unfold VEd
  simp only [evE]
  cases evE c a ρ k with
  | none => rfl
  | some p => obtain ⟨x, k1⟩ := p; cases x <;> simp only [opq_some_d, blD, opq_none_d] <;> try rfl
              rename_i b; cases b <;> simp
theorem ve_not_d (a : E) : VEd c (.not a) ρ k Q ↔ VEd c a ρ k fun x k1 => OPQd (blD x) fun t => Q (.bl (!t)) k1 := by
  unfold VEd
  simp only [evE]
  cases evE c a ρ k with
  | none => rfl
  | some p => obtain ⟨x, k1⟩ := p; cases x <;> rfl
theorem ve_ite_d (t : T) (a b : E) : VEd c (.ite t a b) ρ k Q ↔ VTd c t ρ k fun x k1 => if x = true then VEd c a ρ k1 Q else VEd c b ρ k1 Q := by
  unfold VEd VTd
  simp only [evE]
  cases evT c t ρ k with
  | none => rfl
  | some p => obtain ⟨x, k1⟩ := p; cases x <;> simp
theorem ve_tup_d (es : Es) : VEd c (.tup es) ρ k Q ↔ VSd c es ρ k fun ds k1 => lineOk ds.length = true ∧ Q (.tup ds) k1 := by
  unfold VEd VSd
  simp only [evE]
  cases evEs c es ρ k with
  | none => rfl
  | some p => obtain ⟨x, k1⟩ := p; simp only [Option.bind_some, opq_some_d, opq_ite_d]
theorem ve_lst_d (es : Es) : VEd c (.lst es) ρ k Q ↔ VSd c es ρ k fun ds k1 => lineOk ds.length = true ∧ Q (.lst ds) k1 := by
  unfold VEd VSd
  simp only [evE]
  cases evEs c es ρ k with
  | none => rfl
  | some p => obtain ⟨x, k1⟩ := p; simp only [Option.bind_some, opq_some_d, opq_ite_d]
theorem ve_idx_d (a b : E) : VEd c (.idx a b) ρ k Q ↔ VEd c a ρ k fun x k1 => VEd c b ρ k1 fun y k2 => OPQd (idxSem k2 x y) fun z => Q z k2 := by
  unfold VEd
  simp only [evE]
  cases evE c a ρ k with
  | none => rfl
  | some p => obtain ⟨x, k1⟩ := p; simp only [opq_some_d]; cases evE c b ρ k1 with
    | none => rfl
    | some q => obtain ⟨y, k2⟩ := q; simp only [opq_some_d]; cases idxSem k2 x y <;> rfl
theorem ve_sli_d (m : Nat) (a lo hi : E) : VEd c (.sli m a lo hi) ρ k Q ↔ VEd c a ρ k fun x k1 => VBd c (m == 1 || m == 3) lo ρ k1 fun l k2 => VBd c (m == 2 || m == 3) hi ρ k2 fun h k3 => OPQd (sliSem (deref k3 x) l h) fun d => Q d k3 := by
  have key : ∀ (b : Bool) (e : E) (k : Ky) (P : Option Int → Ky → Prop), VBd c b e ρ k P ↔ OPQd (if b then (match evE c e ρ k with
        | some (.int i, k2) => some (some i, k2)
        | _ => none) else some (none, k) : Option (Option Int × Ky)) fun p => P p.1 p.2 := by
    intro b e k P
    cases b
    · simp [VBd]
    · simp only [VBd, if_true, VEd]
      cases evE c e ρ k with
      | none => rfl
      | some p => obtain ⟨x, k1⟩ := p; cases x <;> rfl
  unfold VEd
  simp only [evE]
  cases evE c a ρ k with
  | none => rfl
  | some p =>
    obtain ⟨x, k1⟩ := p
    simp only [opq_some_d, key]
    generalize (if (m == 1 || m == 3) = true then (match evE c lo ρ k1 with
        | some (.int i, k2) => some (some i, k2)
        | _ => none) else some (none, k1) : Option (Option Int × Ky)) = o1
    cases o1 with
    | none => rfl
    | some q =>
      obtain ⟨l, k2⟩ := q
      simp only [opq_some_d, key]
      generalize (if (m == 2 || m == 3) = true then (match evE c hi ρ k2 with
          | some (.int i, k3) => some (some i, k3)
          | _ => none) else some (none, k2) : Option (Option Int × Ky)) = o2
      cases o2 with
      | none => rfl
      | some q => obtain ⟨h, k3⟩ := q; simp only [opq_some_d]; cases sliSem (deref k3 x) l h <;> rfl
@[simp] theorem vb_false_d (e : E) (P : Option Int → Ky → Prop) : VBd c false e ρ k P ↔ P none k := by simp [VBd]
@[simp] theorem vb_true_d (e : E) (P : Option Int → Ky → Prop) : VBd c true e ρ k P ↔ VEd c e ρ k (fun x k => OPQd (toInt x) fun i => P (some i) k) := by simp [VBd]
theorem ve_call_d (f : Nat) (es : Es) : VEd c (.call f es) ρ k Q ↔ VSd c es ρ k fun ds k1 => OPQd (c f ds k1) fun p => Q p.1 p.2 := by
  unfold VEd VSd
  simp only [evE]
  cases evEs c es ρ k with
  | none => rfl
  | some p => obtain ⟨x, k1⟩ := p; rfl
theorem ve_bi_d (f : BI) (es : Es) : VEd c (.bi f es) ρ k Q ↔ VSd c es ρ k fun ds k1 => OPQd (biSem f (ds.map (deref k1))) fun d => Q d k1 := by
  unfold VEd VSd
  simp only [evE]
  cases evEs c es ρ k with
  | none => rfl
  | some p => obtain ⟨x, k1⟩ := p; simp only [opq_some_d]; cases biSem f (x.map (deref k1)) <;> rfl
theorem ve_cell_d (a : E) : VEd c (.cell a) ρ k Q ↔ VEd c a ρ k fun x k1 => OPQd (lstD x) fun ds => noLs ds = true ∧ Q (.ref k1.length) (k1 ++ [.lst ds]) := by
  unfold VEd
  simp only [evE]
  cases evE c a ρ k with
  | none => rfl
  | some p => obtain ⟨x, k1⟩ := p; cases x <;> simp [lstD]
theorem ve_pop_d (a : E) : VEd c (.pop a) ρ k Q ↔ VEd c a ρ k fun x k1 => OPQd (refD x) fun r => OPQd (lstK k1 r) fun ds => OPQd ds.getLast? fun d => Q d (k1.set r (.lst ds.dropLast)) := by
  unfold VEd
  simp only [evE]
  cases evE c a ρ k with
  | none => rfl
  | some p =>
    obtain ⟨x, k1⟩ := p
    cases x <;> simp only [refD, opq_some_d, opq_none_d] <;> try rfl
    rename_i r
    simp only [lstK]
    cases k1[r]? with
    | none => rfl
    | some o =>
      cases o <;> simp only [opq_some_d, opq_none_d]
      rename_i ds
      cases ds.getLast? <;> rfl
theorem ve_lrng_d (t : Bool) (es : Es) : VEd c (.lrng t es) ρ k Q ↔ VSd c es ρ k fun as k1 => OPQd (lrngD t as) fun d => Q d k1 := by
  unfold VEd VSd
  simp only [evE]
  cases evEs c es ρ k with
  | none => rfl
  | some p =>
    obtain ⟨x, k1⟩ := p
    simp only [opq_some_d, lrngD]
    generalize rngTwo x = o
    cases o with
    | none => rfl
    | some l => simp only []; by_cases h : lineOk l.length = true <;> simp [h]
theorem ve_isi_d (a : E) (ts : List Nat) : VEd c (.isi a ts) ρ k Q ↔ VEd c a ρ k fun x k1 => OPQd (isOfs (deref k1 x) ts) fun b => Q (.bl b) k1 := by
  unfold VEd
  simp only [evE]
  cases evE c a ρ k with
  | none => rfl
  | some p => obtain ⟨x, k1⟩ := p; simp only [opq_some_d]; cases isOfs (deref k1 x) ts <;> rfl
theorem ve_comp0_d (e : E) (tg : Tg) (it : I) (own : List Nat) : VEd c (.comp0 e tg it own) ρ k Q ↔ VId c it ρ k fun ds wt k1 => lineOk ds.length = true ∧ CMd c wt e tg ds (wipeR ρ own) k1 fun ys k2 => Q (.lst ys) k2 := by
  unfold VEd VId CMd
  simp only [evE]
  cases evI c it ρ k with
  | none => rfl
  | some p =>
    obtain ⟨x, wt, k1⟩ := p
    simp only [opq_some_d]
    by_cases h : lineOk x.length = true
    · simp only [h, if_true, true_and]
      generalize compW _ _ _ _ _ _ _ = o
      cases o <;> rfl
    · simp [h]
theorem ve_comp1_d (e : E) (tg : Tg) (it : I) (t : T) (own : List Nat) : VEd c (.comp1 e tg it t own) ρ k Q ↔ VId c it ρ k fun ds wt k1 => lineOk ds.length = true ∧ CNd c wt e t tg ds (wipeR ρ own) k1 fun ys k2 => Q (.lst ys) k2 := by
  unfold VEd VId CNd
  simp only [evE]
  cases evI c it ρ k with
  | none => rfl
  | some p =>
    obtain ⟨x, wt, k1⟩ := p
    simp only [opq_some_d]
    by_cases h : lineOk x.length = true
    · simp only [h, if_true, true_and]
      generalize compW _ _ _ _ _ _ _ = o
      cases o <;> rfl
    · simp [h]
/-! ### tests, lists of expressions, iterables -/
theorem vt_val_d (e : E) : VTd c (.val e) ρ k QB ↔ VEd c e ρ k fun x k1 => OPQd (truth (deref k1 x)) fun b => QB b k1 := by
  unfold VTd VEd
  simp only [evT]
  cases evE c e ρ k with
  | none => rfl
  | some p => obtain ⟨x, k1⟩ := p; simp only [opq_some_d]; cases truth (deref k1 x) <;> rfl
theorem vt_not_d (t : T) : VTd c (.not t) ρ k QB ↔ VTd c t ρ k fun b k1 => QB (!b) k1 := by
  unfold VTd
  simp only [evT]
  cases evT c t ρ k with
  | none => rfl
  | some p => rfl
theorem vt_and_d (a b : T) : VTd c (.and a b) ρ k QB ↔ VTd c a ρ k fun x k1 => if x = true then VTd c b ρ k1 QB else QB false k1 := by
  unfold VTd
  simp only [evT]
  cases evT c a ρ k with
  | none => rfl
  | some p => obtain ⟨x, k1⟩ := p; cases x <;> simp
theorem vt_or_d (a b : T) : VTd c (.or a b) ρ k QB ↔ VTd c a ρ k fun x k1 => if x = true then QB true k1 else VTd c b ρ k1 QB := by
  unfold VTd
  simp only [evT]
  cases evT c a ρ k with
  | none => rfl
  | some p => obtain ⟨x, k1⟩ := p; cases x <;> simp
theorem vt_ite_d (t a b : T) : VTd c (.ite t a b) ρ k QB ↔ VTd c t ρ k fun x k1 => if x = true then VTd c a ρ k1 QB else VTd c b ρ k1 QB := by
  unfold VTd
  simp only [evT]
  cases evT c t ρ k with
  | none => rfl
  | some p => obtain ⟨x, k1⟩ := p; cases x <;> simp
theorem vs_nil_d : VSd c .nil ρ k QL ↔ QL [] k := Iff.rfl
theorem vs_cons_d (e : E) (es : Es) : VSd c (.cons e es) ρ k QL ↔ VEd c e ρ k fun x k1 => VSd c es ρ k1 fun xs k2 => QL (x :: xs) k2 := by
  unfold VSd VEd
  simp only [evEs]
  cases evE c e ρ k with
  | none => rfl
  | some p => obtain ⟨x, k1⟩ := p; simp only [opq_some_d]; cases evEs c es ρ k1 <;> rfl
theorem vi_seq_d (e : E) : VId c (.seq e) ρ k QI ↔ VEd c e ρ k fun x k1 => OPQd (itemsK k1 x) fun p => QI p.1 p.2 k1 := by
  unfold VId VEd
  simp only [evI]
  cases evE c e ρ k with
  | none => rfl
  | some p =>
    obtain ⟨x, k1⟩ := p
    simp only [opq_some_d]
    cases x <;> simp only [itemsK, items, Option.map_some, Option.map_none, opq_some_d, opq_none_d] <;> try rfl
    rename_i r
    simp only [lstK]
    cases k1[r]? with
    | none => rfl
    | some o => cases o <;> rfl
theorem vi_rng_d (es : Es) : VId c (.rng es) ρ k QI ↔ VSd c es ρ k fun as k1 => OPQd (rngSem as) fun l => QI l none k1 := by
  unfold VId VSd
  simp only [evI]
  cases evEs c es ρ k with
  | none => rfl
  | some p => obtain ⟨x, k1⟩ := p; simp only [opq_some_d]; cases rngSem x <;> rfl
theorem vi_enum_d (e : E) : VId c (.enum e) ρ k QI ↔ VEd c e ρ k fun x k1 => OPQd (enumK k1 x) fun p => QI p.1 p.2 k1 := by
  unfold VId VEd
  simp only [evI]
  cases evE c e ρ k with
  | none => rfl
  | some p =>
    obtain ⟨x, k1⟩ := p
    cases x <;> simp only [enumK, opq_some_d, opq_none_d] <;> try rfl
    rename_i r
    simp only [lstK]
    cases k1[r]? with
    | none => rfl
    | some o => cases o <;> rfl
theorem vi_zip_d (a b : E) : VId c (.zip a b) ρ k QI ↔ VEd c a ρ k fun x k1 => VEd c b ρ k1 fun y k2 => OPQd (zipD x y) fun l => QI l none k2 := by
  unfold VId VEd
  simp only [evI]
  cases evE c a ρ k with
  | none => rfl
  | some p => obtain ⟨x, k1⟩ := p; simp only [opq_some_d]; cases evE c b ρ k1 with
    | none => rfl
    | some q => obtain ⟨y, k2⟩ := q; cases x <;> cases y <;> rfl
theorem vi_rev_d (e : E) : VId c (.rev e) ρ k QI ↔ VEd c e ρ k fun x k1 => OPQd (revD x) fun l => QI l none k1 := by
  unfold VId VEd
  simp only [evI]
  cases evE c e ρ k with
  | none => rfl
  | some p => obtain ⟨x, k1⟩ := p; cases x <;> rfl
theorem vi_revr_d (es : Es) : VId c (.revr es) ρ k QI ↔ VSd c es ρ k fun as k1 => OPQd (revrD as) fun l => QI l none k1 := by
  unfold VId VSd
  simp only [evI]
  cases evEs c es ρ k with
  | none => rfl
  | some p =>
    obtain ⟨x, k1⟩ := p
    simp only [opq_some_d, revrD]
    match x with
    | [] => rfl
    | [a] => simp only []; cases rngSem [a] <;> rfl
    | [a, b] => simp only []; cases rngSem [a, b] <;> rfl
    | _ :: _ :: _ :: _ => rfl
/-! ### statements -/
theorem wp_nil_d : WPd c w .nil s QO ↔ QO (.nx s) := Iff.rfl
theorem wp_cons_d (a : S) (b : Ss) : WPd c w (.cons a b) s QO ↔ WSd c w a s fun o => nxtd o (fun s' => WPd c w b s' QO) (QO o) := by
  unfold WPd WSd
  simp only [evSs]
  cases evS c w a s with
  | none => rfl
  | some o => cases o <;> rfl
theorem keep_nil_d (f : List Nat → Bool) (s : Sta) (k : Ky) (h : s.mu = []) : s.keep f k = { s with k := k } := by
  simp [Sta.keep, h]
theorem ws_set_d (i : Nat) (e : E) : WSd c w (.set i e) s QO ↔ VEd c e s.ρ s.k fun d k => QO (.nx ⟨s.ρ.set i (some d), (keepM d e s.mu).filter (· != i), k⟩) := by
  unfold WSd VEd
  simp only [evS, stE]
  cases evE c e s.ρ s.k with
  | none => rfl
  | some p =>
    obtain ⟨d, k⟩ := p
    by_cases h : noL d = true <;> simp [h, Sta.put, keepM, Sta.keep]
@[simp] theorem keepM_nil_d (d : D) (e : E) : keepM d e [] = [] := by simp [keepM]
theorem ws_new_d (i : Nat) (e : E) : WSd c w (.new i e) s QO ↔ VEd c e s.ρ s.k fun d k => OPQd (newS s e i d k) QO := by
  unfold WSd VEd
  simp only [evS]
  cases evE c e s.ρ s.k with
  | none => rfl
  | some p =>
    obtain ⟨d, k⟩ := p
    cases d <;> try rfl
theorem ws_par_d (i j : Nat) (a b : E) : WSd c w (.par i j a b) s QO ↔ VEd c a s.ρ s.k fun x k1 => VEd c b s.ρ k1 fun y k2 => (noL x && noL y) = true ∧ QO (.nx ⟨(s.ρ.set i (some x)).set j (some y), (s.mu.filter (· != i)).filter (· != j), k2⟩) := by
  unfold WSd VEd
  simp only [evS]
  cases evE c a s.ρ s.k with
  | none => rfl
  | some p => obtain ⟨x, k1⟩ := p; simp only [opq_some_d]; cases evE c b s.ρ k1 with
    | none => rfl
    | some q =>
      obtain ⟨y, k2⟩ := q
      simp only [opq_some_d, opq_ite_d]
      rfl
theorem ws_asg_d (t : Tg) (e : E) : WSd c w (.asg t e) s QO ↔ VEd c e s.ρ s.k fun d k => OPQd (Mini.asg t d s.ρ) fun ρ => QO (.nx ⟨ρ, tgMu t (keepM d e s.mu), k⟩) := by
  unfold WSd VEd
  simp only [evS, stE]
  cases evE c e s.ρ s.k with
  | none => rfl
  | some p =>
    obtain ⟨d, k⟩ := p
    by_cases h : noL d = true <;> simp [h, keepM, Sta.keep] <;> (generalize Mini.asg t d s.ρ = o; cases o <;> simp [h])
theorem ws_aug_d (i : Nat) (op : BO) (e : E) : WSd c w (.aug i op e) s QO ↔ OPQd (slotv s.ρ i) fun x => VEd c e s.ρ s.k fun y k => OPQd (augSem op x y) fun z => QO (.nx ⟨s.ρ.set i (some z), s.mu.filter (· != i), k⟩) := by
  unfold WSd VEd slotv
  simp only [evS]
  cases s.ρ[i]? with
  | none => rfl
  | some o => cases o with
    | none => rfl
    | some x =>
      simp only [opq_some_d]
      cases evE c e s.ρ s.k with
      | none => rfl
      | some p => obtain ⟨y, k⟩ := p; simp only [opq_some_d]; cases augSem op x y <;> rfl
theorem ws_setI_d (i : Nat) (x e : E) : WSd c w (.setI i x e) s QO ↔ VEd c e s.ρ s.k fun d k1 => VEd c x s.ρ k1 fun j k2 => OPQd (slotv s.ρ i) fun x => OPQd (toInt j) fun j => OPQd (setD s i x j d k2) QO := by
  unfold WSd VEd slotv
  simp only [evS]
  cases evE c e s.ρ s.k with
  | none => rfl
  | some p =>
    obtain ⟨d, k1⟩ := p
    simp only [opq_some_d]
    cases evE c x s.ρ k1 with
    | none => rfl
    | some q =>
      obtain ⟨j, k2⟩ := q
      simp only [opq_some_d]
      cases s.ρ[i]? with
      | none => cases j <;> rfl
      | some o =>
        cases o with
        | none => cases j <;> rfl
        | some y =>
          cases j <;> simp only [toInt, opq_some_d, opq_none_d] <;> try rfl
          cases y <;> simp only [setD, lstK] <;> try rfl
          rename_i r
          cases k2[r]? with
          | none => rfl
          | some ob => cases ob <;> rfl
theorem ws_app_d (i : Nat) (e : E) : WSd c w (.app i e) s QO ↔ OPQd (slotv s.ρ i) fun x => VEd c e s.ρ s.k fun d k => OPQd (appD s i x d k) QO := by
  unfold WSd VEd slotv
  simp only [evS]
  cases s.ρ[i]? with
  | none => rfl
  | some o => cases o with
    | none => rfl
    | some x =>
      simp only [opq_some_d]
      cases x <;> simp only [appD] <;> first | (cases evE c e s.ρ s.k <;> rfl) | skip
      cases evE c e s.ρ s.k with
      | none => rfl
      | some p =>
        obtain ⟨d, k⟩ := p
        rename_i r
        simp only [opq_some_d, lstK]
        cases k[r]? with
        | none => rfl
        | some ob => cases ob <;> rfl
theorem ws_pop_d (i : Nat) : WSd c w (.pop i) s QO ↔ OPQd (slotv s.ρ i) fun x => OPQd (popD s i x) QO := by
  unfold WSd slotv
  simp only [evS]
  cases s.ρ[i]? with
  | none => rfl
  | some o => cases o with
    | none => rfl
    | some x =>
      simp only [opq_some_d]
      cases x <;> simp only [popD, lstK] <;> try rfl
      rename_i r
      cases s.k[r]? with
      | none => rfl
      | some ob => cases ob <;> rfl
theorem ws_setX_d (a x e : E) : WSd c w (.setX a x e) s QO ↔ VEd c e s.ρ s.k fun d k1 => VEd c a s.ρ k1 fun y k2 => OPQd (refD y) fun r => VEd c x s.ρ k2 fun j k3 => OPQd (toInt j) fun j => OPQd (lstK k3 r) fun ds => noL d = true ∧ OPQd (ixN ds.length j) fun jj => QO (.nx ⟨s.ρ, s.mu, k3.set r (.lst (ds.set jj d))⟩) := by
  unfold WSd VEd
  simp only [evS]
  cases evE c e s.ρ s.k with
  | none => rfl
  | some p =>
    obtain ⟨d, k1⟩ := p
    simp only [opq_some_d]
    cases evE c a s.ρ k1 with
    | none => rfl
    | some q =>
      obtain ⟨y, k2⟩ := q
      simp only [opq_some_d]
      cases y <;> simp only [refD, opq_some_d, opq_none_d] <;> try rfl
      cases evE c x s.ρ k2 with
      | none => rfl
      | some q =>
        obtain ⟨j, k3⟩ := q
        rename_i r
        cases j <;> simp only [toInt, opq_some_d, opq_none_d] <;> try rfl
        simp only [lstK]
        cases k3[r]? with
        | none => rfl
        | some ob =>
          cases ob <;> simp only [opq_some_d, opq_none_d]
          by_cases h : noL d = true <;> simp [h]
theorem ws_appX_d (a e : E) : WSd c w (.appX a e) s QO ↔ VEd c a s.ρ s.k fun y k1 => OPQd (refD y) fun r => VEd c e s.ρ k1 fun d k2 => OPQd (lstK k2 r) fun ds => (noL d && decide (ds.length < 16777216)) = true ∧ QO (.nx ⟨s.ρ, s.mu, k2.set r (.lst (ds ++ [d]))⟩) := by
  unfold WSd VEd
  simp only [evS]
  cases evE c a s.ρ s.k with
  | none => rfl
  | some p =>
    obtain ⟨y, k1⟩ := p
    simp only [opq_some_d]
    cases y <;> simp only [refD, opq_some_d, opq_none_d] <;> try rfl
    cases evE c e s.ρ k1 with
    | none => rfl
    | some q =>
      obtain ⟨d, k2⟩ := q
      rename_i r
      simp only [opq_some_d, lstK]
      cases k2[r]? with
      | none => rfl
      | some ob => cases ob <;> simp only [opq_some_d, opq_none_d, opq_ite_d]
theorem ws_ret_d (e : E) : WSd c w (.ret e) s QO ↔ VEd c e s.ρ s.k fun d k => QO (.rt d k) := by
  unfold WSd VEd
  simp only [evS]
  cases evE c e s.ρ s.k with
  | none => rfl
  | some p => rfl
theorem ws_retN_d : WSd c w .retN s QO ↔ QO (.rt .non s.k) := Iff.rfl
theorem ws_ite_d (t : T) (a b : Ss) : WSd c w (.ite t a b) s QO ↔ VTd c t s.ρ s.k fun x k => if x = true then WPd c w a ⟨s.ρ, s.mu, k⟩ QO else WPd c w b ⟨s.ρ, s.mu, k⟩ QO := by
  unfold WSd VTd WPd
  simp only [evS]
  cases evT c t s.ρ s.k with
  | none => rfl
  | some p => obtain ⟨x, k⟩ := p; cases x <;> simp
theorem ws_for_d (tg : Tg) (it : I) (body : Ss) : WSd c w (.for tg it body) s QO ↔ VId c it s.ρ s.k fun ds wt k => FRd c w wt tg body ds ⟨s.ρ, s.mu.filter fun i => avI [i] it, k⟩ QO := by
  unfold WSd VId FRd
  simp only [evS]
  cases evI c it s.ρ s.k with
  | none => rfl
  | some p => rfl
theorem ws_while_d (t : T) (body : Ss) : WSd c w (.while t body) s QO ↔ WHd c w t body w s QO := Iff.rfl
theorem ws_expr_d (e : E) : WSd c w (.expr e) s QO ↔ VEd c e s.ρ s.k fun _ k => QO (.nx ⟨s.ρ, s.mu, k⟩) := by
  unfold WSd VEd
  simp only [evS]
  cases evE c e s.ρ s.k with
  | none => rfl
  | some p => rfl
theorem ws_brk_d : WSd c w .brk s QO ↔ QO (.bk s) := Iff.rfl
theorem ws_cnt_d : WSd c w .cnt s QO ↔ QO (.ct s) := Iff.rfl
theorem ws_pass_d : WSd c w .pass s QO ↔ QO (.nx s) := Iff.rfl
theorem ws_never_d : WSd c w .never s QO ↔ False := Iff.rfl
end

theorem opq_ex0 : ∃ f : (α : Type) → Option α → (α → Prop) → Prop, f = @OPQd := ⟨_, rfl⟩
/-- not to be unfolded, by the kernel neither -/
noncomputable def OPQ {α : Type} (o : Option α) (Q : α → Prop) (_ : Wt Q := ()) : Prop := Classical.choose opq_ex0 α o Q
theorem OPQ_def {α : Type} (o : Option α) (Q : α → Prop) : OPQ o Q = OPQd o Q := congrFun (congrFun (congrFun (Classical.choose_spec opq_ex0) α) o) Q
theorem VE_ex0 : ∃ f, f = @VEd := ⟨_, rfl⟩
noncomputable def VE (c : Call) (e : E) (ρ : Rho) (k : Ky) (Q : D → Ky → Prop) (_ : Wt Q := ()) : Prop := Classical.choose VE_ex0 c e ρ k Q
theorem VE_def (c : Call) (e : E) (ρ : Rho) (k : Ky) (Q : D → Ky → Prop) : VE c e ρ k Q = VEd c e ρ k Q := congrFun (congrFun (congrFun (congrFun (congrFun (Classical.choose_spec VE_ex0) c) e) ρ) k) Q
theorem VT_ex0 : ∃ f, f = @VTd := ⟨_, rfl⟩
noncomputable def VT (c : Call) (t : T) (ρ : Rho) (k : Ky) (Q : Bool → Ky → Prop) (_ : Wt Q := ()) : Prop := Classical.choose VT_ex0 c t ρ k Q
theorem VT_def (c : Call) (t : T) (ρ : Rho) (k : Ky) (Q : Bool → Ky → Prop) : VT c t ρ k Q = VTd c t ρ k Q := congrFun (congrFun (congrFun (congrFun (congrFun (Classical.choose_spec VT_ex0) c) t) ρ) k) Q
theorem VS_ex0 : ∃ f, f = @VSd := ⟨_, rfl⟩
noncomputable def VS (c : Call) (es : Es) (ρ : Rho) (k : Ky) (Q : List D → Ky → Prop) (_ : Wt Q := ()) : Prop := Classical.choose VS_ex0 c es ρ k Q
theorem VS_def (c : Call) (es : Es) (ρ : Rho) (k : Ky) (Q : List D → Ky → Prop) : VS c es ρ k Q = VSd c es ρ k Q := congrFun (congrFun (congrFun (congrFun (congrFun (Classical.choose_spec VS_ex0) c) es) ρ) k) Q
theorem VI_ex0 : ∃ f, f = @VId := ⟨_, rfl⟩
noncomputable def VI (c : Call) (it : I) (ρ : Rho) (k : Ky) (Q : List D → Wch → Ky → Prop) (_ : Wt Q := ()) : Prop := Classical.choose VI_ex0 c it ρ k Q
theorem VI_def (c : Call) (it : I) (ρ : Rho) (k : Ky) (Q : List D → Wch → Ky → Prop) : VI c it ρ k Q = VId c it ρ k Q := congrFun (congrFun (congrFun (congrFun (congrFun (Classical.choose_spec VI_ex0) c) it) ρ) k) Q
theorem WP_ex0 : ∃ f, f = @WPd := ⟨_, rfl⟩
noncomputable def WP (c : Call) (w : Nat) (ss : Ss) (s : Sta) (Q : O → Prop) (_ : Wt Q := ()) : Prop := Classical.choose WP_ex0 c w ss s Q
theorem WP_def (c : Call) (w : Nat) (ss : Ss) (s : Sta) (Q : O → Prop) : WP c w ss s Q = WPd c w ss s Q := congrFun (congrFun (congrFun (congrFun (congrFun (Classical.choose_spec WP_ex0) c) w) ss) s) Q
theorem WS_ex0 : ∃ f, f = @WSd := ⟨_, rfl⟩
noncomputable def WS (c : Call) (w : Nat) (st : S) (s : Sta) (Q : O → Prop) (_ : Wt Q := ()) : Prop := Classical.choose WS_ex0 c w st s Q
theorem WS_def (c : Call) (w : Nat) (st : S) (s : Sta) (Q : O → Prop) : WS c w st s Q = WSd c w st s Q := congrFun (congrFun (congrFun (congrFun (congrFun (Classical.choose_spec WS_ex0) c) w) st) s) Q
theorem FR_ex0 : ∃ f, f = @FRd := ⟨_, rfl⟩
noncomputable def FR (c : Call) (w : Nat) (wt : Wch) (tg : Tg) (body : Ss) (ds : List D) (s : Sta) (Q : O → Prop) (_ : Wt Q := ()) : Prop := Classical.choose FR_ex0 c w wt tg body ds s Q
theorem FR_def (c : Call) (w : Nat) (wt : Wch) (tg : Tg) (body : Ss) (ds : List D) (s : Sta) (Q : O → Prop) : FR c w wt tg body ds s Q = FRd c w wt tg body ds s Q := congrFun (congrFun (congrFun (congrFun (congrFun (congrFun (congrFun (congrFun (Classical.choose_spec FR_ex0) c) w) wt) tg) body) ds) s) Q
theorem WH_ex0 : ∃ f, f = @WHd := ⟨_, rfl⟩
noncomputable def WH (c : Call) (w : Nat) (t : T) (body : Ss) (n : Nat) (s : Sta) (Q : O → Prop) (_ : Wt Q := ()) : Prop := Classical.choose WH_ex0 c w t body n s Q
theorem WH_def (c : Call) (w : Nat) (t : T) (body : Ss) (n : Nat) (s : Sta) (Q : O → Prop) : WH c w t body n s Q = WHd c w t body n s Q := congrFun (congrFun (congrFun (congrFun (congrFun (congrFun (congrFun (Classical.choose_spec WH_ex0) c) w) t) body) n) s) Q
theorem CM_ex0 : ∃ f, f = @CMd := ⟨_, rfl⟩
noncomputable def CM (c : Call) (wt : Wch) (e : E) (tg : Tg) (ds : List D) (ρ : Rho) (k : Ky) (Q : List D → Ky → Prop) (_ : Wt Q := ()) : Prop := Classical.choose CM_ex0 c wt e tg ds ρ k Q
theorem CM_def (c : Call) (wt : Wch) (e : E) (tg : Tg) (ds : List D) (ρ : Rho) (k : Ky) (Q : List D → Ky → Prop) : CM c wt e tg ds ρ k Q = CMd c wt e tg ds ρ k Q := congrFun (congrFun (congrFun (congrFun (congrFun (congrFun (congrFun (congrFun (Classical.choose_spec CM_ex0) c) wt) e) tg) ds) ρ) k) Q
theorem CN_ex0 : ∃ f, f = @CNd := ⟨_, rfl⟩
noncomputable def CN (c : Call) (wt : Wch) (e : E) (t : T) (tg : Tg) (ds : List D) (ρ : Rho) (k : Ky) (Q : List D → Ky → Prop) (_ : Wt Q := ()) : Prop := Classical.choose CN_ex0 c wt e t tg ds ρ k Q
theorem CN_def (c : Call) (wt : Wch) (e : E) (t : T) (tg : Tg) (ds : List D) (ρ : Rho) (k : Ky) (Q : List D → Ky → Prop) : CN c wt e t tg ds ρ k Q = CNd c wt e t tg ds ρ k Q := congrFun (congrFun (congrFun (congrFun (congrFun (congrFun (congrFun (congrFun (congrFun (Classical.choose_spec CN_ex0) c) wt) e) t) tg) ds) ρ) k) Q
def nxt (o : O) (P : Sta → Prop) (r : Prop) (_ : Wt (P, r) := ()) : Prop := nxtd o P r
theorem nxt_def (o : O) (P : Sta → Prop) (r : Prop) : nxt o P r = nxtd o P r := rfl
theorem VB_ex0 : ∃ f, f = @VBd := ⟨_, rfl⟩
noncomputable def VB (c : Call) (b : Bool) (e : E) (ρ : Rho) (k : Ky) (Q : Option Int → Ky → Prop) (_ : Wt Q := ()) : Prop := Classical.choose VB_ex0 c b e ρ k Q
theorem VB_def (c : Call) (b : Bool) (e : E) (ρ : Rho) (k : Ky) (Q : Option Int → Ky → Prop) : VB c b e ρ k Q = VBd c b e ρ k Q := congrFun (congrFun (congrFun (congrFun (congrFun (congrFun (Classical.choose_spec VB_ex0) c) b) e) ρ) k) Q
section
variable {c : Call} {w : Nat} {ρ : Rho} {k : Ky} {s : Sta}
@[simp] theorem opq_some {α : Type} (x : α) (Q : α → Prop) : OPQ (some x) Q ↔ Q x := by
  first
    | (simp only [OPQ_def, VE_def, VT_def, VS_def, VI_def, WP_def, WS_def, FR_def, WH_def, CM_def, CN_def, VB_def, nxt_def]; exact opq_some_d ..)
    | simp only [OPQ_def, VE_def, VT_def, VS_def, VI_def, WP_def, WS_def, FR_def, WH_def, CM_def, CN_def, VB_def, nxt_def]
    | (simp only [OPQ_def, VE_def, VT_def, VS_def, VI_def, WP_def, WS_def, FR_def, WH_def, CM_def, CN_def, VB_def, nxt_def, opq_some_d]; done)
@[simp] theorem opq_none {α : Type} (Q : α → Prop) : OPQ (none : Option α) Q ↔ False := by
  first
    | (simp only [OPQ_def, VE_def, VT_def, VS_def, VI_def, WP_def, WS_def, FR_def, WH_def, CM_def, CN_def, VB_def, nxt_def]; exact opq_none_d ..)
    | simp only [OPQ_def, VE_def, VT_def, VS_def, VI_def, WP_def, WS_def, FR_def, WH_def, CM_def, CN_def, VB_def, nxt_def]
    | (simp only [OPQ_def, VE_def, VT_def, VS_def, VI_def, WP_def, WS_def, FR_def, WH_def, CM_def, CN_def, VB_def, nxt_def, opq_none_d]; done)
@[simp] theorem opq_ite {α : Type} (b : Prop) [Decidable b] (x : α) (Q : α → Prop) : OPQ (if b then some x else none) Q ↔ b ∧ Q x := by
  first
    | (simp only [OPQ_def, VE_def, VT_def, VS_def, VI_def, WP_def, WS_def, FR_def, WH_def, CM_def, CN_def, VB_def, nxt_def]; exact opq_ite_d ..)
    | simp only [OPQ_def, VE_def, VT_def, VS_def, VI_def, WP_def, WS_def, FR_def, WH_def, CM_def, CN_def, VB_def, nxt_def]
    | (simp only [OPQ_def, VE_def, VT_def, VS_def, VI_def, WP_def, WS_def, FR_def, WH_def, CM_def, CN_def, VB_def, nxt_def, opq_ite_d]; done)
@[simp] theorem opq_map {α β : Type} (f : α → β) (o : Option α) (Q : β → Prop) : OPQ (o.map f) Q ↔ OPQ o fun x => Q (f x) := by
  first
    | (simp only [OPQ_def, VE_def, VT_def, VS_def, VI_def, WP_def, WS_def, FR_def, WH_def, CM_def, CN_def, VB_def, nxt_def]; exact opq_map_d ..)
    | simp only [OPQ_def, VE_def, VT_def, VS_def, VI_def, WP_def, WS_def, FR_def, WH_def, CM_def, CN_def, VB_def, nxt_def]
    | (simp only [OPQ_def, VE_def, VT_def, VS_def, VI_def, WP_def, WS_def, FR_def, WH_def, CM_def, CN_def, VB_def, nxt_def, opq_map_d]; done)
@[simp] theorem nxt_nx (P : Sta → Prop) (r : Prop) : nxt (.nx s) P r = P s := rfl
@[simp] theorem nxt_rt (d : D) (P : Sta → Prop) (r : Prop) : nxt (.rt d k) P r = r := rfl
@[simp] theorem nxt_bk (P : Sta → Prop) (r : Prop) : nxt (.bk s) P r = r := rfl
@[simp] theorem nxt_ct (P : Sta → Prop) (r : Prop) : nxt (.ct s) P r = r := rfl
@[simp] theorem slotv_succ (x : Option D) (i : Nat) : slotv (x :: ρ) (i + 1) = slotv ρ i := slotv_succ_d ..
@[simp] theorem slotv_zero (d : D) : slotv (some d :: ρ) 0 = some d := slotv_zero_d ..
@[simp] theorem lslot_succ (x : Option D) (i : Nat) : lslot (x :: ρ) (i + 1) = lslot ρ i := lslot_succ_d ..
@[simp] theorem lslot_zero (ds : List D) : lslot (some (.lst ds) :: ρ) 0 = some ds := lslot_zero_d ..
/-! ### expressions -/
variable {Q : D → Ky → Prop} {QB : Bool → Ky → Prop} {QL : List D → Ky → Prop} {QI : List D → Wch → Ky → Prop} {QO : O → Prop}
@[simp] theorem ve_var (i : Nat) : VE c (.var i) ρ k Q ↔ OPQ (slotv ρ i) fun d => Q d k := by
  first
    | (simp only [OPQ_def, VE_def, VT_def, VS_def, VI_def, WP_def, WS_def, FR_def, WH_def, CM_def, CN_def, VB_def, nxt_def]; exact ve_var_d ..)
    | simp only [OPQ_def, VE_def, VT_def, VS_def, VI_def, WP_def, WS_def, FR_def, WH_def, CM_def, CN_def, VB_def, nxt_def]
    | (simp only [OPQ_def, VE_def, VT_def, VS_def, VI_def, WP_def, WS_def, FR_def, WH_def, CM_def, CN_def, VB_def, nxt_def, ve_var_d]; done)
@[simp] theorem ve_cst (d : D) : VE c (.cst d) ρ k Q ↔ Q d k := by
  first
    | (simp only [OPQ_def, VE_def, VT_def, VS_def, VI_def, WP_def, WS_def, FR_def, WH_def, CM_def, CN_def, VB_def, nxt_def]; exact ve_cst_d ..)
    | simp only [OPQ_def, VE_def, VT_def, VS_def, VI_def, WP_def, WS_def, FR_def, WH_def, CM_def, CN_def, VB_def, nxt_def]
    | (simp only [OPQ_def, VE_def, VT_def, VS_def, VI_def, WP_def, WS_def, FR_def, WH_def, CM_def, CN_def, VB_def, nxt_def, ve_cst_d]; done)
@[simp] theorem ve_bin (op : BO) (a b : E) : VE c (.bin op a b) ρ k Q ↔ VE c a ρ k fun x k1 => VE c b ρ k1 fun y k2 => OPQ (boSem op (deref k2 x) (deref k2 y)) fun z => Q z k2 := by
  first
    | (simp only [OPQ_def, VE_def, VT_def, VS_def, VI_def, WP_def, WS_def, FR_def, WH_def, CM_def, CN_def, VB_def, nxt_def]; exact ve_bin_d ..)
    | simp only [OPQ_def, VE_def, VT_def, VS_def, VI_def, WP_def, WS_def, FR_def, WH_def, CM_def, CN_def, VB_def, nxt_def]
    | (simp only [OPQ_def, VE_def, VT_def, VS_def, VI_def, WP_def, WS_def, FR_def, WH_def, CM_def, CN_def, VB_def, nxt_def, ve_bin_d]; done)
@[simp] theorem ve_neg (a : E) : VE c (.neg a) ρ k Q ↔ VE c a ρ k fun x k1 => OPQ (negD x) fun z => Q z k1 := by
  first
    | (simp only [OPQ_def, VE_def, VT_def, VS_def, VI_def, WP_def, WS_def, FR_def, WH_def, CM_def, CN_def, VB_def, nxt_def]; exact ve_neg_d ..)
    | simp only [OPQ_def, VE_def, VT_def, VS_def, VI_def, WP_def, WS_def, FR_def, WH_def, CM_def, CN_def, VB_def, nxt_def]
    | (simp only [OPQ_def, VE_def, VT_def, VS_def, VI_def, WP_def, WS_def, FR_def, WH_def, CM_def, CN_def, VB_def, nxt_def, ve_neg_d]; done)
@[simp] theorem ve_cmp (op : CO) (a b : E) : VE c (.cmp op a b) ρ k Q ↔ VE c a ρ k fun x k1 => VE c b ρ k1 fun y k2 => OPQ (coSem op (deref k2 x) (deref k2 y)) fun z => Q (.bl z) k2 := by
  first
    | (simp only [OPQ_def, VE_def, VT_def, VS_def, VI_def, WP_def, WS_def, FR_def, WH_def, CM_def, CN_def, VB_def, nxt_def]; exact ve_cmp_d ..)
    | simp only [OPQ_def, VE_def, VT_def, VS_def, VI_def, WP_def, WS_def, FR_def, WH_def, CM_def, CN_def, VB_def, nxt_def]
    | (simp only [OPQ_def, VE_def, VT_def, VS_def, VI_def, WP_def, WS_def, FR_def, WH_def, CM_def, CN_def, VB_def, nxt_def, ve_cmp_d]; done)
@[simp] theorem ve_chain (op op' : CO) (a b e : E) : VE c (.chain op op' a b e) ρ k Q ↔ VE c a ρ k fun x k1 => VE c b ρ k1 fun y k2 => OPQ (coSem op (deref k2 x) (deref k2 y)) fun t => if t = true then VE c e ρ k2 fun z k3 => OPQ (coSem op' (deref k3 y) (deref k3 z)) fun u => Q (.bl u) k3 else Q (.bl false) k2 := by
  first
    | (simp only [OPQ_def, VE_def, VT_def, VS_def, VI_def, WP_def, WS_def, FR_def, WH_def, CM_def, CN_def, VB_def, nxt_def]; exact ve_chain_d ..)
    | simp only [OPQ_def, VE_def, VT_def, VS_def, VI_def, WP_def, WS_def, FR_def, WH_def, CM_def, CN_def, VB_def, nxt_def]
    | (simp only [OPQ_def, VE_def, VT_def, VS_def, VI_def, WP_def, WS_def, FR_def, WH_def, CM_def, CN_def, VB_def, nxt_def, ve_chain_d]; done)
@[simp] theorem ve_isN (a : E) : VE c (.isN a) ρ k Q ↔ VE c a ρ k fun x k1 => Q (.bl (isNonD x)) k1 := by
  first
    | (simp only [OPQ_def, VE_def, VT_def, VS_def, VI_def, WP_def, WS_def, FR_def, WH_def, CM_def, CN_def, VB_def, nxt_def]; exact ve_isN_d ..)
    | simp only [OPQ_def, VE_def, VT_def, VS_def, VI_def, WP_def, WS_def, FR_def, WH_def, CM_def, CN_def, VB_def, nxt_def]
    | (simp only [OPQ_def, VE_def, VT_def, VS_def, VI_def, WP_def, WS_def, FR_def, WH_def, CM_def, CN_def, VB_def, nxt_def, ve_isN_d]; done)
@[simp] theorem ve_notN (a : E) : VE c (.notN a) ρ k Q ↔ VE c a ρ k fun x k1 => Q (.bl (!isNonD x)) k1 := by
  first
    | (simp only [OPQ_def, VE_def, VT_def, VS_def, VI_def, WP_def, WS_def, FR_def, WH_def, CM_def, CN_def, VB_def, nxt_def]; exact ve_notN_d ..)
    | simp only [OPQ_def, VE_def, VT_def, VS_def, VI_def, WP_def, WS_def, FR_def, WH_def, CM_def, CN_def, VB_def, nxt_def]
    | (simp only [OPQ_def, VE_def, VT_def, VS_def, VI_def, WP_def, WS_def, FR_def, WH_def, CM_def, CN_def, VB_def, nxt_def, ve_notN_d]; done)
@[simp] theorem ve_and (a b : E) : VE c (.and a b) ρ k Q ↔ VE c a ρ k fun x k1 => OPQ (blD x) fun t => if t = true then VE c b ρ k1 Q else Q (.bl false) k1 := by
  first
    | (simp only [OPQ_def, VE_def, VT_def, VS_def, VI_def, WP_def, WS_def, FR_def, WH_def, CM_def, CN_def, VB_def, nxt_def]; exact ve_and_d ..)
    | simp only [OPQ_def, VE_def, VT_def, VS_def, VI_def, WP_def, WS_def, FR_def, WH_def, CM_def, CN_def, VB_def, nxt_def]
    | (simp only [OPQ_def, VE_def, VT_def, VS_def, VI_def, WP_def, WS_def, FR_def, WH_def, CM_def, CN_def, VB_def, nxt_def, ve_and_d]; done)
@[simp] theorem ve_or (a b : E) : VE c (.or a b) ρ k Q ↔ VE c a ρ k fun x k1 => OPQ (blD x) fun t => if t = true then Q (.bl true) k1 else VE c b ρ k1 Q := by
  first
    | (simp only [OPQ_def, VE_def, VT_def, VS_def, VI_def, WP_def, WS_def, FR_def, WH_def, CM_def, CN_def, VB_def, nxt_def]; exact ve_or_d ..)
    | simp only [OPQ_def, VE_def, VT_def, VS_def, VI_def, WP_def, WS_def, FR_def, WH_def, CM_def, CN_def, VB_def, nxt_def]
    | (simp only [OPQ_def, VE_def, VT_def, VS_def, VI_def, WP_def, WS_def, FR_def, WH_def, CM_def, CN_def, VB_def, nxt_def, ve_or_d]; done)
@[simp] theorem ve_not (a : E) : VE c (.not a) ρ k Q ↔ VE c a ρ k fun x k1 => OPQ (blD x) fun t => Q (.bl (!t)) k1 := by
  first
    | (simp only [OPQ_def, VE_def, VT_def, VS_def, VI_def, WP_def, WS_def, FR_def, WH_def, CM_def, CN_def, VB_def, nxt_def]; exact ve_not_d ..)
    | simp only [OPQ_def, VE_def, VT_def, VS_def, VI_def, WP_def, WS_def, FR_def, WH_def, CM_def, CN_def, VB_def, nxt_def]
    | (simp only [OPQ_def, VE_def, VT_def, VS_def, VI_def, WP_def, WS_def, FR_def, WH_def, CM_def, CN_def, VB_def, nxt_def, ve_not_d]; done)
@[simp] theorem ve_ite (t : T) (a b : E) : VE c (.ite t a b) ρ k Q ↔ VT c t ρ k fun x k1 => if x = true then VE c a ρ k1 Q else VE c b ρ k1 Q := by
  first
    | (simp only [OPQ_def, VE_def, VT_def, VS_def, VI_def, WP_def, WS_def, FR_def, WH_def, CM_def, CN_def, VB_def, nxt_def]; exact ve_ite_d ..)
    | simp only [OPQ_def, VE_def, VT_def, VS_def, VI_def, WP_def, WS_def, FR_def, WH_def, CM_def, CN_def, VB_def, nxt_def]
    | (simp only [OPQ_def, VE_def, VT_def, VS_def, VI_def, WP_def, WS_def, FR_def, WH_def, CM_def, CN_def, VB_def, nxt_def, ve_ite_d]; done)
@[simp] theorem ve_tup (es : Es) : VE c (.tup es) ρ k Q ↔ VS c es ρ k fun ds k1 => lineOk ds.length = true ∧ Q (.tup ds) k1 := by
  first
    | (simp only [OPQ_def, VE_def, VT_def, VS_def, VI_def, WP_def, WS_def, FR_def, WH_def, CM_def, CN_def, VB_def, nxt_def]; exact ve_tup_d ..)
    | simp only [OPQ_def, VE_def, VT_def, VS_def, VI_def, WP_def, WS_def, FR_def, WH_def, CM_def, CN_def, VB_def, nxt_def]
    | (simp only [OPQ_def, VE_def, VT_def, VS_def, VI_def, WP_def, WS_def, FR_def, WH_def, CM_def, CN_def, VB_def, nxt_def, ve_tup_d]; done)
@[simp] theorem ve_lst (es : Es) : VE c (.lst es) ρ k Q ↔ VS c es ρ k fun ds k1 => lineOk ds.length = true ∧ Q (.lst ds) k1 := by
  first
    | (simp only [OPQ_def, VE_def, VT_def, VS_def, VI_def, WP_def, WS_def, FR_def, WH_def, CM_def, CN_def, VB_def, nxt_def]; exact ve_lst_d ..)
    | simp only [OPQ_def, VE_def, VT_def, VS_def, VI_def, WP_def, WS_def, FR_def, WH_def, CM_def, CN_def, VB_def, nxt_def]
    | (simp only [OPQ_def, VE_def, VT_def, VS_def, VI_def, WP_def, WS_def, FR_def, WH_def, CM_def, CN_def, VB_def, nxt_def, ve_lst_d]; done)
@[simp] theorem ve_idx (a b : E) : VE c (.idx a b) ρ k Q ↔ VE c a ρ k fun x k1 => VE c b ρ k1 fun y k2 => OPQ (idxSem k2 x y) fun z => Q z k2 := by
  first
    | (simp only [OPQ_def, VE_def, VT_def, VS_def, VI_def, WP_def, WS_def, FR_def, WH_def, CM_def, CN_def, VB_def, nxt_def]; exact ve_idx_d ..)
    | simp only [OPQ_def, VE_def, VT_def, VS_def, VI_def, WP_def, WS_def, FR_def, WH_def, CM_def, CN_def, VB_def, nxt_def]
    | (simp only [OPQ_def, VE_def, VT_def, VS_def, VI_def, WP_def, WS_def, FR_def, WH_def, CM_def, CN_def, VB_def, nxt_def, ve_idx_d]; done)
@[simp] theorem ve_sli (m : Nat) (a lo hi : E) : VE c (.sli m a lo hi) ρ k Q ↔ VE c a ρ k fun x k1 => VB c (m == 1 || m == 3) lo ρ k1 fun l k2 => VB c (m == 2 || m == 3) hi ρ k2 fun h k3 => OPQ (sliSem (deref k3 x) l h) fun d => Q d k3 := by
  first
    | (simp only [OPQ_def, VE_def, VT_def, VS_def, VI_def, WP_def, WS_def, FR_def, WH_def, CM_def, CN_def, VB_def, nxt_def]; exact ve_sli_d ..)
    | simp only [OPQ_def, VE_def, VT_def, VS_def, VI_def, WP_def, WS_def, FR_def, WH_def, CM_def, CN_def, VB_def, nxt_def]
    | (simp only [OPQ_def, VE_def, VT_def, VS_def, VI_def, WP_def, WS_def, FR_def, WH_def, CM_def, CN_def, VB_def, nxt_def, ve_sli_d]; done)
@[simp] theorem vb_false (e : E) (P : Option Int → Ky → Prop) : VB c false e ρ k P ↔ P none k := by
  first
    | (simp only [OPQ_def, VE_def, VT_def, VS_def, VI_def, WP_def, WS_def, FR_def, WH_def, CM_def, CN_def, VB_def, nxt_def]; exact vb_false_d ..)
    | simp only [OPQ_def, VE_def, VT_def, VS_def, VI_def, WP_def, WS_def, FR_def, WH_def, CM_def, CN_def, VB_def, nxt_def]
    | (simp only [OPQ_def, VE_def, VT_def, VS_def, VI_def, WP_def, WS_def, FR_def, WH_def, CM_def, CN_def, VB_def, nxt_def, vb_false_d]; done)
@[simp] theorem vb_true (e : E) (P : Option Int → Ky → Prop) : VB c true e ρ k P ↔ VE c e ρ k (fun x k => OPQ (toInt x) fun i => P (some i) k) := by
  first
    | (simp only [OPQ_def, VE_def, VT_def, VS_def, VI_def, WP_def, WS_def, FR_def, WH_def, CM_def, CN_def, VB_def, nxt_def]; exact vb_true_d ..)
    | simp only [OPQ_def, VE_def, VT_def, VS_def, VI_def, WP_def, WS_def, FR_def, WH_def, CM_def, CN_def, VB_def, nxt_def]
    | (simp only [OPQ_def, VE_def, VT_def, VS_def, VI_def, WP_def, WS_def, FR_def, WH_def, CM_def, CN_def, VB_def, nxt_def, vb_true_d]; done)
@[simp] theorem ve_call (f : Nat) (es : Es) : VE c (.call f es) ρ k Q ↔ VS c es ρ k fun ds k1 => OPQ (c f ds k1) fun p => Q p.1 p.2 := by
  first
    | (simp only [OPQ_def, VE_def, VT_def, VS_def, VI_def, WP_def, WS_def, FR_def, WH_def, CM_def, CN_def, VB_def, nxt_def]; exact ve_call_d ..)
    | simp only [OPQ_def, VE_def, VT_def, VS_def, VI_def, WP_def, WS_def, FR_def, WH_def, CM_def, CN_def, VB_def, nxt_def]
    | (simp only [OPQ_def, VE_def, VT_def, VS_def, VI_def, WP_def, WS_def, FR_def, WH_def, CM_def, CN_def, VB_def, nxt_def, ve_call_d]; done)
@[simp] theorem ve_bi (f : BI) (es : Es) : VE c (.bi f es) ρ k Q ↔ VS c es ρ k fun ds k1 => OPQ (biSem f (ds.map (deref k1))) fun d => Q d k1 := by
  first
    | (simp only [OPQ_def, VE_def, VT_def, VS_def, VI_def, WP_def, WS_def, FR_def, WH_def, CM_def, CN_def, VB_def, nxt_def]; exact ve_bi_d ..)
    | simp only [OPQ_def, VE_def, VT_def, VS_def, VI_def, WP_def, WS_def, FR_def, WH_def, CM_def, CN_def, VB_def, nxt_def]
    | (simp only [OPQ_def, VE_def, VT_def, VS_def, VI_def, WP_def, WS_def, FR_def, WH_def, CM_def, CN_def, VB_def, nxt_def, ve_bi_d]; done)
@[simp] theorem ve_cell (a : E) : VE c (.cell a) ρ k Q ↔ VE c a ρ k fun x k1 => OPQ (lstD x) fun ds => noLs ds = true ∧ Q (.ref k1.length) (k1 ++ [.lst ds]) := by
  first
    | (simp only [OPQ_def, VE_def, VT_def, VS_def, VI_def, WP_def, WS_def, FR_def, WH_def, CM_def, CN_def, VB_def, nxt_def]; exact ve_cell_d ..)
    | simp only [OPQ_def, VE_def, VT_def, VS_def, VI_def, WP_def, WS_def, FR_def, WH_def, CM_def, CN_def, VB_def, nxt_def]
    | (simp only [OPQ_def, VE_def, VT_def, VS_def, VI_def, WP_def, WS_def, FR_def, WH_def, CM_def, CN_def, VB_def, nxt_def, ve_cell_d]; done)
@[simp] theorem ve_pop (a : E) : VE c (.pop a) ρ k Q ↔ VE c a ρ k fun x k1 => OPQ (refD x) fun r => OPQ (lstK k1 r) fun ds => OPQ ds.getLast? fun d => Q d (k1.set r (.lst ds.dropLast)) := by
  first
    | (simp only [OPQ_def, VE_def, VT_def, VS_def, VI_def, WP_def, WS_def, FR_def, WH_def, CM_def, CN_def, VB_def, nxt_def]; exact ve_pop_d ..)
    | simp only [OPQ_def, VE_def, VT_def, VS_def, VI_def, WP_def, WS_def, FR_def, WH_def, CM_def, CN_def, VB_def, nxt_def]
    | (simp only [OPQ_def, VE_def, VT_def, VS_def, VI_def, WP_def, WS_def, FR_def, WH_def, CM_def, CN_def, VB_def, nxt_def, ve_pop_d]; done)
@[simp] theorem ve_lrng (t : Bool) (es : Es) : VE c (.lrng t es) ρ k Q ↔ VS c es ρ k fun as k1 => OPQ (lrngD t as) fun d => Q d k1 := by
  first
    | (simp only [OPQ_def, VE_def, VT_def, VS_def, VI_def, WP_def, WS_def, FR_def, WH_def, CM_def, CN_def, VB_def, nxt_def]; exact ve_lrng_d ..)
    | simp only [OPQ_def, VE_def, VT_def, VS_def, VI_def, WP_def, WS_def, FR_def, WH_def, CM_def, CN_def, VB_def, nxt_def]
    | (simp only [OPQ_def, VE_def, VT_def, VS_def, VI_def, WP_def, WS_def, FR_def, WH_def, CM_def, CN_def, VB_def, nxt_def, ve_lrng_d]; done)
@[simp] theorem ve_isi (a : E) (ts : List Nat) : VE c (.isi a ts) ρ k Q ↔ VE c a ρ k fun x k1 => OPQ (isOfs (deref k1 x) ts) fun b => Q (.bl b) k1 := by
  first
    | (simp only [OPQ_def, VE_def, VT_def, VS_def, VI_def, WP_def, WS_def, FR_def, WH_def, CM_def, CN_def, VB_def, nxt_def]; exact ve_isi_d ..)
    | simp only [OPQ_def, VE_def, VT_def, VS_def, VI_def, WP_def, WS_def, FR_def, WH_def, CM_def, CN_def, VB_def, nxt_def]
    | (simp only [OPQ_def, VE_def, VT_def, VS_def, VI_def, WP_def, WS_def, FR_def, WH_def, CM_def, CN_def, VB_def, nxt_def, ve_isi_d]; done)
@[simp] theorem ve_comp0 (e : E) (tg : Tg) (it : I) (own : List Nat) : VE c (.comp0 e tg it own) ρ k Q ↔ VI c it ρ k fun ds wt k1 => lineOk ds.length = true ∧ CM c wt e tg ds (wipeR ρ own) k1 fun ys k2 => Q (.lst ys) k2 := by
  first
    | (simp only [OPQ_def, VE_def, VT_def, VS_def, VI_def, WP_def, WS_def, FR_def, WH_def, CM_def, CN_def, VB_def, nxt_def]; exact ve_comp0_d ..)
    | simp only [OPQ_def, VE_def, VT_def, VS_def, VI_def, WP_def, WS_def, FR_def, WH_def, CM_def, CN_def, VB_def, nxt_def]
    | (simp only [OPQ_def, VE_def, VT_def, VS_def, VI_def, WP_def, WS_def, FR_def, WH_def, CM_def, CN_def, VB_def, nxt_def, ve_comp0_d]; done)
@[simp] theorem ve_comp1 (e : E) (tg : Tg) (it : I) (t : T) (own : List Nat) : VE c (.comp1 e tg it t own) ρ k Q ↔ VI c it ρ k fun ds wt k1 => lineOk ds.length = true ∧ CN c wt e t tg ds (wipeR ρ own) k1 fun ys k2 => Q (.lst ys) k2 := by
  first
    | (simp only [OPQ_def, VE_def, VT_def, VS_def, VI_def, WP_def, WS_def, FR_def, WH_def, CM_def, CN_def, VB_def, nxt_def]; exact ve_comp1_d ..)
    | simp only [OPQ_def, VE_def, VT_def, VS_def, VI_def, WP_def, WS_def, FR_def, WH_def, CM_def, CN_def, VB_def, nxt_def]
    | (simp only [OPQ_def, VE_def, VT_def, VS_def, VI_def, WP_def, WS_def, FR_def, WH_def, CM_def, CN_def, VB_def, nxt_def, ve_comp1_d]; done)
@[simp] theorem vt_val (e : E) : VT c (.val e) ρ k QB ↔ VE c e ρ k fun x k1 => OPQ (truth (deref k1 x)) fun b => QB b k1 := by
  first
    | (simp only [OPQ_def, VE_def, VT_def, VS_def, VI_def, WP_def, WS_def, FR_def, WH_def, CM_def, CN_def, VB_def, nxt_def]; exact vt_val_d ..)
    | simp only [OPQ_def, VE_def, VT_def, VS_def, VI_def, WP_def, WS_def, FR_def, WH_def, CM_def, CN_def, VB_def, nxt_def]
    | (simp only [OPQ_def, VE_def, VT_def, VS_def, VI_def, WP_def, WS_def, FR_def, WH_def, CM_def, CN_def, VB_def, nxt_def, vt_val_d]; done)
@[simp] theorem vt_not (t : T) : VT c (.not t) ρ k QB ↔ VT c t ρ k fun b k1 => QB (!b) k1 := by
  first
    | (simp only [OPQ_def, VE_def, VT_def, VS_def, VI_def, WP_def, WS_def, FR_def, WH_def, CM_def, CN_def, VB_def, nxt_def]; exact vt_not_d ..)
    | simp only [OPQ_def, VE_def, VT_def, VS_def, VI_def, WP_def, WS_def, FR_def, WH_def, CM_def, CN_def, VB_def, nxt_def]
    | (simp only [OPQ_def, VE_def, VT_def, VS_def, VI_def, WP_def, WS_def, FR_def, WH_def, CM_def, CN_def, VB_def, nxt_def, vt_not_d]; done)
@[simp] theorem vt_and (a b : T) : VT c (.and a b) ρ k QB ↔ VT c a ρ k fun x k1 => if x = true then VT c b ρ k1 QB else QB false k1 := by
  first
    | (simp only [OPQ_def, VE_def, VT_def, VS_def, VI_def, WP_def, WS_def, FR_def, WH_def, CM_def, CN_def, VB_def, nxt_def]; exact vt_and_d ..)
    | simp only [OPQ_def, VE_def, VT_def, VS_def, VI_def, WP_def, WS_def, FR_def, WH_def, CM_def, CN_def, VB_def, nxt_def]
    | (simp only [OPQ_def, VE_def, VT_def, VS_def, VI_def, WP_def, WS_def, FR_def, WH_def, CM_def, CN_def, VB_def, nxt_def, vt_and_d]; done)
@[simp] theorem vt_or (a b : T) : VT c (.or a b) ρ k QB ↔ VT c a ρ k fun x k1 => if x = true then QB true k1 else VT c b ρ k1 QB := by
  first
    | (simp only [OPQ_def, VE_def, VT_def, VS_def, VI_def, WP_def, WS_def, FR_def, WH_def, CM_def, CN_def, VB_def, nxt_def]; exact vt_or_d ..)
    | simp only [OPQ_def, VE_def, VT_def, VS_def, VI_def, WP_def, WS_def, FR_def, WH_def, CM_def, CN_def, VB_def, nxt_def]
    | (simp only [OPQ_def, VE_def, VT_def, VS_def, VI_def, WP_def, WS_def, FR_def, WH_def, CM_def, CN_def, VB_def, nxt_def, vt_or_d]; done)
@[simp] theorem vt_ite (t a b : T) : VT c (.ite t a b) ρ k QB ↔ VT c t ρ k fun x k1 => if x = true then VT c a ρ k1 QB else VT c b ρ k1 QB := by
  first
    | (simp only [OPQ_def, VE_def, VT_def, VS_def, VI_def, WP_def, WS_def, FR_def, WH_def, CM_def, CN_def, VB_def, nxt_def]; exact vt_ite_d ..)
    | simp only [OPQ_def, VE_def, VT_def, VS_def, VI_def, WP_def, WS_def, FR_def, WH_def, CM_def, CN_def, VB_def, nxt_def]
    | (simp only [OPQ_def, VE_def, VT_def, VS_def, VI_def, WP_def, WS_def, FR_def, WH_def, CM_def, CN_def, VB_def, nxt_def, vt_ite_d]; done)
@[simp] theorem vs_nil : VS c .nil ρ k QL ↔ QL [] k := by
  first
    | (simp only [OPQ_def, VE_def, VT_def, VS_def, VI_def, WP_def, WS_def, FR_def, WH_def, CM_def, CN_def, VB_def, nxt_def]; exact vs_nil_d ..)
    | simp only [OPQ_def, VE_def, VT_def, VS_def, VI_def, WP_def, WS_def, FR_def, WH_def, CM_def, CN_def, VB_def, nxt_def]
    | (simp only [OPQ_def, VE_def, VT_def, VS_def, VI_def, WP_def, WS_def, FR_def, WH_def, CM_def, CN_def, VB_def, nxt_def, vs_nil_d]; done)
@[simp] theorem vs_cons (e : E) (es : Es) : VS c (.cons e es) ρ k QL ↔ VE c e ρ k fun x k1 => VS c es ρ k1 fun xs k2 => QL (x :: xs) k2 := by
  first
    | (simp only [OPQ_def, VE_def, VT_def, VS_def, VI_def, WP_def, WS_def, FR_def, WH_def, CM_def, CN_def, VB_def, nxt_def]; exact vs_cons_d ..)
    | simp only [OPQ_def, VE_def, VT_def, VS_def, VI_def, WP_def, WS_def, FR_def, WH_def, CM_def, CN_def, VB_def, nxt_def]
    | (simp only [OPQ_def, VE_def, VT_def, VS_def, VI_def, WP_def, WS_def, FR_def, WH_def, CM_def, CN_def, VB_def, nxt_def, vs_cons_d]; done)
@[simp] theorem vi_seq (e : E) : VI c (.seq e) ρ k QI ↔ VE c e ρ k fun x k1 => OPQ (itemsK k1 x) fun p => QI p.1 p.2 k1 := by
  first
    | (simp only [OPQ_def, VE_def, VT_def, VS_def, VI_def, WP_def, WS_def, FR_def, WH_def, CM_def, CN_def, VB_def, nxt_def]; exact vi_seq_d ..)
    | simp only [OPQ_def, VE_def, VT_def, VS_def, VI_def, WP_def, WS_def, FR_def, WH_def, CM_def, CN_def, VB_def, nxt_def]
    | (simp only [OPQ_def, VE_def, VT_def, VS_def, VI_def, WP_def, WS_def, FR_def, WH_def, CM_def, CN_def, VB_def, nxt_def, vi_seq_d]; done)
@[simp] theorem vi_rng (es : Es) : VI c (.rng es) ρ k QI ↔ VS c es ρ k fun as k1 => OPQ (rngSem as) fun l => QI l none k1 := by
  first
    | (simp only [OPQ_def, VE_def, VT_def, VS_def, VI_def, WP_def, WS_def, FR_def, WH_def, CM_def, CN_def, VB_def, nxt_def]; exact vi_rng_d ..)
    | simp only [OPQ_def, VE_def, VT_def, VS_def, VI_def, WP_def, WS_def, FR_def, WH_def, CM_def, CN_def, VB_def, nxt_def]
    | (simp only [OPQ_def, VE_def, VT_def, VS_def, VI_def, WP_def, WS_def, FR_def, WH_def, CM_def, CN_def, VB_def, nxt_def, vi_rng_d]; done)
@[simp] theorem vi_enum (e : E) : VI c (.enum e) ρ k QI ↔ VE c e ρ k fun x k1 => OPQ (enumK k1 x) fun p => QI p.1 p.2 k1 := by
  first
    | (simp only [OPQ_def, VE_def, VT_def, VS_def, VI_def, WP_def, WS_def, FR_def, WH_def, CM_def, CN_def, VB_def, nxt_def]; exact vi_enum_d ..)
    | simp only [OPQ_def, VE_def, VT_def, VS_def, VI_def, WP_def, WS_def, FR_def, WH_def, CM_def, CN_def, VB_def, nxt_def]
    | (simp only [OPQ_def, VE_def, VT_def, VS_def, VI_def, WP_def, WS_def, FR_def, WH_def, CM_def, CN_def, VB_def, nxt_def, vi_enum_d]; done)
@[simp] theorem vi_zip (a b : E) : VI c (.zip a b) ρ k QI ↔ VE c a ρ k fun x k1 => VE c b ρ k1 fun y k2 => OPQ (zipD x y) fun l => QI l none k2 := by
  first
    | (simp only [OPQ_def, VE_def, VT_def, VS_def, VI_def, WP_def, WS_def, FR_def, WH_def, CM_def, CN_def, VB_def, nxt_def]; exact vi_zip_d ..)
    | simp only [OPQ_def, VE_def, VT_def, VS_def, VI_def, WP_def, WS_def, FR_def, WH_def, CM_def, CN_def, VB_def, nxt_def]
    | (simp only [OPQ_def, VE_def, VT_def, VS_def, VI_def, WP_def, WS_def, FR_def, WH_def, CM_def, CN_def, VB_def, nxt_def, vi_zip_d]; done)
@[simp] theorem vi_rev (e : E) : VI c (.rev e) ρ k QI ↔ VE c e ρ k fun x k1 => OPQ (revD x) fun l => QI l none k1 := by
  first
    | (simp only [OPQ_def, VE_def, VT_def, VS_def, VI_def, WP_def, WS_def, FR_def, WH_def, CM_def, CN_def, VB_def, nxt_def]; exact vi_rev_d ..)
    | simp only [OPQ_def, VE_def, VT_def, VS_def, VI_def, WP_def, WS_def, FR_def, WH_def, CM_def, CN_def, VB_def, nxt_def]
    | (simp only [OPQ_def, VE_def, VT_def, VS_def, VI_def, WP_def, WS_def, FR_def, WH_def, CM_def, CN_def, VB_def, nxt_def, vi_rev_d]; done)
@[simp] theorem vi_revr (es : Es) : VI c (.revr es) ρ k QI ↔ VS c es ρ k fun as k1 => OPQ (revrD as) fun l => QI l none k1 := by
  first
    | (simp only [OPQ_def, VE_def, VT_def, VS_def, VI_def, WP_def, WS_def, FR_def, WH_def, CM_def, CN_def, VB_def, nxt_def]; exact vi_revr_d ..)
    | simp only [OPQ_def, VE_def, VT_def, VS_def, VI_def, WP_def, WS_def, FR_def, WH_def, CM_def, CN_def, VB_def, nxt_def]
    | (simp only [OPQ_def, VE_def, VT_def, VS_def, VI_def, WP_def, WS_def, FR_def, WH_def, CM_def, CN_def, VB_def, nxt_def, vi_revr_d]; done)
@[simp] theorem wp_nil : WP c w .nil s QO ↔ QO (.nx s) := by
  first
    | (simp only [OPQ_def, VE_def, VT_def, VS_def, VI_def, WP_def, WS_def, FR_def, WH_def, CM_def, CN_def, VB_def, nxt_def]; exact wp_nil_d ..)
    | simp only [OPQ_def, VE_def, VT_def, VS_def, VI_def, WP_def, WS_def, FR_def, WH_def, CM_def, CN_def, VB_def, nxt_def]
    | (simp only [OPQ_def, VE_def, VT_def, VS_def, VI_def, WP_def, WS_def, FR_def, WH_def, CM_def, CN_def, VB_def, nxt_def, wp_nil_d]; done)
@[simp] theorem wp_cons (a : S) (b : Ss) : WP c w (.cons a b) s QO ↔ WS c w a s fun o => nxt o (fun s' => WP c w b s' QO) (QO o) := by
  first
    | (simp only [OPQ_def, VE_def, VT_def, VS_def, VI_def, WP_def, WS_def, FR_def, WH_def, CM_def, CN_def, VB_def, nxt_def]; exact wp_cons_d ..)
    | simp only [OPQ_def, VE_def, VT_def, VS_def, VI_def, WP_def, WS_def, FR_def, WH_def, CM_def, CN_def, VB_def, nxt_def]
    | (simp only [OPQ_def, VE_def, VT_def, VS_def, VI_def, WP_def, WS_def, FR_def, WH_def, CM_def, CN_def, VB_def, nxt_def, wp_cons_d]; done)
@[simp] theorem ws_set (i : Nat) (e : E) : WS c w (.set i e) s QO ↔ VE c e s.ρ s.k fun d k => QO (.nx ⟨s.ρ.set i (some d), (keepM d e s.mu).filter (· != i), k⟩) := by
  first
    | (simp only [OPQ_def, VE_def, VT_def, VS_def, VI_def, WP_def, WS_def, FR_def, WH_def, CM_def, CN_def, VB_def, nxt_def]; exact ws_set_d ..)
    | simp only [OPQ_def, VE_def, VT_def, VS_def, VI_def, WP_def, WS_def, FR_def, WH_def, CM_def, CN_def, VB_def, nxt_def]
    | (simp only [OPQ_def, VE_def, VT_def, VS_def, VI_def, WP_def, WS_def, FR_def, WH_def, CM_def, CN_def, VB_def, nxt_def, ws_set_d]; done)
@[simp] theorem keepM_nil (d : D) (e : E) : keepM d e [] = [] := keepM_nil_d ..
@[simp] theorem ws_new (i : Nat) (e : E) : WS c w (.new i e) s QO ↔ VE c e s.ρ s.k fun d k => OPQ (newS s e i d k) QO := by
  first
    | (simp only [OPQ_def, VE_def, VT_def, VS_def, VI_def, WP_def, WS_def, FR_def, WH_def, CM_def, CN_def, VB_def, nxt_def]; exact ws_new_d ..)
    | simp only [OPQ_def, VE_def, VT_def, VS_def, VI_def, WP_def, WS_def, FR_def, WH_def, CM_def, CN_def, VB_def, nxt_def]
    | (simp only [OPQ_def, VE_def, VT_def, VS_def, VI_def, WP_def, WS_def, FR_def, WH_def, CM_def, CN_def, VB_def, nxt_def, ws_new_d]; done)
@[simp] theorem ws_par (i j : Nat) (a b : E) : WS c w (.par i j a b) s QO ↔ VE c a s.ρ s.k fun x k1 => VE c b s.ρ k1 fun y k2 => (noL x && noL y) = true ∧ QO (.nx ⟨(s.ρ.set i (some x)).set j (some y), (s.mu.filter (· != i)).filter (· != j), k2⟩) := by
  first
    | (simp only [OPQ_def, VE_def, VT_def, VS_def, VI_def, WP_def, WS_def, FR_def, WH_def, CM_def, CN_def, VB_def, nxt_def]; exact ws_par_d ..)
    | simp only [OPQ_def, VE_def, VT_def, VS_def, VI_def, WP_def, WS_def, FR_def, WH_def, CM_def, CN_def, VB_def, nxt_def]
    | (simp only [OPQ_def, VE_def, VT_def, VS_def, VI_def, WP_def, WS_def, FR_def, WH_def, CM_def, CN_def, VB_def, nxt_def, ws_par_d]; done)
@[simp] theorem ws_asg (t : Tg) (e : E) : WS c w (.asg t e) s QO ↔ VE c e s.ρ s.k fun d k => OPQ (Mini.asg t d s.ρ) fun ρ => QO (.nx ⟨ρ, tgMu t (keepM d e s.mu), k⟩) := by
  first
    | (simp only [OPQ_def, VE_def, VT_def, VS_def, VI_def, WP_def, WS_def, FR_def, WH_def, CM_def, CN_def, VB_def, nxt_def]; exact ws_asg_d ..)
    | simp only [OPQ_def, VE_def, VT_def, VS_def, VI_def, WP_def, WS_def, FR_def, WH_def, CM_def, CN_def, VB_def, nxt_def]
    | (simp only [OPQ_def, VE_def, VT_def, VS_def, VI_def, WP_def, WS_def, FR_def, WH_def, CM_def, CN_def, VB_def, nxt_def, ws_asg_d]; done)
@[simp] theorem ws_aug (i : Nat) (op : BO) (e : E) : WS c w (.aug i op e) s QO ↔ OPQ (slotv s.ρ i) fun x => VE c e s.ρ s.k fun y k => OPQ (augSem op x y) fun z => QO (.nx ⟨s.ρ.set i (some z), s.mu.filter (· != i), k⟩) := by
  first
    | (simp only [OPQ_def, VE_def, VT_def, VS_def, VI_def, WP_def, WS_def, FR_def, WH_def, CM_def, CN_def, VB_def, nxt_def]; exact ws_aug_d ..)
    | simp only [OPQ_def, VE_def, VT_def, VS_def, VI_def, WP_def, WS_def, FR_def, WH_def, CM_def, CN_def, VB_def, nxt_def]
    | (simp only [OPQ_def, VE_def, VT_def, VS_def, VI_def, WP_def, WS_def, FR_def, WH_def, CM_def, CN_def, VB_def, nxt_def, ws_aug_d]; done)
@[simp] theorem ws_setI (i : Nat) (x e : E) : WS c w (.setI i x e) s QO ↔ VE c e s.ρ s.k fun d k1 => VE c x s.ρ k1 fun j k2 => OPQ (slotv s.ρ i) fun x => OPQ (toInt j) fun j => OPQ (setD s i x j d k2) QO := by
  first
    | (simp only [OPQ_def, VE_def, VT_def, VS_def, VI_def, WP_def, WS_def, FR_def, WH_def, CM_def, CN_def, VB_def, nxt_def]; exact ws_setI_d ..)
    | simp only [OPQ_def, VE_def, VT_def, VS_def, VI_def, WP_def, WS_def, FR_def, WH_def, CM_def, CN_def, VB_def, nxt_def]
    | (simp only [OPQ_def, VE_def, VT_def, VS_def, VI_def, WP_def, WS_def, FR_def, WH_def, CM_def, CN_def, VB_def, nxt_def, ws_setI_d]; done)
@[simp] theorem ws_app (i : Nat) (e : E) : WS c w (.app i e) s QO ↔ OPQ (slotv s.ρ i) fun x => VE c e s.ρ s.k fun d k => OPQ (appD s i x d k) QO := by
  first
    | (simp only [OPQ_def, VE_def, VT_def, VS_def, VI_def, WP_def, WS_def, FR_def, WH_def, CM_def, CN_def, VB_def, nxt_def]; exact ws_app_d ..)
    | simp only [OPQ_def, VE_def, VT_def, VS_def, VI_def, WP_def, WS_def, FR_def, WH_def, CM_def, CN_def, VB_def, nxt_def]
    | (simp only [OPQ_def, VE_def, VT_def, VS_def, VI_def, WP_def, WS_def, FR_def, WH_def, CM_def, CN_def, VB_def, nxt_def, ws_app_d]; done)
@[simp] theorem ws_pop (i : Nat) : WS c w (.pop i) s QO ↔ OPQ (slotv s.ρ i) fun x => OPQ (popD s i x) QO := by
  first
    | (simp only [OPQ_def, VE_def, VT_def, VS_def, VI_def, WP_def, WS_def, FR_def, WH_def, CM_def, CN_def, VB_def, nxt_def]; exact ws_pop_d ..)
    | simp only [OPQ_def, VE_def, VT_def, VS_def, VI_def, WP_def, WS_def, FR_def, WH_def, CM_def, CN_def, VB_def, nxt_def]
    | (simp only [OPQ_def, VE_def, VT_def, VS_def, VI_def, WP_def, WS_def, FR_def, WH_def, CM_def, CN_def, VB_def, nxt_def, ws_pop_d]; done)
@[simp] theorem ws_setX (a x e : E) : WS c w (.setX a x e) s QO ↔ VE c e s.ρ s.k fun d k1 => VE c a s.ρ k1 fun y k2 => OPQ (refD y) fun r => VE c x s.ρ k2 fun j k3 => OPQ (toInt j) fun j => OPQ (lstK k3 r) fun ds => noL d = true ∧ OPQ (ixN ds.length j) fun jj => QO (.nx ⟨s.ρ, s.mu, k3.set r (.lst (ds.set jj d))⟩) := by
  first
    | (simp only [OPQ_def, VE_def, VT_def, VS_def, VI_def, WP_def, WS_def, FR_def, WH_def, CM_def, CN_def, VB_def, nxt_def]; exact ws_setX_d ..)
    | simp only [OPQ_def, VE_def, VT_def, VS_def, VI_def, WP_def, WS_def, FR_def, WH_def, CM_def, CN_def, VB_def, nxt_def]
    | (simp only [OPQ_def, VE_def, VT_def, VS_def, VI_def, WP_def, WS_def, FR_def, WH_def, CM_def, CN_def, VB_def, nxt_def, ws_setX_d]; done)
@[simp] theorem ws_appX (a e : E) : WS c w (.appX a e) s QO ↔ VE c a s.ρ s.k fun y k1 => OPQ (refD y) fun r => VE c e s.ρ k1 fun d k2 => OPQ (lstK k2 r) fun ds => (noL d && decide (ds.length < 16777216)) = true ∧ QO (.nx ⟨s.ρ, s.mu, k2.set r (.lst (ds ++ [d]))⟩) := by
  first
    | (simp only [OPQ_def, VE_def, VT_def, VS_def, VI_def, WP_def, WS_def, FR_def, WH_def, CM_def, CN_def, VB_def, nxt_def]; exact ws_appX_d ..)
    | simp only [OPQ_def, VE_def, VT_def, VS_def, VI_def, WP_def, WS_def, FR_def, WH_def, CM_def, CN_def, VB_def, nxt_def]
    | (simp only [OPQ_def, VE_def, VT_def, VS_def, VI_def, WP_def, WS_def, FR_def, WH_def, CM_def, CN_def, VB_def, nxt_def, ws_appX_d]; done)
@[simp] theorem ws_ret (e : E) : WS c w (.ret e) s QO ↔ VE c e s.ρ s.k fun d k => QO (.rt d k) := by
  first
    | (simp only [OPQ_def, VE_def, VT_def, VS_def, VI_def, WP_def, WS_def, FR_def, WH_def, CM_def, CN_def, VB_def, nxt_def]; exact ws_ret_d ..)
    | simp only [OPQ_def, VE_def, VT_def, VS_def, VI_def, WP_def, WS_def, FR_def, WH_def, CM_def, CN_def, VB_def, nxt_def]
    | (simp only [OPQ_def, VE_def, VT_def, VS_def, VI_def, WP_def, WS_def, FR_def, WH_def, CM_def, CN_def, VB_def, nxt_def, ws_ret_d]; done)
@[simp] theorem ws_retN : WS c w .retN s QO ↔ QO (.rt .non s.k) := by
  first
    | (simp only [OPQ_def, VE_def, VT_def, VS_def, VI_def, WP_def, WS_def, FR_def, WH_def, CM_def, CN_def, VB_def, nxt_def]; exact ws_retN_d ..)
    | simp only [OPQ_def, VE_def, VT_def, VS_def, VI_def, WP_def, WS_def, FR_def, WH_def, CM_def, CN_def, VB_def, nxt_def]
    | (simp only [OPQ_def, VE_def, VT_def, VS_def, VI_def, WP_def, WS_def, FR_def, WH_def, CM_def, CN_def, VB_def, nxt_def, ws_retN_d]; done)
@[simp] theorem ws_ite (t : T) (a b : Ss) : WS c w (.ite t a b) s QO ↔ VT c t s.ρ s.k fun x k => if x = true then WP c w a ⟨s.ρ, s.mu, k⟩ QO else WP c w b ⟨s.ρ, s.mu, k⟩ QO := by
  first
    | (simp only [OPQ_def, VE_def, VT_def, VS_def, VI_def, WP_def, WS_def, FR_def, WH_def, CM_def, CN_def, VB_def, nxt_def]; exact ws_ite_d ..)
    | simp only [OPQ_def, VE_def, VT_def, VS_def, VI_def, WP_def, WS_def, FR_def, WH_def, CM_def, CN_def, VB_def, nxt_def]
    | (simp only [OPQ_def, VE_def, VT_def, VS_def, VI_def, WP_def, WS_def, FR_def, WH_def, CM_def, CN_def, VB_def, nxt_def, ws_ite_d]; done)
@[simp] theorem ws_for (tg : Tg) (it : I) (body : Ss) : WS c w (.for tg it body) s QO ↔ VI c it s.ρ s.k fun ds wt k => FR c w wt tg body ds ⟨s.ρ, s.mu.filter fun i => avI [i] it, k⟩ QO := by
  first
    | (simp only [OPQ_def, VE_def, VT_def, VS_def, VI_def, WP_def, WS_def, FR_def, WH_def, CM_def, CN_def, VB_def, nxt_def]; exact ws_for_d ..)
    | simp only [OPQ_def, VE_def, VT_def, VS_def, VI_def, WP_def, WS_def, FR_def, WH_def, CM_def, CN_def, VB_def, nxt_def]
    | (simp only [OPQ_def, VE_def, VT_def, VS_def, VI_def, WP_def, WS_def, FR_def, WH_def, CM_def, CN_def, VB_def, nxt_def, ws_for_d]; done)
@[simp] theorem ws_while (t : T) (body : Ss) : WS c w (.while t body) s QO ↔ WH c w t body w s QO := by
  first
    | (simp only [OPQ_def, VE_def, VT_def, VS_def, VI_def, WP_def, WS_def, FR_def, WH_def, CM_def, CN_def, VB_def, nxt_def]; exact ws_while_d ..)
    | simp only [OPQ_def, VE_def, VT_def, VS_def, VI_def, WP_def, WS_def, FR_def, WH_def, CM_def, CN_def, VB_def, nxt_def]
    | (simp only [OPQ_def, VE_def, VT_def, VS_def, VI_def, WP_def, WS_def, FR_def, WH_def, CM_def, CN_def, VB_def, nxt_def, ws_while_d]; done)
@[simp] theorem ws_expr (e : E) : WS c w (.expr e) s QO ↔ VE c e s.ρ s.k fun _ k => QO (.nx ⟨s.ρ, s.mu, k⟩) := by
  first
    | (simp only [OPQ_def, VE_def, VT_def, VS_def, VI_def, WP_def, WS_def, FR_def, WH_def, CM_def, CN_def, VB_def, nxt_def]; exact ws_expr_d ..)
    | simp only [OPQ_def, VE_def, VT_def, VS_def, VI_def, WP_def, WS_def, FR_def, WH_def, CM_def, CN_def, VB_def, nxt_def]
    | (simp only [OPQ_def, VE_def, VT_def, VS_def, VI_def, WP_def, WS_def, FR_def, WH_def, CM_def, CN_def, VB_def, nxt_def, ws_expr_d]; done)
@[simp] theorem ws_brk : WS c w .brk s QO ↔ QO (.bk s) := by
  first
    | (simp only [OPQ_def, VE_def, VT_def, VS_def, VI_def, WP_def, WS_def, FR_def, WH_def, CM_def, CN_def, VB_def, nxt_def]; exact ws_brk_d ..)
    | simp only [OPQ_def, VE_def, VT_def, VS_def, VI_def, WP_def, WS_def, FR_def, WH_def, CM_def, CN_def, VB_def, nxt_def]
    | (simp only [OPQ_def, VE_def, VT_def, VS_def, VI_def, WP_def, WS_def, FR_def, WH_def, CM_def, CN_def, VB_def, nxt_def, ws_brk_d]; done)
@[simp] theorem ws_cnt : WS c w .cnt s QO ↔ QO (.ct s) := by
  first
    | (simp only [OPQ_def, VE_def, VT_def, VS_def, VI_def, WP_def, WS_def, FR_def, WH_def, CM_def, CN_def, VB_def, nxt_def]; exact ws_cnt_d ..)
    | simp only [OPQ_def, VE_def, VT_def, VS_def, VI_def, WP_def, WS_def, FR_def, WH_def, CM_def, CN_def, VB_def, nxt_def]
    | (simp only [OPQ_def, VE_def, VT_def, VS_def, VI_def, WP_def, WS_def, FR_def, WH_def, CM_def, CN_def, VB_def, nxt_def, ws_cnt_d]; done)
@[simp] theorem ws_pass : WS c w .pass s QO ↔ QO (.nx s) := by
  first
    | (simp only [OPQ_def, VE_def, VT_def, VS_def, VI_def, WP_def, WS_def, FR_def, WH_def, CM_def, CN_def, VB_def, nxt_def]; exact ws_pass_d ..)
    | simp only [OPQ_def, VE_def, VT_def, VS_def, VI_def, WP_def, WS_def, FR_def, WH_def, CM_def, CN_def, VB_def, nxt_def]
    | (simp only [OPQ_def, VE_def, VT_def, VS_def, VI_def, WP_def, WS_def, FR_def, WH_def, CM_def, CN_def, VB_def, nxt_def, ws_pass_d]; done)
@[simp] theorem ws_never : WS c w .never s QO ↔ False := by
  first
    | (simp only [OPQ_def, VE_def, VT_def, VS_def, VI_def, WP_def, WS_def, FR_def, WH_def, CM_def, CN_def, VB_def, nxt_def]; exact ws_never_d ..)
    | simp only [OPQ_def, VE_def, VT_def, VS_def, VI_def, WP_def, WS_def, FR_def, WH_def, CM_def, CN_def, VB_def, nxt_def]
    | (simp only [OPQ_def, VE_def, VT_def, VS_def, VI_def, WP_def, WS_def, FR_def, WH_def, CM_def, CN_def, VB_def, nxt_def, ws_never_d]; done)
@[simp] theorem appD_lst (i : Nat) (ds : List D) (d : D) : OPQ (appD s i (.lst ds) d k) QO ↔ (s.mu.contains i && noL d && decide (ds.length < 16777216)) = true ∧ QO (.nx ⟨s.ρ.set i (some (.lst (ds ++ [d]))), s.mu, k⟩) := by
  simp only [appD, opq_ite]
@[simp] theorem appD_ref (i r : Nat) (d : D) : OPQ (appD s i (.ref r) d k) QO ↔ OPQ (lstK k r) fun ds => (noL d && decide (ds.length < 16777216)) = true ∧ QO (.nx ⟨s.ρ, s.mu, k.set r (.lst (ds ++ [d]))⟩) := by
  simp only [appD]
  cases lstK k r <;> simp only [opq_none, opq_some, opq_ite]
@[simp] theorem popD_lst (i : Nat) (ds : List D) : OPQ (popD s i (.lst ds)) QO ↔ (s.mu.contains i && !ds.isEmpty) = true ∧ QO (.nx ⟨s.ρ.set i (some (.lst ds.dropLast)), s.mu, s.k⟩) := by
  simp only [popD, opq_ite]
@[simp] theorem popD_ref (i r : Nat) : OPQ (popD s i (.ref r)) QO ↔ OPQ (lstK s.k r) fun ds => ds.isEmpty = false ∧ QO (.nx ⟨s.ρ, s.mu, s.k.set r (.lst ds.dropLast)⟩) := by
  simp only [popD]
  cases h : lstK s.k r with
  | none => simp only [opq_none]
  | some ds => cases h2 : ds.isEmpty <;> simp [h2]
@[simp] theorem setD_lst (i : Nat) (ds : List D) (j : Int) (d : D) : OPQ (setD s i (.lst ds) j d k) QO ↔ (s.mu.contains i && noL d) = true ∧ OPQ (ixN ds.length j) fun jj => QO (.nx ⟨s.ρ.set i (some (.lst (ds.set jj d))), s.mu, k⟩) := by
  simp only [setD]
  by_cases h : (s.mu.contains i && noL d) = true
  · rw [if_pos h, opq_map]; simp only [h, true_and]
  · rw [if_neg h, opq_none]; simp only [h]; simp
@[simp] theorem setD_ref (i r : Nat) (j : Int) (d : D) : OPQ (setD s i (.ref r) j d k) QO ↔ OPQ (lstK k r) fun ds => noL d = true ∧ OPQ (ixN ds.length j) fun jj => QO (.nx ⟨s.ρ, s.mu, k.set r (.lst (ds.set jj d))⟩) := by
  simp only [setD]
  cases lstK k r with
  | none => simp only [opq_none]
  | some ds =>
    simp only [opq_some]
    by_cases h : noL d = true
    · rw [if_pos h, opq_map]; simp only [h, true_and]
    · rw [if_neg h, opq_none]; simp only [h]; simp
@[simp] theorem lstK_zero (ds : List D) (k : Ky) : lstK (.lst ds :: k) 0 = some ds := rfl
@[simp] theorem lstK_succ (o : Ob) (k : Ky) (r : Nat) : lstK (o :: k) (r + 1) = lstK k r := by simp [lstK]
@[simp] theorem lstK_at (ds : List D) (k : Ky) : lstK (k ++ [.lst ds]) k.length = some ds := by simp [lstK]
@[simp] theorem refD_ref (r : Nat) : refD (.ref r) = some r := rfl
@[simp] theorem lstD_lst (ds : List D) : lstD (.lst ds) = some ds := rfl
theorem deref_ref {k : Ky} {r : Nat} {ds : List D} (h : lstK k r = some ds) : deref k (.ref r) = .lst ds := by
  unfold lstK at h
  simp only [deref]
  cases e : k[r]? with
  | none => rw [e] at h; cases h
  | some o => cases o <;> rw [e] at h <;> cases h; rfl
theorem idx_ref_eq (k : Ky) (r : Nat) (i : Int) : idxSem k (.ref r) (.int i) = (lstK k r).bind fun ds => atI ds i := by
  simp only [idxSem, lstK]
  cases k[r]? with
  | none => rfl
  | some o => cases o <;> rfl
@[simp] theorem idx_ref (r : Nat) (i : Int) (P : D → Prop) : OPQ (idxSem k (.ref r) (.int i)) P ↔ OPQ (lstK k r) fun ds => OPQ (atI ds i) P := by
  rw [idx_ref_eq]
  cases lstK k r with
  | none => simp only [Option.bind_none, opq_none]
  | some ds => simp only [Option.bind_some, opq_some]
end
end Mini
namespace Mini
open PySem PySem.Spec PyProof.Rows L2
section
variable {c : Call} {w : Nat} {ρ : Rho} {k : Ky} {s : Sta} {Q : D → Ky → Prop} {QB : Bool → Ky → Prop} {QL : List D → Ky → Prop} {QO : O → Prop}
/-! ### what the primitives give -/
@[simp] theorem bo_add (i j : Int) : boSem .add (.int i) (.int j) = some (.int (i + j)) := rfl
@[simp] theorem bo_sub (i j : Int) : boSem .sub (.int i) (.int j) = some (.int (i - j)) := rfl
@[simp] theorem bo_mul (i j : Int) : boSem .mul (.int i) (.int j) = if mulOk i j then some (.int (i * j)) else none := rfl
@[simp] theorem bo_fdiv (i j : Int) : boSem .fdiv (.int i) (.int j) = if divOk j then some (.int (i / j)) else none := rfl
@[simp] theorem bo_mod (i j : Int) : boSem .mod (.int i) (.int j) = if decide (0 < j) = true then some (.int (i % j)) else none := rfl
@[simp] theorem bo_pow (i j : Int) : boSem .pow (.int i) (.int j) = if (decide (0 ≤ j) && decide (j ≤ 1000) && small64 i) = true then some (.int (i ^ j.toNat)) else none := rfl
@[simp] theorem bo_addL (a b : List D) : boSem .add (.lst a) (.lst b) = if lineOk (a.length + b.length) then some (.lst (a ++ b)) else none := rfl
@[simp] theorem bo_addT (a b : List D) : boSem .add (.tup a) (.tup b) = if lineOk (a.length + b.length) then some (.tup (a ++ b)) else none := rfl
@[simp] theorem bo_addS (a b : Str) : boSem .add (.str a) (.str b) = if lineOk (a.length + b.length) then some (.str (a ++ b)) else none := rfl
@[simp] theorem aug_add (i j : Int) : augSem .add (.int i) (.int j) = some (.int (i + j)) := rfl
@[simp] theorem aug_sub (i j : Int) : augSem .sub (.int i) (.int j) = some (.int (i - j)) := rfl
@[simp] theorem eqD_int (i j : Int) : eqD (.int i) (.int j) = some (decide (i = j)) := rfl
@[simp] theorem eqD_str (i j : Str) : eqD (.str i) (.str j) = some (decide (i = j)) := rfl
@[simp] theorem eqD_bl (i j : Bool) : eqD (.bl i) (.bl j) = some (decide (i = j)) := rfl
@[simp] theorem eqD_non : eqD .non .non = some true := rfl
@[simp] theorem co_eq (x y : D) : coSem .eq x y = eqD x y := rfl
@[simp] theorem co_ne (x y : D) : coSem .ne x y = (eqD x y).map (!·) := rfl
@[simp] theorem co_lt (i j : Int) : coSem .lt (.int i) (.int j) = some (decide (i < j)) := rfl
@[simp] theorem co_le (i j : Int) : coSem .le (.int i) (.int j) = some (decide (i ≤ j)) := rfl
@[simp] theorem co_gt (i j : Int) : coSem .gt (.int i) (.int j) = some (decide (j < i)) := rfl
@[simp] theorem co_ge (i j : Int) : coSem .ge (.int i) (.int j) = some (decide (j ≤ i)) := rfl
@[simp] theorem co_inL (x : D) (ys : List D) : coSem .isin x (.lst ys) = if x.fine 60 then anyEq x ys else none := rfl
@[simp] theorem co_inT (x : D) (ys : List D) : coSem .isin x (.tup ys) = if x.fine 60 then anyEq x ys else none := rfl
@[simp] theorem co_ninL (x : D) (ys : List D) : coSem .notin x (.lst ys) = if x.fine 60 then (anyEq x ys).map (!·) else none := rfl
@[simp] theorem co_ninT (x : D) (ys : List D) : coSem .notin x (.tup ys) = if x.fine 60 then (anyEq x ys).map (!·) else none := rfl
@[simp] theorem tr_non : truth .non = some false := rfl
@[simp] theorem tr_bl (b : Bool) : truth (.bl b) = some b := rfl
@[simp] theorem tr_int (i : Int) : truth (.int i) = some (i != 0) := rfl
@[simp] theorem tr_lst (l : List D) : truth (.lst l) = some (!l.isEmpty) := rfl
@[simp] theorem tr_tup (l : List D) : truth (.tup l) = some (!l.isEmpty) := rfl
@[simp] theorem bi_lenL (l : List D) : biSem .len [.lst l] = some (.int l.length) := rfl
@[simp] theorem bi_lenT (l : List D) : biSem .len [.tup l] = some (.int l.length) := rfl
@[simp] theorem bi_lenR (l : List D) : biSem .len [.scr l] = some (.int l.length) := rfl
@[simp] theorem bi_int (i : Int) : biSem .int [.int i] = some (.int i) := rfl
@[simp] theorem bi_max (i j : Int) : biSem .max [.int i, .int j] = some (.int (if j > i then j else i)) := rfl
@[simp] theorem bi_min (i j : Int) : biSem .min [.int i, .int j] = some (.int (if j < i then j else i)) := rfl
@[simp] theorem bi_abs (i : Int) : biSem .abs [.int i] = some (.int (if i < 0 then -i else i)) := rfl
@[simp] theorem bi_tupL (l : List D) : biSem .tuple [.lst l] = some (.tup l) := rfl
@[simp] theorem bi_tupT (l : List D) : biSem .tuple [.tup l] = some (.tup l) := rfl
@[simp] theorem bi_lstL (l : List D) : biSem .list [.lst l] = some (.lst l) := rfl
@[simp] theorem bi_lstT (l : List D) : biSem .list [.tup l] = some (.lst l) := rfl
@[simp] theorem bi_gcd (i j : Int) : biSem .gcd [.int i, .int j] = some (.int ((Nat.gcd i.natAbs j.natAbs : Nat) : Int)) := rfl
@[simp] theorem bi_sum (l : List D) : biSem .sum [.lst l] = (toInts l).map fun ns => .int ns.sum := rfl
@[simp] theorem bi_all (l : List D) : biSem .all [.lst l] = (toBls l).map fun bs => .bl (bs.all id) := rfl
@[simp] theorem bi_any (l : List D) : biSem .any [.lst l] = (toBls l).map fun bs => .bl (bs.any id) := rfl
@[simp] theorem toInts_mapI (l : List Int) : toInts (l.map .int) = some l := by induction l with | nil => rfl | cons a l ih => simp [toInts, ih]
@[simp] theorem toInts_mapf {α : Type} (f : α → Int) (l : List α) : toInts (l.map fun a => .int (f a)) = some (l.map f) := by induction l with | nil => rfl | cons a l ih => simp [toInts, ih]
@[simp] theorem toInts_nil : toInts [] = some [] := rfl
@[simp] theorem toInts_cons (i : Int) (l : List D) : toInts (.int i :: l) = (toInts l).map (i :: ·) := rfl
@[simp] theorem toBls_mapI (l : List Bool) : toBls (l.map .bl) = some l := by induction l with | nil => rfl | cons a l ih => simp [toBls, ih]
@[simp] theorem toBls_mapf {α : Type} (f : α → Bool) (l : List α) : toBls (l.map fun a => .bl (f a)) = some (l.map f) := by induction l with | nil => rfl | cons a l ih => simp [toBls, ih]
@[simp] theorem toBls_nil : toBls [] = some [] := rfl
@[simp] theorem toBls_cons (i : Bool) (l : List D) : toBls (.bl i :: l) = (toBls l).map (i :: ·) := rfl
@[simp] theorem toInt_int (i : Int) : toInt (.int i) = some i := rfl
@[simp] theorem negD_int (i : Int) : negD (.int i) = some (.int (-i)) := rfl
@[simp] theorem blD_bl (b : Bool) : blD (.bl b) = some b := rfl
@[simp] theorem itemsK_lst (l : List D) (P : List D × Wch → Prop) : OPQ (itemsK k (.lst l)) P ↔ P (l, none) := by simp [itemsK, items]
@[simp] theorem itemsK_tup (l : List D) (P : List D × Wch → Prop) : OPQ (itemsK k (.tup l)) P ↔ P (l, none) := by simp [itemsK, items]
@[simp] theorem itemsK_scr (l : List D) (P : List D × Wch → Prop) : OPQ (itemsK k (.scr l)) P ↔ P (l, none) := by simp [itemsK, items]
@[simp] theorem itemsK_str (x : Str) (P : List D × Wch → Prop) : OPQ (itemsK k (.str x)) P ↔ P (x.cps.toList.map fun c => D.str ⟨#[c]⟩, none) := by simp [itemsK, items]
@[simp] theorem itemsK_ref (r : Nat) (P : List D × Wch → Prop) : OPQ (itemsK k (.ref r)) P ↔ OPQ (lstK k r) fun ds => P (ds, some (r, ds)) := by simp [itemsK]
@[simp] theorem enumK_lst (l : List D) (P : List D × Wch → Prop) : OPQ (enumK k (.lst l)) P ↔ P (enumL 0 l, none) := by simp [enumK]
@[simp] theorem enumK_tup (l : List D) (P : List D × Wch → Prop) : OPQ (enumK k (.tup l)) P ↔ P (enumL 0 l, none) := by simp [enumK]
@[simp] theorem enumK_ref (r : Nat) (P : List D × Wch → Prop) : OPQ (enumK k (.ref r)) P ↔ OPQ (lstK k r) fun ds => P (enumL 0 ds, some (r, ds)) := by simp [enumK]
@[simp] theorem items_lst (l : List D) : items (.lst l) = some l := rfl
@[simp] theorem items_tup (l : List D) : items (.tup l) = some l := rfl
@[simp] theorem items_scr (l : List D) : items (.scr l) = some l := rfl
@[simp] theorem zipD_lst (l m : List D) : zipD (.lst l) (.lst m) = some (zipL l m) := rfl
@[simp] theorem zipD_tup (l m : List D) : zipD (.tup l) (.tup m) = some (zipL l m) := rfl
@[simp] theorem revD_lst (l : List D) : revD (.lst l) = some l.reverse := rfl
@[simp] theorem revD_tup (l : List D) : revD (.tup l) = some l.reverse := rfl
@[simp] theorem isNon_non : isNonD .non = true := rfl
@[simp] theorem isNon_int (i : Int) : isNonD (.int i) = false := rfl
@[simp] theorem isNon_bl (i : Bool) : isNonD (.bl i) = false := rfl
@[simp] theorem isNon_tup (i : List D) : isNonD (.tup i) = false := rfl
@[simp] theorem isNon_lst (i : List D) : isNonD (.lst i) = false := rfl
@[simp] theorem isNon_str (i : Str) : isNonD (.str i) = false := rfl
@[simp] theorem noL_non : noL .non = true := rfl
@[simp] theorem noL_int (i : Int) : noL (.int i) = true := rfl
@[simp] theorem noL_bl (i : Bool) : noL (.bl i) = true := rfl
@[simp] theorem noL_str (i : Str) : noL (.str i) = true := rfl
@[simp] theorem noL_ref (i : Nat) : noL (.ref i) = true := rfl
@[simp] theorem noL_tup (i : List D) : noL (.tup i) = noLs i := rfl
@[simp] theorem noL_lst (i : List D) : noL (.lst i) = false := rfl
@[simp] theorem noLs_nil : noLs [] = true := rfl
@[simp] theorem noLs_cons (x : D) (i : List D) : noLs (x :: i) = (noL x && noLs i) := rfl
@[simp] theorem noLs_mapI (l : List Int) : noLs (l.map .int) = true := by induction l with | nil => rfl | cons a l ih => simp [ih]
@[simp] theorem noLs_append (l m : List D) : noLs (l ++ m) = (noLs l && noLs m) := by induction l with | nil => rfl | cons a l ih => simp [ih, Bool.and_assoc]
theorem noLs_map {α : Type} {f : α → D} (h : ∀ a, noL (f a) = true) (l : List α) : noLs (l.map f) = true := by induction l with | nil => rfl | cons a l ih => simp [ih, h]
theorem noLs_of {l : List D} (h : ∀ d ∈ l, noL d = true) : noLs l = true := by
  induction l with
  | nil => rfl
  | cons a l ih => simp only [noLs_cons, h a List.mem_cons_self, ih fun d hd => h d (List.mem_cons_of_mem _ hd), Bool.and_self]
@[simp] theorem isOfs_nil (d : D) : isOfs d [] = some false := rfl
@[simp] theorem isOfs_int (i : Int) (t : Nat) (ts : List Nat) : isOfs (.int i) (t :: ts) = if t = 0 then some true else isOfs (.int i) ts := by
  by_cases h : t = 0
  · subst h; rfl
  · have h' : (t == 0) = false := by simpa using h
    simp only [isOfs, isOf, h', h, if_false]
@[simp] theorem isOfs_bl (i : Bool) (t : Nat) (ts : List Nat) : isOfs (.bl i) (t :: ts) = if t = 0 ∨ t = 1 then some true else isOfs (.bl i) ts := by
  by_cases h : t = 0 ∨ t = 1
  · rcases h with rfl | rfl <;> rfl
  · have h' : (t == 0 || t == 1) = false := by simpa using h
    simp only [isOfs, isOf, h', h, if_false]
@[simp] theorem isOfs_str (i : Str) (t : Nat) (ts : List Nat) : isOfs (.str i) (t :: ts) = if t = 2 then some true else isOfs (.str i) ts := by
  by_cases h : t = 2
  · subst h; rfl
  · have h' : (t == 2) = false := by simpa using h
    simp only [isOfs, isOf, h', h, if_false]
@[simp] theorem isOfs_lst (i : List D) (t : Nat) (ts : List Nat) : isOfs (.lst i) (t :: ts) = if t = 3 then some true else isOfs (.lst i) ts := by
  by_cases h : t = 3
  · subst h; rfl
  · have h' : (t == 3) = false := by simpa using h
    simp only [isOfs, isOf, h', h, if_false]
@[simp] theorem isOfs_tup (i : List D) (t : Nat) (ts : List Nat) : isOfs (.tup i) (t :: ts) = if t = 4 then some true else isOfs (.tup i) ts := by
  by_cases h : t = 4
  · subst h; rfl
  · have h' : (t == 4) = false := by simpa using h
    simp only [isOfs, isOf, h', h, if_false]
@[simp] theorem isOfs_non (t : Nat) (ts : List Nat) : isOfs .non (t :: ts) = isOfs .non ts := by simp [isOfs, isOf]
@[simp] theorem ix_lst (l : List D) (i : Int) : idxSem k (.lst l) (.int i) = atI l i := rfl
@[simp] theorem ix_tup (l : List D) (i : Int) : idxSem k (.tup l) (.int i) = atI l i := rfl
@[simp] theorem ix_scr (l : List D) (i : Int) : idxSem k (.scr l) (.int i) = atI l i := rfl
@[simp] theorem atI_0 {α : Type} (a : α) (l : List α) : atI (a :: l) 0 = some a := by simp [atI, ixN]
theorem atI_nat {α : Type} (l : List α) (n : Nat) : atI l (n : Int) = l[n]? := by
  unfold atI ixN
  rw [if_pos (by omega)]
  by_cases h : (n : Int) < l.length
  · rw [if_pos h]; simp
  · rw [if_neg h, List.getElem?_eq_none (by omega)]; rfl
@[simp] theorem atI_1 {α : Type} (a b : α) (l : List α) : atI (a :: b :: l) 1 = some b := atI_nat _ 1
@[simp] theorem atI_2 {α : Type} (a b e : α) (l : List α) : atI (a :: b :: e :: l) 2 = some e := atI_nat _ 2
@[simp] theorem atI_3 {α : Type} (a b e f : α) (l : List α) : atI (a :: b :: e :: f :: l) 3 = some f := atI_nat _ 3
theorem atI_of {α : Type} {l : List α} {i : Int} {x : α} (h0 : 0 ≤ i) (h : l[i.toNat]? = some x) : atI l i = some x := by
  have := atI_nat l i.toNat
  rw [Int.toNat_of_nonneg h0] at this
  rw [this, h]
theorem atI_neg1 {α : Type} (l : List α) : atI l (-1) = l.getLast? := by
  unfold atI ixN
  rw [if_neg (by omega)]
  by_cases h : 0 < l.length
  · rw [if_pos (by omega), List.getLast?_eq_getElem?]
    simp only [Option.bind_some]
    congr 1
    omega
  · have : l = [] := List.length_eq_zero_iff.mp (by omega)
    subst this
    rfl
@[simp] theorem rng1 (j : Int) : rngSem [.int j] = if rng62 j then some (rngL 0 1 j.toNat) else none := rfl
@[simp] theorem rng2 (i j : Int) : rngSem [.int i, .int j] = if (rng62 i && rng62 j) = true then some (rngL i 1 (j - i).toNat) else none := rfl
@[simp] theorem asg_name (i : Nat) (d : D) : asg (.name i) d ρ = some (ρ.set i (some d)) := by simp only [asg]
@[simp] theorem asg_tup (ts : Tgs) (l : List D) : asg (.tup ts) (.tup l) ρ = asgs ts l ρ := by simp only [asg]
@[simp] theorem asgs_nil : asgs .nil [] ρ = some ρ := by simp only [asgs]
@[simp] theorem asgs_cons (t : Tg) (ts : Tgs) (d : D) (l : List D) : asgs (.cons t ts) (d :: l) ρ = (asg t d ρ).bind (asgs ts l) := by simp only [asgs]
@[simp] theorem tgMu_name (i : Nat) (mu : List Nat) : tgMu (.name i) mu = mu.filter (· != i) := rfl
@[simp] theorem tgMu_tup (ts : Tgs) (mu : List Nat) : tgMu (.tup ts) mu = tgsMu ts mu := rfl
@[simp] theorem tgsMu_nil (mu : List Nat) : tgsMu .nil mu = mu := rfl
@[simp] theorem tgsMu_cons (t : Tg) (ts : Tgs) (mu : List Nat) : tgsMu (.cons t ts) mu = tgsMu ts (tgMu t mu) := rfl
@[simp] theorem lineOk_lit (n : Nat) (h : n ≤ 16777216) : lineOk n = true := lineOk_of h
@[simp] theorem mulOk_natL (n : Nat) (h : n < 18446744073709551616) (j : Int) : mulOk (no_index (OfNat.ofNat n)) j = true := mulOk_l (by
  show (-18446744073709551616 : Int) < (n : Int)
  omega) (by
  show (n : Int) < 18446744073709551616
  omega)
@[simp] theorem mulOk_natR (n : Nat) (h : n < 18446744073709551616) (j : Int) : mulOk j (no_index (OfNat.ofNat n)) = true := mulOk_r (by
  show (-18446744073709551616 : Int) < (n : Int)
  omega) (by
  show (n : Int) < 18446744073709551616
  omega)
@[simp] theorem wipe_nil : wipeR ρ [] = ρ := rfl
@[simp] theorem wipe_cons (i : Nat) (is : List Nat) : wipeR ρ (i :: is) = (wipeR ρ is).set i none := rfl
/-! ### which slots are named -/
section
variable (mu : List Nat)
@[simp] theorem avE_var (i : Nat) : avE mu (.var i) = !mu.contains i := by simp only [avE]
@[simp] theorem avE_cst (d : D) : avE mu (.cst d) = true := by simp only [avE]
@[simp] theorem avE_bin (o : BO) (a b : E) : avE mu (.bin o a b) = (avE mu a && avE mu b) := by simp only [avE]
@[simp] theorem avE_neg (a : E) : avE mu (.neg a) = avE mu a := by simp only [avE]
@[simp] theorem avE_cmp (o : CO) (a b : E) : avE mu (.cmp o a b) = (avE mu a && avE mu b) := by simp only [avE]
@[simp] theorem avE_chain (o p : CO) (a b c : E) : avE mu (.chain o p a b c) = (avE mu a && avE mu b && avE mu c) := by simp only [avE]
@[simp] theorem avE_isN (a : E) : avE mu (.isN a) = avE mu a := by simp only [avE]
@[simp] theorem avE_notN (a : E) : avE mu (.notN a) = avE mu a := by simp only [avE]
@[simp] theorem avE_and (a b : E) : avE mu (.and a b) = (avE mu a && avE mu b) := by simp only [avE]
@[simp] theorem avE_or (a b : E) : avE mu (.or a b) = (avE mu a && avE mu b) := by simp only [avE]
@[simp] theorem avE_not (a : E) : avE mu (.not a) = avE mu a := by simp only [avE]
@[simp] theorem avE_ite (t : T) (a b : E) : avE mu (.ite t a b) = (avT mu t && avE mu a && avE mu b) := by simp only [avE]
@[simp] theorem avE_tup (es : Es) : avE mu (.tup es) = avEs mu es := by simp only [avE]
@[simp] theorem avE_lst (es : Es) : avE mu (.lst es) = avEs mu es := by simp only [avE]
@[simp] theorem avE_idx (a b : E) : avE mu (.idx a b) = (avE mu a && avE mu b) := by simp only [avE]
@[simp] theorem avE_sli (m : Nat) (a b c : E) : avE mu (.sli m a b c) = (avE mu a && avE mu b && avE mu c) := by simp only [avE]
@[simp] theorem avE_call (f : Nat) (es : Es) : avE mu (.call f es) = avEs mu es := by simp only [avE]
@[simp] theorem avE_bi (f : BI) (es : Es) : avE mu (.bi f es) = avEs mu es := by simp only [avE]
@[simp] theorem avE_isi (a : E) (ts : List Nat) : avE mu (.isi a ts) = avE mu a := by simp only [avE]
@[simp] theorem avE_comp0 (a : E) (tg : Tg) (it : I) (o : List Nat) : avE mu (.comp0 a tg it o) = (avE mu a && avI mu it) := by simp only [avE]
@[simp] theorem avE_comp1 (a : E) (tg : Tg) (it : I) (t : T) (o : List Nat) : avE mu (.comp1 a tg it t o) = (avE mu a && avI mu it && avT mu t) := by simp only [avE]
@[simp] theorem avT_val (a : E) : avT mu (.val a) = avE mu a := by simp only [avT]
@[simp] theorem avT_not (a : T) : avT mu (.not a) = avT mu a := by simp only [avT]
@[simp] theorem avT_and (a b : T) : avT mu (.and a b) = (avT mu a && avT mu b) := by simp only [avT]
@[simp] theorem avT_or (a b : T) : avT mu (.or a b) = (avT mu a && avT mu b) := by simp only [avT]
@[simp] theorem avT_ite (a b c : T) : avT mu (.ite a b c) = (avT mu a && avT mu b && avT mu c) := by simp only [avT]
@[simp] theorem avEs_nil : avEs mu .nil = true := by simp only [avEs]
@[simp] theorem avEs_cons (e : E) (es : Es) : avEs mu (.cons e es) = (avE mu e && avEs mu es) := by simp only [avEs]
@[simp] theorem avI_seq (a : E) : avI mu (.seq a) = avE mu a := by simp only [avI]
@[simp] theorem avI_rng (a : Es) : avI mu (.rng a) = avEs mu a := by simp only [avI]
@[simp] theorem avI_enum (a : E) : avI mu (.enum a) = avE mu a := by simp only [avI]
@[simp] theorem avI_zip (a b : E) : avI mu (.zip a b) = (avE mu a && avE mu b) := by simp only [avI]
@[simp] theorem avI_rev (a : E) : avI mu (.rev a) = avE mu a := by simp only [avI]
end
/-! ### defs, loops, comprehensions -/
theorem opq_ex {α : Type} {o : Option α} {P : α → Prop} (h : OPQ o P) : ∃ x, o = some x ∧ P x := by
  cases o with
  | none => exact ((opq_none P).mp h).elim
  | some x => exact ⟨x, rfl, (opq_some x P).mp h⟩
theorem opq_of {α : Type} {o : Option α} {x : α} {P : α → Prop} (h : o = some x) (hp : P x) : OPQ o P := by rw [h]; exact (opq_some x P).mpr hp
theorem OPQd_eq {α : Type} (o : Option α) (Q : α → Prop) : OPQd o Q = OPQ o Q := (OPQ_def o Q).symm
theorem wp_ex {ss : Ss} (h : WP c w ss s QO) : ∃ o, evSs c w ss s = some o ∧ QO o := by
  rw [WP_def] at h; unfold WPd at h; rw [OPQd_eq] at h; exact opq_ex h
theorem ve_ex {e : E} (h : VE c e ρ k Q) : ∃ d k', evE c e ρ k = some (d, k') ∧ Q d k' := by
  rw [VE_def] at h; unfold VEd at h; rw [OPQd_eq] at h
  obtain ⟨⟨d, k'⟩, h1, h2⟩ := opq_ex h
  exact ⟨d, k', h1, h2⟩
theorem vt_ex {t : T} (h : VT c t ρ k QB) : ∃ b k', evT c t ρ k = some (b, k') ∧ QB b k' := by
  rw [VT_def] at h; unfold VTd at h; rw [OPQd_eq] at h
  obtain ⟨⟨d, k'⟩, h1, h2⟩ := opq_ex h
  exact ⟨d, k', h1, h2⟩
theorem cm_ex {e : E} {tg : Tg} {ds : List D} (h : CM c none e tg ds ρ k QL) : ∃ ys k', compW none (fun ρ k => evE c e ρ k) (fun _ k => some (true, k)) tg ρ ds k = some (ys, k') ∧ QL ys k' := by
  rw [CM_def] at h; unfold CMd at h; rw [OPQd_eq] at h
  obtain ⟨⟨d, k'⟩, h1, h2⟩ := opq_ex h
  exact ⟨d, k', h1, h2⟩
theorem fr_of {tg : Tg} {body : Ss} {ds : List D} {o : O} (h : forW none tg (fun s => evSs c w body s) ds s = some o) (q : QO o) : FR c w none tg body ds s QO := by
  rw [FR_def]; unfold FRd; rw [OPQd_eq]; exact opq_of h q
theorem fr_ex {tg : Tg} {body : Ss} {ds : List D} (h : FR c w none tg body ds s QO) : ∃ o, forW none tg (fun s => evSs c w body s) ds s = some o ∧ QO o := by
  rw [FR_def] at h; unfold FRd at h; rw [OPQd_eq] at h; exact opq_ex h
theorem wh_of {t : T} {body : Ss} {n : Nat} {o : O} (h : whileD (fun s => evT c t s.ρ s.k) (fun s => evSs c w body s) n s = some o) (q : QO o) : WH c w t body n s QO := by
  rw [WH_def]; unfold WHd; rw [OPQd_eq]; exact opq_of h q
theorem wh_ex {t : T} {body : Ss} {n : Nat} (h : WH c w t body n s QO) : ∃ o, whileD (fun s => evT c t s.ρ s.k) (fun s => evSs c w body s) n s = some o ∧ QO o := by
  rw [WH_def] at h; unfold WHd at h; rw [OPQd_eq] at h; exact opq_ex h
theorem cm_of {e : E} {tg : Tg} {ds ys : List D} {k' : Ky} (h : compW none (fun ρ k => evE c e ρ k) (fun _ k => some (true, k)) tg ρ ds k = some (ys, k')) (q : QL ys k') : CM c none e tg ds ρ k QL := by
  rw [CM_def]; unfold CMd; rw [OPQd_eq]; exact opq_of h q
theorem cn_of {e : E} {t : T} {tg : Tg} {ds ys : List D} {k' : Ky} (h : compW none (fun ρ k => evE c e ρ k) (fun ρ k => evT c t ρ k) tg ρ ds k = some (ys, k')) (q : QL ys k') : CN c none e t tg ds ρ k QL := by
  rw [CN_def]; unfold CNd; rw [OPQd_eq]; exact opq_of h q
theorem run_wp {rn : Rn} {ds : List Def} [Runs rn ds] {n f : Nat} {as : List D} {d : Def} {x : D} {k' : Ky} (h : ds[f]? = some d) (hl : as.length = d.ps) (H : WP (rn.go n) WF d.body ⟨as.map some ++ List.replicate (d.ns - d.ps) none, [], k⟩ fun o => fin k (some o) = some (x, k')) : rn.go (n + 1) f as k = some (x, k') := by
  rw [run_eq (rn := rn) h hl]
  obtain ⟨o, e, H⟩ := wp_ex H
  rw [e]
  exact H
theorem run_wpE {rn : Rn} {ds : List Def} [Runs rn ds] {n f : Nat} {as : List D} {d : Def} {P : D → Ky → Prop} (h : ds[f]? = some d) (hl : as.length = d.ps) (H : WP (rn.go n) WF d.body ⟨as.map some ++ List.replicate (d.ns - d.ps) none, [], k⟩ fun o => OPQ (fin k (some o)) fun p => P p.1 p.2) : OPQ (rn.go (n + 1) f as k) fun p => P p.1 p.2 := by
  rw [run_eq (rn := rn) h hl]
  obtain ⟨o, e, H⟩ := wp_ex H
  rw [e]
  exact H
@[simp] theorem fin_rt' (d : D) : fin k (some (.rt d k)) = some (d, k) := fin_rt k d
@[simp] theorem fin_rtS (o o' : Ob) (d : D) : fin (o :: k) (some (.rt d (o' :: k))) = some (d, o' :: k) := endK_le _ _ _ (by simp)
@[simp] theorem fin_rtN (b : Bool) (k : Ky) : fin [] (some (.rt (.bl b) k)) = some (.bl b, []) := by
  exact endK_drop [] k (.bl b) rfl rfl
theorem fin_rtD (d : D) (l : Ky) (h1 : below k.length d = true) (h2 : KOk k) : fin k (some (.rt d (k ++ l))) = some (d, k) := endK_drop k l d h1 h2
@[simp] theorem fin_nx' (ρ : Rho) (mu : List Nat) : fin k (some (.nx ⟨ρ, mu, k⟩)) = some (.non, k) := endK_same k .non
theorem opq_mono {α : Type} {o : Option α} {P P' : α → Prop} (h : OPQ o P) (i : ∀ x, P x → P' x) : OPQ o P' := by
  obtain ⟨x, e, h⟩ := opq_ex h
  exact opq_of e (i x h)
/-- a wall that simp does not look behind -/
def Wp (p : Prop) : Type := Unit
structure Hold (p : Prop) (u : Wp p := ()) : Prop where
  get : p
def stp (I : Sta → Prop) (J : O → Prop) (_ : Wt (I, J) := ()) (o : O) : Prop := match o with | .nx s => Hold (I s) | .ct s => Hold (I s) | .bk s => J (.nx s) | .rt d k => J (.rt d k)
@[simp] theorem stp_nx (I : Sta → Prop) (J : O → Prop) : stp I J () (.nx s) ↔ Hold (I s) := Iff.rfl
@[simp] theorem stp_ct (I : Sta → Prop) (J : O → Prop) : stp I J () (.ct s) ↔ Hold (I s) := Iff.rfl
@[simp] theorem stp_bk (I : Sta → Prop) (J : O → Prop) : stp I J () (.bk s) ↔ J (.nx s) := Iff.rfl
@[simp] theorem stp_rt (I : Sta → Prop) (J : O → Prop) (d : D) : stp I J () (.rt d k) ↔ J (.rt d k) := Iff.rfl
/-- a loop over the items f a -/
theorem fr_list {α : Type} {tg : Tg} {body : Ss} (f : α → D) (I : List α → Sta → Prop) (J : O → Prop) : ∀ (l : List α) (s : Sta), I l s →
    (∀ a r s, I (a :: r) s → OPQ (asg tg (f a) s.ρ) fun ρ => WP c w body ⟨ρ, tgMu tg s.mu, s.k⟩ (stp (I r) J)) →
    (∀ s, I [] s → J (.nx s)) → FR c w none tg body (l.map f) s J
  | [], s, h, _, he => fr_of rfl (he s h)
  | a :: r, s, h, hs, he => by
    obtain ⟨ρ, e1, h1⟩ := opq_ex (hs a r s h)
    obtain ⟨o, e2, h2⟩ := wp_ex h1
    have ih := fun s' hs' => fr_ex (fr_list f I J r s' hs' hs he)
    cases o with
    | nx s' =>
      obtain ⟨o', e3, h3⟩ := ih s' h2.get
      exact fr_of (by simp only [List.map_cons, forW, okW, if_true, e1, e2]; exact e3) h3
    | ct s' =>
      obtain ⟨o', e3, h3⟩ := ih s' h2.get
      exact fr_of (by simp only [List.map_cons, forW, okW, if_true, e1, e2]; exact e3) h3
    | bk s' => exact fr_of (by simp only [List.map_cons, forW, okW, if_true, e1, e2]) h2
    | rt d k => exact fr_of (by simp only [List.map_cons, forW, okW, if_true, e1, e2]) h2
theorem fr_D {tg : Tg} {body : Ss} (I : List D → Sta → Prop) (J : O → Prop) (l : List D) (s : Sta) (h0 : I l s)
    (hs : ∀ a r s, I (a :: r) s → OPQ (asg tg a s.ρ) fun ρ => WP c w body ⟨ρ, tgMu tg s.mu, s.k⟩ (stp (I r) J))
    (he : ∀ s, I [] s → J (.nx s)) : FR c w none tg body l s J := by
  have := fr_list (c := c) (w := w) (tg := tg) (body := body) (fun d : D => d) I J l s h0 hs he
  rwa [List.map_id'] at this
/-- a loop over a range -/
theorem fr_rng {tg : Tg} {body : Ss} (a : Int) (n : Nat) (I : Nat → Sta → Prop) (J : O → Prop) (s : Sta) (h0 : I 0 s)
    (hs : ∀ (i : Nat) s, i < n → I i s → OPQ (asg tg (.int (a + i)) s.ρ) fun ρ => WP c w body ⟨ρ, tgMu tg s.mu, s.k⟩ (stp (I (i + 1)) J))
    (he : ∀ s, I n s → J (.nx s)) : FR c w none tg body (rngL a 1 n) s J := by
  have e : rngL a 1 n = (List.range n).map fun t : Nat => D.int (a + t) := by
    unfold rngL
    congr 1
    funext t
    simp
  rw [e]
  have key : ∀ (m i : Nat), i + m = n → ∀ s, I i s → FR c w none tg body ((List.range' i m).map fun t : Nat => D.int (a + t)) s J := by
    intro m
    induction m with
    | zero => intro i hi s h; exact fr_of rfl (he s (by rw [show n = i by omega]; exact h))
    | succ m ih =>
      intro i hi s h
      obtain ⟨ρ, e1, h1⟩ := opq_ex (hs i s (by omega) h)
      obtain ⟨o, e2, h2⟩ := wp_ex h1
      have ih' := fun s h => fr_ex (ih (i + 1) (by omega) s h)
      cases o with
      | nx s' =>
        obtain ⟨o', e3, h3⟩ := ih' s' h2.get
        exact fr_of (by simp only [List.range'_succ, List.map_cons, forW, okW, if_true, e1, e2]; exact e3) h3
      | ct s' =>
        obtain ⟨o', e3, h3⟩ := ih' s' h2.get
        exact fr_of (by simp only [List.range'_succ, List.map_cons, forW, okW, if_true, e1, e2]; exact e3) h3
      | bk s' => exact fr_of (by simp only [List.range'_succ, List.map_cons, forW, okW, if_true, e1, e2]) h2
      | rt d k => exact fr_of (by simp only [List.range'_succ, List.map_cons, forW, okW, if_true, e1, e2]) h2
  have := key n 0 (by omega) s h0
  rwa [← List.range_eq_range'] at this
theorem wh_inv {t : T} {body : Ss} (I : Sta → Prop) (m : Sta → Nat) (J : O → Prop) : ∀ (n : Nat) (s : Sta), I s → m s < n →
    (∀ s, I s → VT c t s.ρ s.k fun b k => if b = true then WP c w body ⟨s.ρ, s.mu, k⟩ (stp (fun s' => I s' ∧ m s' < m s) J) else J (.nx ⟨s.ρ, s.mu, k⟩)) → WH c w t body n s J
  | 0, s, _, h, _ => by omega
  | n + 1, s, hi, hm, hs => by
    have h0 := hs s hi
    obtain ⟨b, k, e1, h1⟩ := vt_ex h0
    have ih := fun s' (h : I s') (h2 : m s' < n) => wh_ex (wh_inv I m J n s' h h2 hs)
    cases b with
    | false => exact wh_of (o := .nx ⟨s.ρ, s.mu, k⟩) (by simp only [whileD, e1]) (by simpa using h1)
    | true =>
      simp only [if_true] at h1
      obtain ⟨o, e2, h2⟩ := wp_ex h1
      cases o with
      | nx s' =>
        obtain ⟨o', e3, h3⟩ := ih s' h2.get.1 (by have := h2.get.2; omega)
        exact wh_of (by simp only [whileD, e1, e2]; exact e3) h3
      | ct s' =>
        obtain ⟨o', e3, h3⟩ := ih s' h2.get.1 (by have := h2.get.2; omega)
        exact wh_of (by simp only [whileD, e1, e2]; exact e3) h3
      | bk s' => exact wh_of (by simp only [whileD, e1, e2]) h2
      | rt d k => exact wh_of (by simp only [whileD, e1, e2]) h2
theorem cm_map {e : E} {tg : Tg} {α : Type} (f : α → D) (h : α → D) (l : List α) (hh : ∀ a ∈ l, OPQ (asg tg (f a) ρ) fun ρ1 => VE c e ρ1 k fun d k1 => d = h a ∧ k1 = k) (hq : QL (l.map h) k) : CM c none e tg (l.map f) ρ k QL := by
  have : compW none (fun ρ k => evE c e ρ k) (fun _ k => some (true, k)) tg ρ (l.map f) k = some (l.map h, k) := by
    clear hq
    induction l with
    | nil => rfl
    | cons a l ih =>
      obtain ⟨ρ1, e1, h1⟩ := opq_ex (hh a List.mem_cons_self)
      obtain ⟨d, k1, e2, h2, h3⟩ := ve_ex h1
      subst h2 h3
      simp only [List.map_cons, compW, okW, if_true, e1, e2, ih fun b hb => hh b (List.mem_cons_of_mem _ hb)]
  exact cm_of this hq
theorem cn_map {e : E} {t : T} {tg : Tg} {α : Type} (f : α → D) (p : α → Bool) (h : α → D) (l : List α) (hh : ∀ a ∈ l, OPQ (asg tg (f a) ρ) fun ρ1 => VT c t ρ1 k fun b k1 => b = p a ∧ k1 = k ∧ (p a = true → VE c e ρ1 k fun d k2 => d = h a ∧ k2 = k)) (hq : QL ((l.filter p).map h) k) : CN c none e t tg (l.map f) ρ k QL := by
  have : compW none (fun ρ k => evE c e ρ k) (fun ρ k => evT c t ρ k) tg ρ (l.map f) k = some ((l.filter p).map h, k) := by
    clear hq
    induction l with
    | nil => rfl
    | cons a l ih =>
      obtain ⟨ρ1, e1, h1⟩ := opq_ex (hh a List.mem_cons_self)
      obtain ⟨b, k1, e2, h2, h3, h4⟩ := vt_ex h1
      subst h3
      have ih' := ih fun b hb => hh b (List.mem_cons_of_mem _ hb)
      cases hp : p a with
      | false =>
        rw [hp] at h2
        subst h2
        simp only [List.map_cons, compW, okW, if_true, e1, e2, ih', List.filter_cons, hp]
        rfl
      | true =>
        rw [hp] at h2
        subst h2
        obtain ⟨d, k2, e3, h5, h6⟩ := ve_ex (h4 hp)
        subst h5 h6
        simp only [List.map_cons, compW, okW, if_true, e1, e2, e3, ih', List.filter_cons, hp, if_true]
  exact cn_of this hq
theorem cm_D {e : E} {tg : Tg} (h : D → D) (l : List D) (hh : ∀ a ∈ l, OPQ (asg tg a ρ) fun ρ1 => VE c e ρ1 k fun d k1 => d = h a ∧ k1 = k) (hq : QL (l.map h) k) : CM c none e tg l ρ k QL := by
  have := cm_map (c := c) (e := e) (tg := tg) (ρ := ρ) (k := k) (QL := QL) (fun x => x) h l hh hq
  rwa [List.map_id'] at this
theorem cn_D {e : E} {t : T} {tg : Tg} (p : D → Bool) (h : D → D) (l : List D) (hh : ∀ a ∈ l, OPQ (asg tg a ρ) fun ρ1 => VT c t ρ1 k fun b k1 => b = p a ∧ k1 = k ∧ (p a = true → VE c e ρ1 k fun d k2 => d = h a ∧ k2 = k)) (hq : QL ((l.filter p).map h) k) : CN c none e t tg l ρ k QL := by
  have := cn_map (c := c) (e := e) (t := t) (tg := tg) (ρ := ρ) (k := k) (QL := QL) (fun x => x) p h l hh hq
  rwa [List.map_id'] at this
theorem cm_rng {e : E} {tg : Tg} (a : Int) (n : Nat) (h : Int → D) (hh : ∀ i : Nat, i < n → OPQ (asg tg (.int (a + i)) ρ) fun ρ1 => VE c e ρ1 k fun d k1 => d = h (a + i) ∧ k1 = k) (hq : QL ((List.range n).map fun i : Nat => h (a + i)) k) : CM c none e tg (rngL a 1 n) ρ k QL := by
  have e : rngL a 1 n = (List.range n).map fun t : Nat => D.int (a + t) := by
    unfold rngL
    congr 1
    funext t
    simp
  rw [e]
  exact cm_map (fun t : Nat => D.int (a + t)) (fun i : Nat => h (a + i)) _ (fun i hi => hh i (List.mem_range.mp hi)) hq
theorem cn_rng {e : E} {t : T} {tg : Tg} (a : Int) (n : Nat) (p : Int → Bool) (h : Int → D) (hh : ∀ i : Nat, i < n → OPQ (asg tg (.int (a + i)) ρ) fun ρ1 => VT c t ρ1 k fun b k1 => b = p (a + i) ∧ k1 = k ∧ (p (a + i) = true → VE c e ρ1 k fun d k2 => d = h (a + i) ∧ k2 = k)) (hq : QL (((List.range n).filter fun i : Nat => p (a + i)).map fun i : Nat => h (a + i)) k) : CN c none e t tg (rngL a 1 n) ρ k QL := by
  have e : rngL a 1 n = (List.range n).map fun t : Nat => D.int (a + t) := by
    unfold rngL
    congr 1
    funext t
    simp
  rw [e]
  exact cn_map (fun t : Nat => D.int (a + t)) (fun i : Nat => p (a + i)) (fun i : Nat => h (a + i)) _ (fun i hi => hh i (List.mem_range.mp hi)) hq
/-- a comprehension whose items draw: I says what stands for the items that are left and those made -/
theorem cm_inv {e : E} {tg : Tg} {α : Type} (f : α → D) (I : List α → List D → Ky → Prop) : ∀ (l : List α) (k : Ky) (done : List D) (QL : List D → Ky → Prop), I l done k →
    (∀ a r done k, I (a :: r) done k → OPQ (asg tg (f a) ρ) fun ρ1 => VE c e ρ1 k fun d k1 => Hold (I r (done ++ [d]) k1)) → (∀ made k, I [] (done ++ made) k → QL made k) → CM c none e tg (l.map f) ρ k QL
  | [], k, done, QL, h, _, hq => by
    exact cm_of (ys := []) (k' := k) rfl (hq [] k (by rwa [List.append_nil]))
  | a :: l, k, done, QL, h, hs, hq => by
    obtain ⟨ρ1, e1, h1⟩ := opq_ex (hs a l done k h)
    obtain ⟨d, k1, e2, h2⟩ := ve_ex h1
    have ih := cm_inv f I l k1 (done ++ [d]) (fun made k => QL (d :: made) k) h2.get hs (fun made k hm => hq (d :: made) k (by rw [List.append_assoc] at hm; exact hm))
    obtain ⟨ys, k3, e3, h3⟩ := cm_ex ih
    exact cm_of (by simp only [List.map_cons, compW, okW, if_true, e1, e2, e3]) h3
theorem opq_take {rn : Rn} {ds : List Def} [Runs rn ds] {n : Nat} {f dr r : Nat} (hf : ds[f]? = some ⟨3, 3, bTake dr⟩) (hd : ds[dr]? = some ⟨3, 4, bDraw⟩) {row : List Int} (hr : row ≠ []) {m lim : Int} (hm : 0 ≤ m) (hl : 0 < lim) (hk : k[r]? = some (.lst [.int m])) {P : D × Ky → Prop} (h : ∀ v : Int, 0 ≤ v → v < lim → P (.int v, k.set r (.lst [.int (m + 1)]))) : OPQ (rn.go (n + 2) f [.lst (row.map .int), .ref r, .int lim] k) P := by
  obtain ⟨v, e, h0, h1⟩ := take_ok (rn := rn) (n := n) hf hd row hr m lim hm hl hk
  exact opq_of e (h v h0 h1)
end
end Mini
namespace Mini
open PySem PySem.Spec PyProof.Rows L2
/-! ### the checks -/
def bNeed : Ss := (.cons (.ite (.not (.val (.var 0))) (.cons .never .nil) .nil) .nil)
def bIsInt : Ss := (.cons (.ret (.and (.isi (.var 0) [0]) (.not (.isi (.var 0) [1])))) .nil)
def bWhole (i : Nat) : Ss := (.cons (.ret (.and (.call i (.cons (.var 0) .nil)) (.chain .le .le (.var 1) (.var 0) (.var 2)))) .nil)
def bWholeF (i : Nat) : Ss := (.cons (.ret (.and (.call i (.cons (.var 0) .nil)) (.cmp .ge (.var 0) (.var 1)))) .nil)
def bSeq : Ss := (.cons (.ret (.and (.isi (.var 0) [3, 4]) (.chain .le .le (.var 1) (.bi .len (.cons (.var 0) .nil)) (.var 2)))) .nil)
def bPair (q : Nat) : Ss := (.cons (.ret (.call q (.cons (.var 0) (.cons (.cst (.int 2)) (.cons (.cst (.int 2)) .nil))))) .nil)
def eRow (i : Nat) : E := (.call i (.cons (.var 2) (.cons (.var 3) (.cons (.var 4) .nil))))
def bRow (q i : Nat) : Ss := (.cons (.ite (.not (.val (.call q (.cons (.var 0) (.cons (.bi .len (.cons (.var 1) .nil)) (.cons (.bi .len (.cons (.var 1) .nil)) .nil)))))) (.cons (.ret (.cst (.bl false))) .nil) .nil) (.cons (.ret (.bi .all (.cons (.comp0 (eRow i) (.tup (.cons (.name 2) (.cons (.tup (.cons (.name 3) (.cons (.name 4) .nil))) .nil))) (.zip (.var 0) (.var 1)) [2, 3, 4]) .nil))) .nil))
def eRows (r : Nat) : E := (.call r (.cons (.var 4) (.cons (.var 3) .nil)))
def bRows (q r : Nat) : Ss := (.cons (.ite (.not (.val (.call q (.cons (.var 0) (.cons (.var 1) (.cons (.var 2) .nil)))))) (.cons (.ret (.cst (.bl false))) .nil) .nil) (.cons (.ret (.bi .all (.cons (.comp0 (eRows r) (.name 4) (.seq (.var 0)) [4]) .nil))) .nil))
def eRising : E := (.cmp .lt (.idx (.var 0) (.bin .sub (.var 1) (.cst (.int 1)))) (.idx (.var 0) (.var 1)))
def bRising : Ss := (.cons (.ret (.bi .all (.cons (.comp0 eRising (.name 1) (.rng (.cons (.cst (.int 1)) (.cons (.bi .len (.cons (.var 0) .nil)) .nil))) [1]) .nil))) .nil)
def bAnyFr (p i j : Nat) : Ss := (.cons (.ite (.or (.not (.val (.call p (.cons (.var 0) .nil)))) (.or (.not (.val (.call i (.cons (.idx (.var 0) (.cst (.int 0))) .nil)))) (.not (.val (.call j (.cons (.idx (.var 0) (.cst (.int 1))) (.cons (.cst (.int 1)) .nil))))))) (.cons (.ret (.cst (.bl false))) .nil) .nil) (.cons (.ret (.cmp .eq (.bi .gcd (.cons (.idx (.var 0) (.cst (.int 0))) (.cons (.idx (.var 0) (.cst (.int 1))) .nil))) (.cst (.int 1)))) .nil))
def bFrac (a i : Nat) : Ss := (.cons (.ite (.not (.val (.call a (.cons (.var 0) .nil)))) (.cons (.ret (.cst (.bl false))) .nil) .nil) (.cons (.ret (.and (.call i (.cons (.idx (.var 0) (.cst (.int 0))) (.cons (.neg (.cst (.int 1000000))) (.cons (.cst (.int 1000000)) .nil)))) (.cmp .le (.idx (.var 0) (.cst (.int 1))) (.cst (.int 1000000))))) .nil))
def eFrozen (f : Nat) : E := (.call f (.cons (.var 1) .nil))
def bFrozen (f : Nat) : Ss := (.cons (.ite (.val (.isi (.var 0) [3, 4])) (.cons (.ret (.bi .tuple (.cons (.comp0 (eFrozen f) (.name 1) (.seq (.var 0)) [1]) .nil))) .nil) .nil) (.cons (.ret (.var 0)) .nil))
def eWholes (i : Nat) : E := (.call i (.cons (.var 5) (.cons (.var 3) (.cons (.var 4) .nil))))
def bWholes (q i : Nat) : Ss := (.cons (.ite (.not (.val (.call q (.cons (.var 0) (.cons (.var 1) (.cons (.var 2) .nil)))))) (.cons (.ret (.cst (.bl false))) .nil) .nil) (.cons (.ret (.bi .all (.cons (.comp0 (eWholes i) (.name 5) (.seq (.var 0)) [5]) .nil))) .nil))
/-! ### the fractions -/
def bReduced : Ss := (.cons (.ite (.val (.cmp .lt (.var 1) (.cst (.int 0)))) (.cons (.par 0 1 (.neg (.var 0)) (.neg (.var 1))) .nil) .nil) (.cons (.set 2 (.bi .gcd (.cons (.var 0) (.cons (.var 1) .nil)))) (.cons (.ret (.tup (.cons (.bin .fdiv (.var 0) (.var 2)) (.cons (.bin .fdiv (.var 1) (.var 2)) .nil)))) .nil)))
def bFw : Ss := (.cons (.ret (.tup (.cons (.var 0) (.cons (.cst (.int 1)) .nil)))) .nil)
def bDiv (r : Nat) : Ss := (.cons (.ret (.call r (.cons (.bin .mul (.idx (.var 0) (.cst (.int 0))) (.idx (.var 1) (.cst (.int 1)))) (.cons (.bin .mul (.idx (.var 0) (.cst (.int 1))) (.idx (.var 1) (.cst (.int 0)))) .nil)))) .nil)
def bAtMost : Ss := (.cons (.ret (.cmp .le (.bin .mul (.idx (.var 0) (.cst (.int 0))) (.idx (.var 1) (.cst (.int 1)))) (.bin .mul (.idx (.var 1) (.cst (.int 0))) (.idx (.var 0) (.cst (.int 1)))))) .nil)
def bFmin (l : Nat) : Ss := (.cons (.ite (.val (.call l (.cons (.var 1) (.cons (.var 0) .nil)))) (.cons (.ret (.var 1)) .nil) .nil) (.cons (.ret (.var 0)) .nil))
def bFmax (l : Nat) : Ss := (.cons (.ite (.val (.call l (.cons (.var 0) (.cons (.var 1) .nil)))) (.cons (.ret (.var 1)) .nil) .nil) (.cons (.ret (.var 0)) .nil))
section
variable {rn : Rn} {w : Nat} {ds : List Def} [Runs rn ds] {n f : Nat} {k : Ky}
theorem x_need (hf : ds[f]? = some ⟨2, 2, bNeed⟩) (x : D) : rn.go (n + 1) f [.bl true, x] k = some (.non, k) := by
  refine run_wp hf rfl ?_
  simp [bNeed]
theorem x_int (hf : ds[f]? = some ⟨1, 1, bIsInt⟩) (i : Int) : rn.go (n + 1) f [.int i] k = some (.bl true, k) := by
  refine run_wp hf rfl ?_
  simp [bIsInt]
theorem x_whole {i : Nat} (hf : ds[f]? = some ⟨3, 3, bWhole i⟩) (hi : ds[i]? = some ⟨1, 1, bIsInt⟩) (v a b : Int) : rn.go (n + 2) f [.int v, .int a, .int b] k = some (.bl (decide (a ≤ v) && decide (v ≤ b)), k) := by
  refine run_wp hf rfl ?_
  simp [bWhole, x_int hi]
  by_cases h : a ≤ v <;> simp [h]
theorem x_wholeF {i : Nat} (hf : ds[f]? = some ⟨2, 2, bWholeF i⟩) (hi : ds[i]? = some ⟨1, 1, bIsInt⟩) (v a : Int) : rn.go (n + 2) f [.int v, .int a] k = some (.bl (decide (a ≤ v)), k) := by
  refine run_wp hf rfl ?_
  simp [bWholeF, x_int hi]
theorem x_seq (hf : ds[f]? = some ⟨3, 3, bSeq⟩) (es : List D) (a b : Int) : rn.go (n + 1) f [.tup es, .int a, .int b] k = some (.bl (decide (a ≤ es.length) && decide ((es.length : Int) ≤ b)), k) := by
  refine run_wp hf rfl ?_
  simp [bSeq]
  by_cases h : a ≤ es.length <;> simp [h]
theorem x_seqL (hf : ds[f]? = some ⟨3, 3, bSeq⟩) (es : List D) (a b : Int) : rn.go (n + 1) f [.lst es, .int a, .int b] k = some (.bl (decide (a ≤ es.length) && decide ((es.length : Int) ≤ b)), k) := by
  refine run_wp hf rfl ?_
  simp [bSeq]
  by_cases h : a ≤ es.length <;> simp [h]
theorem x_pair {q : Nat} (hf : ds[f]? = some ⟨1, 1, bPair q⟩) (hq : ds[q]? = some ⟨3, 3, bSeq⟩) (x y : D) : rn.go (n + 2) f [.tup [x, y]] k = some (.bl true, k) := by
  refine run_wp hf rfl ?_
  simp [bPair, x_seq hq]
def pairD (p : Int × Int) : D := .tup [.int p.1, .int p.2]
theorem zipL_map {α β : Type} (g : α → D) (h : β → D) : ∀ (l : List α) (m : List β), zipL (l.map g) (m.map h) = (l.zip m).map fun p => .tup [g p.1, h p.2]
  | [], _ => rfl
  | _ :: _, [] => rfl
  | a :: l, b :: m => by simp only [List.map_cons, zipL, List.zip_cons_cons, zipL_map g h l m]
theorem x_row {q i j : Nat} (hf : ds[f]? = some ⟨2, 5, bRow q i⟩) (hq : ds[q]? = some ⟨3, 3, bSeq⟩) (hi : ds[i]? = some ⟨3, 3, bWhole j⟩) (hj : ds[j]? = some ⟨1, 1, bIsInt⟩) (vs : List Int) (bs : List (Int × Int)) (hl : vs.length = bs.length) (hs : vs.length ≤ 1000) :
    rn.go (n + 3) f [.tup (vs.map .int), .tup (bs.map pairD)] k = some (.bl ((vs.zip bs).all fun p => decide (p.2.1 ≤ p.1) && decide (p.1 ≤ p.2.2)), k) := by
  refine run_wp hf rfl ?_
  simp [bRow, x_seq hq, hl, zipL_map, lineOk_of (show bs.length ≤ 16777216 by omega)]
  refine cm_map (fun p : Int × Int × Int => D.tup [.int p.1, pairD p.2]) (fun p => .bl (decide (p.2.1 ≤ p.1) && decide (p.1 ≤ p.2.2))) (vs.zip bs) (fun p hp => ?_) ?_
  · simp [pairD, eRow, x_whole hi hj]
  · simp [List.all_map]
theorem x_rows {q r i j : Nat} (hf : ds[f]? = some ⟨4, 5, bRows q r⟩) (hr : ds[r]? = some ⟨2, 5, bRow q i⟩) (hq : ds[q]? = some ⟨3, 3, bSeq⟩) (hi : ds[i]? = some ⟨3, 3, bWhole j⟩) (hj : ds[j]? = some ⟨1, 1, bIsInt⟩) {α : Type} (g : α → List Int) (l : List α) (a b : Int) (bs : List (Int × Int)) (hb : bs.length ≤ 1000) (hg : ∀ x ∈ l, (g x).length = bs.length)
    (h1 : a ≤ l.length) (h2 : (l.length : Int) ≤ b) (h3 : l.length ≤ 100000) (hok : ∀ x ∈ l, ((g x).zip bs).all (fun p => decide (p.2.1 ≤ p.1) && decide (p.1 ≤ p.2.2)) = true) :
    rn.go (n + 4) f [.tup (l.map fun x => .tup ((g x).map .int)), .int a, .int b, .tup (bs.map pairD)] k = some (.bl true, k) := by
  refine run_wp hf rfl ?_
  simp [bRows, x_seq hq, h1, h2, lineOk_of (show l.length ≤ 16777216 by omega)]
  refine cm_map (fun x => D.tup ((g x).map .int)) (fun x => .bl true) l (fun x hx => ?_) ?_
  · simp [eRows, x_row hr hq hi hj (g x) bs (hg x hx) (by rw [hg x hx]; omega)]
    simpa using hok x hx
  · simp
theorem x_rising (hf : ds[f]? = some ⟨1, 2, bRising⟩) (l : List Int) (hl : l.length ≤ 100000) (h : ∀ i (_ : i + 1 < l.length), l[i] < l[i + 1]) : rn.go (n + 1) f [.lst (l.map .int)] k = some (.bl true, k) := by
  refine run_wp hf rfl ?_
  have h62 : rng62 (l.length : Int) = true := rng62_of (by omega) (by omega)
  simp [bRising, h62, show rng62 1 = true from rfl, rngL, lineOk_of (show l.length - 1 ≤ 16777216 by omega)]
  refine cm_map (fun t : Nat => D.int (1 + (t : Int))) (fun _ => .bl true) _ (fun t ht => ?_) ?_
  · have ht' : t + 1 < l.length := by simp at ht; omega
    have e1 : atI (l.map D.int) (t : Int) = some (.int l[t]) := by rw [atI_nat]; simp [List.getElem?_eq_getElem (show t < l.length by omega)]
    have e2 : atI (l.map D.int) (1 + (t : Int)) = some (.int l[t + 1]) := by
      rw [show (1 + (t : Int)) = ((t + 1 : Nat) : Int) by omega, atI_nat]
      simp [List.getElem?_eq_getElem ht']
    have e3 : (1 + (t : Int) - 1) = t := by omega
    simp [eRising, e3, e1, e2, h t ht']
  · simp
theorem x_anyFr {p i j q : Nat} (hf : ds[f]? = some ⟨1, 1, bAnyFr p i j⟩) (hp : ds[p]? = some ⟨1, 1, bPair q⟩) (hq : ds[q]? = some ⟨3, 3, bSeq⟩) (hi : ds[i]? = some ⟨1, 1, bIsInt⟩) (hj : ds[j]? = some ⟨2, 2, bWholeF i⟩) (x : Rat) : rn.go (n + 3) f [ofR x] k = some (.bl true, k) := by
  refine run_wp hf rfl ?_
  have h1 := x.den_pos
  have h2 := x.reduced
  unfold Nat.Coprime at h2
  simp [bAnyFr, ofR, fr, x_pair hp hq, x_int hi, x_wholeF hj hi, show (1 : Int) ≤ (x.den : Int) by omega, h2]
theorem x_frac {a i p m j q : Nat} (hf : ds[f]? = some ⟨1, 1, bFrac a m⟩) (ha : ds[a]? = some ⟨1, 1, bAnyFr p i j⟩) (hm : ds[m]? = some ⟨3, 3, bWhole i⟩) (hp : ds[p]? = some ⟨1, 1, bPair q⟩) (hq : ds[q]? = some ⟨3, 3, bSeq⟩) (hi : ds[i]? = some ⟨1, 1, bIsInt⟩) (hj : ds[j]? = some ⟨2, 2, bWholeF i⟩) (x : Rat) (h1 : -1000000 ≤ x.num) (h2 : x.num ≤ 1000000) (h3 : x.den ≤ 1000000) : rn.go (n + 4) f [ofR x] k = some (.bl true, k) := by
  refine run_wp hf rfl ?_
  simp [bFrac, x_anyFr ha hp hq hi hj]
  simp [ofR, fr, x_whole hm hi, h1, h2, show (x.den : Int) ≤ 1000000 by omega]
/-- data that stand as they are, so deep at most -/
inductive FZ : Nat → D → Prop
  | int {m : Nat} (i : Int) : FZ (m + 1) (.int i)
  | non {m : Nat} : FZ (m + 1) .non
  | bl {m : Nat} (b : Bool) : FZ (m + 1) (.bl b)
  | str {m : Nat} (s : Str) : FZ (m + 1) (.str s)
  | tup {m : Nat} {es : List D} (hl : es.length ≤ 16777216) (h : ∀ d ∈ es, FZ m d) : FZ (m + 1) (.tup es)
theorem x_frozen (hf : ds[f]? = some ⟨1, 2, bFrozen f⟩) : ∀ {m : Nat} {d : D}, FZ m d → ∀ {n : Nat} {k : Ky}, rn.go (n + m) f [d] k = some (d, k) := by
  intro m d h
  induction h with
  | @int m i => intro n k; refine run_wp (n := n + m) hf rfl ?_; simp [bFrozen]
  | @non m => intro n k; refine run_wp (n := n + m) hf rfl ?_; simp [bFrozen]
  | @bl m i => intro n k; refine run_wp (n := n + m) hf rfl ?_; simp [bFrozen]
  | @str m i => intro n k; refine run_wp (n := n + m) hf rfl ?_; simp [bFrozen]
  | @tup m es hl h ih =>
    intro n k
    refine run_wp (n := n + m) hf rfl ?_
    simp [bFrozen, lineOk_of hl]
    refine cm_D (fun x => x) es (fun a ha => ?_) ?_
    · simp [eFrozen, ih a ha]
    · simp
theorem FZ.up {m : Nat} {d : D} (h : FZ m d) : FZ (m + 1) d := by
  induction h with
  | int i => exact .int i
  | non => exact .non
  | bl b => exact .bl b
  | str s => exact .str s
  | tup hl h ih => exact .tup hl ih
theorem FZ.fr {m : Nat} (x : Rat) : FZ (m + 2) (ofR x) := .tup (by simp) (by
  intro d hd
  simp at hd
  rcases hd with rfl | rfl
  · exact .int _
  · exact .int _)
theorem FZ.pair {m : Nat} (p : Int × Int) : FZ (m + 2) (pairD p) := .tup (by simp) (by
  intro d hd
  simp at hd
  rcases hd with rfl | rfl
  · exact .int _
  · exact .int _)
theorem FZ.map {m : Nat} {α : Type} {g : α → D} {l : List α} (hl : l.length ≤ 16777216) (h : ∀ a ∈ l, FZ m (g a)) : FZ (m + 1) (.tup (l.map g)) := .tup (by simpa using hl) (by
  intro d hd
  obtain ⟨a, ha, rfl⟩ := List.mem_map.mp hd
  exact h a ha)
theorem x_wholes {q i j : Nat} (hf : ds[f]? = some ⟨5, 6, bWholes q i⟩) (hq : ds[q]? = some ⟨3, 3, bSeq⟩) (hi : ds[i]? = some ⟨3, 3, bWhole j⟩) (hj : ds[j]? = some ⟨1, 1, bIsInt⟩) (l : List Int) (a b lo hi' : Int) (h1 : a ≤ l.length) (h2 : (l.length : Int) ≤ b) (h3 : l.length ≤ 100000) (hok : ∀ x ∈ l, lo ≤ x ∧ x ≤ hi') :
    rn.go (n + 3) f [.tup (l.map .int), .int a, .int b, .int lo, .int hi'] k = some (.bl true, k) := by
  refine run_wp hf rfl ?_
  simp [bWholes, x_seq hq, h1, h2, lineOk_of (show l.length ≤ 16777216 by omega)]
  refine cm_map (fun x => D.int x) (fun _ => .bl true) l (fun x hx => ?_) ?_
  · simp [eWholes, x_whole hi hj, hok x hx]
  · simp
theorem x_wholesL {q i j : Nat} (hf : ds[f]? = some ⟨5, 6, bWholes q i⟩) (hq : ds[q]? = some ⟨3, 3, bSeq⟩) (hi : ds[i]? = some ⟨3, 3, bWhole j⟩) (hj : ds[j]? = some ⟨1, 1, bIsInt⟩) (l : List Int) (a b lo hi' : Int) (h1 : a ≤ l.length) (h2 : (l.length : Int) ≤ b) (h3 : l.length ≤ 100000) (hok : ∀ x ∈ l, lo ≤ x ∧ x ≤ hi') :
    rn.go (n + 3) f [.lst (l.map .int), .int a, .int b, .int lo, .int hi'] k = some (.bl true, k) := by
  refine run_wp hf rfl ?_
  simp [bWholes, x_seqL hq, h1, h2, lineOk_of (show l.length ≤ 16777216 by omega)]
  refine cm_map (fun x => D.int x) (fun _ => .bl true) l (fun x hx => ?_) ?_
  · simp [eWholes, x_whole hi hj, hok x hx]
  · simp
/-! _law_so of equal data -/
theorem x_so (hf : ds[f]? = some ⟨2, 3, bSo f⟩) : ∀ {m : Nat} {d : D}, FZ m d → ∀ {n : Nat} {k : Ky}, rn.go (n + m) f [d, d] k = some (.bl true, k) := by
  intro m d h
  induction h with
  | @int m i => intro n k; refine run_wp (n := n + m) hf rfl ?_; simp [bSo]
  | @non m => intro n k; refine run_wp (n := n + m) hf rfl ?_; simp [bSo]
  | @bl m i => intro n k; refine run_wp (n := n + m) hf rfl ?_; simp [bSo]
  | @str m i => intro n k; refine run_wp (n := n + m) hf rfl ?_; simp [bSo]
  | @tup m es hl h ih =>
    intro n k
    refine run_wp (n := n + m) hf rfl ?_
    have h62 : rng62 (es.length : Int) = true := rng62_of (by omega) (by omega)
    simp [bSo, h62]
    refine fr_rng 0 es.length (fun i s => ∃ x, s = ⟨[some (.tup es), some (.tup es), x], [], k⟩) _ _ ⟨none, rfl⟩ ?_ ?_
    · rintro i _ hi ⟨x, rfl⟩
      have e1 : atI es (0 + (i : Int)) = some es[i] := by rw [Int.zero_add, atI_nat, List.getElem?_eq_getElem hi]
      have e2 := ih es[i] (List.getElem_mem hi) (n := n) (k := k)
      rw [Int.zero_add] at e1
      simp [bSoL, e1, e2]
      exact ⟨⟨_, rfl⟩⟩
    · rintro _ ⟨x, rfl⟩
      simp
/-! fractions -/
theorem x_reduced (hf : ds[f]? = some ⟨2, 3, bReduced⟩) : RedOk rn 1 f := by
  intro n k a d h hd
  rw [← rdc_norm]
  refine run_wp hf rfl ?_
  have h1 : ¬ (d : Int) < 0 := by omega
  have hgp : 0 < Nat.gcd a.natAbs d := Nat.gcd_pos_of_pos_right _ (by omega)
  have hgl : Nat.gcd a.natAbs d ≤ d := Nat.gcd_le_right _ (by omega)
  have h3 : divOk ((Nat.gcd a.natAbs d : Nat) : Int) = true := divOk_huge (by omega) (Nat.lt_of_le_of_lt (by rw [Int.natAbs_natCast]; exact hgl) hd)
  simp [bReduced, h1, h3, rdc, fr]
theorem x_fwhole (hf : ds[f]? = some ⟨1, 1, bFw⟩) (v : Int) : rn.go (n + 1) f [.int v] k = some (ofR v, k) := by
  refine run_wp hf rfl ?_
  simp [bFw, ofR, fr]
theorem x_atmost (hf : ds[f]? = some ⟨2, 2, bAtMost⟩) (x y : Rat) (hx : sm x) (hy : sm y) : rn.go (n + 1) f [ofR x, ofR y] k = some (.bl (decide (x ≤ y)), k) := by
  refine run_wp hf rfl ?_
  have e : decide (x ≤ y) = decide (x.num * (y.den : Int) ≤ y.num * (x.den : Int)) := decide_eq_decide.mpr (Rat.le_iff x y)
  simp [bAtMost, ofR, fr, (sm_mul hx hy).1, (sm_mul hy hx).1, e]
theorem x_fmin {l : Nat} (hf : ds[f]? = some ⟨2, 2, bFmin l⟩) (hl : ds[l]? = some ⟨2, 2, bLess⟩) (x y : Rat) (hx : sm x) (hy : sm y) : rn.go (n + 2) f [ofR x, ofR y] k = some (ofR (if y < x then y else x), k) := by
  refine run_wp hf rfl ?_
  simp [bFmin, less_ok hl y x hy hx]
  split <;> simp
theorem x_fmax {l : Nat} (hf : ds[f]? = some ⟨2, 2, bFmax l⟩) (hl : ds[l]? = some ⟨2, 2, bLess⟩) (x y : Rat) (hx : sm x) (hy : sm y) : rn.go (n + 2) f [ofR x, ofR y] k = some (ofR (if x < y then y else x), k) := by
  refine run_wp hf rfl ?_
  simp [bFmax, less_ok hl x y hx hy]
  split <;> simp
/-- no list within a fraction -/
@[simp] theorem noL_ofR (x : Rat) : noL (ofR x) = true := rfl
@[simp] theorem noL_pairD (x : Int × Int) : noL (pairD x) = true := rfl
@[simp] theorem isNon_ofR (x : Rat) : isNonD (ofR x) = false := rfl
/-! ### small fractions -/
theorem sm_int {i : Int} (h1 : -18446744073709551616 < i) (h2 : i < 18446744073709551616) : sm (i : Rat) := by
  have := sm_64
  exact ⟨by rw [Rat.num_intCast]; omega, by rw [Rat.den_intCast]; omega⟩
end
end Mini
namespace Mini
open PySem PySem.Spec PyProof.Rows L2
/-! ### fractions: quotients, sizes -/
theorem normalize_div (a : Int) (d : Nat) (h : d ≠ 0) : Rat.normalize a d h = (a : Rat) / (d : Rat) := by
  rw [Rat.normalize_eq_mkRat, Rat.mkRat_eq_div]
/-- a def that takes n, d ≠ 0 to lowest terms -/
def RdcOk (rn : Rn) (m r : Nat) : Prop := ∀ (n : Nat) (k : Ky) (a d : Int), d ≠ 0 → d.natAbs < HUGE → rn.go (n + m) r [.int a, .int d] k = some (ofR ((a : Rat) / (d : Rat)), k)
theorem div_neg_neg (a d : Int) : ((-a : Int) : Rat) / ((-d : Int) : Rat) = (a : Rat) / (d : Rat) := by
  rw [← Rat.divInt_eq_div, ← Rat.divInt_eq_div, Rat.neg_divInt_neg]
theorem rdc_law {rn : Rn} {ds : List Def} [Runs rn ds] {f g : Nat} (hf : ds[f]? = some ⟨2, 3, bRed f g⟩) (hg : ds[g]? = some ⟨2, 6, bGcd⟩) : RdcOk rn 3 f := by
  intro n k a d h h1
  by_cases hp : 0 < d
  · have e := red_ok hf hg (n + 1) k a d.toNat (by omega) (by rw [show d.toNat = d.natAbs by omega]; exact h1) (rn := rn)
    have ed : ((d.toNat : Nat) : Int) = d := by omega
    rw [ed, normalize_div] at e
    rw [show n + 3 = n + 1 + 2 by omega, e]
    have : ((d.toNat : Nat) : Rat) = (d : Rat) := by rw [← Rat.intCast_natCast, ed]
    rw [this]
  · have e := red_neg (rn := rn) (n := n) (k := k) hf hg a d (by omega) h1
    have ed : (((-d).toNat : Nat) : Int) = -d := by omega
    have e2 := rdc_norm (-a) (-d).toNat (by omega)
    rw [ed, normalize_div] at e2
    rw [e, e2]
    have : (((-d).toNat : Nat) : Rat) = ((-d : Int) : Rat) := by rw [← Rat.intCast_natCast, ed]
    rw [this, div_neg_neg]
theorem rdc_prog {rn : Rn} {ds : List Def} [Runs rn ds] {f : Nat} (hf : ds[f]? = some ⟨2, 3, bReduced⟩) : RdcOk rn 1 f := by
  intro n k a d h h1
  by_cases hp : 0 < d
  · have e := x_reduced hf n k a d.toNat (by omega) (by rw [show d.toNat = d.natAbs by omega]; exact h1) (rn := rn)
    have ed : ((d.toNat : Nat) : Int) = d := by omega
    rw [ed, normalize_div] at e
    rw [e]
    have : ((d.toNat : Nat) : Rat) = (d : Rat) := by rw [← Rat.intCast_natCast, ed]
    rw [this]
  · refine run_wp hf rfl ?_
    have hd : d < 0 := by omega
    have hgp : 0 < Nat.gcd a.natAbs d.natAbs := Nat.gcd_pos_of_pos_right _ (by omega)
    have hgl : Nat.gcd a.natAbs d.natAbs ≤ d.natAbs := Nat.gcd_le_right _ (by omega)
    have h3 : divOk ((Nat.gcd a.natAbs d.natAbs : Nat) : Int) = true := divOk_huge (by omega) (Nat.lt_of_le_of_lt (by rw [Int.natAbs_natCast]; exact hgl) h1)
    have ed : (((-d).toNat : Nat) : Int) = -d := by omega
    have e2 := rdc_norm (-a) (-d).toNat (by omega)
    rw [ed, normalize_div] at e2
    have e3 : (((-d).toNat : Nat) : Rat) = ((-d : Int) : Rat) := by rw [← Rat.intCast_natCast, ed]
    rw [e3, div_neg_neg] at e2
    rw [← e2]
    simp [bReduced, hd, h3, rdc, fr]
theorem div_den_dvd (a b : Int) (hb : b ≠ 0) : ((a : Rat) / (b : Rat)).den ∣ b.natAbs := by
  rw [← Rat.divInt_eq_div, Rat.den_divInt, if_neg hb]
  refine Nat.div_dvd_of_dvd ?_
  have := Int.gcd_dvd_left (a := b) (b := a)
  exact Int.ofNat_dvd_left.mp this
theorem add_den_dvd (x y : Rat) : (x + y).den ∣ x.den * y.den := by
  rw [Rat.den_add]
  exact Nat.div_dvd_of_dvd (Nat.gcd_dvd_right _ _)
theorem mul_den_dvd (x y : Rat) : (x * y).den ∣ x.den * y.den := by
  rw [Rat.den_mul]
  exact Nat.div_dvd_of_dvd (Nat.gcd_dvd_right _ _)
theorem sub_den_dvd (x y : Rat) : (x - y).den ∣ x.den * y.den := by
  have := add_den_dvd x (-y)
  rwa [← Rat.sub_eq_add_neg, Rat.neg_den] at this
theorem den_le {x : Rat} {m : Nat} (h : x.den ∣ m) (hm : 0 < m) : x.den ≤ m := Nat.le_of_dvd hm h
/-- bounded: value and denominator -/
structure Bd (A : Int) (M : Nat) (x : Rat) : Prop where
  lo : -(A : Rat) ≤ x
  hi : x ≤ (A : Int)
  den : x.den ≤ M
theorem Bd.num {A : Int} {M : Nat} {x : Rat} (h : Bd A M x) (hA : 0 ≤ A) : -(A * M) ≤ x.num ∧ x.num ≤ A * M := by
  have h1 := (Rat.le_iff _ _).mp h.hi
  have h2 := (Rat.le_iff _ _).mp (by rw [Rat.intCast_neg]; exact h.lo : ((-A : Int) : Rat) ≤ x)
  simp only [Rat.num_intCast, Rat.den_intCast] at h1 h2
  have h3 : (x.den : Int) ≤ M := by have := h.den; omega
  have h4 : A * (x.den : Int) ≤ A * M := Int.mul_le_mul_of_nonneg_left h3 hA
  have h5 : -A * (x.den : Int) = -(A * x.den) := by rw [Int.neg_mul]
  omega
theorem Bd.sm {A : Int} {M : Nat} {x : Rat} (h : Bd A M x) (hA : 0 ≤ A) (h1 : A * M < 18446744073709551616) (h2 : M < 18446744073709551616) : sm x := by
  have := h.num hA
  have := h.den
  have := sm_64
  exact ⟨by omega, by omega⟩
theorem Bd.mono {A A' : Int} {M M' : Nat} {x : Rat} (h : Bd A M x) (h1 : A ≤ A') (h2 : M ≤ M') : Bd A' M' x := by
  have a1 := Rat.intCast_le_intCast.mpr h1
  exact ⟨by have := h.lo; grind, Rat.le_trans h.hi a1, Nat.le_trans h.den h2⟩
theorem Bd.add {A B : Int} {M N : Nat} {x y : Rat} (h : Bd A M x) (g : Bd B N y) : Bd (A + B) (M * N) (x + y) := by
  refine ⟨?_, ?_, ?_⟩
  · have := h.lo; have := g.lo
    rw [Rat.intCast_add]
    grind
  · have := h.hi; have := g.hi
    rw [Rat.intCast_add]
    grind
  · exact Nat.le_trans (den_le (add_den_dvd x y) (Nat.mul_pos x.den_pos y.den_pos)) (Nat.mul_le_mul h.den g.den)
theorem Bd.neg {A : Int} {M : Nat} {x : Rat} (h : Bd A M x) : Bd A M (-x) := by
  refine ⟨?_, ?_, by rw [Rat.neg_den]; exact h.den⟩
  · have := h.hi
    grind
  · have := h.lo
    grind
theorem Bd.sub {A B : Int} {M N : Nat} {x y : Rat} (h : Bd A M x) (g : Bd B N y) : Bd (A + B) (M * N) (x - y) := by
  rw [Rat.sub_eq_add_neg]
  exact h.add g.neg
theorem Bd.int {A : Int} {i : Int} (h1 : -A ≤ i) (h2 : i ≤ A) : Bd A 1 (i : Rat) :=
  ⟨by rw [← Rat.intCast_neg]; exact Rat.intCast_le_intCast.mpr h1, Rat.intCast_le_intCast.mpr h2, by rw [Rat.den_intCast]; exact Nat.le_refl _⟩
theorem ofR_inj {x y : Rat} (h : ofR x = ofR y) : x = y := by
  simp only [ofR, fr, D.tup.injEq, List.cons.injEq, D.int.injEq, and_true] at h
  exact Rat.ext h.1 (by omega)
theorem ofR_ne {x y : Rat} (h : x ≠ y) : ofR x ≠ ofR y := fun e => h (ofR_inj e)
@[simp] theorem deref_ofR (k : Ky) (x : Rat) : deref k (ofR x) = ofR x := rfl
@[simp] theorem deref_fr (k : Ky) (a b : Int) : deref k (fr a b) = fr a b := rfl
@[simp] theorem deref_pairD (k : Ky) (p : Int × Int) : deref k (pairD p) = pairD p := rfl
theorem eqD_ofR (x y : Rat) : eqD (ofR x) (ofR y) = some (decide (x = y)) := by
  have h1 : (ofR x).fine 60 = true := rfl
  have h2 : (ofR y).fine 60 = true := rfl
  have : eqD (ofR x) (ofR y) = some (PyData.eqv (ofR x).py (ofR y).py) := by
    show (if (ofR x).fine 60 && (ofR y).fine 60 then some (PyData.eqv (ofR x).py (ofR y).py) else none) = _
    rw [h1, h2]; rfl
  rw [this]
  congr 1
  have e : PyData.eqv (ofR x).py (ofR y).py = ((x.num == y.num) && (((x.den : Int) == (y.den : Int)) && true)) := rfl
  rw [e]
  by_cases h : x = y
  · subst h; simp
  · have : ¬ (x.num = y.num ∧ (x.den : Int) = y.den) := fun ⟨a, b⟩ => h (Rat.ext a (by omega))
    simp [h]
    intro a b
    exact this ⟨a, by omega⟩
end Mini
namespace Mini.Win
/-! ### a line through knots, and where it is high -/
abbrev Kn := Int × Int
abbrev Sp := Rat × Rat
def hgt (a b : Kn) (x : Rat) : Rat := (a.2 : Rat) + (x - (a.1 : Rat)) * (((b.2 - a.2 : Int) : Rat) / ((b.1 - a.1 : Int) : Rat))
def crossR (a b : Kn) (c : Int) : Rat := (a.1 : Rat) + (((c - a.2) * (b.1 - a.1) : Int) : Rat) / ((b.2 - a.2 : Int) : Rat)
def partOf (a b : Kn) (c : Int) : Option Sp := if a.2 < c ∧ b.2 < c then none else some (if a.2 < c then crossR a b c else (a.1 : Rat), if b.2 < c then crossR a b c else (b.1 : Rat))
def push (S : List Sp) (o : Option Sp) : List Sp := match o with
  | none => S
  | some p => match S.getLast? with
    | some q => if q.2 = p.1 then S.dropLast ++ [(q.1, p.2)] else S ++ [p]
    | none => S ++ [p]
def spansTo (kn : Nat → Kn) (c : Int) : Nat → List Sp
  | 0 => []
  | i + 1 => push (spansTo kn c i) (partOf (kn i) (kn (i + 1)) c)
theorem push_none (S : List Sp) : push S none = S := rfl
theorem push_nil (p : Sp) : push [] (some p) = [p] := rfl
theorem push_cat (S : List Sp) (q p : Sp) : push (S ++ [q]) (some p) = if q.2 = p.1 then S ++ [(q.1, p.2)] else S ++ [q] ++ [p] := by
  simp [push]
theorem mul_div_eq {a b : Rat} (hb : b ≠ 0) : a / b * b = a := Rat.div_mul_cancel hb
theorem cast_pos {i : Int} (h : 0 < i) : (0 : Rat) < (i : Rat) := Rat.intCast_pos.mpr h
theorem cast_lt {i j : Int} (h : i < j) : (i : Rat) < (j : Rat) := Rat.intCast_lt_intCast.mpr h
theorem cast_le {i j : Int} (h : i ≤ j) : (i : Rat) ≤ (j : Rat) := Rat.intCast_le_intCast.mpr h
theorem le_div {a b x : Rat} (hb : 0 < b) : a / b ≤ x ↔ a ≤ x * b := by
  rw [← Rat.not_lt, ← Rat.not_lt, Rat.lt_div_iff hb]
theorem div_le {a b x : Rat} (hb : 0 < b) : x ≤ a / b ↔ x * b ≤ a := by
  rw [← Rat.not_lt, ← Rat.not_lt, Rat.div_lt_iff hb]
/-- the height, without a quotient -/
theorem hgt_ge {a b : Kn} (h : a.1 < b.1) (c : Int) (x : Rat) : (c : Rat) ≤ hgt a b x ↔ ((c : Rat) - a.2) * ((b.1 : Rat) - a.1) ≤ (x - a.1) * ((b.2 : Rat) - a.2) := by
  have hd : (0 : Rat) < (b.1 : Rat) - a.1 := by have := cast_lt h; grind
  have hd' : (b.1 : Rat) - a.1 ≠ 0 := by grind
  unfold hgt
  rw [Rat.intCast_sub, Rat.intCast_sub]
  have e : (x - (a.1 : Rat)) * (((b.2 : Rat) - a.2) / ((b.1 : Rat) - a.1)) * ((b.1 : Rat) - a.1) = (x - a.1) * ((b.2 : Rat) - a.2) := by
    rw [Rat.mul_assoc, mul_div_eq hd']
  generalize (x - (a.1 : Rat)) * (((b.2 : Rat) - a.2) / ((b.1 : Rat) - a.1)) = y at e ⊢
  rw [← e]
  constructor
  · intro hy
    exact Rat.mul_le_mul_of_nonneg_right (by grind) (by grind)
  · intro hy
    have := Rat.le_of_mul_le_mul_right hy hd
    grind
theorem cross_up {a b : Kn} {c : Int} (h : a.2 < b.2) (x : Rat) : crossR a b c ≤ x ↔ ((c : Rat) - a.2) * ((b.1 : Rat) - a.1) ≤ (x - a.1) * ((b.2 : Rat) - a.2) := by
  have hd : (0 : Rat) < (b.2 : Rat) - a.2 := by have := cast_lt h; grind
  unfold crossR
  rw [Rat.intCast_mul, Rat.intCast_sub, Rat.intCast_sub, Rat.intCast_sub]
  have := le_div (a := ((c : Rat) - a.2) * ((b.1 : Rat) - a.1)) (x := x - a.1) hd
  rw [← this]
  constructor <;> intro h <;> grind
theorem cross_dn {a b : Kn} {c : Int} (h : b.2 < a.2) (x : Rat) : x ≤ crossR a b c ↔ ((c : Rat) - a.2) * ((b.1 : Rat) - a.1) ≤ (x - a.1) * ((b.2 : Rat) - a.2) := by
  have hd : (0 : Rat) < (a.2 : Rat) - b.2 := by have := cast_lt h; grind
  unfold crossR
  rw [← div_neg_neg, Rat.intCast_neg, Rat.intCast_neg, Rat.intCast_mul, Rat.intCast_sub, Rat.intCast_sub, Rat.intCast_sub]
  have := div_le (a := -(((c : Rat) - a.2) * ((b.1 : Rat) - a.1))) (x := x - a.1) hd
  have e : -((b.2 : Rat) - a.2) = (a.2 : Rat) - b.2 := by grind
  rw [e]
  have e2 : (((c : Rat) - a.2) * ((b.1 : Rat) - a.1) ≤ (x - a.1) * ((b.2 : Rat) - a.2)) ↔ ((x - a.1) * ((a.2 : Rat) - b.2) ≤ -(((c : Rat) - a.2) * ((b.1 : Rat) - a.1))) := by
    constructor <;> intro h <;> grind
  rw [e2, ← this]
  constructor <;> intro h <;> grind
/-- all that is to be known of a part -/
theorem part_none {a b : Kn} {c : Int} (hab : a.1 < b.1) (h : partOf a b c = none) : a.2 < c ∧ b.2 < c ∧ ∀ x : Rat, (a.1 : Rat) ≤ x → x ≤ (b.1 : Rat) → ¬ (c : Rat) ≤ hgt a b x := by
  unfold partOf at h
  split at h
  · rename_i hc
    refine ⟨hc.1, hc.2, fun x h1 h2 h3 => ?_⟩
    rw [hgt_ge hab] at h3
    have p1 := cast_lt hc.1
    have p2 := cast_lt hc.2
    have p3 := cast_lt hab
    have q1 : 0 ≤ ((c : Rat) - a.2) * ((b.1 : Rat) - x) := Rat.mul_nonneg (by grind) (by grind)
    have q2 : 0 ≤ ((c : Rat) - b.2) * (x - a.1) := Rat.mul_nonneg (by grind) (by grind)
    -- the sum of both is positive
    have e : ((c : Rat) - a.2) * ((b.1 : Rat) - a.1) - (x - a.1) * ((b.2 : Rat) - a.2) = ((c : Rat) - a.2) * ((b.1 : Rat) - x) + ((c : Rat) - b.2) * (x - a.1) := by grind
    by_cases hx : x = b.1
    · have : 0 < ((c : Rat) - b.2) * (x - a.1) := Rat.mul_pos (by grind) (by grind)
      grind
    · have : 0 < ((c : Rat) - a.2) * ((b.1 : Rat) - x) := Rat.mul_pos (by grind) (by grind)
      grind
  · cases h
structure PartOk (a b : Kn) (c : Int) (p : Sp) : Prop where
  l1 : (a.1 : Rat) ≤ p.1
  l2 : p.1 ≤ p.2
  l3 : p.2 ≤ (b.1 : Rat)
  lo : c ≤ a.2 ↔ p.1 = (a.1 : Rat)
  hi : c ≤ b.2 ↔ p.2 = (b.1 : Rat)
  cov : ∀ x : Rat, (a.1 : Rat) ≤ x → x ≤ (b.1 : Rat) → ((c : Rat) ≤ hgt a b x ↔ p.1 ≤ x ∧ x ≤ p.2)
theorem part_some {a b : Kn} {c : Int} {p : Sp} (hab : a.1 < b.1) (h : partOf a b c = some p) : PartOk a b c p := by
  have p3 := cast_lt hab
  have d0 : (0 : Rat) < (b.1 : Rat) - a.1 := by grind
  unfold partOf at h
  split at h
  · cases h
  rename_i hc
  simp only [Option.some.injEq] at h
  subst h
  by_cases h1 : a.2 < c
  · have h2 : ¬ b.2 < c := fun h2 => hc ⟨h1, h2⟩
    simp only [h1, h2, if_true, if_false]
    have up : a.2 < b.2 := by omega
    have k1 := cast_lt h1
    have k2 : (c : Rat) ≤ b.2 := cast_le (by omega)
    have k3 := cast_lt up
    have c1 : (a.1 : Rat) < crossR a b c := by
      rw [← Rat.not_le, cross_up up]
      have : 0 < ((c : Rat) - a.2) * ((b.1 : Rat) - a.1) := Rat.mul_pos (by grind) d0
      grind
    have c2 : crossR a b c ≤ (b.1 : Rat) := by
      rw [cross_up up]
      have : ((c : Rat) - a.2) * ((b.1 : Rat) - a.1) ≤ ((b.2 : Rat) - a.2) * ((b.1 : Rat) - a.1) := Rat.mul_le_mul_of_nonneg_right (by grind) (by grind)
      grind
    refine ⟨Rat.le_of_lt c1, c2, Rat.le_refl, ⟨fun h => by omega, fun h => ?_⟩, ⟨fun _ => rfl, fun _ => by omega⟩, fun x h1 h2 => ?_⟩
    · simp only at h; rw [h] at c1; exact (Rat.lt_irrefl c1).elim
    · rw [hgt_ge hab, ← cross_up up]
      exact ⟨fun h => ⟨h, h2⟩, fun h => h.1⟩
  · by_cases h2 : b.2 < c
    · simp only [h1, h2, if_true, if_false]
      have dn : b.2 < a.2 := by omega
      have k1 : (c : Rat) ≤ a.2 := cast_le (by omega)
      have k2 := cast_lt h2
      have k3 := cast_lt dn
      have c1 : (a.1 : Rat) ≤ crossR a b c := by
        rw [cross_dn dn]
        have : 0 ≤ ((a.2 : Rat) - c) * ((b.1 : Rat) - a.1) := Rat.mul_nonneg (by grind) (by grind)
        grind
      have c2 : crossR a b c < (b.1 : Rat) := by
        rw [← Rat.not_le, cross_dn dn]
        have : 0 < ((c : Rat) - b.2) * ((b.1 : Rat) - a.1) := Rat.mul_pos (by grind) d0
        grind
      refine ⟨Rat.le_refl, c1, Rat.le_of_lt c2, ⟨fun _ => rfl, fun _ => by omega⟩, ⟨fun h => by omega, fun h => ?_⟩, fun x h1 h2 => ?_⟩
      · simp only at h; rw [h] at c2; exact (Rat.lt_irrefl c2).elim
      · rw [hgt_ge hab, ← cross_dn dn]
        exact ⟨fun h => ⟨h1, h⟩, fun h => h.2⟩
    · simp only [h1, h2, if_false]
      have k1 : (c : Rat) ≤ a.2 := cast_le (by omega)
      have k2 : (c : Rat) ≤ b.2 := cast_le (by omega)
      refine ⟨Rat.le_refl, Rat.le_of_lt p3, Rat.le_refl, ⟨fun _ => rfl, fun _ => by omega⟩, ⟨fun _ => rfl, fun _ => by omega⟩, fun x h1 h2 => ⟨fun _ => ⟨h1, h2⟩, fun _ => ?_⟩⟩
      rw [hgt_ge hab]
      have q1 : 0 ≤ ((a.2 : Rat) - c) * ((b.1 : Rat) - x) := Rat.mul_nonneg (by grind) (by grind)
      have q2 : 0 ≤ ((b.2 : Rat) - c) * (x - a.1) := Rat.mul_nonneg (by grind) (by grind)
      have e : (x - a.1) * ((b.2 : Rat) - a.2) - ((c : Rat) - a.2) * ((b.1 : Rat) - a.1) = ((a.2 : Rat) - c) * ((b.1 : Rat) - x) + ((b.2 : Rat) - c) * (x - a.1) := by grind
      grind
structure Inv (kn : Nat → Kn) (c : Int) (i : Nat) (S : List Sp) : Prop where
  rng : ∀ s ∈ S, s.1 ≤ s.2 ∧ ((kn 0).1 : Rat) ≤ s.1 ∧ s.2 ≤ ((kn i).1 : Rat)
  dis : S.Pairwise fun s t => s.2 < t.1
  cov : ∀ j, j < i → ∀ x : Rat, ((kn j).1 : Rat) ≤ x → x ≤ ((kn (j + 1)).1 : Rat) → ((c : Rat) ≤ hgt (kn j) (kn (j + 1)) x ↔ ∃ s ∈ S, s.1 ≤ x ∧ x ≤ s.2)
  top : 0 < i → (c ≤ (kn i).2 ↔ ∃ s ∈ S, s.2 = ((kn i).1 : Rat))
  e0 : i = 0 → S = []
theorem mono_kn {kn : Nat → Kn} {n : Nat} (hm : ∀ j, j < n → (kn j).1 < (kn (j + 1)).1) : ∀ (i j : Nat), i ≤ j → j ≤ n → ((kn i).1 : Rat) ≤ ((kn j).1 : Rat) := by
  intro i j hij hj
  refine cast_le ?_
  induction j with
  | zero => have : i = 0 := by omega
            subst this; exact Int.le_refl _
  | succ j ih =>
    by_cases h : i = j + 1
    · subst h; exact Int.le_refl _
    · have := ih (by omega) (by omega)
      have := hm j (by omega)
      omega
theorem inv_all {kn : Nat → Kn} {n : Nat} {c : Int} (hm : ∀ j, j < n → (kn j).1 < (kn (j + 1)).1) : ∀ i, i ≤ n → Inv kn c i (spansTo kn c i) := by
  intro i
  induction i with
  | zero =>
    intro _
    exact ⟨fun s h => by simp [spansTo] at h, List.Pairwise.nil, fun j h => by omega, fun h => by omega, fun _ => rfl⟩
  | succ i ih =>
    intro hi
    have I := ih (by omega)
    have hlt := hm i (by omega)
    have hltR := cast_lt hlt
    have m0 := mono_kn hm 0 i (by omega) (by omega)
    simp only [spansTo]
    generalize spansTo kn c i = S at I ⊢
    have top : ∀ s ∈ S, s.2 = ((kn i).1 : Rat) → c ≤ (kn i).2 := by
      intro s hs h
      by_cases h0 : 0 < i
      · exact (I.top h0).mpr ⟨s, hs, h⟩
      · rw [I.e0 (by omega)] at hs; cases hs
    cases hp : partOf (kn i) (kn (i + 1)) c with
    | none =>
      obtain ⟨a1, a2, a3⟩ := part_none hlt hp
      rw [push_none]
      have lo : ∀ s ∈ S, s.2 < ((kn i).1 : Rat) := by
        intro s hs
        rw [← Rat.not_le]
        intro h
        have := top s hs (Rat.le_antisymm (I.rng s hs).2.2 h)
        omega
      refine ⟨fun s hs => ?_, I.dis, fun j hj x h1 h2 => ?_, fun _ => ⟨fun h => by omega, fun ⟨s, hs, h⟩ => ?_⟩, fun h => by omega⟩
      · have := I.rng s hs
        exact ⟨this.1, this.2.1, by grind⟩
      · by_cases hji : j = i
        · subst hji
          refine ⟨fun h => (a3 x h1 h2 h).elim, fun ⟨s, hs, h3, h4⟩ => ?_⟩
          have := lo s hs
          grind
        · exact I.cov j (by omega) x h1 h2
      · have := lo s hs
        grind
    | some p =>
      have P := part_some hlt hp
      have P1 := P.l1
      have P2 := P.l2
      have P3 := P.l3
      rcases List.eq_nil_or_concat S with rfl | ⟨S0, q, rfl⟩
      · -- the first
        rw [push_nil]
        refine ⟨fun s hs => ?_, List.pairwise_singleton _ _, fun j hj x h1 h2 => ?_, fun _ => ⟨fun h => ⟨p, by simp, P.hi.mp h⟩, fun ⟨s, hs, h⟩ => ?_⟩, fun h => by omega⟩
        · simp only [List.mem_singleton] at hs
          subst hs
          exact ⟨P2, by grind, P3⟩
        · by_cases hji : j = i
          · subst hji
            rw [P.cov x h1 h2]
            exact ⟨fun h => ⟨p, by simp, h⟩, fun ⟨s, hs, h⟩ => by simp only [List.mem_singleton] at hs; subst hs; exact h⟩
          · have h0 := I.cov j (by omega) x h1 h2
            have hx : x ≤ ((kn i).1 : Rat) := Rat.le_trans h2 (mono_kn hm (j + 1) i (by omega) (by omega))
            refine ⟨fun h => (by obtain ⟨s, hs, _⟩ := h0.mp h; cases hs), fun ⟨s, hs, h3, h4⟩ => ?_⟩
            simp only [List.mem_singleton] at hs
            subst hs
            -- x is the knot: but there nothing ended
            have : c ≤ (kn i).2 := P.lo.mpr (Rat.le_antisymm (Rat.le_trans h3 hx) P1)
            obtain ⟨s', hs', _⟩ := (I.top (by omega)).mp this
            cases hs'
        · simp only [List.mem_singleton] at hs
          subst hs
          exact P.hi.mpr h
      · rw [List.concat_eq_append] at *
        rw [push_cat]
        have hq := I.rng q (by simp)
        have d0 := (List.pairwise_append.mp I.dis)
        have dq : ∀ s ∈ S0, s.2 < q.1 := fun s hs => d0.2.2 s hs q (by simp)
        by_cases hm2 : q.2 = p.1
        · rw [if_pos hm2]
          have e1 : q.2 = ((kn i).1 : Rat) := Rat.le_antisymm hq.2.2 (by rw [hm2]; exact P1)
          refine ⟨fun s hs => ?_, ?_, fun j hj x h1 h2 => ?_, fun _ => ⟨fun h => ⟨(q.1, p.2), by simp, P.hi.mp h⟩, fun ⟨s, hs, h⟩ => ?_⟩, fun h => by omega⟩
          · rcases List.mem_append.mp hs with hs | hs
            · have := I.rng s (by simp [hs])
              exact ⟨this.1, this.2.1, by grind⟩
            · simp only [List.mem_singleton] at hs
              subst hs
              exact ⟨by show q.1 ≤ p.2; grind, hq.2.1, P3⟩
          · rw [List.pairwise_append]
            refine ⟨d0.1, List.pairwise_singleton _ _, fun s hs t ht => ?_⟩
            simp only [List.mem_singleton] at ht
            subst ht
            exact dq s hs
          · by_cases hji : j = i
            · subst hji
              rw [P.cov x h1 h2]
              refine ⟨fun h => ⟨(q.1, p.2), by simp, by show q.1 ≤ x; grind, h.2⟩, fun ⟨s, hs, h3, h4⟩ => ?_⟩
              rcases List.mem_append.mp hs with hs | hs
              · have := dq s hs
                grind
              · simp only [List.mem_singleton] at hs
                subst hs
                exact ⟨by rw [← hm2, e1]; exact h1, h4⟩
            · rw [I.cov j (by omega) x h1 h2]
              have hx : x ≤ ((kn i).1 : Rat) := Rat.le_trans h2 (mono_kn hm (j + 1) i (by omega) (by omega))
              refine ⟨fun ⟨s, hs, h3, h4⟩ => ?_, fun ⟨s, hs, h3, h4⟩ => ?_⟩
              · rcases List.mem_append.mp hs with hs | hs
                · exact ⟨s, by simp [hs], h3, h4⟩
                · simp only [List.mem_singleton] at hs
                  subst hs
                  exact ⟨(s.1, p.2), by simp, h3, by show x ≤ p.2; grind⟩
              · rcases List.mem_append.mp hs with hs | hs
                · exact ⟨s, by simp [hs], h3, h4⟩
                · simp only [List.mem_singleton] at hs
                  subst hs
                  exact ⟨q, by simp, h3, by rw [e1]; exact hx⟩
          · rcases List.mem_append.mp hs with hs | hs
            · have := (I.rng s (by simp [hs])).2.2
              grind
            · simp only [List.mem_singleton] at hs
              subst hs
              exact P.hi.mpr h
        · rw [if_neg hm2]
          have lo : ∀ s ∈ S0 ++ [q], s.2 < p.1 := by
            intro s hs
            have r := (I.rng s hs).2.2
            rcases List.mem_append.mp hs with hs | hs
            · have := dq s hs
              grind
            · simp only [List.mem_singleton] at hs
              subst hs
              exact Rat.lt_of_le_of_ne (Rat.le_trans r P1) hm2
          have hi0 : 0 < i := by
            rcases Nat.eq_zero_or_pos i with h | h
            · have := I.e0 h; simp at this
            · exact h
          refine ⟨fun s hs => ?_, ?_, fun j hj x h1 h2 => ?_, fun _ => ⟨fun h => ⟨p, by simp, P.hi.mp h⟩, fun ⟨s, hs, h⟩ => ?_⟩, fun h => by omega⟩
          · rcases List.mem_append.mp hs with hs | hs
            · have := I.rng s hs
              exact ⟨this.1, this.2.1, by grind⟩
            · simp only [List.mem_singleton] at hs
              subst hs
              exact ⟨P2, by grind, P3⟩
          · rw [List.pairwise_append]
            refine ⟨I.dis, List.pairwise_singleton _ _, fun s hs t ht => ?_⟩
            simp only [List.mem_singleton] at ht
            subst ht
            exact lo s hs
          · by_cases hji : j = i
            · subst hji
              rw [P.cov x h1 h2]
              refine ⟨fun h => ⟨p, by simp, h⟩, fun ⟨s, hs, h3, h4⟩ => ?_⟩
              rcases List.mem_append.mp hs with hs | hs
              · have r := (I.rng s hs).2.2
                have e1 : s.2 = ((kn j).1 : Rat) := Rat.le_antisymm r (Rat.le_trans h1 h4)
                have e2 := P.lo.mp (top s hs e1)
                have := lo s hs
                grind
              · simp only [List.mem_singleton] at hs
                subst hs
                exact ⟨h3, h4⟩
            · rw [I.cov j (by omega) x h1 h2]
              have hx : x ≤ ((kn i).1 : Rat) := Rat.le_trans h2 (mono_kn hm (j + 1) i (by omega) (by omega))
              refine ⟨fun ⟨s, hs, h⟩ => ⟨s, by simp only [List.mem_append] at hs ⊢; exact .inl hs, h⟩, fun ⟨s, hs, h3, h4⟩ => ?_⟩
              rcases List.mem_append.mp hs with hs | hs
              · exact ⟨s, hs, h3, h4⟩
              · simp only [List.mem_singleton] at hs
                subst hs
                have e1 : s.1 = ((kn i).1 : Rat) := Rat.le_antisymm (Rat.le_trans h3 hx) P1
                obtain ⟨s', hs', h5⟩ := (I.top hi0).mp (P.lo.mpr e1)
                have := lo s' hs'
                grind
          · rcases List.mem_append.mp hs with hs | hs
            · have := (I.rng s hs).2.2
              grind
            · simp only [List.mem_singleton] at hs
              subst hs
              exact P.hi.mpr h
end Mini.Win
namespace Mini
open PySem PySem.Spec PyProof.Rows L2
/-! ### sizes by powers of two -/
structure pb (e : Nat) (x : Rat) : Prop where
  n : x.num.natAbs < 2 ^ e
  d : x.den < 2 ^ e
theorem pb.mono {e f : Nat} {x : Rat} (h : pb e x) (hf : e ≤ f) : pb f x := by
  have := Nat.pow_le_pow_right (n := 2) (by omega) hf
  exact ⟨Nat.lt_of_lt_of_le h.n this, Nat.lt_of_lt_of_le h.d this⟩
theorem pb.sm {e : Nat} {x : Rat} (h : pb e x) (he : e ≤ 2000) : sm x := by
  have := h.mono he
  exact ⟨this.n, this.d⟩
theorem natAbs_ediv_le (a b : Int) (hb : 0 ≤ b) : (a / b).natAbs ≤ a.natAbs + 0 ∨ b = 0 ∨ ¬ b ∣ a := by
  by_cases h0 : b = 0
  · exact .inr (.inl h0)
  · by_cases hd : b ∣ a
    · left
      obtain ⟨c, rfl⟩ := hd
      rw [Int.mul_ediv_cancel_left _ h0, Int.natAbs_mul]
      have : 1 ≤ b.natAbs := by omega
      have := Nat.mul_le_mul_right c.natAbs this
      omega
    · exact .inr (.inr hd)
theorem natAbs_div_dvd {a : Int} {g : Nat} (hg : g ≠ 0) (hd : (g : Int) ∣ a) : (a / (g : Int)).natAbs ≤ a.natAbs := by
  rcases natAbs_ediv_le a g (by omega) with h | h | h
  · omega
  · omega
  · exact (h hd).elim
theorem pb.norm {e : Nat} {a : Int} {d : Nat} (hd : d ≠ 0) (h1 : a.natAbs < 2 ^ e) (h2 : d < 2 ^ e) : pb e (Rat.normalize a d hd) := by
  have hg : Nat.gcd a.natAbs d ≠ 0 := Nat.pos_iff_ne_zero.mp (Nat.gcd_pos_of_pos_right _ (by omega))
  refine ⟨?_, ?_⟩
  · rw [Rat.num_normalize]
    refine Nat.lt_of_le_of_lt (natAbs_div_dvd hg ?_) h1
    exact Int.ofNat_dvd_left.mpr (Nat.gcd_dvd_left _ _)
  · rw [Rat.den_normalize]
    exact Nat.lt_of_le_of_lt (Nat.div_le_self _ _) h2
theorem pow_add_lt {a b c d e f : Nat} (h1 : a < 2 ^ e) (h2 : b < 2 ^ f) (h3 : c < 2 ^ f) (h4 : d < 2 ^ e) : a * b + c * d < 2 ^ (e + f + 1) := by
  have k1 : a * b < 2 ^ e * 2 ^ f := Nat.mul_lt_mul'' h1 h2
  have k2 : c * d < 2 ^ f * 2 ^ e := Nat.mul_lt_mul'' h3 h4
  rw [Nat.pow_succ, Nat.pow_add]
  have : (2 : Nat) ^ f * 2 ^ e = 2 ^ e * 2 ^ f := Nat.mul_comm _ _
  omega
theorem pb.add {e f : Nat} {x y : Rat} (h : pb e x) (g : pb f y) : pb (e + f + 1) (x + y) := by
  rw [Rat.add_def]
  have k1 : x.den * y.den < 2 ^ e * 2 ^ f := Nat.mul_lt_mul'' h.d g.d
  refine pb.norm _ ?_ ?_
  · refine Nat.lt_of_le_of_lt (Int.natAbs_add_le _ _) ?_
    rw [Int.natAbs_mul, Int.natAbs_mul, Int.natAbs_natCast, Int.natAbs_natCast]
    exact pow_add_lt h.n g.d g.n h.d
  · rw [Nat.pow_succ, Nat.pow_add]
    omega
theorem pb.neg {e : Nat} {x : Rat} (h : pb e x) : pb e (-x) := ⟨by rw [Rat.neg_num, Int.natAbs_neg]; exact h.n, by rw [Rat.neg_den]; exact h.d⟩
theorem pb.sub {e f : Nat} {x y : Rat} (h : pb e x) (g : pb f y) : pb (e + f + 1) (x - y) := by
  rw [Rat.sub_eq_add_neg]
  exact h.add g.neg
theorem pb.mul {e f : Nat} {x y : Rat} (h : pb e x) (g : pb f y) : pb (e + f) (x * y) := by
  rw [Rat.mul_def]
  refine pb.norm _ ?_ ?_
  · rw [Int.natAbs_mul, Nat.pow_add]
    exact Nat.mul_lt_mul'' h.n g.n
  · rw [Nat.pow_add]
    exact Nat.mul_lt_mul'' h.d g.d
theorem pb.int {e : Nat} {i : Int} (h : i.natAbs < 2 ^ e) (he : 1 ≤ e) : pb e (i : Rat) := by
  refine ⟨by rw [Rat.num_intCast]; exact h, ?_⟩
  rw [Rat.den_intCast]
  exact Nat.lt_of_lt_of_le (by decide : 1 < 2 ^ 1) (Nat.pow_le_pow_right (by omega) he)
theorem pb.div {e : Nat} {a d : Int} (h0 : d ≠ 0) (h1 : a.natAbs < 2 ^ e) (h2 : d.natAbs < 2 ^ e) : pb e ((a : Rat) / (d : Rat)) := by
  have key : ∀ (a : Int) (m : Nat), m ≠ 0 → a.natAbs < 2 ^ e → m < 2 ^ e → pb e ((a : Rat) / (m : Rat)) := by
    intro a m hm h1 h2
    rw [← normalize_div a m hm]
    exact pb.norm hm h1 h2
  by_cases hp : 0 < d
  · have e1 : ((d.toNat : Nat) : Rat) = (d : Rat) := by rw [← Rat.intCast_natCast]; congr 1; omega
    rw [← e1]
    exact key a d.toNat (by omega) h1 (by omega)
  · have e1 : (((-d).toNat : Nat) : Rat) = ((-d : Int) : Rat) := by rw [← Rat.intCast_natCast]; congr 1; omega
    rw [← div_neg_neg, ← e1]
    exact key (-a) (-d).toNat (by omega) (by omega) (by omega)
theorem frac_mul (y : Rat) (p q : Int) (hq : q ≠ 0) : ((y.num * p : Int) : Rat) / (((y.den : Int) * q : Int) : Rat) = y * ((p : Rat) / (q : Rat)) := by
  rw [← Rat.divInt_eq_div, ← Rat.divInt_eq_div]
  have := Rat.divInt_mul_divInt y.num p (d₁ := (y.den : Int)) (d₂ := q)
  rw [← this, Rat.num_divInt_den]
section
variable {k : Ky} {ρ : Rho}
@[simp] theorem ix_ofR0 (x : Rat) : idxSem k (ofR x) (.int 0) = some (.int x.num) := rfl
@[simp] theorem ix_ofR1 (x : Rat) : idxSem k (ofR x) (.int 1) = some (.int x.den) := rfl
@[simp] theorem ix_pair0 (p : Int × Int) : idxSem k (pairD p) (.int 0) = some (.int p.1) := rfl
@[simp] theorem ix_pair1 (p : Int × Int) : idxSem k (pairD p) (.int 1) = some (.int p.2) := rfl
def spR (p : Rat × Rat) : D := .tup [ofR p.1, ofR p.2]
@[simp] theorem deref_spR (k : Ky) (p : Rat × Rat) : deref k (spR p) = spR p := rfl
@[simp] theorem ix_sp0 (p : Rat × Rat) : idxSem k (spR p) (.int 0) = some (ofR p.1) := rfl
@[simp] theorem ix_sp1 (p : Rat × Rat) : idxSem k (spR p) (.int 1) = some (ofR p.2) := rfl
@[simp] theorem noL_spR (p : Rat × Rat) : noL (spR p) = true := rfl
@[simp] theorem isNon_spR (p : Rat × Rat) : isNonD (spR p) = false := rfl
@[simp] theorem isNon_pairD (p : Int × Int) : isNonD (pairD p) = false := rfl
@[simp] theorem asg_pairD (ts : Tgs) (p : Int × Int) : asg (.tup ts) (pairD p) ρ = asgs ts [.int p.1, .int p.2] ρ := by simp only [pairD, asg_tup]
@[simp] theorem asg_spR (ts : Tgs) (p : Rat × Rat) : asg (.tup ts) (spR p) ρ = asgs ts [ofR p.1, ofR p.2] ρ := by simp only [spR, asg_tup]
theorem noLs_mapf {α : Type} (f : α → D) (h : ∀ a, noL (f a) = true) (l : List α) : noLs (l.map f) = true := noLs_map h l
@[simp] theorem noLs_spR (l : List (Rat × Rat)) : noLs (l.map spR) = true := noLs_map noL_spR l
@[simp] theorem noLs_pairD (l : List (Int × Int)) : noLs (l.map pairD) = true := noLs_map noL_pairD l
@[simp] theorem noLs_ofR (l : List Rat) : noLs (l.map ofR) = true := noLs_map noL_ofR l
theorem eqD_bool {x y : D} {b : Bool} (h : eqD x y = some b) : eqD x y = some b := h
theorem ixN_neg1 (n : Nat) : L2.ixN (n + 1) (-1) = some n := by
  have h : ¬ (0 : Int) ≤ -1 := by decide
  have h2 : -((n + 1 : Nat) : Int) ≤ -1 := by omega
  unfold L2.ixN
  rw [if_neg h, if_pos h2]
  show some (-1 + ((n + 1 : Nat) : Int)).toNat = some n
  have e : (-1 + ((n + 1 : Nat) : Int)).toNat = n := by omega
  rw [e]
theorem set_last (l : List D) (x y : D) : (l ++ [x]).set l.length y = l ++ [y] := by
  rw [List.set_append_right _ _ (Nat.le_refl _)]
  simp
/-- the number in a slot -/
def sInt (ρ : Rho) (i : Nat) : Int := match slotv ρ i with
  | some (.int v) => v
  | _ => 0
@[simp] theorem sInt_succ (x : Option D) (i : Nat) : sInt (x :: ρ) (i + 1) = sInt ρ i := by simp [sInt]
@[simp] theorem sInt_zero (v : Int) : sInt (some (.int v) :: ρ) 0 = v := rfl
end
end Mini
namespace Mini.Win
/-! ### what follows from the windows -/
def firstFrom : List Sp → Rat → Option Rat
  | [], _ => none
  | s :: r, x => if x ≤ s.2 then some (if s.1 < x then x else s.1) else firstFrom r x
def lastTill : List Sp → Rat → Option Rat → Option Rat
  | [], _, f => f
  | s :: r, x, f => lastTill r x (if s.1 ≤ x then some (if x < s.2 then x else s.2) else f)
def inB (x : Rat) (s : Sp) : Bool := decide (s.1 ≤ x) && decide (x ≤ s.2)
theorem ff_ge : ∀ {S : List Sp} {x y : Rat}, firstFrom S x = some y → x ≤ y
  | [], x, y, h => by cases h
  | s :: r, x, y, h => by
    simp only [firstFrom] at h
    split at h
    · cases h
      split <;> grind
    · exact ff_ge h
theorem ff_none : ∀ {S : List Sp} {x : Rat}, firstFrom S x = none → ∀ s ∈ S, ¬ x ≤ s.2
  | [], x, h => fun s hs => by cases hs
  | s :: r, x, h => by
    simp only [firstFrom] at h
    split at h
    · cases h
    · intro t ht
      rcases List.mem_cons.mp ht with rfl | ht
      · assumption
      · exact ff_none h t ht
theorem ff_in : ∀ {S : List Sp} {x : Rat}, S.Pairwise (fun s t => s.2 < t.1) → (∃ s ∈ S, s.1 ≤ x ∧ x ≤ s.2) → firstFrom S x = some x
  | [], x, _, h => by obtain ⟨s, hs, _⟩ := h; cases hs
  | s :: r, x, d, h => by
    simp only [firstFrom]
    obtain ⟨t, ht, h1, h2⟩ := h
    rcases List.mem_cons.mp ht with rfl | ht
    · rw [if_pos h2]
      congr 1
      split <;> grind
    · have := (List.pairwise_cons.mp d).1 t ht
      rw [if_neg (by grind)]
      exact ff_in (List.pairwise_cons.mp d).2 ⟨t, ht, h1, h2⟩
theorem lt_le : ∀ {S : List Sp} {x y : Rat} {f : Option Rat}, (∀ z, f = some z → z ≤ x) → lastTill S x f = some y → y ≤ x
  | [], x, y, f, h0, h => h0 y h
  | s :: r, x, y, f, h0, h => by
    simp only [lastTill] at h
    refine lt_le (fun z hz => ?_) h
    split at hz
    · cases hz
      split <;> grind
    · exact h0 z hz
theorem lt_later : ∀ {S : List Sp} {x : Rat} {f : Option Rat}, (∀ s ∈ S, x < s.1) → lastTill S x f = f
  | [], x, f, _ => rfl
  | s :: r, x, f, h => by
    simp only [lastTill]
    have := h s List.mem_cons_self
    rw [if_neg (by grind)]
    exact lt_later fun t ht => h t (List.mem_cons_of_mem _ ht)
theorem lt_in : ∀ {S : List Sp} {x : Rat} {f : Option Rat}, S.Pairwise (fun s t => s.2 < t.1) → (∃ s ∈ S, s.1 ≤ x ∧ x ≤ s.2) → lastTill S x f = some x
  | [], x, f, _, h => by obtain ⟨s, hs, _⟩ := h; cases hs
  | s :: r, x, f, d, h => by
    simp only [lastTill]
    obtain ⟨t, ht, h1, h2⟩ := h
    rcases List.mem_cons.mp ht with rfl | ht
    · rw [if_pos h1, lt_later fun u hu => by have := (List.pairwise_cons.mp d).1 u hu; grind]
      congr 1
      split <;> grind
    · exact lt_in (List.pairwise_cons.mp d).2 ⟨t, ht, h1, h2⟩
theorem in_none {S : List Sp} {x : Rat} (h : ∀ s ∈ S, x < s.1) : S.filter (inB x) = [] := by
  rw [List.filter_eq_nil_iff]
  intro s hs
  have := h s hs
  simp only [inB, Bool.and_eq_true, decide_eq_true_eq]
  grind
theorem in_one : ∀ {S : List Sp} {x : Rat}, S.Pairwise (fun s t => s.2 < t.1) → (S.filter (inB x)).length ≤ 1
  | [], x, _ => by simp
  | s :: r, x, d => by
    obtain ⟨d1, d2⟩ := List.pairwise_cons.mp d
    rw [List.filter_cons]
    split
    · rename_i h
      simp only [inB, Bool.and_eq_true, decide_eq_true_eq] at h
      rw [in_none fun t ht => by have := d1 t ht; grind]
      simp
    · exact in_one d2
theorem in_pos {S : List Sp} {x : Rat} : 0 < (S.filter (inB x)).length ↔ ∃ s ∈ S, s.1 ≤ x ∧ x ≤ s.2 := by
  rw [List.length_pos_iff_exists_mem]
  constructor
  · rintro ⟨s, hs⟩
    rw [List.mem_filter] at hs
    simp only [inB, Bool.and_eq_true, decide_eq_true_eq] at hs
    exact ⟨s, hs⟩
  · rintro ⟨s, hs, h⟩
    exact ⟨s, List.mem_filter.mpr ⟨hs, by simp only [inB, Bool.and_eq_true, decide_eq_true_eq]; exact h⟩⟩
end Mini.Win
namespace Mini
open PySem PySem.Spec PyProof.Rows L2
/-! ### loops: the slots that a loop writes alone are told, the others stay -/
/-- what stands in the slots W -/
def pick (W : List Nat) (ρ : Rho) : List (Option D) := W.map fun i => (ρ[i]?).getD none
/-- ρ with vs in the slots W -/
def patch : List Nat → List (Option D) → Rho → Rho
  | i :: W, v :: vs, ρ => (patch W vs ρ).set i v
  | _, _, ρ => ρ
@[simp] theorem patch_nil (vs : List (Option D)) (ρ : Rho) : patch [] vs ρ = ρ := rfl
@[simp] theorem patch_nilv (W : List Nat) (ρ : Rho) : patch W [] ρ = ρ := by cases W <;> rfl
@[simp] theorem patch_cons (i : Nat) (W : List Nat) (v : Option D) (vs : List (Option D)) (ρ : Rho) : patch (i :: W) (v :: vs) ρ = (patch W vs ρ).set i v := rfl
section
variable {c : Call} {w : Nat} {ρ : Rho} {k : Ky}
theorem wp_of {ss : Ss} {s : Sta} {o : O} {Q : O → Prop} (h : evSs c w ss s = some o) (q : Q o) : WP c w ss s Q := by
  rw [WP_def]; unfold WPd; rw [OPQd_eq]; exact opq_of h q
theorem wp_mono {ss : Ss} {s : Sta} {Q Q' : O → Prop} (h : WP c w ss s Q) (hq : ∀ o, Q o → Q' o) : WP c w ss s Q' := by
  obtain ⟨o, e, q⟩ := wp_ex h
  exact wp_of e (hq o q)
theorem opq_monoL {α : Type} {o : Option α} {P P' : α → Prop} (h : OPQ o P) (hp : ∀ x, P x → P' x) : OPQ o P' := by
  obtain ⟨x, e, q⟩ := opq_ex h
  exact opq_of e (hp x q)
theorem ve_of {e : E} {d : D} {k' : Ky} {Q : D → Ky → Prop} (h : evE c e ρ k = some (d, k')) (q : Q d k') : VE c e ρ k Q := by
  rw [VE_def]; unfold VEd; rw [OPQd_eq]; exact opq_of h q
theorem ve_mono {e : E} {Q Q' : D → Ky → Prop} (h : VE c e ρ k Q) (hq : ∀ d k', Q d k' → Q' d k') : VE c e ρ k Q' := by
  obtain ⟨d, k', e1, q⟩ := ve_ex h
  exact ve_of e1 (hq d k' q)
theorem fr_mono {tg : Tg} {body : Ss} {ds : List D} {s : Sta} {Q Q' : O → Prop} (h : FR c w none tg body ds s Q) (hq : ∀ o, Q o → Q' o) : FR c w none tg body ds s Q' := by
  obtain ⟨o, e, q⟩ := fr_ex h
  exact fr_of e (hq o q)
/-- a loop over the items f a; W: the slots that are written -/
theorem fp_list {α : Type} {tg : Tg} {body : Ss} (W : List Nat) (f : α → D) (I : List α → List (Option D) → List Nat → Ky → Prop) (J : O → Prop) (l : List α) (mu : List Nat)
    (h0 : I l (pick W ρ) mu k)
    (hs : ∀ a r vs mu k, I (a :: r) vs mu k → OPQ (asg tg (f a) (patch W vs ρ)) fun ρ1 => WP c w body ⟨ρ1, tgMu tg mu, k⟩ (stp (fun s => s.ρ = patch W (pick W s.ρ) ρ ∧ I r (pick W s.ρ) s.mu s.k) J))
    (he : ∀ vs mu k, I [] vs mu k → J (.nx ⟨patch W vs ρ, mu, k⟩)) (hp : ρ = patch W (pick W ρ) ρ := by rfl) : FR c w none tg body (l.map f) ⟨ρ, mu, k⟩ J := by
  refine fr_list f (fun l s => s.ρ = patch W (pick W s.ρ) ρ ∧ I l (pick W s.ρ) s.mu s.k) J l ⟨ρ, mu, k⟩ ⟨hp, h0⟩ ?_ ?_
  · intro a r s h
    have := hs a r _ _ _ h.2
    rwa [← h.1] at this
  · intro s h
    have := he _ _ _ h.2
    rwa [← h.1] at this
theorem fp_D {tg : Tg} {body : Ss} (W : List Nat) (I : List D → List (Option D) → List Nat → Ky → Prop) (J : O → Prop) (l : List D) (mu : List Nat)
    (h0 : I l (pick W ρ) mu k)
    (hs : ∀ a r vs mu k, I (a :: r) vs mu k → OPQ (asg tg a (patch W vs ρ)) fun ρ1 => WP c w body ⟨ρ1, tgMu tg mu, k⟩ (stp (fun s => s.ρ = patch W (pick W s.ρ) ρ ∧ I r (pick W s.ρ) s.mu s.k) J))
    (he : ∀ vs mu k, I [] vs mu k → J (.nx ⟨patch W vs ρ, mu, k⟩)) (hp : ρ = patch W (pick W ρ) ρ := by rfl) : FR c w none tg body l ⟨ρ, mu, k⟩ J := by
  have := fp_list (c := c) (w := w) (tg := tg) (body := body) W (fun d : D => d) I J l mu h0 hs he hp
  rwa [List.map_id'] at this
/-- a loop over a range -/
theorem fp_rng {tg : Tg} {body : Ss} (W : List Nat) (I : Nat → List (Option D) → List Nat → Ky → Prop) (J : O → Prop) (a : Int) (n : Nat) (mu : List Nat)
    (h0 : I 0 (pick W ρ) mu k)
    (hs : ∀ (i : Nat) vs mu k, i < n → I i vs mu k → OPQ (asg tg (.int (a + i)) (patch W vs ρ)) fun ρ1 => WP c w body ⟨ρ1, tgMu tg mu, k⟩ (stp (fun s => s.ρ = patch W (pick W s.ρ) ρ ∧ I (i + 1) (pick W s.ρ) s.mu s.k) J))
    (he : ∀ vs mu k, I n vs mu k → J (.nx ⟨patch W vs ρ, mu, k⟩)) (hp : ρ = patch W (pick W ρ) ρ := by rfl) : FR c w none tg body (rngL a 1 n) ⟨ρ, mu, k⟩ J := by
  refine fr_rng a n (fun i s => s.ρ = patch W (pick W s.ρ) ρ ∧ I i (pick W s.ρ) s.mu s.k) J ⟨ρ, mu, k⟩ ⟨hp, h0⟩ ?_ ?_
  · intro i s hi h
    have := hs i _ _ _ hi h.2
    rwa [← h.1] at this
  · intro s h
    have := he _ _ _ h.2
    rwa [← h.1] at this
/-- a loop over the items f i of a list told by its places -/
theorem fp_at {α : Type} {tg : Tg} {body : Ss} (W : List Nat) (f : α → D) (I : Nat → List (Option D) → List Nat → Ky → Prop) (J : O → Prop) (l : List α) (mu : List Nat)
    (h0 : I 0 (pick W ρ) mu k)
    (hs : ∀ (i : Nat) (hi : i < l.length) vs mu k, I i vs mu k → OPQ (asg tg (f l[i]) (patch W vs ρ)) fun ρ1 => WP c w body ⟨ρ1, tgMu tg mu, k⟩ (stp (fun s => s.ρ = patch W (pick W s.ρ) ρ ∧ I (i + 1) (pick W s.ρ) s.mu s.k) J))
    (he : ∀ vs mu k, I l.length vs mu k → J (.nx ⟨patch W vs ρ, mu, k⟩)) (hp : ρ = patch W (pick W ρ) ρ := by rfl) : FR c w none tg body (l.map f) ⟨ρ, mu, k⟩ J := by
  refine fp_list W f (fun r vs mu k => ∃ i, i ≤ l.length ∧ r = l.drop i ∧ I i vs mu k) J l mu ⟨0, by omega, rfl, h0⟩ ?_ ?_ hp
  · rintro a r vs mu k ⟨i, hi, e, h⟩
    have hlt : i < l.length := by
      rcases Nat.lt_or_ge i l.length with h | h
      · exact h
      · rw [List.drop_of_length_le h] at e; cases e
    rw [List.drop_eq_getElem_cons hlt] at e
    injection e with e1 e2
    have H := hs i hlt vs mu k h
    subst e1
    obtain ⟨ρ1, e3, h1⟩ := opq_ex H
    refine opq_of e3 ?_
    obtain ⟨o, e4, h2⟩ := wp_ex h1
    refine wp_of e4 ?_
    cases o with
    | nx s =>
      simp only [stp_nx] at h2 ⊢
      exact ⟨h2.get.1, i + 1, by omega, e2, h2.get.2⟩
    | ct s =>
      simp only [stp_ct] at h2 ⊢
      exact ⟨h2.get.1, i + 1, by omega, e2, h2.get.2⟩
    | bk s => exact h2
    | rt d k => exact h2
  · rintro vs mu k ⟨i, hi, e, h⟩
    have : i = l.length := by
      have := congrArg List.length e
      simp at this
      omega
    subst this
    exact he _ _ _ h
end
section
variable {c : Call} {w : Nat} {ρ : Rho} {k : Ky} {s : Sta} {wt : Wch}
/-! ### walks over lists of the store -/
theorem fr_ofW {tg : Tg} {body : Ss} {ds : List D} {o : O} {QO : O → Prop} (h : forW wt tg (fun s => evSs c w body s) ds s = some o) (q : QO o) : FR c w wt tg body ds s QO := by
  rw [FR_def]; unfold FRd; rw [OPQd_eq]; exact opq_of h q
theorem fr_exW {tg : Tg} {body : Ss} {ds : List D} {QO : O → Prop} (h : FR c w wt tg body ds s QO) : ∃ o, forW wt tg (fun s => evSs c w body s) ds s = some o ∧ QO o := by
  rw [FR_def] at h; unfold FRd at h; rw [OPQd_eq] at h; exact opq_ex h
theorem fr_listW {α : Type} {tg : Tg} {body : Ss} (f : α → D) (I : List α → Sta → Prop) (J : O → Prop) (hw : ∀ l s, I l s → okW wt s.k = true) : ∀ (l : List α) (s : Sta), I l s →
    (∀ a r s, I (a :: r) s → OPQ (asg tg (f a) s.ρ) fun ρ => WP c w body ⟨ρ, tgMu tg s.mu, s.k⟩ (stp (I r) J)) →
    (∀ s, I [] s → J (.nx s)) → FR c w wt tg body (l.map f) s J
  | [], s, h, _, he => fr_ofW (by simp only [List.map_nil, forW, hw _ _ h, if_true]) (he s h)
  | a :: r, s, h, hs, he => by
    have e0 := hw _ _ h
    obtain ⟨ρ, e1, h1⟩ := opq_ex (hs a r s h)
    obtain ⟨o, e2, h2⟩ := wp_ex h1
    have ih := fun s' hs' => fr_exW (fr_listW f I J hw r s' hs' hs he)
    cases o with
    | nx s' =>
      obtain ⟨o', e3, h3⟩ := ih s' h2.get
      exact fr_ofW (by simp only [List.map_cons, forW, e0, if_true, e1, e2]; exact e3) h3
    | ct s' =>
      obtain ⟨o', e3, h3⟩ := ih s' h2.get
      exact fr_ofW (by simp only [List.map_cons, forW, e0, if_true, e1, e2]; exact e3) h3
    | bk s' => exact fr_ofW (by simp only [List.map_cons, forW, e0, if_true, e1, e2]) h2
    | rt d k => exact fr_ofW (by simp only [List.map_cons, forW, e0, if_true, e1, e2]) h2
theorem okW_of {r : Nat} {l : List D} (hl : beqDs l l = true) (h : lstK k r = some l) : okW (some (r, l)) k = true := by
  unfold lstK at h
  simp only [okW]
  cases e : k[r]? with
  | none => rw [e] at h; cases h
  | some o => cases o <;> rw [e] at h <;> cases h; exact hl
/-- a walk over a list of the store -/
theorem fp_ref {α : Type} {tg : Tg} {body : Ss} (W : List Nat) (f : α → D) (I : List α → List (Option D) → List Nat → Ky → Prop) (J : O → Prop) (l : List α) (mu : List Nat) {r : Nat}
    (hl : beqDs (l.map f) (l.map f) = true) (hw : ∀ x vs mu k, I x vs mu k → lstK k r = some (l.map f))
    (h0 : I l (pick W ρ) mu k)
    (hs : ∀ a r vs mu k, I (a :: r) vs mu k → OPQ (asg tg (f a) (patch W vs ρ)) fun ρ1 => WP c w body ⟨ρ1, tgMu tg mu, k⟩ (stp (fun s => s.ρ = patch W (pick W s.ρ) ρ ∧ I r (pick W s.ρ) s.mu s.k) J))
    (he : ∀ vs mu k, I [] vs mu k → J (.nx ⟨patch W vs ρ, mu, k⟩)) (hp : ρ = patch W (pick W ρ) ρ := by rfl) : FR c w (some (r, l.map f)) tg body (l.map f) ⟨ρ, mu, k⟩ J := by
  refine fr_listW f (fun l s => s.ρ = patch W (pick W s.ρ) ρ ∧ I l (pick W s.ρ) s.mu s.k) J (fun x s h => okW_of hl (hw _ _ _ _ h.2)) l ⟨ρ, mu, k⟩ ⟨hp, h0⟩ ?_ ?_
  · intro a r s h
    have := hs a r _ _ _ h.2
    rwa [← h.1] at this
  · intro s h
    have := he _ _ _ h.2
    rwa [← h.1] at this
end
theorem beqD_refl : (∀ a : D, beqD a a = true) ∧ ∀ a : List D, beqDs a a = true := by
  have key : ∀ a : D, beqD a a = true := by
    intro a
    exact D.rec (motive_1 := fun a => beqD a a = true) (motive_2 := fun a => beqDs a a = true)
      rfl (fun x => by simp [beqD]) (fun x => by simp [beqD]) (fun x => by simp [beqD]) (fun x ih => by simpa [beqD] using ih) (fun x ih => by simpa [beqD] using ih) (fun x ih => by simpa [beqD] using ih)
      (fun x => by simp [beqD]) rfl (fun x xs h1 h2 => by simp [beqDs, h1, h2]) a
  refine ⟨key, fun a => ?_⟩
  induction a with
  | nil => rfl
  | cons x xs ih => simp [beqDs, key, ih]
section
variable {c : Call} {w : Nat} {ρ : Rho} {k : Ky} {wt : Wch} {QL : List D → Ky → Prop}
theorem okW_eq {r : Nat} {l : List D} (h : lstK k r = some l) : okW (some (r, l)) k = true := okW_of (beqD_refl.2 l) h
theorem cm_ofW {e : E} {tg : Tg} {ds ys : List D} {k' : Ky} (h : compW wt (fun ρ k => evE c e ρ k) (fun _ k => some (true, k)) tg ρ ds k = some (ys, k')) (q : QL ys k') : CM c wt e tg ds ρ k QL := by
  rw [CM_def]; unfold CMd; rw [OPQd_eq]; exact opq_of h q
/-- a comprehension over a list of the store, which changes nothing -/
theorem cm_ref {e : E} {tg : Tg} {α : Type} {r : Nat} (f : α → D) (h : α → D) (l : List α) (hr : lstK k r = some (l.map f)) (hh : ∀ a ∈ l, OPQ (asg tg (f a) ρ) fun ρ1 => VE c e ρ1 k fun d k1 => d = h a ∧ k1 = k) (hq : QL (l.map h) k) : CM c (some (r, l.map f)) e tg (l.map f) ρ k QL := by
  have hw := okW_eq hr
  generalize some (r, l.map f) = wt at hw
  have : compW wt (fun ρ k => evE c e ρ k) (fun _ k => some (true, k)) tg ρ (l.map f) k = some (l.map h, k) := by
    clear hq hr
    induction l with
    | nil => simp only [List.map_nil, compW, hw, if_true]
    | cons a l ih =>
      obtain ⟨ρ1, e1, h1⟩ := opq_ex (hh a List.mem_cons_self)
      obtain ⟨d, k1, e2, h2, h3⟩ := ve_ex h1
      subst h2 h3
      simp only [List.map_cons, compW, hw, if_true, e1, e2, ih fun b hb => hh b (List.mem_cons_of_mem _ hb)]
  exact cm_ofW this hq
end
section
variable {rn : Rn} {ds : List Def} [Runs rn ds] {n f r : Nat} {k : Ky}
theorem x_seqR (hf : ds[f]? = some ⟨3, 3, bSeq⟩) {es : List D} (hr : lstK k r = some es) (a b : Int) : rn.go (n + 1) f [.ref r, .int a, .int b] k = some (.bl (decide (a ≤ es.length) && decide ((es.length : Int) ≤ b)), k) := by
  refine run_wp hf rfl ?_
  simp [bSeq, deref_ref hr]
  by_cases h : a ≤ es.length <;> simp [h]
theorem x_wholesR {q i j : Nat} (hf : ds[f]? = some ⟨5, 6, bWholes q i⟩) (hq : ds[q]? = some ⟨3, 3, bSeq⟩) (hi : ds[i]? = some ⟨3, 3, bWhole j⟩) (hj : ds[j]? = some ⟨1, 1, bIsInt⟩) (l : List Int) (hr : lstK k r = some (l.map .int)) (a b lo hi' : Int) (h1 : a ≤ l.length) (h2 : (l.length : Int) ≤ b) (h3 : l.length ≤ 100000) (hok : ∀ x ∈ l, lo ≤ x ∧ x ≤ hi') :
    rn.go (n + 3) f [.ref r, .int a, .int b, .int lo, .int hi'] k = some (.bl true, k) := by
  refine run_wp hf rfl ?_
  simp [bWholes, x_seqR hq hr, h1, h2, hr, lineOk_of (show l.length ≤ 16777216 by omega)]
  refine cm_ref (fun x => D.int x) (fun _ => .bl true) l hr (fun x hx => ?_) ?_
  · simp [eWholes, x_whole hi hj, hok x hx]
  · simp
theorem x_risingR (hf : ds[f]? = some ⟨1, 2, bRising⟩) (l : List Int) (hr : lstK k r = some (l.map .int)) (hl : l.length ≤ 100000) (h : ∀ i (_ : i + 1 < l.length), l[i] < l[i + 1]) : rn.go (n + 1) f [.ref r] k = some (.bl true, k) := by
  refine run_wp hf rfl ?_
  have h62 : rng62 (l.length : Int) = true := rng62_of (by omega) (by omega)
  simp [bRising, deref_ref hr, h62, show rng62 1 = true from rfl, rngL, lineOk_of (show l.length - 1 ≤ 16777216 by omega)]
  refine cm_map (fun t : Nat => D.int (1 + (t : Int))) (fun _ => .bl true) _ (fun t ht => ?_) ?_
  · have ht' : t + 1 < l.length := by simp at ht; omega
    have e1 : atI (l.map D.int) (t : Int) = some (.int l[t]) := by rw [atI_nat]; simp [List.getElem?_eq_getElem (show t < l.length by omega)]
    have e2 : atI (l.map D.int) (1 + (t : Int)) = some (.int l[t + 1]) := by
      rw [show (1 + (t : Int)) = ((t + 1 : Nat) : Int) by omega, atI_nat]
      simp [List.getElem?_eq_getElem ht']
    have e3 : (1 + (t : Int) - 1) = t := by omega
    simp [eRising, e3, hr, e1, e2, h t ht']
  · simp
theorem fin_ref (k l : Ky) {i : Nat} (h : k.length ≤ i) : fin k (some (.rt (.ref i) (k ++ l))) = some (.ref i, k ++ l) := by
  have : below k.length (.ref i) = false := by simp [below]; omega
  show endK k (.ref i) (k ++ l) = _
  unfold endK
  simp [this]
@[simp] theorem fin_ref' (k : Ky) (o : Ob) : fin k (some (.rt (.ref k.length) (k ++ [o]))) = some (.ref k.length, k ++ [o]) := fin_ref k [o] (Nat.le_refl _)
end
@[simp] theorem avI_revr (mu : List Nat) (a : Es) : avI mu (.revr a) = avEs mu a := by simp only [avI]
/-! ### drawing -/
def bPick (t : Nat) : Ss := (.cons (.ret (.idx (.var 2) (.call t (.cons (.var 0) (.cons (.var 1) (.cons (.bi .len (.cons (.var 2) .nil)) .nil)))))) .nil)
/-- the store with the counter alone -/
abbrev sp (m : Int) : Ky := [.lst [.int m]]
section
variable {rn : Rn} {ds : List Def} [Runs rn ds] {n : Nat} {row : List Int} {m : Int}
theorem opq_draw {f dr : Nat} (hf : ds[f]? = some ⟨3, 3, bTake dr⟩) (hd : ds[dr]? = some ⟨3, 4, bDraw⟩) (hr : row ≠ []) (hm : 0 ≤ m) {lim : Int} (hl : 0 < lim) {P : D × Ky → Prop} (h : ∀ v : Int, 0 ≤ v → v < lim → P (.int v, sp (m + 1))) : OPQ (rn.go (n + 2) f [.lst (row.map .int), .ref 0, .int lim] (sp m)) P :=
  opq_take (k := sp m) hf hd hr hm hl rfl h
theorem opq_pick {p f dr : Nat} (hp : ds[p]? = some ⟨3, 3, bPick f⟩) (hf : ds[f]? = some ⟨3, 3, bTake dr⟩) (hd : ds[dr]? = some ⟨3, 4, bDraw⟩) (hr : row ≠ []) (hm : 0 ≤ m) {l : List D} (hl : 0 < l.length) {P : D × Ky → Prop} (h : ∀ x ∈ l, P (x, sp (m + 1))) : OPQ (rn.go (n + 3) p [.lst (row.map .int), .ref 0, .lst l] (sp m)) P := by
  refine opq_monoL (run_wpE (P := fun x k => P (x, k)) hp rfl ?_) fun x h => h
  simp [bPick]
  refine opq_draw (n := n) hf hd hr hm (lim := l.length) (by omega) fun v h0 h1 => ?_
  obtain ⟨x, hx, hmem⟩ := atI_in (xs := l) h0 h1
  simp [hx]
  exact h x hmem
end
end Mini
namespace Mini
open PySem PySem.Spec PyProof.Rows L2
open PySem.W (alike alikeAll dataLt keyToksAll)
/-! ### order of data: the keys of a type, told by f -/
/-- f tells a key; lt is its order, == its equality -/
structure Kd {α : Type} (d : Nat) (f : α → D) (lt : α → α → Bool) (eq : α → α → Bool) : Prop where
  fine : ∀ n a, d ≤ n → (f a).fine n = true
  al : ∀ a b, alike (f a).py (f b).py = true
  lt : ∀ a b, dataLt (f a).py (f b).py = lt a b
  eq : ∀ a b, PyData.eqv (f a).py (f b).py = eq a b
/-- the same of the parts of a tuple -/
structure Kl {α : Type} (d : Nat) (F : α → List D) (lt : α → α → Bool) (eq : α → α → Bool) : Prop where
  fine : ∀ n a, d ≤ n → D.fines n (F a) = true
  al : ∀ a b, alikeAll (D.pys (F a)) (D.pys (F b)) = true
  lt : ∀ a b, PyProof.Rows.lexLt PyProof.Rows.itemOrd (keyToksAll (D.pys (F a))) (keyToksAll (D.pys (F b))) = lt a b
  eq : ∀ a b, PyData.eqvAll (D.pys (F a)) (D.pys (F b)) = eq a b
theorem kInt : Kd 0 D.int (fun a b => decide (a < b)) (fun a b => decide (a = b)) :=
  ⟨fun n a _ => by cases n <;> rfl, fun a b => rfl, fun a b => PySem.W.dataLt_int a b, fun a b => by simp only [D.py, PyData.eqv]; first | rfl | exact (Bool.beq_eq_decide_eq a b)⟩
theorem kNil {α : Type} : Kl 0 (fun _ : α => []) (fun _ _ => false) (fun _ _ => true) :=
  ⟨fun n a _ => by cases n <;> rfl, fun a b => rfl, fun a b => by simp only [D.pys]; exact PyProof.Rows.lex_irrefl (O := PyProof.Rows.itemOrd) _, fun a b => rfl⟩
theorem lex_all {x y : PyData} {xs ys : List PyData} (h : alike x y = true) : PyProof.Rows.lexLt PyProof.Rows.itemOrd (keyToksAll (x :: xs)) (keyToksAll (y :: ys)) = if PyData.eqv x y = true then PyProof.Rows.lexLt PyProof.Rows.itemOrd (keyToksAll xs) (keyToksAll ys) else dataLt x y := by
  cases e : PyData.eqv x y with
  | true => rw [if_pos rfl]; exact PySem.W.dataLt_all_yes h e
  | false => rw [if_neg (by simp)]; exact PySem.W.dataLt_all_no h e
theorem kCons {α : Type} {d e : Nat} {f : α → D} {F : α → List D} {lt eq lt' eq' : α → α → Bool} (h : Kd d f lt eq) (g : Kl e F lt' eq') : Kl (max d e) (fun a => f a :: F a) (fun a b => if eq a b = true then lt' a b else lt a b) (fun a b => eq a b && eq' a b) where
  fine := fun n a hn => by simp only [D.fines, h.fine n a (by omega), g.fine n a (by omega), Bool.and_self]
  al := fun a b => by simp only [D.pys, alikeAll, h.al, g.al, Bool.and_self]
  lt := fun a b => by simp only [D.pys]; rw [lex_all (h.al a b), g.lt, h.lt, h.eq]
  eq := fun a b => by simp only [D.pys]; rw [PySem.W.eqv_all_cons, h.eq, g.eq]
theorem kTup {α : Type} {d : Nat} {F : α → List D} {lt eq : α → α → Bool} (g : Kl d F lt eq) : Kd (d + 1) (fun a => .tup (F a)) lt eq where
  fine := fun n a hn => by cases n with
    | zero => omega
    | succ n => simp only [D.fine]; exact g.fine n a (by omega)
  al := fun a b => by simp only [D.py, alike, g.al]
  lt := fun a b => by simp only [D.py]; rw [PySem.W.dataLt_tuple, g.lt]
  eq := fun a b => by simp only [D.py, PyData.eqv]; exact g.eq a b
/-- keys of another type -/
theorem Kd.comp {α β : Type} {d : Nat} {f : α → D} {lt eq : α → α → Bool} (h : Kd d f lt eq) (g : β → α) : Kd d (fun b => f (g b)) (fun a b => lt (g a) (g b)) (fun a b => eq (g a) (g b)) :=
  ⟨fun n a hn => h.fine n _ hn, fun a b => h.al _ _, fun a b => h.lt _ _, fun a b => h.eq _ _⟩
/-- the order of lists -/
def ltLs {α : Type} (lt eq : α → α → Bool) : List α → List α → Bool
  | [], [] => false
  | [], _ :: _ => true
  | _ :: _, [] => false
  | a :: r, b :: s => if eq a b = true then ltLs lt eq r s else lt a b
def eqLs {α : Type} (eq : α → α → Bool) : List α → List α → Bool
  | [], [] => true
  | [], _ :: _ => false
  | _ :: _, [] => false
  | a :: r, b :: s => eq a b && eqLs eq r s
theorem kList {α : Type} {d : Nat} {f : α → D} {lt eq : α → α → Bool} (h : Kd d f lt eq) : Kl d (fun l : List α => l.map f) (ltLs lt eq) (eqLs eq) := by
  refine ⟨fun n l hn => ?_, fun l => ?_, fun l => ?_, fun l => ?_⟩
  · induction l with
    | nil => cases n <;> rfl
    | cons a l ih => simp only [List.map_cons, D.fines, h.fine n a hn, ih, Bool.and_self]
  · induction l with
    | nil => intro b; cases b <;> rfl
    | cons a l ih =>
      intro b
      cases b with
      | nil => rfl
      | cons b m => simp only [List.map_cons, D.pys, alikeAll, h.al, ih, Bool.and_self]
  · induction l with
    | nil =>
      intro b
      cases b with
      | nil => exact PyProof.Rows.lex_irrefl (O := PyProof.Rows.itemOrd) _
      | cons b m =>
        simp only [List.map_nil, List.map_cons, D.pys, keyToksAll, ltLs]
        rw [PyProof.Rows.lex_diff (O := PyProof.Rows.itemOrd) (by simp)]
        rfl
    | cons a l ih =>
      intro b
      cases b with
      | nil =>
        simp only [List.map_nil, List.map_cons, D.pys, keyToksAll, ltLs]
        rw [PyProof.Rows.lex_diff (O := PyProof.Rows.itemOrd) (by simp)]
        rfl
      | cons b m =>
        simp only [List.map_cons, D.pys, ltLs]
        rw [lex_all (h.al a b), ih, h.lt, h.eq]
  · induction l with
    | nil => intro b; cases b <;> rfl
    | cons a l ih =>
      intro b
      cases b with
      | nil => rfl
      | cons b m => simp only [List.map_cons, D.pys, eqLs]; rw [PySem.W.eqv_all_cons, h.eq, ih]
theorem eqLs_int (a b : List Int) : eqLs (fun a b : Int => decide (a = b)) a b = decide (a = b) := by
  induction a generalizing b with
  | nil => cases b <;> simp [eqLs]
  | cons x a ih => cases b with
    | nil => simp [eqLs]
    | cons y b => simp [eqLs, ih]
theorem kInts : Kd 1 (fun l : List Int => .tup (l.map .int)) (ltLs (fun a b : Int => decide (a < b)) (fun a b : Int => decide (a = b))) (fun a b => decide (a = b)) := by
  have h := kTup (kList kInt)
  exact ⟨h.fine, h.al, h.lt, fun a b => by rw [h.eq, eqLs_int]⟩
section
variable {α : Type} {d : Nat} {f : α → D} {lt eq : α → α → Bool}
theorem Kd.notN (h : Kd d f lt eq) {a : α} (hn : isNonD (f a) = false) : notNon (f a) = true := by
  cases e : f a <;> simp [notNon] <;> rw [e] at hn <;> simp [isNonD] at hn
theorem co_ltT (h : Kd d f lt eq) (hd : d ≤ 60) {a b : α} {xs ys : List D} (ha : f a = .tup xs) (hb : f b = .tup ys) : coSem .lt (.tup xs) (.tup ys) = some (lt a b) := by
  have e := h.lt a b
  have e1 := h.al a b
  have e2 := h.fine 60 a hd
  have e3 := h.fine 60 b hd
  rw [ha, hb] at e e1
  rw [ha] at e2
  rw [hb] at e3
  simp only [coSem, e1, e2, e3, notNon, Bool.and_self, if_true, e]
theorem eqD_kd (h : Kd d f lt eq) (hd : d ≤ 60) {a b : α} {xs ys : List D} (ha : f a = .tup xs) (hb : f b = .tup ys) : eqD (.tup xs) (.tup ys) = some (eq a b) := by
  have e := h.eq a b
  have e2 := h.fine 60 a hd
  have e3 := h.fine 60 b hd
  rw [ha, hb] at e
  rw [ha] at e2
  rw [hb] at e3
  simp only [eqD, e2, e3, Bool.and_self, if_true, e]
end
theorem cutD_from (xs : List D) (j : Nat) : cutD xs (some (j : Int)) none = xs.drop j := by
  unfold cutD
  rw [HT.sIx_none, HT.sIx_nat, List.take_of_length_le (by rw [List.length_drop]; omega)]
  rcases Nat.le_total j xs.length with h | h
  · rw [Nat.min_eq_left h]
  · rw [Nat.min_eq_right h, List.drop_of_length_le h, List.drop_length]
theorem cutD_to (xs : List D) (j : Nat) : cutD xs none (some (j : Int)) = xs.take j := by
  unfold cutD
  rw [HT.sIx_nat, HT.sIx_none, List.drop_zero, Nat.sub_zero]
  rcases Nat.le_total j xs.length with h | h
  · rw [Nat.min_eq_left h]
  · rw [Nat.min_eq_right h, List.take_of_length_le h, List.take_length]
theorem cutD_1 (xs : List D) : cutD xs (some 1) none = xs.tail := by
  have := cutD_from xs 1
  rw [List.drop_one] at this
  exact this
end Mini
namespace Mini
open PySem PySem.Spec PyProof.Rows L2
/-! ### the head, by one run in the kernel: where the defs stand, the constants, the built-ins -/
def obsM (bs : List (Str × String)) (fa : List He.Fa) (fn : List He.DefD) (K : PySem.W.Frag) : Bool × He.AlD := (bs.all fun p => He.eqO (PySem.W.nsIn K mainGlobals p.1) (some (some (.builtin p.2))), He.obsD fa fn K)
/-- what is looked at: the globals, the defs' objects, their codes -/
def asM (fn : List He.DefD) (g : Addr → Option Obj) : List Addr := mainGlobals :: fn.flatMap fun d => He.ga (He.frG g [mainGlobals]) d.name :: (match g (He.ga (He.frG g [mainGlobals]) d.name) with
  | some ⟨_, _, .func fd, _⟩ => He.refV fd.code
  | _ => [])
def hookM (bs : List (Str × String)) (fa : List He.Fa) (fn : List He.DefD) : PySem.W.Hook where
  α := Bool × He.AlD
  obs := fun s => obsM bs fa fn (He.frG s.heap.get? (asM fn s.heap.get?))
  val := fun _ => (true, He.valD fn)
  says := fun _ h => ∃ K : PySem.W.Frag, K.In h ∧ obsM bs fa fn K = (true, He.valD fn)
  of := fun _ _ e => ⟨_, He.frG_in, e⟩
  keeps := fun _ _ _ ⟨K, hK, c⟩ k => ⟨K, PySem.W.Frag.In.keeps hK k, c⟩
def obsMG (bs : List (Str × String)) (fa : List He.Fa) (fn : List He.DefD) (g : Addr → Option Obj) : Bool × He.AlD := obsM bs fa fn (He.frG g (asM fn g))
theorem obsMG_eq {bs : List (Str × String)} {fa : List He.Fa} {fn : List He.DefD} {g : Addr → Option Obj} {s : Shared} (h : ∀ a, g a = s.heap.get? a) : obsMG bs fa fn g = (hookM bs fa fn).obs s := by
  have e : g = s.heap.get? := funext h
  rw [e]
  rfl
theorem obsM_bs {bs : List (Str × String)} {fa : List He.Fa} {fn : List He.DefD} {K : PySem.W.Frag} (c : obsM bs fa fn K = (true, He.valD fn)) : ∀ p ∈ bs, PySem.W.nsIn K mainGlobals p.1 = some (some (.builtin p.2)) := fun p hp =>
  He.eqO_ok (List.all_eq_true.mp (congrArg (fun z : Bool × He.AlD => z.1) c) p hp)
theorem obsM_says {bs : List (Str × String)} {fa : List He.Fa} {fn : List He.DefD} {K : PySem.W.Frag} (c : obsM bs fa fn K = (true, He.valD fn)) : He.SaysD fa fn K := congrArg (fun z : Bool × He.AlD => z.2) c
theorem fun_ofD {K : PySem.W.Frag} {x q : Str} {st : Stmt} {f : Addr} {fd : FuncData} (F : FunD K x q (defArgs st) (defBody st) (defScope st) [] [] f fd) : Fun K x q st f fd := by
  obtain ⟨oc, od, dV, kV, doc, pm, an, cdv, ct, osl, e, lk, cd, hd, hk⟩ := F.ex
  have : dV = .none := by
    rcases hd with ⟨_, h⟩ | ⟨h, _⟩
    · exact h
    · exact (h rfl).elim
  subst this
  exact ⟨⟨oc, od, kV, doc, pm, an, cdv, ct, osl, e, lk, cd⟩, F.kp⟩
/-- a def of the table, of the head's facts -/
theorem def_fact {Γ : CT} {K : PySem.W.Frag} {mg : Str → Option Value} {ds : List Def} {x : Str} {i m : Nat} {st : Stmt} {N ps : List Str} {body : Ss} (F : ∃ fd, FunD K x x (defArgs st) (defBody st) (defScope st) [] [] (He.fAd K (x, none)) fd) (g : mg x = some (.ref (He.ga K x)))
    (s : FnScope N ps (defScope st)) (c : cSs Γ (defScope st) N m (defBody st) = some body) (hd : ds[i]? = some ⟨ps.length, N.length, body⟩)
    (h : ∀ (kV doc pm : Value) (an : Option Addr) (cdv ct : Value) (us : List Value), us.length = ps.length → bindArgs (PySem.W.fnOf x x (defArgs st) (defBody st) (defScope st) .none kV doc pm an cdv ct) ⟨us, []⟩ = pure (ps.zip us)) : DefFact Γ K mg ds x i := by
  obtain ⟨fd, F⟩ := F
  have F' := fun_ofD F
  exact ⟨⟨x, st, _, fd, N, ps, m, body, F', s, c, hd, g, F'.binds h⟩⟩
/-- the law's function -/
theorem law_fact {Γ : CT} {P : Program} {w : World} {K : PySem.W.Frag} {mg : Str → Option Value} {ds : List Def} {i m : Nat} {st : Stmt} {N : List Str} {body : Ss} (F : ∃ fd, FunD K "law" "law" (defArgs st) (defBody st) (defScope st) [] [] (He.fAd K ("law", none)) fd)
    (s : FnScope N ["script"] (defScope st)) (c : cSs Γ (defScope st) N m (defBody st) = some body) (hd : ds[i]? = some ⟨1, N.length, body⟩)
    (h : ∀ (kV doc pm : Value) (an : Option Addr) (cdv ct : Value) (s : Shared) (v : Value), BindsTo s (PySem.W.fnOf "law" "law" (defArgs st) (defBody st) (defScope st) .none kV doc pm an cdv ct) ⟨[v], []⟩ [("script", v)])
    (B : Base Γ K mg ds) (w0 n : Nat) : ∃ fd : FuncData, (∀ (s : Shared) (v : Value), BindsTo s fd ⟨[v], []⟩ [("script", v)]) ∧ ∀ base : Heap, K.In base → base.Ns mainGlobals mg → FnOk P w K mg base CX0 (n + 1) (He.fAd K ("law", none)) fd ["script"] (spLaw w0 ds (n + 1) i K) := by
  obtain ⟨fd, F⟩ := F
  have F' := fun_ofD F
  refine ⟨fd, fun s v => ?_, fun base _ _ => fn_ok (facts B n) F' s c hd⟩
  obtain ⟨oc, od, kV, doc, pm, an, cdv, ct, osl, e, lk, cd⟩ := F'.ex
  subst e
  exact h kV doc pm an cdv ct s v
end Mini
namespace Mini
open PySem PySem.W PySem.Calls PyProof.Rows HandSHeadRun
/-! ### a head whose text opens with imports: the imports, and from there the top, in one kernel run -/
noncomputable section
def startT (s₀ : Shared) (r : PySem.W.BT × Nat) : SharedT := ⟨r.1, r.2, s₀.heap.life, s₀.gens, s₀.drawn, s₀.toks, s₀.os⟩
def endG (st : SharedT → Thread → Option (SharedT × Thread)) (M : Nat) (p : Program) (s₀ : Shared) : Option SharedT := match putAll s₀.heap.objs.toList .nil 0 with
  | some (t, n) => frNat n fun n0 => goF st n0 (s₀.heap.nsMap mainGlobals "__annotations__") M (startT s₀ (t, n0)) (topStub p)
  | none => none
theorem endG_ok {M : Nat} {p : Program} {w : World} {s₀ : Shared} {s : SharedT} (h : endG (stepT (denote treeTable) p w) M p s₀ = some s) :
    topRun treeTable p w s₀.heap.objs.size (s₀.heap.nsMap mainGlobals "__annotations__") M s₀ (topStub p) = some s.abs := by
  unfold endG at h
  cases e : putAll s₀.heap.objs.toList .nil 0 with
  | none =>
    rw [e] at h
    cases h
  | some r =>
    obtain ⟨t, n⟩ := r
    rw [e] at h
    have h1 : (frNat n fun n0 => goF (stepT (denote treeTable) p w) n0 (s₀.heap.nsMap mainGlobals "__annotations__") M (startT s₀ (t, n0)) (topStub p)) = some s := h
    rw [frNat_eq] at h1
    have q := goF_ok h1
    have eh := putAll_heap e
    have en : s₀.heap.objs.size = n := by
      rw [← eh]
      exact absHeap_size t n _
    have eb : (startT s₀ (t, n)).abs = s₀ := by
      show (⟨absHeap t n s₀.heap.life, s₀.gens, s₀.drawn, s₀.toks, s₀.os⟩ : Shared) = _
      rw [eh]
    rw [eb] at q
    rw [en]
    exact q
def RunI (r : OpenRow) (q : Program) (H : Hook) (ob : SharedT → H.α) (M : Nat) (loose : List PySem.Str) (w : World) : Prop :=
  ((fencedOpening treeTable r.prog w M).bind fun s₀ => match s₀.heap.isNs mainGlobals && s₀.gens.size == 0 with
    | true => (endG (stepQ (denQ tabQ) r.prog w) M r.prog s₀).map (fun s => (looksF r.prog s₀.heap s.abs, HandSHeadRun.seenQ q loose (importedModules r.prog.main.body) (fun s => xlAt q [] s && recOk r.toRowW.records s) s.abs, ob s))
    | false => none) = some (true, openGood q loose, H.val w)
theorem left_imp {p q : Program} {loose : List Str} {Xt : Shared → Bool} {α : Type} {Yf : Shared → α} {Ya : World → α} {M : Nat}
    (run : ∀ w : World, ((fencedOpening treeTable p w M).bind fun s₀ => match s₀.heap.isNs mainGlobals && s₀.gens.size == 0 with
      | true => (endG (stepT (denote treeTable) p w) M p s₀).map (fun s => (looksF p s₀.heap s.abs, openSeen q loose (importedModules p.main.body) Xt true s.abs, Yf s.abs))
      | false => none) = some (true, openGood q loose, Ya w)) :
    LeftO p q loose Xt Yf Ya M true := fun w => by
  have h := run w
  cases e : fencedOpening treeTable p w M with
  | none => rw [e] at h; cases h
  | some s₀ =>
    rw [e] at h
    have h : (match s₀.heap.isNs mainGlobals && s₀.gens.size == 0 with
      | true => (endG (stepT (denote treeTable) p w) M p s₀).map (fun s => (looksF p s₀.heap s.abs, openSeen q loose (importedModules p.main.body) Xt true s.abs, Yf s.abs))
      | false => none) = some (true, openGood q loose, Ya w) := h
    cases hg : (s₀.heap.isNs mainGlobals && s₀.gens.size == 0) with
    | false => rw [hg] at h; cases h
    | true =>
      rw [hg] at h
      obtain ⟨s, hs, hv⟩ := Option.map_eq_some_iff.mp h
      obtain ⟨l1, l2, l3⟩ : _ ∧ _ ∧ _ := by simpa only [Prod.mk.injEq] using hv
      have r := endG_ok hs
      have l1' : (staticsOk (importedModules p.main.body) s₀.heap s.abs.heap && namesBound p s.abs.heap && gensDone s.abs && laidKept s₀.heap s.abs.heap) = true := l1
      have t : topFrom treeTable p w M s₀ = some s.abs := by
        unfold topFrom
        rw [hg]
        show (topRun treeTable p w s₀.heap.objs.size (s₀.heap.nsMap mainGlobals "__annotations__") M s₀ (topStub p)).bind _ = _
        rw [r]
        show (match staticsOk (importedModules p.main.body) s₀.heap s.abs.heap && namesBound p s.abs.heap && gensDone s.abs && laidKept s₀.heap s.abs.heap with | true => some s.abs | false => none) = _
        rw [l1']
      unfold openEnds
      rw [e]
      show (topFrom treeTable p w M s₀).map _ = _
      rw [t]
      exact congrArg some (Prod.ext l2 l3)
theorem endGQ_eq (M : Nat) (p : Program) (w : World) (s₀ : Shared) : endG (stepT (denote treeTable) p w) M p s₀ = endG (stepQ (denQ tabQ) p w) M p s₀ := by
  rw [stepQ_eq, denQ_eq, tabQ_eq]
theorem head_imp {r : OpenRow} {q : Program} {H : Hook} {ob : SharedT → H.α} {M : Nat} {loose : List PySem.Str} {d : DefRec} {kwd : List (PySem.Str × PySem.Expr)} (ho : ∀ s : SharedT, ob s = H.obs s.abs)
    (run : ∀ w, RunI r q H ob M loose w)
    (hdef : defOf q r.name = some (d, kwd)) (hp : r.prog.theDef r.name = some (d.params, d.body, d.scope)) (hk : kwWritten? d.params.kwonlyargs d.params.kw_defaults = some kwd)
    (hwr : (!r.writes || r.records.isEmpty) = true) (k1 : r.wellSaid = true) (ok : (chainsOk q && opensWell r.prog && (frees r.toRowW && r.within.isEmpty)) = true) (hb : r.prog.bare) (hw : r.toRowW.promised)
    (call : WalkO q loose (XL q []) H.says r.toRowW d kwd fun f vs => PySem.call f vs) : r.Holds := by
  have left : LeftO r.prog q loose (fun s => xlAt q [] s && recOk r.toRowW.records s) H.obs H.val M true :=
    left_imp fun w => by
      have z := run w
      unfold RunI at z
      have eo : ob = fun s => H.obs s.abs := funext ho
      rw [eo] at z
      simp only [endGQ_eq, HandSHeadRun.seenQ_eq]
      exact z
  exact holds_open (r := r) (q := q) (loose := loose) (XP := XL q []) (YP := H.says) (d := d) (kwd := kwd) left H.of H.keeps (fun s z => xl_of s (Bool.and_eq_true_iff.mp z).1) XL.keeps hdef hp hk (fun s z => recFacts_of (Bool.and_eq_true_iff.mp z).2) hwr k1 ok hb hw call
end
end Mini
namespace K73
open PySem PySem.Spec PyProof.Rows L2 Mini
def topS (i : Nat) : Stmt := PySem.Challenge.pw_cheesestead_k73_borders_of_windows.main.body.getD i (.Pass ⟨0, 0, 0, 0⟩)
def ct : CT := ⟨[(("reduced" : Str), 0), (("f_whole" : Str), 1), (("f_add" : Str), 2), (("f_sub" : Str), 3), (("f_mul" : Str), 4), (("f_div" : Str), 5), (("f_less" : Str), 6), (("f_at_most" : Str), 7), (("f_min" : Str), 8), (("f_max" : Str), 9), (("f_floor" : Str), 10), (("covers" : Str), 11), (("turned" : Str), 12), (("height_at" : Str), 13), (("height_between" : Str), 14), (("place_between" : Str), 15), (("high_part" : Str), 16), (("high_spans" : Str), 17), (("all_choices" : Str), 18), (("need" : Str), 19), (("is_integer" : Str), 20), (("is_whole" : Str), 21), (("is_whole_from" : Str), 22), (("is_sequence" : Str), 23), (("is_pair" : Str), 24), (("is_wholes" : Str), 25), (("is_row" : Str), 26), (("is_rows" : Str), 27), (("is_rising" : Str), 28), (("is_any_fraction" : Str), 29), (("is_fraction" : Str), 30), (("frozen" : Str), 31), (("are_loads" : Str), 32), (("is_gauge" : Str), 33), (("read_off" : Str), 34), (("depth_of" : Str), 35), (("litres_at" : Str), 36), (("room_above" : Str), 37), (("most_poured" : Str), 38), (("is_draughts" : Str), 39), (("is_weight" : Str), 40), (("parts_left" : Str), 41), (("share_left" : Str), 42), (("left_over" : Str), 43), (("weight_needed" : Str), 44), (("lasts" : Str), 45), (("bands_of" : Str), 46), (("within" : Str), 47), (("toll_due" : Str), 48), (("last_mile" : Str), 49), (("miles_within" : Str), 50), (("is_band" : Str), 51), (("is_toll" : Str), 52), (("is_miles" : Str), 53), (("due" : Str), 54), (("miles_for" : Str), 55), (("is_span" : Str), 56), (("are_spans" : Str), 57), (("is_leg" : Str), 58), (("are_legs" : Str), 59), (("checked" : Str), 60), (("begin_from" : Str), 61), (("begin_till" : Str), 62), (("travelled" : Str), 63), (("arrives" : Str), 64), (("waits" : Str), 65), (("leaves" : Str), 66), (("is_table" : Str), 67), (("sour_at" : Str), 68), (("windows" : Str), 69), (("first_from" : Str), 70), (("last_till" : Str), 71), (("asked" : Str), 72), (("_law_so" : Str), 73), (("_law_numbers" : Str), 74), (("_law_draw" : Str), 75), (("_law_take" : Str), 76), (("_law_pick" : Str), 77), (("_law_gcd" : Str), 78), (("_law_sets" : Str), 79), (("_law_red" : Str), 80), (("_law_add" : Str), 81), (("_law_sub" : Str), 82), (("_law_mul" : Str), 83), (("_law_less" : Str), 84), (("_law_table" : Str), 85), (("_law_cross" : Str), 86), (("_law_windows" : Str), 87), (("_law_legs" : Str), 88), (("_law_arrives" : Str), 89), (("_law_toll" : Str), 90), (("_law_due" : Str), 91), (("_law_miles" : Str), 92), (("_law_borders_rest" : Str), 93), (("law" : Str), 94)], [(("MOST_PARTS" : Str), .int 1000000), (("MOST_LOADS" : Str), .int 6), (("HEAVIEST" : Str), .int 1000), (("MOST_KNOTS" : Str), .int 8), (("DEEPEST" : Str), .int 10000), (("MOST_DRAUGHTS" : Str), .int 24), (("PARTS" : Str), .int 200), (("MOST_BANDS" : Str), .int 4), (("FARTHEST" : Str), .int 1000), (("DEAREST" : Str), .int 1000), (("MOST_TONS" : Str), .int 1000), (("MOST_PENCE" : Str), .int 1000000000), (("MOST_LEGS" : Str), .int 10), (("MOST_SPANS" : Str), .int 4), (("LONGEST" : Str), .int 1000), (("LATEST" : Str), .int 10000), (("LEAST_SOUR" : Str), .int (-500)), (("MOST_SOUR" : Str), .int 1500), (("LAST_MINUTE" : Str), .int 1440)], ["gcd"], [(565, ("spot" : Str)), (256, ("limits" : Str)), (209, ("found" : Str))]⟩
abbrev streduced : Stmt := topS 2
def nreduced : List Str := ["top", "bottom", "common"]
abbrev stf_whole : Stmt := topS 3
def nf_whole : List Str := ["number"]
abbrev stf_add : Stmt := topS 4
def nf_add : List Str := ["one", "other"]
abbrev stf_sub : Stmt := topS 5
def nf_sub : List Str := ["one", "other"]
abbrev stf_mul : Stmt := topS 6
def nf_mul : List Str := ["one", "other"]
abbrev stf_div : Stmt := topS 7
def nf_div : List Str := ["one", "other"]
abbrev stf_less : Stmt := topS 8
def nf_less : List Str := ["one", "other"]
abbrev stf_at_most : Stmt := topS 9
def nf_at_most : List Str := ["one", "other"]
abbrev stf_min : Stmt := topS 10
def nf_min : List Str := ["one", "other"]
abbrev stf_max : Stmt := topS 11
def nf_max : List Str := ["one", "other"]
abbrev stf_floor : Stmt := topS 12
def nf_floor : List Str := ["one"]
abbrev stcovers : Stmt := topS 14
def ncovers : List Str := ["knots", "place", "first", "last"]
abbrev stturned : Stmt := topS 15
def nturned : List Str := ["knots", "place", "height"]
abbrev stheight_at : Stmt := topS 16
def nheight_at : List Str := ["knots", "place", "at"]
abbrev stheight_between : Stmt := topS 17
def nheight_between : List Str := ["one", "other", "place", "behind", "climb"]
abbrev stplace_between : Stmt := topS 18
def nplace_between : List Str := ["one", "other", "height", "climb"]
abbrev sthigh_part : Stmt := topS 19
def nhigh_part : List Str := ["one", "other", "height", "first", "last"]
abbrev sthigh_spans : Stmt := topS 20
def nhigh_spans : List Str := ["knots", "height", "spans", "at", "part"]
abbrev stall_choices : Stmt := topS 22
def nall_choices : List Str := ["many", "found", "number", "choice"]
abbrev stneed : Stmt := topS 28
def nneed : List Str := ["ok", "at"]
abbrev stis_integer : Stmt := topS 29
def nis_integer : List Str := ["value"]
abbrev stis_whole : Stmt := topS 30
def nis_whole : List Str := ["value", "low", "high"]
abbrev stis_whole_from : Stmt := topS 31
def nis_whole_from : List Str := ["value", "low"]
abbrev stis_sequence : Stmt := topS 32
def nis_sequence : List Str := ["value", "fewest", "most"]
abbrev stis_pair : Stmt := topS 33
def nis_pair : List Str := ["value"]
abbrev stis_wholes : Stmt := topS 34
def nis_wholes : List Str := ["value", "fewest", "most", "low", "high", "part"]
abbrev stis_row : Stmt := topS 35
def nis_row : List Str := ["value", "bounds", "part", "low", "high"]
abbrev stis_rows : Stmt := topS 36
def nis_rows : List Str := ["value", "fewest", "most", "bounds", "row"]
abbrev stis_rising : Stmt := topS 37
def nis_rising : List Str := ["values", "at"]
abbrev stis_any_fraction : Stmt := topS 38
def nis_any_fraction : List Str := ["value"]
abbrev stis_fraction : Stmt := topS 39
def nis_fraction : List Str := ["value"]
abbrev stfrozen : Stmt := topS 40
def nfrozen : List Str := ["value", "part"]
abbrev stare_loads : Stmt := topS 46
def nare_loads : List Str := ["value"]
abbrev stis_gauge : Stmt := topS 47
def nis_gauge : List Str := ["value", "row"]
abbrev stread_off : Stmt := topS 48
def nread_off : List Str := ["knots", "place"]
abbrev stdepth_of : Stmt := topS 49
def ndepth_of : List Str := ["gauge", "litres"]
abbrev stlitres_at : Stmt := topS 50
def nlitres_at : List Str := ["gauge", "inches"]
abbrev stroom_above : Stmt := topS 51
def nroom_above : List Str := ["knots", "depth"]
abbrev stmost_poured : Stmt := topS 52
def nmost_poured : List Str := ["gauge", "loads", "depth", "room", "most", "cans", "choice", "litres", "number"]
abbrev stis_draughts : Stmt := topS 55
def nis_draughts : List Str := ["value"]
abbrev stis_weight : Stmt := topS 56
def nis_weight : List Str := ["value"]
abbrev stparts_left : Stmt := topS 59
def nparts_left : List Str := ["draught"]
abbrev stshare_left : Stmt := topS 60
def nshare_left : List Str := ["draughts", "top", "bottom", "draught"]
abbrev stleft_over : Stmt := topS 61
def nleft_over : List Str := ["weight", "draughts", "top", "bottom"]
abbrev stweight_needed : Stmt := topS 62
def nweight_needed : List Str := ["draughts", "least", "top", "bottom"]
abbrev stlasts : Stmt := topS 63
def nlasts : List Str := ["weight", "draughts", "least", "top", "bottom", "day", "draught"]
abbrev stbands_of : Stmt := topS 65
def nbands_of : List Str := ["toll", "found", "begin", "limit", "price"]
abbrev stwithin : Stmt := topS 66
def nwithin : List Str := ["band", "miles", "begin", "end", "_", "last"]
abbrev sttoll_due : Stmt := topS 67
def ntoll_due : List Str := ["toll", "tons", "miles", "found", "band"]
abbrev stlast_mile : Stmt := topS 68
def nlast_mile : List Str := ["band", "tons", "left", "begin", "end", "price", "reached"]
abbrev stmiles_within : Stmt := topS 69
def nmiles_within : List Str := ["toll", "tons", "pence", "left", "reached", "band"]
abbrev stis_band : Stmt := topS 74
def nis_band : List Str := ["value"]
abbrev stis_toll : Stmt := topS 75
def nis_toll : List Str := ["value", "band", "limits"]
abbrev stis_miles : Stmt := topS 76
def nis_miles : List Str := ["value"]
abbrev stdue : Stmt := topS 80
def ndue : List Str := ["toll", "tons", "miles"]
abbrev stmiles_for : Stmt := topS 81
def nmiles_for : List Str := ["toll", "tons", "pence"]
abbrev stis_span : Stmt := topS 87
def nis_span : List Str := ["value", "first", "last"]
abbrev stare_spans : Stmt := topS 88
def nare_spans : List Str := ["value", "span", "at"]
abbrev stis_leg : Stmt := topS 89
def nis_leg : List Str := ["value"]
abbrev stare_legs : Stmt := topS 90
def nare_legs : List Str := ["value", "leg"]
abbrev stchecked : Stmt := topS 91
def nchecked : List Str := ["legs", "minute"]
abbrev stbegin_from : Stmt := topS 92
def nbegin_from : List Str := ["spans", "minute", "first", "last"]
abbrev stbegin_till : Stmt := topS 93
def nbegin_till : List Str := ["spans", "minute", "found", "first", "last"]
abbrev sttravelled : Stmt := topS 94
def ntravelled : List Str := ["legs", "minute", "now", "waited", "minutes", "spans", "begin"]
abbrev starrives : Stmt := topS 95
def narrives : List Str := ["legs", "minute", "told"]
abbrev stwaits : Stmt := topS 96
def nwaits : List Str := ["legs", "minute", "told"]
abbrev stleaves : Stmt := topS 97
def nleaves : List Str := ["legs", "minute", "now", "minutes", "spans"]
abbrev stis_table : Stmt := topS 102
def nis_table : List Str := ["value", "row"]
abbrev stsour_at : Stmt := topS 103
def nsour_at : List Str := ["table", "minute", "knots", "moment"]
abbrev stwindows : Stmt := topS 104
def nwindows : List Str := ["table", "least"]
abbrev stfirst_from : Stmt := topS 105
def nfirst_from : List Str := ["table", "least", "minute", "spans", "moment", "first", "last"]
abbrev stlast_till : Stmt := topS 106
def nlast_till : List Str := ["table", "least", "minute", "spans", "moment", "found", "first", "last"]
abbrev stasked : Stmt := topS 107
def nasked : List Str := ["table", "least", "minute", "knots", "moment"]
abbrev st_law_so : Stmt := topS 109
def n_law_so : List Str := ["found", "meant", "k"]
abbrev st_law_numbers : Stmt := topS 110
def n_law_numbers : List Str := ["script", "row", "single", "left", "k", "stirred"]
abbrev st_law_draw : Stmt := topS 111
def n_law_draw : List Str := ["row", "at", "limit", "stirred"]
abbrev st_law_take : Stmt := topS 112
def n_law_take : List Str := ["row", "spot", "limit"]
abbrev st_law_pick : Stmt := topS 113
def n_law_pick : List Str := ["row", "spot", "things"]
abbrev st_law_gcd : Stmt := topS 114
def n_law_gcd : List Str := ["one", "other", "left", "right", "k", "over_by"]
abbrev st_law_sets : Stmt := topS 115
def n_law_sets : List Str := ["names", "made", "name", "one"]
abbrev st_law_red : Stmt := topS 116
def n_law_red : List Str := ["n", "d", "common"]
abbrev st_law_add : Stmt := topS 117
def n_law_add : List Str := ["one", "other"]
abbrev st_law_sub : Stmt := topS 118
def n_law_sub : List Str := ["one", "other"]
abbrev st_law_mul : Stmt := topS 119
def n_law_mul : List Str := ["one", "other"]
abbrev st_law_less : Stmt := topS 120
def n_law_less : List Str := ["one", "other"]
abbrev st_law_table : Stmt := topS 121
def n_law_table : List Str := ["row", "spot", "made", "minute", "wide", "lower", "k"]
abbrev st_law_cross : Stmt := topS 122
def n_law_cross : List Str := ["a", "b", "least"]
abbrev st_law_windows : Stmt := topS 123
def n_law_windows : List Str := ["table", "least", "made", "begun", "k", "a", "b"]
abbrev st_law_legs : Stmt := topS 124
def n_law_legs : List Str := ["row", "spot", "made", "k", "spans", "at", "j", "end"]
abbrev st_law_arrives : Stmt := topS 125
def n_law_arrives : List Str := ["legs", "minute", "held", "leg", "start", "later", "span"]
abbrev st_law_toll : Stmt := topS 126
def n_law_toll : List Str := ["row", "spot", "made", "limit", "k"]
abbrev st_law_due : Stmt := topS 127
def n_law_due : List Str := ["toll", "tons", "miles", "total", "last", "part", "top"]
abbrev st_law_miles : Stmt := topS 128
def n_law_miles : List Str := ["toll", "tons", "pence", "left", "at", "part", "rate", "wide", "cost"]
abbrev st_law_borders_rest : Stmt := topS 129
def n_law_borders_rest : List Str := ["row", "spot", "days", "k", "share", "least", "need_v", "whole", "toll", "tons", "part", "pence", "more", "cents", "told"]
abbrev stlaw : Stmt := topS 130
def nlaw : List Str := ["script", "row", "spot", "table", "first", "last", "least", "one", "spans", "span", "ahead", "behind", "told", "legs", "marks", "leg", "minute", "goal", "latest", "later", "gauge", "cans", "depth", "best", "some", "k", "litres", "here", "key"]
def breduced : Ss := (.cons (.ite (.val (.cmp .lt (.var 1) (.cst (.int 0)))) (.cons (.par 0 1 (.neg (.var 0)) (.neg (.var 1))) .nil) .nil) (.cons (.set 2 (.bi .gcd (.cons (.var 0) (.cons (.var 1) .nil)))) (.cons (.ret (.tup (.cons (.bin .fdiv (.var 0) (.var 2)) (.cons (.bin .fdiv (.var 1) (.var 2)) .nil)))) .nil)))
def bf_whole : Ss := (.cons (.ret (.tup (.cons (.var 0) (.cons (.cst (.int 1)) .nil)))) .nil)
def bf_add : Ss := (.cons (.ret (.call 0 (.cons (.bin .add (.bin .mul (.idx (.var 0) (.cst (.int 0))) (.idx (.var 1) (.cst (.int 1)))) (.bin .mul (.idx (.var 1) (.cst (.int 0))) (.idx (.var 0) (.cst (.int 1))))) (.cons (.bin .mul (.idx (.var 0) (.cst (.int 1))) (.idx (.var 1) (.cst (.int 1)))) .nil)))) .nil)
def bf_sub : Ss := (.cons (.ret (.call 0 (.cons (.bin .sub (.bin .mul (.idx (.var 0) (.cst (.int 0))) (.idx (.var 1) (.cst (.int 1)))) (.bin .mul (.idx (.var 1) (.cst (.int 0))) (.idx (.var 0) (.cst (.int 1))))) (.cons (.bin .mul (.idx (.var 0) (.cst (.int 1))) (.idx (.var 1) (.cst (.int 1)))) .nil)))) .nil)
def bf_mul : Ss := (.cons (.ret (.call 0 (.cons (.bin .mul (.idx (.var 0) (.cst (.int 0))) (.idx (.var 1) (.cst (.int 0)))) (.cons (.bin .mul (.idx (.var 0) (.cst (.int 1))) (.idx (.var 1) (.cst (.int 1)))) .nil)))) .nil)
def bf_div : Ss := (.cons (.ret (.call 0 (.cons (.bin .mul (.idx (.var 0) (.cst (.int 0))) (.idx (.var 1) (.cst (.int 1)))) (.cons (.bin .mul (.idx (.var 0) (.cst (.int 1))) (.idx (.var 1) (.cst (.int 0)))) .nil)))) .nil)
def bf_less : Ss := (.cons (.ret (.cmp .lt (.bin .mul (.idx (.var 0) (.cst (.int 0))) (.idx (.var 1) (.cst (.int 1)))) (.bin .mul (.idx (.var 1) (.cst (.int 0))) (.idx (.var 0) (.cst (.int 1)))))) .nil)
def bf_at_most : Ss := (.cons (.ret (.cmp .le (.bin .mul (.idx (.var 0) (.cst (.int 0))) (.idx (.var 1) (.cst (.int 1)))) (.bin .mul (.idx (.var 1) (.cst (.int 0))) (.idx (.var 0) (.cst (.int 1)))))) .nil)
def bf_min : Ss := (.cons (.ite (.val (.call 6 (.cons (.var 1) (.cons (.var 0) .nil)))) (.cons (.ret (.var 1)) .nil) .nil) (.cons (.ret (.var 0)) .nil))
def bf_max : Ss := (.cons (.ite (.val (.call 6 (.cons (.var 0) (.cons (.var 1) .nil)))) (.cons (.ret (.var 1)) .nil) .nil) (.cons (.ret (.var 0)) .nil))
def bf_floor : Ss := (.cons (.ret (.bin .fdiv (.idx (.var 0) (.cst (.int 0))) (.idx (.var 0) (.cst (.int 1))))) .nil)
def bcovers : Ss := (.cons (.par 2 3 (.call 1 (.cons (.idx (.idx (.var 0) (.cst (.int 0))) (.cst (.int 0))) .nil)) (.call 1 (.cons (.idx (.idx (.var 0) (.neg (.cst (.int 1)))) (.cst (.int 0))) .nil))) (.cons (.ret (.and (.call 7 (.cons (.var 2) (.cons (.var 1) .nil))) (.call 7 (.cons (.var 1) (.cons (.var 3) .nil))))) .nil))
def eturned_0 : E := (.tup (.cons (.var 2) (.cons (.var 1) .nil)))
def bturned : Ss := (.cons (.ret (.bi .tuple (.cons (.comp0 eturned_0 (.tup (.cons (.name 1) (.cons (.name 2) .nil))) (.seq (.var 0)) [1, 2]) .nil))) .nil)
def bheight_at_0 : Ss := (.cons (.aug 2 .add (.cst (.int 1))) .nil)
def bheight_at : Ss := (.cons (.set 2 (.cst (.int 1))) (.cons (.while (.and (.val (.cmp .lt (.var 2) (.bin .sub (.bi .len (.cons (.var 0) .nil)) (.cst (.int 1))))) (.not (.val (.call 7 (.cons (.var 1) (.cons (.call 1 (.cons (.idx (.idx (.var 0) (.var 2)) (.cst (.int 0))) .nil)) .nil)))))) bheight_at_0) (.cons (.ret (.call 14 (.cons (.idx (.var 0) (.bin .sub (.var 2) (.cst (.int 1)))) (.cons (.idx (.var 0) (.var 2)) (.cons (.var 1) .nil))))) .nil)))
def bheight_between : Ss := (.cons (.set 3 (.call 3 (.cons (.var 2) (.cons (.call 1 (.cons (.idx (.var 0) (.cst (.int 0))) .nil)) .nil)))) (.cons (.set 4 (.call 0 (.cons (.bin .mul (.idx (.var 3) (.cst (.int 0))) (.bin .sub (.idx (.var 1) (.cst (.int 1))) (.idx (.var 0) (.cst (.int 1))))) (.cons (.bin .mul (.idx (.var 3) (.cst (.int 1))) (.bin .sub (.idx (.var 1) (.cst (.int 0))) (.idx (.var 0) (.cst (.int 0))))) .nil)))) (.cons (.ret (.call 2 (.cons (.call 1 (.cons (.idx (.var 0) (.cst (.int 1))) .nil)) (.cons (.var 4) .nil)))) .nil)))
def bplace_between : Ss := (.cons (.set 3 (.bin .sub (.var 2) (.idx (.var 0) (.cst (.int 1))))) (.cons (.ret (.call 2 (.cons (.call 1 (.cons (.idx (.var 0) (.cst (.int 0))) .nil)) (.cons (.call 0 (.cons (.bin .mul (.var 3) (.bin .sub (.idx (.var 1) (.cst (.int 0))) (.idx (.var 0) (.cst (.int 0))))) (.cons (.bin .sub (.idx (.var 1) (.cst (.int 1))) (.idx (.var 0) (.cst (.int 1)))) .nil))) .nil)))) .nil))
def bhigh_part : Ss := (.cons (.par 3 4 (.call 1 (.cons (.idx (.var 0) (.cst (.int 0))) .nil)) (.call 1 (.cons (.idx (.var 1) (.cst (.int 0))) .nil))) (.cons (.ite (.and (.val (.cmp .lt (.idx (.var 0) (.cst (.int 1))) (.var 2))) (.val (.cmp .lt (.idx (.var 1) (.cst (.int 1))) (.var 2)))) (.cons (.ret (.cst .non)) .nil) .nil) (.cons (.ite (.val (.cmp .lt (.idx (.var 0) (.cst (.int 1))) (.var 2))) (.cons (.set 3 (.call 15 (.cons (.var 0) (.cons (.var 1) (.cons (.var 2) .nil))))) .nil) .nil) (.cons (.ite (.val (.cmp .lt (.idx (.var 1) (.cst (.int 1))) (.var 2))) (.cons (.set 4 (.call 15 (.cons (.var 0) (.cons (.var 1) (.cons (.var 2) .nil))))) .nil) .nil) (.cons (.ret (.tup (.cons (.var 3) (.cons (.var 4) .nil)))) .nil)))))
def bhigh_spans_0 : Ss := (.cons (.set 4 (.call 16 (.cons (.idx (.var 0) (.bin .sub (.var 3) (.cst (.int 1)))) (.cons (.idx (.var 0) (.var 3)) (.cons (.var 1) .nil))))) (.cons (.ite (.val (.isN (.var 4))) (.cons .cnt .nil) .nil) (.cons (.ite (.and (.val (.var 2)) (.val (.cmp .eq (.idx (.idx (.var 2) (.neg (.cst (.int 1)))) (.cst (.int 1))) (.idx (.var 4) (.cst (.int 0)))))) (.cons (.setI 2 (.neg (.cst (.int 1))) (.tup (.cons (.idx (.idx (.var 2) (.neg (.cst (.int 1)))) (.cst (.int 0))) (.cons (.idx (.var 4) (.cst (.int 1))) .nil)))) .nil) (.cons (.app 2 (.var 4)) .nil)) .nil)))
def bhigh_spans : Ss := (.cons (.new 2 (.lst .nil)) (.cons (.for (.name 3) (.rng (.cons (.cst (.int 1)) (.cons (.bi .len (.cons (.var 0) .nil)) .nil))) bhigh_spans_0) (.cons (.ret (.bi .tuple (.cons (.var 2) .nil))) .nil)))
def eall_choices_0 : E := (.bin .add (.tup (.cons (.var 2) .nil)) (.var 3))
def ball_choices_1 : Ss := (.cons (.set 1 (.bin .add (.bin .add (.lst (.cons (.tup .nil) .nil)) (.comp0 eall_choices_0 (.name 3) (.seq (.var 1)) [3])) (.sli 1 (.var 1) (.cst (.int 1)) (.cst .non)))) .nil)
def ball_choices : Ss := (.cons (.new 1 (.lst (.cons (.tup .nil) .nil))) (.cons (.for (.name 2) (.revr (.cons (.var 0) .nil)) ball_choices_1) (.cons (.ret (.var 1)) .nil)))
def bneed : Ss := (.cons (.ite (.not (.val (.var 0))) (.cons .never .nil) .nil) .nil)
def bis_integer : Ss := (.cons (.ret (.and (.isi (.var 0) [0]) (.not (.isi (.var 0) [1])))) .nil)
def bis_whole : Ss := (.cons (.ret (.and (.call 20 (.cons (.var 0) .nil)) (.chain .le .le (.var 1) (.var 0) (.var 2)))) .nil)
def bis_whole_from : Ss := (.cons (.ret (.and (.call 20 (.cons (.var 0) .nil)) (.cmp .ge (.var 0) (.var 1)))) .nil)
def bis_sequence : Ss := (.cons (.ret (.and (.isi (.var 0) [3, 4]) (.chain .le .le (.var 1) (.bi .len (.cons (.var 0) .nil)) (.var 2)))) .nil)
def bis_pair : Ss := (.cons (.ret (.call 23 (.cons (.var 0) (.cons (.cst (.int 2)) (.cons (.cst (.int 2)) .nil))))) .nil)
def eis_wholes_0 : E := (.call 21 (.cons (.var 5) (.cons (.var 3) (.cons (.var 4) .nil))))
def bis_wholes : Ss := (.cons (.ite (.not (.val (.call 23 (.cons (.var 0) (.cons (.var 1) (.cons (.var 2) .nil)))))) (.cons (.ret (.cst (.bl false))) .nil) .nil) (.cons (.ret (.bi .all (.cons (.comp0 eis_wholes_0 (.name 5) (.seq (.var 0)) [5]) .nil))) .nil))
def eis_row_0 : E := (.call 21 (.cons (.var 2) (.cons (.var 3) (.cons (.var 4) .nil))))
def bis_row : Ss := (.cons (.ite (.not (.val (.call 23 (.cons (.var 0) (.cons (.bi .len (.cons (.var 1) .nil)) (.cons (.bi .len (.cons (.var 1) .nil)) .nil)))))) (.cons (.ret (.cst (.bl false))) .nil) .nil) (.cons (.ret (.bi .all (.cons (.comp0 eis_row_0 (.tup (.cons (.name 2) (.cons (.tup (.cons (.name 3) (.cons (.name 4) .nil))) .nil))) (.zip (.var 0) (.var 1)) [2, 3, 4]) .nil))) .nil))
def eis_rows_0 : E := (.call 26 (.cons (.var 4) (.cons (.var 3) .nil)))
def bis_rows : Ss := (.cons (.ite (.not (.val (.call 23 (.cons (.var 0) (.cons (.var 1) (.cons (.var 2) .nil)))))) (.cons (.ret (.cst (.bl false))) .nil) .nil) (.cons (.ret (.bi .all (.cons (.comp0 eis_rows_0 (.name 4) (.seq (.var 0)) [4]) .nil))) .nil))
def eis_rising_0 : E := (.cmp .lt (.idx (.var 0) (.bin .sub (.var 1) (.cst (.int 1)))) (.idx (.var 0) (.var 1)))
def bis_rising : Ss := (.cons (.ret (.bi .all (.cons (.comp0 eis_rising_0 (.name 1) (.rng (.cons (.cst (.int 1)) (.cons (.bi .len (.cons (.var 0) .nil)) .nil))) [1]) .nil))) .nil)
def bis_any_fraction : Ss := (.cons (.ite (.or (.not (.val (.call 24 (.cons (.var 0) .nil)))) (.or (.not (.val (.call 20 (.cons (.idx (.var 0) (.cst (.int 0))) .nil)))) (.not (.val (.call 22 (.cons (.idx (.var 0) (.cst (.int 1))) (.cons (.cst (.int 1)) .nil))))))) (.cons (.ret (.cst (.bl false))) .nil) .nil) (.cons (.ret (.cmp .eq (.bi .gcd (.cons (.idx (.var 0) (.cst (.int 0))) (.cons (.idx (.var 0) (.cst (.int 1))) .nil))) (.cst (.int 1)))) .nil))
def bis_fraction : Ss := (.cons (.ite (.not (.val (.call 29 (.cons (.var 0) .nil)))) (.cons (.ret (.cst (.bl false))) .nil) .nil) (.cons (.ret (.and (.call 21 (.cons (.idx (.var 0) (.cst (.int 0))) (.cons (.neg (.cst (.int 1000000))) (.cons (.cst (.int 1000000)) .nil)))) (.cmp .le (.idx (.var 0) (.cst (.int 1))) (.cst (.int 1000000))))) .nil))
def efrozen_0 : E := (.call 31 (.cons (.var 1) .nil))
def bfrozen : Ss := (.cons (.ite (.val (.isi (.var 0) [3, 4])) (.cons (.ret (.bi .tuple (.cons (.comp0 efrozen_0 (.name 1) (.seq (.var 0)) [1]) .nil))) .nil) .nil) (.cons (.ret (.var 0)) .nil))
def bare_loads : Ss := (.cons (.ret (.call 25 (.cons (.var 0) (.cons (.cst (.int 1)) (.cons (.cst (.int 6)) (.cons (.cst (.int 1)) (.cons (.cst (.int 1000)) .nil))))))) .nil)
def eis_gauge_0 : E := (.idx (.var 1) (.cst (.int 0)))
def eis_gauge_1 : E := (.idx (.var 1) (.cst (.int 1)))
def bis_gauge : Ss := (.cons (.ite (.not (.val (.call 27 (.cons (.var 0) (.cons (.cst (.int 2)) (.cons (.cst (.int 8)) (.cons (.tup (.cons (.tup (.cons (.cst (.int 0)) (.cons (.cst (.int 10000)) .nil))) (.cons (.tup (.cons (.cst (.int 0)) (.cons (.cst (.int 10000)) .nil))) .nil))) .nil))))))) (.cons (.ret (.cst (.bl false))) .nil) .nil) (.cons (.ret (.and (.call 28 (.cons (.comp0 eis_gauge_0 (.name 1) (.seq (.var 0)) [1]) .nil)) (.call 28 (.cons (.comp0 eis_gauge_1 (.name 1) (.seq (.var 0)) [1]) .nil)))) .nil))
def bread_off : Ss := (.cons (.ite (.not (.val (.call 11 (.cons (.var 0) (.cons (.var 1) .nil))))) (.cons (.ret (.cst .non)) .nil) .nil) (.cons (.ret (.call 13 (.cons (.var 0) (.cons (.var 1) .nil)))) .nil))
def bdepth_of : Ss := (.cons (.expr (.call 19 (.cons (.call 33 (.cons (.var 0) .nil)) (.cons (.cst (.int 0)) .nil)))) (.cons (.expr (.call 19 (.cons (.call 30 (.cons (.var 1) .nil)) (.cons (.cst (.int 1)) .nil)))) (.cons (.ret (.call 34 (.cons (.call 31 (.cons (.var 0) .nil)) (.cons (.call 31 (.cons (.var 1) .nil)) .nil)))) .nil)))
def blitres_at : Ss := (.cons (.expr (.call 19 (.cons (.call 33 (.cons (.var 0) .nil)) (.cons (.cst (.int 0)) .nil)))) (.cons (.expr (.call 19 (.cons (.call 30 (.cons (.var 1) .nil)) (.cons (.cst (.int 1)) .nil)))) (.cons (.ret (.call 34 (.cons (.call 12 (.cons (.call 31 (.cons (.var 0) .nil)) .nil)) (.cons (.call 31 (.cons (.var 1) .nil)) .nil)))) .nil)))
def broom_above : Ss := (.cons (.ite (.val (.cmp .gt (.idx (.idx (.var 0) (.cst (.int 0))) (.cst (.int 1))) (.var 1))) (.cons (.ret (.cst .non)) .nil) .nil) (.cons (.ite (.val (.cmp .ge (.var 1) (.idx (.idx (.var 0) (.neg (.cst (.int 1)))) (.cst (.int 1))))) (.cons (.ret (.bin .sub (.idx (.idx (.var 0) (.neg (.cst (.int 1)))) (.cst (.int 0))) (.idx (.idx (.var 0) (.cst (.int 0))) (.cst (.int 0))))) .nil) .nil) (.cons (.ret (.bin .sub (.call 10 (.cons (.call 13 (.cons (.call 12 (.cons (.var 0) .nil)) (.cons (.call 1 (.cons (.var 1) .nil)) .nil))) .nil)) (.idx (.idx (.var 0) (.cst (.int 0))) (.cst (.int 0))))) .nil)))
def emost_poured_0 : E := (.idx (.var 1) (.var 8))
def bmost_poured_1 : Ss := (.cons (.set 7 (.bi .sum (.cons (.comp0 emost_poured_0 (.name 8) (.seq (.var 6)) [8]) .nil))) (.cons (.ite (.val (.cmp .gt (.var 7) (.var 3))) (.cons .cnt .nil) .nil) (.cons (.ite (.or (.val (.cmp .gt (.var 7) (.var 4))) (.and (.val (.cmp .eq (.var 7) (.var 4))) (.val (.cmp .lt (.bi .len (.cons (.var 6) .nil)) (.bi .len (.cons (.var 5) .nil)))))) (.cons (.par 4 5 (.var 7) (.var 6)) .nil) .nil) .nil)))
def bmost_poured : Ss := (.cons (.expr (.call 19 (.cons (.call 33 (.cons (.var 0) .nil)) (.cons (.cst (.int 0)) .nil)))) (.cons (.expr (.call 19 (.cons (.call 32 (.cons (.var 1) .nil)) (.cons (.cst (.int 1)) .nil)))) (.cons (.expr (.call 19 (.cons (.call 21 (.cons (.var 2) (.cons (.cst (.int 0)) (.cons (.cst (.int 10000)) .nil)))) (.cons (.cst (.int 2)) .nil)))) (.cons (.set 3 (.call 37 (.cons (.call 31 (.cons (.var 0) .nil)) (.cons (.var 2) .nil)))) (.cons (.ite (.val (.isN (.var 3))) (.cons (.ret (.cst .non)) .nil) .nil) (.cons (.asg (.tup (.cons (.name 4) (.cons (.name 5) .nil))) (.tup (.cons (.cst (.int 0)) (.cons (.tup .nil) .nil)))) (.cons (.for (.name 6) (.seq (.call 18 (.cons (.bi .len (.cons (.var 1) .nil)) .nil))) bmost_poured_1) (.cons (.ret (.tup (.cons (.var 4) (.cons (.var 5) .nil)))) .nil))))))))
def bis_draughts : Ss := (.cons (.ret (.call 25 (.cons (.var 0) (.cons (.cst (.int 0)) (.cons (.cst (.int 24)) (.cons (.neg (.cst (.int 10))) (.cons (.cst (.int 40)) .nil))))))) .nil)
def bis_weight : Ss := (.cons (.ret (.call 21 (.cons (.var 0) (.cons (.cst (.int 0)) (.cons (.cst (.int 10000)) .nil))))) .nil)
def bparts_left : Ss := (.cons (.ret (.bin .sub (.cst (.int 200)) (.bi .max (.cons (.cst (.int 0)) (.cons (.var 0) .nil))))) .nil)
def bshare_left_0 : Ss := (.cons (.aug 1 .mul (.call 41 (.cons (.var 3) .nil))) (.cons (.aug 2 .mul (.cst (.int 200))) .nil))
def bshare_left : Ss := (.cons (.set 1 (.cst (.int 1))) (.cons (.set 2 (.cst (.int 1))) (.cons (.for (.name 3) (.seq (.var 0)) bshare_left_0) (.cons (.ret (.tup (.cons (.var 1) (.cons (.var 2) .nil)))) .nil))))
def bleft_over : Ss := (.cons (.expr (.call 19 (.cons (.call 40 (.cons (.var 0) .nil)) (.cons (.cst (.int 0)) .nil)))) (.cons (.expr (.call 19 (.cons (.call 39 (.cons (.var 1) .nil)) (.cons (.cst (.int 1)) .nil)))) (.cons (.asg (.tup (.cons (.name 2) (.cons (.name 3) .nil))) (.call 42 (.cons (.var 1) .nil))) (.cons (.ret (.call 0 (.cons (.bin .mul (.var 0) (.var 2)) (.cons (.var 3) .nil)))) .nil))))
def bweight_needed : Ss := (.cons (.expr (.call 19 (.cons (.call 39 (.cons (.var 0) .nil)) (.cons (.cst (.int 0)) .nil)))) (.cons (.expr (.call 19 (.cons (.call 40 (.cons (.var 1) .nil)) (.cons (.cst (.int 1)) .nil)))) (.cons (.asg (.tup (.cons (.name 2) (.cons (.name 3) .nil))) (.call 42 (.cons (.var 0) .nil))) (.cons (.ret (.bin .fdiv (.bin .sub (.bin .add (.bin .mul (.var 1) (.var 3)) (.var 2)) (.cst (.int 1))) (.var 2))) .nil))))
def blasts_0 : Ss := (.cons (.aug 3 .mul (.call 41 (.cons (.var 6) .nil))) (.cons (.aug 4 .mul (.cst (.int 200))) (.cons (.ite (.val (.cmp .lt (.var 3) (.bin .mul (.var 2) (.var 4)))) (.cons (.ret (.var 5)) .nil) .nil) .nil)))
def blasts : Ss := (.cons (.expr (.call 19 (.cons (.call 40 (.cons (.var 0) .nil)) (.cons (.cst (.int 0)) .nil)))) (.cons (.expr (.call 19 (.cons (.call 39 (.cons (.var 1) .nil)) (.cons (.cst (.int 1)) .nil)))) (.cons (.expr (.call 19 (.cons (.call 40 (.cons (.var 2) .nil)) (.cons (.cst (.int 2)) .nil)))) (.cons (.set 3 (.var 0)) (.cons (.set 4 (.cst (.int 1))) (.cons (.for (.tup (.cons (.name 5) (.cons (.name 6) .nil))) (.enum (.var 1)) blasts_0) (.cons (.ret (.cst .non)) .nil)))))))
def bbands_of_0 : Ss := (.cons (.app 1 (.tup (.cons (.var 2) (.cons (.var 3) (.cons (.var 4) .nil))))) (.cons (.set 2 (.var 3)) .nil))
def bbands_of : Ss := (.cons (.par 1 2 (.cell (.lst .nil)) (.cst (.int 0))) (.cons (.for (.tup (.cons (.name 3) (.cons (.name 4) .nil))) (.seq (.var 0)) bbands_of_0) (.cons (.ret (.var 1)) .nil)))
def bwithin : Ss := (.cons (.asg (.tup (.cons (.name 2) (.cons (.name 3) (.cons (.name 4) .nil)))) (.var 0)) (.cons (.set 5 (.var 1)) (.cons (.ite (.val (.notN (.var 3))) (.cons (.set 5 (.call 8 (.cons (.var 1) (.cons (.call 1 (.cons (.var 3) .nil)) .nil)))) .nil) .nil) (.cons (.ret (.call 9 (.cons (.call 3 (.cons (.var 5) (.cons (.call 1 (.cons (.var 2) .nil)) .nil))) (.cons (.call 1 (.cons (.cst (.int 0)) .nil)) .nil)))) .nil))))
def btoll_due_0 : Ss := (.cons (.set 3 (.call 2 (.cons (.var 3) (.cons (.call 4 (.cons (.call 1 (.cons (.bin .mul (.idx (.var 4) (.cst (.int 2))) (.var 1)) .nil)) (.cons (.call 47 (.cons (.var 4) (.cons (.var 2) .nil))) .nil))) .nil)))) .nil)
def btoll_due : Ss := (.cons (.set 3 (.call 1 (.cons (.cst (.int 0)) .nil))) (.cons (.for (.name 4) (.seq (.call 46 (.cons (.var 0) .nil))) btoll_due_0) (.cons (.ret (.var 3)) .nil)))
def blast_mile : Ss := (.cons (.asg (.tup (.cons (.name 3) (.cons (.name 4) (.cons (.name 5) .nil)))) (.var 0)) (.cons (.ite (.val (.cmp .eq (.var 5) (.cst (.int 0)))) (.cons (.ite (.val (.isN (.var 4))) (.cons (.ret (.cst .non)) .nil) .nil) (.cons (.ret (.call 1 (.cons (.var 4) .nil))) .nil)) .nil) (.cons (.set 6 (.call 2 (.cons (.call 1 (.cons (.var 3) .nil)) (.cons (.call 5 (.cons (.var 2) (.cons (.call 1 (.cons (.bin .mul (.var 5) (.var 1)) .nil)) .nil))) .nil)))) (.cons (.ite (.val (.isN (.var 4))) (.cons (.ret (.var 6)) .nil) .nil) (.cons (.ret (.call 8 (.cons (.var 6) (.cons (.call 1 (.cons (.var 4) .nil)) .nil)))) .nil)))))
def bmiles_within_0 : Ss := (.cons (.ite (.val (.call 7 (.cons (.call 1 (.cons (.idx (.var 5) (.cst (.int 0))) .nil)) (.cons (.var 4) .nil)))) (.cons (.set 4 (.call 49 (.cons (.var 5) (.cons (.var 1) (.cons (.var 3) .nil))))) (.cons (.ite (.val (.isN (.var 4))) (.cons (.ret (.cst .non)) .nil) .nil) (.cons (.set 3 (.call 3 (.cons (.var 3) (.cons (.call 4 (.cons (.call 1 (.cons (.bin .mul (.idx (.var 5) (.cst (.int 2))) (.var 1)) .nil)) (.cons (.call 47 (.cons (.var 5) (.cons (.var 4) .nil))) .nil))) .nil)))) .nil))) .nil) .nil)
def bmiles_within : Ss := (.cons (.set 3 (.call 1 (.cons (.var 2) .nil))) (.cons (.set 4 (.call 1 (.cons (.cst (.int 0)) .nil))) (.cons (.for (.name 5) (.seq (.call 46 (.cons (.var 0) .nil))) bmiles_within_0) (.cons (.ret (.var 4)) .nil))))
def bis_band : Ss := (.cons (.ret (.and (.call 24 (.cons (.var 0) .nil)) (.call 21 (.cons (.idx (.var 0) (.cst (.int 1))) (.cons (.cst (.int 0)) (.cons (.cst (.int 1000)) .nil)))))) .nil)
def eis_toll_0 : E := (.call 51 (.cons (.var 1) .nil))
def eis_toll_1 : E := (.idx (.var 1) (.cst (.int 0)))
def bis_toll : Ss := (.cons (.ite (.not (.val (.call 23 (.cons (.var 0) (.cons (.cst (.int 1)) (.cons (.cst (.int 4)) .nil)))))) (.cons (.ret (.cst (.bl false))) .nil) .nil) (.cons (.ite (.not (.val (.bi .all (.cons (.comp0 eis_toll_0 (.name 1) (.seq (.var 0)) [1]) .nil)))) (.cons (.ret (.cst (.bl false))) .nil) .nil) (.cons (.set 2 (.cell (.comp0 eis_toll_1 (.name 1) (.seq (.var 0)) [1]))) (.cons (.ite (.or (.val (.notN (.pop (.var 2)))) (.not (.val (.call 25 (.cons (.var 2) (.cons (.cst (.int 0)) (.cons (.cst (.int 4)) (.cons (.cst (.int 1)) (.cons (.cst (.int 1000)) .nil))))))))) (.cons (.ret (.cst (.bl false))) .nil) .nil) (.cons (.ret (.call 28 (.cons (.var 2) .nil))) .nil)))))
def bis_miles : Ss := (.cons (.ret (.and (.call 30 (.cons (.var 0) .nil)) (.cmp .ge (.idx (.var 0) (.cst (.int 0))) (.cst (.int 0))))) .nil)
def bdue : Ss := (.cons (.expr (.call 19 (.cons (.call 52 (.cons (.var 0) .nil)) (.cons (.cst (.int 0)) .nil)))) (.cons (.expr (.call 19 (.cons (.call 21 (.cons (.var 1) (.cons (.cst (.int 0)) (.cons (.cst (.int 1000)) .nil)))) (.cons (.cst (.int 1)) .nil)))) (.cons (.expr (.call 19 (.cons (.call 53 (.cons (.var 2) .nil)) (.cons (.cst (.int 2)) .nil)))) (.cons (.ret (.call 48 (.cons (.call 31 (.cons (.var 0) .nil)) (.cons (.var 1) (.cons (.call 31 (.cons (.var 2) .nil)) .nil))))) .nil))))
def bmiles_for : Ss := (.cons (.expr (.call 19 (.cons (.call 52 (.cons (.var 0) .nil)) (.cons (.cst (.int 0)) .nil)))) (.cons (.expr (.call 19 (.cons (.call 21 (.cons (.var 1) (.cons (.cst (.int 1)) (.cons (.cst (.int 1000)) .nil)))) (.cons (.cst (.int 1)) .nil)))) (.cons (.expr (.call 19 (.cons (.call 21 (.cons (.var 2) (.cons (.cst (.int 0)) (.cons (.cst (.int 1000000000)) .nil)))) (.cons (.cst (.int 2)) .nil)))) (.cons (.ret (.call 50 (.cons (.call 31 (.cons (.var 0) .nil)) (.cons (.var 1) (.cons (.var 2) .nil))))) .nil))))
def bis_span : Ss := (.cons (.ite (.not (.val (.call 24 (.cons (.var 0) .nil)))) (.cons (.ret (.cst (.bl false))) .nil) .nil) (.cons (.asg (.tup (.cons (.name 1) (.cons (.name 2) .nil))) (.var 0)) (.cons (.ret (.and (.call 21 (.cons (.var 1) (.cons (.cst (.int 0)) (.cons (.cst (.int 10000)) .nil)))) (.and (.call 21 (.cons (.var 2) (.cons (.cst (.int 0)) (.cons (.cst (.int 10000)) .nil)))) (.cmp .le (.var 1) (.var 2))))) .nil)))
def eare_spans_0 : E := (.call 56 (.cons (.var 1) .nil))
def eare_spans_1 : E := (.cmp .lt (.idx (.idx (.var 0) (.bin .sub (.var 2) (.cst (.int 1)))) (.cst (.int 1))) (.idx (.idx (.var 0) (.var 2)) (.cst (.int 0))))
def bare_spans : Ss := (.cons (.ite (.or (.not (.val (.call 23 (.cons (.var 0) (.cons (.cst (.int 0)) (.cons (.cst (.int 4)) .nil)))))) (.not (.val (.bi .all (.cons (.comp0 eare_spans_0 (.name 1) (.seq (.var 0)) [1]) .nil))))) (.cons (.ret (.cst (.bl false))) .nil) .nil) (.cons (.ret (.bi .all (.cons (.comp0 eare_spans_1 (.name 2) (.rng (.cons (.cst (.int 1)) (.cons (.bi .len (.cons (.var 0) .nil)) .nil))) [2]) .nil))) .nil))
def bis_leg : Ss := (.cons (.ite (.or (.not (.val (.call 24 (.cons (.var 0) .nil)))) (.not (.val (.call 21 (.cons (.idx (.var 0) (.cst (.int 0))) (.cons (.cst (.int 0)) (.cons (.cst (.int 1000)) .nil))))))) (.cons (.ret (.cst (.bl false))) .nil) .nil) (.cons (.ret (.or (.isN (.idx (.var 0) (.cst (.int 1)))) (.call 57 (.cons (.idx (.var 0) (.cst (.int 1))) .nil)))) .nil))
def eare_legs_0 : E := (.call 58 (.cons (.var 1) .nil))
def bare_legs : Ss := (.cons (.ret (.and (.call 23 (.cons (.var 0) (.cons (.cst (.int 0)) (.cons (.cst (.int 10)) .nil)))) (.bi .all (.cons (.comp0 eare_legs_0 (.name 1) (.seq (.var 0)) [1]) .nil)))) .nil)
def bchecked : Ss := (.cons (.expr (.call 19 (.cons (.call 59 (.cons (.var 0) .nil)) (.cons (.cst (.int 0)) .nil)))) (.cons (.expr (.call 19 (.cons (.call 21 (.cons (.var 1) (.cons (.cst (.int 0)) (.cons (.cst (.int 10000)) .nil)))) (.cons (.cst (.int 1)) .nil)))) (.cons (.ret (.call 31 (.cons (.var 0) .nil))) .nil)))
def bbegin_from_0 : Ss := (.cons (.ite (.val (.cmp .le (.var 1) (.var 3))) (.cons (.ret (.bi .max (.cons (.var 2) (.cons (.var 1) .nil)))) .nil) .nil) .nil)
def bbegin_from : Ss := (.cons (.ite (.val (.isN (.var 0))) (.cons (.ret (.var 1)) .nil) .nil) (.cons (.for (.tup (.cons (.name 2) (.cons (.name 3) .nil))) (.seq (.var 0)) bbegin_from_0) (.cons (.ret (.cst .non)) .nil)))
def bbegin_till_0 : Ss := (.cons (.ite (.val (.cmp .le (.var 3) (.var 1))) (.cons (.set 2 (.bi .min (.cons (.var 4) (.cons (.var 1) .nil)))) .nil) .nil) .nil)
def bbegin_till : Ss := (.cons (.ite (.val (.cmp .lt (.var 1) (.cst (.int 0)))) (.cons (.ret (.cst .non)) .nil) .nil) (.cons (.ite (.val (.isN (.var 0))) (.cons (.ret (.var 1)) .nil) .nil) (.cons (.set 2 (.cst .non)) (.cons (.for (.tup (.cons (.name 3) (.cons (.name 4) .nil))) (.seq (.var 0)) bbegin_till_0) (.cons (.ret (.var 2)) .nil)))))
def btravelled_0 : Ss := (.cons (.set 6 (.call 61 (.cons (.var 5) (.cons (.var 2) .nil)))) (.cons (.ite (.val (.isN (.var 6))) (.cons (.ret (.cst .non)) .nil) .nil) (.cons (.app 3 (.bin .sub (.var 6) (.var 2))) (.cons (.set 2 (.bin .add (.var 6) (.var 4))) .nil))))
def btravelled : Ss := (.cons (.set 2 (.var 1)) (.cons (.new 3 (.lst .nil)) (.cons (.for (.tup (.cons (.name 4) (.cons (.name 5) .nil))) (.seq (.var 0)) btravelled_0) (.cons (.ret (.tup (.cons (.var 2) (.cons (.bi .tuple (.cons (.var 3) .nil)) .nil)))) .nil))))
def barrives : Ss := (.cons (.set 2 (.call 63 (.cons (.call 60 (.cons (.var 0) (.cons (.var 1) .nil))) (.cons (.var 1) .nil)))) (.cons (.ite (.val (.isN (.var 2))) (.cons (.ret (.cst .non)) .nil) .nil) (.cons (.ret (.idx (.var 2) (.cst (.int 0)))) .nil)))
def bwaits : Ss := (.cons (.set 2 (.call 63 (.cons (.call 60 (.cons (.var 0) (.cons (.var 1) .nil))) (.cons (.var 1) .nil)))) (.cons (.ite (.val (.isN (.var 2))) (.cons (.ret (.cst .non)) .nil) .nil) (.cons (.ret (.idx (.var 2) (.cst (.int 1)))) .nil)))
def bleaves_0 : Ss := (.cons (.set 2 (.call 62 (.cons (.var 4) (.cons (.bin .sub (.var 2) (.var 3)) .nil)))) (.cons (.ite (.val (.isN (.var 2))) (.cons (.ret (.cst .non)) .nil) .nil) .nil))
def bleaves : Ss := (.cons (.set 2 (.var 1)) (.cons (.for (.tup (.cons (.name 3) (.cons (.name 4) .nil))) (.rev (.bi .list (.cons (.call 60 (.cons (.var 0) (.cons (.var 1) .nil))) .nil))) bleaves_0) (.cons (.ret (.var 2)) .nil)))
def eis_table_0 : E := (.idx (.var 1) (.cst (.int 0)))
def bis_table : Ss := (.cons (.ite (.not (.val (.call 27 (.cons (.var 0) (.cons (.cst (.int 2)) (.cons (.cst (.int 12)) (.cons (.tup (.cons (.tup (.cons (.cst (.int 0)) (.cons (.cst (.int 1440)) .nil))) (.cons (.tup (.cons (.cst (.int (-500))) (.cons (.cst (.int 1500)) .nil))) .nil))) .nil))))))) (.cons (.ret (.cst (.bl false))) .nil) .nil) (.cons (.ret (.call 28 (.cons (.comp0 eis_table_0 (.name 1) (.seq (.var 0)) [1]) .nil))) .nil))
def bsour_at : Ss := (.cons (.expr (.call 19 (.cons (.call 67 (.cons (.var 0) .nil)) (.cons (.cst (.int 0)) .nil)))) (.cons (.expr (.call 19 (.cons (.call 30 (.cons (.var 1) .nil)) (.cons (.cst (.int 1)) .nil)))) (.cons (.par 2 3 (.call 31 (.cons (.var 0) .nil)) (.call 31 (.cons (.var 1) .nil))) (.cons (.expr (.call 19 (.cons (.call 11 (.cons (.var 2) (.cons (.var 3) .nil))) (.cons (.cst (.int 1)) .nil)))) (.cons (.ret (.call 13 (.cons (.var 2) (.cons (.var 3) .nil)))) .nil)))))
def bwindows : Ss := (.cons (.expr (.call 19 (.cons (.call 67 (.cons (.var 0) .nil)) (.cons (.cst (.int 0)) .nil)))) (.cons (.expr (.call 19 (.cons (.call 21 (.cons (.var 1) (.cons (.cst (.int (-500))) (.cons (.cst (.int 1500)) .nil)))) (.cons (.cst (.int 1)) .nil)))) (.cons (.ret (.call 17 (.cons (.call 31 (.cons (.var 0) .nil)) (.cons (.var 1) .nil)))) .nil)))
def bfirst_from_0 : Ss := (.cons (.ite (.val (.call 7 (.cons (.var 4) (.cons (.var 6) .nil)))) (.cons (.ret (.call 9 (.cons (.var 5) (.cons (.var 4) .nil)))) .nil) .nil) .nil)
def bfirst_from : Ss := (.cons (.asg (.tup (.cons (.name 3) (.cons (.name 4) .nil))) (.call 72 (.cons (.var 0) (.cons (.var 1) (.cons (.var 2) .nil))))) (.cons (.for (.tup (.cons (.name 5) (.cons (.name 6) .nil))) (.seq (.var 3)) bfirst_from_0) (.cons (.ret (.cst .non)) .nil)))
def blast_till_0 : Ss := (.cons (.ite (.val (.call 7 (.cons (.var 6) (.cons (.var 4) .nil)))) (.cons (.set 5 (.call 8 (.cons (.var 7) (.cons (.var 4) .nil)))) .nil) .nil) .nil)
def blast_till : Ss := (.cons (.asg (.tup (.cons (.name 3) (.cons (.name 4) .nil))) (.call 72 (.cons (.var 0) (.cons (.var 1) (.cons (.var 2) .nil))))) (.cons (.set 5 (.cst .non)) (.cons (.for (.tup (.cons (.name 6) (.cons (.name 7) .nil))) (.seq (.var 3)) blast_till_0) (.cons (.ret (.var 5)) .nil))))
def basked : Ss := (.cons (.expr (.call 19 (.cons (.call 67 (.cons (.var 0) .nil)) (.cons (.cst (.int 0)) .nil)))) (.cons (.expr (.call 19 (.cons (.call 21 (.cons (.var 1) (.cons (.cst (.int (-500))) (.cons (.cst (.int 1500)) .nil)))) (.cons (.cst (.int 1)) .nil)))) (.cons (.expr (.call 19 (.cons (.call 30 (.cons (.var 2) .nil)) (.cons (.cst (.int 2)) .nil)))) (.cons (.par 3 4 (.call 31 (.cons (.var 0) .nil)) (.call 31 (.cons (.var 2) .nil))) (.cons (.expr (.call 19 (.cons (.call 11 (.cons (.var 3) (.cons (.var 4) .nil))) (.cons (.cst (.int 2)) .nil)))) (.cons (.ret (.tup (.cons (.call 17 (.cons (.var 3) (.cons (.var 1) .nil))) (.cons (.var 4) .nil)))) .nil))))))
def b_law_so_0 : Ss := (.cons (.ite (.not (.val (.call 73 (.cons (.idx (.var 0) (.var 2)) (.cons (.idx (.var 1) (.var 2)) .nil))))) (.cons (.ret (.cst (.bl false))) .nil) .nil) .nil)
def b_law_so : Ss := (.cons (.ite (.val (.isN (.var 1))) (.cons (.ret (.isN (.var 0))) .nil) .nil) (.cons (.ite (.val (.isi (.var 1) [4])) (.cons (.ite (.or (.not (.val (.isi (.var 0) [4]))) (.val (.cmp .ne (.bi .len (.cons (.var 0) .nil)) (.bi .len (.cons (.var 1) .nil))))) (.cons (.ret (.cst (.bl false))) .nil) .nil) (.cons (.for (.name 2) (.rng (.cons (.bi .len (.cons (.var 1) .nil)) .nil)) b_law_so_0) (.cons (.ret (.cst (.bl true))) .nil))) .nil) (.cons (.ite (.or (.val (.isi (.var 1) [1])) (.val (.isi (.var 0) [1]))) (.cons (.ret (.and (.isi (.var 1) [1]) (.and (.isi (.var 0) [1]) (.cmp .eq (.var 0) (.var 1))))) .nil) .nil) (.cons (.ite (.val (.isi (.var 1) [0])) (.cons (.ret (.and (.isi (.var 0) [0]) (.cmp .eq (.var 0) (.var 1)))) .nil) .nil) (.cons (.ret (.and (.isi (.var 1) [2]) (.and (.isi (.var 0) [2]) (.cmp .eq (.var 0) (.var 1))))) .nil)))))
def b_law_numbers_0 : Ss := (.cons (.ite (.val (.cmp .eq (.var 3) (.cst (.int 0)))) (.cons .brk .nil) .nil) (.cons (.app 1 (.bin .mod (.bi .int (.cons (.var 3) .nil)) (.cst (.int 997)))) (.cons (.set 3 (.bin .fdiv (.var 3) (.cst (.int 997)))) .nil)))
def b_law_numbers_1 : Ss := (.cons (.set 5 (.bin .mod (.bi .int (.cons (.bin .add (.bin .add (.bin .mul (.var 2) (.cst (.int 48271))) (.bin .mul (.var 4) (.cst (.int 69621)))) (.cst (.int 11))) .nil)) (.cst (.int 2147483647)))) (.cons (.app 1 (.bin .mod (.bi .int (.cons (.bin .add (.bin .mul (.var 5) (.cst (.int 16807))) (.var 4)) .nil)) (.cst (.int 2147483629)))) .nil))
def b_law_numbers_2 : Ss := (.cons (.ite (.val (.cmp .ge (.var 2) (.bin .pow (.cst (.int 10)) (.cst (.int 18))))) (.cons (.set 3 (.var 2)) (.cons (.for (.name 4) (.rng (.cons (.cst (.int 60)) .nil)) b_law_numbers_0) .nil)) (.cons (.for (.name 4) (.rng (.cons (.cst (.int 4)) .nil)) b_law_numbers_1) .nil)) .nil)
def b_law_numbers : Ss := (.cons (.new 1 (.lst .nil)) (.cons (.for (.name 2) (.seq (.sli 2 (.var 0) (.cst .non) (.cst (.int 63)))) b_law_numbers_2) (.cons (.ite (.val (.cmp .eq (.bi .len (.cons (.var 1) .nil)) (.cst (.int 0)))) (.cons (.app 1 (.cst (.int 0))) .nil) .nil) (.cons (.ret (.var 1)) .nil))))
def b_law_draw : Ss := (.cons (.ite (.val (.cmp .lt (.var 1) (.bi .len (.cons (.var 0) .nil)))) (.cons (.ret (.bin .mod (.bi .int (.cons (.idx (.var 0) (.var 1)) .nil)) (.var 2))) .nil) .nil) (.cons (.set 3 (.bin .mod (.bi .int (.cons (.bin .add (.bin .add (.bin .mul (.idx (.var 0) (.bin .mod (.bi .int (.cons (.var 1) .nil)) (.bi .len (.cons (.var 0) .nil)))) (.cst (.int 40692))) (.bin .mul (.var 1) (.cst (.int 7919)))) (.cst (.int 3))) .nil)) (.cst (.int 2147483399)))) (.cons (.ret (.bin .mod (.bi .int (.cons (.bin .mod (.bi .int (.cons (.bin .add (.bin .mul (.var 3) (.cst (.int 48271))) (.var 1)) .nil)) (.cst (.int 2147483647))) .nil)) (.var 2))) .nil)))
def b_law_take : Ss := (.cons (.setI 1 (.cst (.int 0)) (.bin .add (.idx (.var 1) (.cst (.int 0))) (.cst (.int 1)))) (.cons (.ret (.call 75 (.cons (.var 0) (.cons (.bin .sub (.idx (.var 1) (.cst (.int 0))) (.cst (.int 1))) (.cons (.var 2) .nil))))) .nil))
def b_law_pick : Ss := (.cons (.ret (.idx (.var 2) (.call 76 (.cons (.var 0) (.cons (.var 1) (.cons (.bi .len (.cons (.var 2) .nil)) .nil)))))) .nil)
def b_law_gcd_0 : Ss := (.cons (.ite (.val (.cmp .eq (.var 3) (.cst (.int 0)))) (.cons .brk .nil) .nil) (.cons (.set 5 (.bin .mod (.bi .int (.cons (.var 2) .nil)) (.var 3))) (.cons (.set 2 (.var 3)) (.cons (.set 3 (.var 5)) .nil))))
def b_law_gcd : Ss := (.cons (.set 2 (.ite (.val (.cmp .ge (.var 0) (.cst (.int 0)))) (.var 0) (.neg (.var 0)))) (.cons (.set 3 (.ite (.val (.cmp .ge (.var 1) (.cst (.int 0)))) (.var 1) (.neg (.var 1)))) (.cons (.for (.name 4) (.rng (.cons (.cst (.int 20000)) .nil)) b_law_gcd_0) (.cons (.ret (.var 2)) .nil))))
def e_law_sets_0 : E := (.bin .add (.var 3) (.lst (.cons (.var 2) .nil)))
def b_law_sets_1 : Ss := (.cons (.set 1 (.bin .add (.var 1) (.comp0 e_law_sets_0 (.name 3) (.seq (.var 1)) [3]))) .nil)
def b_law_sets : Ss := (.cons (.new 1 (.lst (.cons (.lst .nil) .nil))) (.cons (.for (.name 2) (.seq (.var 0)) b_law_sets_1) (.cons (.ret (.var 1)) .nil)))
def b_law_red : Ss := (.cons (.ite (.val (.cmp .lt (.var 1) (.cst (.int 0)))) (.cons (.ret (.call 80 (.cons (.neg (.var 0)) (.cons (.neg (.var 1)) .nil)))) .nil) .nil) (.cons (.set 2 (.call 78 (.cons (.var 0) (.cons (.var 1) .nil)))) (.cons (.ite (.val (.cmp .eq (.var 2) (.cst (.int 0)))) (.cons (.ret (.tup (.cons (.cst (.int 0)) (.cons (.cst (.int 1)) .nil)))) .nil) .nil) (.cons (.ret (.tup (.cons (.bin .fdiv (.var 0) (.var 2)) (.cons (.bin .fdiv (.var 1) (.var 2)) .nil)))) .nil))))
def b_law_add : Ss := (.cons (.ret (.call 80 (.cons (.bin .add (.bin .mul (.idx (.var 0) (.cst (.int 0))) (.idx (.var 1) (.cst (.int 1)))) (.bin .mul (.idx (.var 1) (.cst (.int 0))) (.idx (.var 0) (.cst (.int 1))))) (.cons (.bin .mul (.idx (.var 0) (.cst (.int 1))) (.idx (.var 1) (.cst (.int 1)))) .nil)))) .nil)
def b_law_sub : Ss := (.cons (.ret (.call 80 (.cons (.bin .sub (.bin .mul (.idx (.var 0) (.cst (.int 0))) (.idx (.var 1) (.cst (.int 1)))) (.bin .mul (.idx (.var 1) (.cst (.int 0))) (.idx (.var 0) (.cst (.int 1))))) (.cons (.bin .mul (.idx (.var 0) (.cst (.int 1))) (.idx (.var 1) (.cst (.int 1)))) .nil)))) .nil)
def b_law_mul : Ss := (.cons (.ret (.call 80 (.cons (.bin .mul (.idx (.var 0) (.cst (.int 0))) (.idx (.var 1) (.cst (.int 0)))) (.cons (.bin .mul (.idx (.var 0) (.cst (.int 1))) (.idx (.var 1) (.cst (.int 1)))) .nil)))) .nil)
def b_law_less : Ss := (.cons (.ret (.cmp .lt (.bin .mul (.idx (.var 0) (.cst (.int 0))) (.idx (.var 1) (.cst (.int 1)))) (.bin .mul (.idx (.var 1) (.cst (.int 0))) (.idx (.var 0) (.cst (.int 1)))))) .nil)
def b_law_table_0 : Ss := (.cons (.app 2 (.tup (.cons (.var 3) (.cons (.bin .sub (.call 76 (.cons (.var 0) (.cons (.var 1) (.cons (.var 4) .nil)))) (.var 5)) .nil)))) (.cons (.set 3 (.bin .add (.bin .add (.var 3) (.cst (.int 1))) (.call 76 (.cons (.var 0) (.cons (.var 1) (.cons (.call 77 (.cons (.var 0) (.cons (.var 1) (.cons (.lst (.cons (.cst (.int 2)) (.cons (.cst (.int 20)) (.cons (.cst (.int 120)) .nil)))) .nil)))) .nil)))))) .nil))
def b_law_table : Ss := (.cons (.new 2 (.lst .nil)) (.cons (.set 3 (.call 76 (.cons (.var 0) (.cons (.var 1) (.cons (.cst (.int 30)) .nil))))) (.cons (.set 4 (.call 77 (.cons (.var 0) (.cons (.var 1) (.cons (.lst (.cons (.cst (.int 4)) (.cons (.cst (.int 100)) (.cons (.cst (.int 997)) .nil)))) .nil))))) (.cons (.set 5 (.call 77 (.cons (.var 0) (.cons (.var 1) (.cons (.lst (.cons (.cst (.int 0)) (.cons (.bin .fdiv (.var 4) (.cst (.int 2))) .nil))) .nil))))) (.cons (.for (.name 6) (.rng (.cons (.bin .add (.cst (.int 2)) (.call 76 (.cons (.var 0) (.cons (.var 1) (.cons (.cst (.int 7)) .nil))))) .nil)) b_law_table_0) (.cons (.ret (.bi .tuple (.cons (.var 2) .nil))) .nil))))))
def b_law_cross : Ss := (.cons (.ret (.call 81 (.cons (.tup (.cons (.idx (.var 0) (.cst (.int 0))) (.cons (.cst (.int 1)) .nil))) (.cons (.call 80 (.cons (.bin .mul (.bin .sub (.var 2) (.idx (.var 0) (.cst (.int 1)))) (.bin .sub (.idx (.var 1) (.cst (.int 0))) (.idx (.var 0) (.cst (.int 0))))) (.cons (.bin .sub (.idx (.var 1) (.cst (.int 1))) (.idx (.var 0) (.cst (.int 1)))) .nil))) .nil)))) .nil)
def b_law_windows_0 : Ss := (.cons (.set 5 (.idx (.var 0) (.bin .sub (.var 4) (.cst (.int 1))))) (.cons (.set 6 (.idx (.var 0) (.var 4))) (.cons (.ite (.and (.val (.notN (.var 3))) (.val (.cmp .lt (.idx (.var 6) (.cst (.int 1))) (.var 1)))) (.cons (.app 2 (.tup (.cons (.var 3) (.cons (.ite (.val (.cmp .gt (.idx (.var 5) (.cst (.int 1))) (.var 1))) (.call 86 (.cons (.var 5) (.cons (.var 6) (.cons (.var 1) .nil)))) (.tup (.cons (.idx (.var 5) (.cst (.int 0))) (.cons (.cst (.int 1)) .nil)))) .nil)))) (.cons (.set 3 (.cst .non)) .nil)) (.cons (.ite (.and (.val (.isN (.var 3))) (.val (.cmp .ge (.idx (.var 6) (.cst (.int 1))) (.var 1)))) (.cons (.set 3 (.call 86 (.cons (.var 5) (.cons (.var 6) (.cons (.var 1) .nil))))) .nil) .nil) .nil)) .nil)))
def b_law_windows : Ss := (.cons (.new 2 (.lst .nil)) (.cons (.set 3 (.ite (.val (.cmp .ge (.idx (.idx (.var 0) (.cst (.int 0))) (.cst (.int 1))) (.var 1))) (.tup (.cons (.idx (.idx (.var 0) (.cst (.int 0))) (.cst (.int 0))) (.cons (.cst (.int 1)) .nil))) (.cst .non))) (.cons (.for (.name 4) (.rng (.cons (.cst (.int 1)) (.cons (.bi .len (.cons (.var 0) .nil)) .nil))) b_law_windows_0) (.cons (.ite (.val (.notN (.var 3))) (.cons (.app 2 (.tup (.cons (.var 3) (.cons (.tup (.cons (.idx (.idx (.var 0) (.bin .sub (.bi .len (.cons (.var 0) .nil)) (.cst (.int 1)))) (.cst (.int 0))) (.cons (.cst (.int 1)) .nil))) .nil)))) .nil) .nil) (.cons (.ret (.var 2)) .nil)))))
def b_law_legs_0 : Ss := (.cons (.set 7 (.bin .add (.var 5) (.call 76 (.cons (.var 0) (.cons (.var 1) (.cons (.cst (.int 30)) .nil)))))) (.cons (.app 4 (.tup (.cons (.var 5) (.cons (.var 7) .nil)))) (.cons (.set 5 (.bin .add (.bin .add (.var 7) (.cst (.int 1))) (.call 76 (.cons (.var 0) (.cons (.var 1) (.cons (.cst (.int 40)) .nil)))))) .nil)))
def b_law_legs_1 : Ss := (.cons (.set 4 (.cst .non)) (.cons (.ite (.val (.cmp .gt (.call 76 (.cons (.var 0) (.cons (.var 1) (.cons (.cst (.int 3)) .nil)))) (.cst (.int 0)))) (.cons (.new 4 (.lst .nil)) (.cons (.set 5 (.call 76 (.cons (.var 0) (.cons (.var 1) (.cons (.cst (.int 40)) .nil))))) (.cons (.for (.name 6) (.rng (.cons (.call 76 (.cons (.var 0) (.cons (.var 1) (.cons (.cst (.int 4)) .nil)))) .nil)) b_law_legs_0) (.cons (.set 4 (.bi .tuple (.cons (.var 4) .nil))) .nil)))) .nil) (.cons (.app 2 (.tup (.cons (.call 76 (.cons (.var 0) (.cons (.var 1) (.cons (.cst (.int 30)) .nil)))) (.cons (.var 4) .nil)))) .nil)))
def b_law_legs : Ss := (.cons (.new 2 (.lst .nil)) (.cons (.for (.name 3) (.rng (.cons (.call 76 (.cons (.var 0) (.cons (.var 1) (.cons (.cst (.int 6)) .nil)))) .nil)) b_law_legs_1) (.cons (.ret (.bi .tuple (.cons (.var 2) .nil))) .nil)))
def e_law_arrives_0 : E := (.var 6)
def t_law_arrives_1 : T := (.val (.cmp .ge (.idx (.var 6) (.cst (.int 1))) (.var 1)))
def b_law_arrives_2 : Ss := (.cons (.set 4 (.var 1)) (.cons (.ite (.val (.notN (.idx (.var 3) (.cst (.int 1))))) (.cons (.new 5 (.comp1 e_law_arrives_0 (.name 6) (.seq (.idx (.var 3) (.cst (.int 1)))) t_law_arrives_1 [6])) (.cons (.ite (.val (.cmp .eq (.bi .len (.cons (.var 5) .nil)) (.cst (.int 0)))) (.cons (.ret (.cst .non)) .nil) .nil) (.cons (.set 4 (.bi .max (.cons (.var 1) (.cons (.idx (.idx (.var 5) (.cst (.int 0))) (.cst (.int 0))) .nil)))) .nil))) .nil) (.cons (.app 2 (.bin .sub (.var 4) (.var 1))) (.cons (.set 1 (.bin .add (.var 4) (.idx (.var 3) (.cst (.int 0))))) .nil))))
def b_law_arrives : Ss := (.cons (.new 2 (.lst .nil)) (.cons (.for (.name 3) (.seq (.var 0)) b_law_arrives_2) (.cons (.ret (.tup (.cons (.var 1) (.cons (.bi .tuple (.cons (.var 2) .nil)) .nil)))) .nil)))
def b_law_toll_0 : Ss := (.cons (.set 3 (.bin .add (.bin .add (.var 3) (.cst (.int 1))) (.call 76 (.cons (.var 0) (.cons (.var 1) (.cons (.call 77 (.cons (.var 0) (.cons (.var 1) (.cons (.lst (.cons (.cst (.int 4)) (.cons (.cst (.int 200)) .nil))) .nil)))) .nil)))))) (.cons (.app 2 (.tup (.cons (.var 3) (.cons (.call 77 (.cons (.var 0) (.cons (.var 1) (.cons (.lst (.cons (.cst (.int 0)) (.cons (.cst (.int 1)) (.cons (.cst (.int 3)) (.cons (.call 76 (.cons (.var 0) (.cons (.var 1) (.cons (.cst (.int 997)) .nil)))) .nil))))) .nil)))) .nil)))) .nil))
def b_law_toll : Ss := (.cons (.new 2 (.lst .nil)) (.cons (.set 3 (.cst (.int 0))) (.cons (.for (.name 4) (.rng (.cons (.call 76 (.cons (.var 0) (.cons (.var 1) (.cons (.cst (.int 4)) .nil)))) .nil)) b_law_toll_0) (.cons (.ret (.bi .tuple (.cons (.bin .add (.var 2) (.lst (.cons (.tup (.cons (.cst .non) (.cons (.call 77 (.cons (.var 0) (.cons (.var 1) (.cons (.lst (.cons (.cst (.int 0)) (.cons (.cst (.int 1)) (.cons (.cst (.int 2)) (.cons (.cst (.int 1000)) .nil))))) .nil)))) .nil))) .nil))) .nil))) .nil))))
def b_law_due_0 : Ss := (.cons (.set 6 (.ite (.or (.val (.isN (.idx (.var 5) (.cst (.int 0))))) (.val (.call 84 (.cons (.var 2) (.cons (.tup (.cons (.idx (.var 5) (.cst (.int 0))) (.cons (.cst (.int 1)) .nil))) .nil))))) (.var 2) (.tup (.cons (.idx (.var 5) (.cst (.int 0))) (.cons (.cst (.int 1)) .nil))))) (.cons (.ite (.val (.call 84 (.cons (.var 4) (.cons (.var 6) .nil)))) (.cons (.set 3 (.call 81 (.cons (.var 3) (.cons (.call 83 (.cons (.call 82 (.cons (.var 6) (.cons (.var 4) .nil))) (.cons (.tup (.cons (.bin .mul (.idx (.var 5) (.cst (.int 1))) (.var 1)) (.cons (.cst (.int 1)) .nil))) .nil))) .nil)))) (.cons (.set 4 (.var 6)) .nil)) .nil) .nil))
def b_law_due : Ss := (.cons (.set 3 (.tup (.cons (.cst (.int 0)) (.cons (.cst (.int 1)) .nil)))) (.cons (.set 4 (.tup (.cons (.cst (.int 0)) (.cons (.cst (.int 1)) .nil)))) (.cons (.for (.name 5) (.seq (.var 0)) b_law_due_0) (.cons (.ret (.var 3)) .nil))))
def b_law_miles_0 : Ss := (.cons (.set 6 (.bin .mul (.idx (.var 5) (.cst (.int 1))) (.var 1))) (.cons (.ite (.val (.isN (.idx (.var 5) (.cst (.int 0))))) (.cons (.ret (.ite (.val (.cmp .eq (.var 6) (.cst (.int 0)))) (.cst .non) (.call 81 (.cons (.var 4) (.cons (.call 83 (.cons (.var 3) (.cons (.tup (.cons (.cst (.int 1)) (.cons (.var 6) .nil))) .nil))) .nil))))) .nil) .nil) (.cons (.set 7 (.call 82 (.cons (.tup (.cons (.idx (.var 5) (.cst (.int 0))) (.cons (.cst (.int 1)) .nil))) (.cons (.var 4) .nil)))) (.cons (.set 8 (.call 83 (.cons (.var 7) (.cons (.tup (.cons (.var 6) (.cons (.cst (.int 1)) .nil))) .nil)))) (.cons (.ite (.val (.call 84 (.cons (.var 3) (.cons (.var 8) .nil)))) (.cons (.ret (.call 81 (.cons (.var 4) (.cons (.call 83 (.cons (.var 3) (.cons (.tup (.cons (.cst (.int 1)) (.cons (.var 6) .nil))) .nil))) .nil)))) .nil) .nil) (.cons (.set 3 (.call 82 (.cons (.var 3) (.cons (.var 8) .nil)))) (.cons (.set 4 (.tup (.cons (.idx (.var 5) (.cst (.int 0))) (.cons (.cst (.int 1)) .nil)))) .nil)))))))
def b_law_miles : Ss := (.cons (.set 3 (.tup (.cons (.var 2) (.cons (.cst (.int 1)) .nil)))) (.cons (.set 4 (.tup (.cons (.cst (.int 0)) (.cons (.cst (.int 1)) .nil)))) (.cons (.for (.name 5) (.seq (.var 0)) b_law_miles_0) (.cons (.ret (.cst .non)) .nil))))
def e_law_borders_rest_0 : E := (.bin .sub (.call 76 (.cons (.var 0) (.cons (.var 1) (.cons (.cst (.int 45)) .nil)))) (.cst (.int 5)))
def b_law_borders_rest_1 : Ss := (.cons (.set 6 (.call 44 (.cons (.var 2) (.cons (.var 5) .nil)))) (.cons (.ite (.val (.cmp .gt (.var 6) (.cst (.int 10000)))) (.cons (.ret (.cst (.bl false))) .nil) .nil) (.cons (.ite (.or (.val (.call 84 (.cons (.call 43 (.cons (.var 6) (.cons (.var 2) .nil))) (.cons (.tup (.cons (.var 5) (.cons (.cst (.int 1)) .nil))) .nil)))) (.or (.val (.notN (.call 45 (.cons (.var 6) (.cons (.var 2) (.cons (.var 5) .nil)))))) (.and (.and (.val (.cmp .gt (.var 6) (.cst (.int 0)))) (.or (.not (.val (.call 84 (.cons (.call 43 (.cons (.bin .sub (.var 6) (.cst (.int 1))) (.cons (.var 2) .nil))) (.cons (.tup (.cons (.var 5) (.cons (.cst (.int 1)) .nil))) .nil))))) (.val (.isN (.call 45 (.cons (.bin .sub (.var 6) (.cst (.int 1))) (.cons (.var 2) (.cons (.var 5) .nil)))))))) (.val (.cmp .gt (.var 5) (.cst (.int 0))))))) (.cons (.ret (.cst (.bl false))) .nil) .nil) .nil)))
def b_law_borders_rest_2 : Ss := (.cons (.set 13 (.bin .add (.bin .fdiv (.idx (.var 11) (.cst (.int 0))) (.idx (.var 11) (.cst (.int 1)))) (.var 12))) (.cons (.ite (.val (.cmp .ge (.var 13) (.cst (.int 0)))) (.cons (.set 14 (.call 55 (.cons (.var 8) (.cons (.var 9) (.cons (.var 13) .nil))))) (.cons (.ite (.not (.val (.call 73 (.cons (.var 14) (.cons (.call 92 (.cons (.var 8) (.cons (.var 9) (.cons (.var 13) .nil)))) .nil))))) (.cons (.ret (.cst (.bl false))) .nil) .nil) (.cons (.ite (.and (.val (.notN (.var 14))) (.and (.val (.cmp .le (.bi .max (.cons (.var 14) .nil)) (.bin .pow (.cst (.int 10)) (.cst (.int 6))))) (.val (.cmp .ne (.call 54 (.cons (.var 8) (.cons (.var 9) (.cons (.var 14) .nil)))) (.tup (.cons (.var 13) (.cons (.cst (.int 1)) .nil))))))) (.cons (.ret (.cst (.bl false))) .nil) .nil) .nil))) .nil) .nil))
def b_law_borders_rest_3 : Ss := (.cons (.ite (.val (.notN (.idx (.var 10) (.cst (.int 0))))) (.cons (.set 11 (.call 54 (.cons (.var 8) (.cons (.var 9) (.cons (.tup (.cons (.idx (.var 10) (.cst (.int 0))) (.cons (.cst (.int 1)) .nil))) .nil))))) (.cons (.for (.name 12) (.seq (.lst (.cons (.neg (.cst (.int 1))) (.cons (.cst (.int 0)) (.cons (.cst (.int 1)) .nil))))) b_law_borders_rest_2) (.cons (.ite (.or (.val (.cmp .ne (.call 54 (.cons (.var 8) (.cons (.var 9) (.cons (.tup (.cons (.bin .add (.bin .mul (.cst (.int 2)) (.idx (.var 10) (.cst (.int 0)))) (.cst (.int 1))) (.cons (.cst (.int 2)) .nil))) .nil)))) (.call 91 (.cons (.var 8) (.cons (.var 9) (.cons (.tup (.cons (.bin .add (.bin .mul (.cst (.int 2)) (.idx (.var 10) (.cst (.int 0)))) (.cst (.int 1))) (.cons (.cst (.int 2)) .nil))) .nil)))))) (.val (.cmp .ne (.call 54 (.cons (.var 8) (.cons (.var 9) (.cons (.tup (.cons (.bin .sub (.bin .mul (.cst (.int 2)) (.idx (.var 10) (.cst (.int 0)))) (.cst (.int 1))) (.cons (.cst (.int 2)) .nil))) .nil)))) (.call 91 (.cons (.var 8) (.cons (.var 9) (.cons (.tup (.cons (.bin .sub (.bin .mul (.cst (.int 2)) (.idx (.var 10) (.cst (.int 0)))) (.cst (.int 1))) (.cons (.cst (.int 2)) .nil))) .nil))))))) (.cons (.ret (.cst (.bl false))) .nil) .nil) .nil))) .nil) .nil)
def b_law_borders_rest : Ss := (.cons (.set 2 (.bi .tuple (.cons (.comp0 e_law_borders_rest_0 (.name 3) (.rng (.cons (.bin .add (.cst (.int 1)) (.call 76 (.cons (.var 0) (.cons (.var 1) (.cons (.cst (.int 5)) .nil))))) .nil)) [3]) .nil))) (.cons (.set 4 (.call 43 (.cons (.cst (.int 1)) (.cons (.var 2) .nil)))) (.cons (.for (.name 5) (.seq (.lst (.cons (.cst (.int 1)) (.cons (.call 76 (.cons (.var 0) (.cons (.var 1) (.cons (.cst (.int 200)) .nil)))) (.cons (.cst (.int 997)) .nil))))) b_law_borders_rest_1) (.cons (.set 7 (.call 43 (.cons (.cst (.int 200)) (.cons (.var 2) .nil)))) (.cons (.ite (.val (.cmp .ne (.var 7) (.call 83 (.cons (.var 4) (.cons (.tup (.cons (.cst (.int 200)) (.cons (.cst (.int 1)) .nil))) .nil))))) (.cons (.ret (.cst (.bl false))) .nil) .nil) (.cons (.set 8 (.call 90 (.cons (.var 0) (.cons (.var 1) .nil)))) (.cons (.set 9 (.bin .add (.cst (.int 1)) (.call 76 (.cons (.var 0) (.cons (.var 1) (.cons (.cst (.int 9)) .nil)))))) (.cons (.for (.name 10) (.seq (.var 8)) b_law_borders_rest_3) (.cons (.ret (.cst (.bl true))) .nil)))))))))
def blaw_0 : Ss := (.cons (.ite (.or (.not (.val (.call 73 (.cons (.call 70 (.cons (.var 3) (.cons (.var 6) (.cons (.idx (.var 9) (.cst (.int 0))) .nil)))) (.cons (.idx (.var 9) (.cst (.int 0))) .nil))))) (.not (.val (.call 73 (.cons (.call 71 (.cons (.var 3) (.cons (.var 6) (.cons (.idx (.var 9) (.cst (.int 1))) .nil)))) (.cons (.idx (.var 9) (.cst (.int 1))) .nil)))))) (.cons (.ret (.cst (.bl false))) .nil) .nil) (.cons (.set 10 (.call 82 (.cons (.idx (.var 9) (.cst (.int 0))) (.cons (.tup (.cons (.cst (.int 1)) (.cons (.cst (.int 9)) .nil))) .nil)))) (.cons (.set 11 (.call 81 (.cons (.idx (.var 9) (.cst (.int 1))) (.cons (.tup (.cons (.cst (.int 1)) (.cons (.cst (.int 9)) .nil))) .nil)))) (.cons (.ite (.and (.not (.val (.call 84 (.cons (.var 10) (.cons (.var 4) .nil))))) (.val (.cmp .le (.bi .max (.cons (.var 10) .nil)) (.bin .pow (.cst (.int 10)) (.cst (.int 6)))))) (.cons (.set 12 (.call 71 (.cons (.var 3) (.cons (.var 6) (.cons (.var 10) .nil))))) (.cons (.ite (.or (.and (.not (.val (.call 84 (.cons (.call 68 (.cons (.var 3) (.cons (.var 10) .nil))) (.cons (.tup (.cons (.var 6) (.cons (.cst (.int 1)) .nil))) .nil))))) (.val (.cmp .ne (.var 12) (.var 10)))) (.and (.val (.notN (.var 12))) (.val (.call 84 (.cons (.var 10) (.cons (.var 12) .nil)))))) (.cons (.ret (.cst (.bl false))) .nil) .nil) .nil)) .nil) (.cons (.ite (.and (.not (.val (.call 84 (.cons (.var 5) (.cons (.var 11) .nil))))) (.val (.cmp .le (.bi .max (.cons (.var 11) .nil)) (.bin .pow (.cst (.int 10)) (.cst (.int 6)))))) (.cons (.set 12 (.call 70 (.cons (.var 3) (.cons (.var 6) (.cons (.var 11) .nil))))) (.cons (.ite (.or (.and (.not (.val (.call 84 (.cons (.call 68 (.cons (.var 3) (.cons (.var 11) .nil))) (.cons (.tup (.cons (.var 6) (.cons (.cst (.int 1)) .nil))) .nil))))) (.val (.cmp .ne (.var 12) (.var 11)))) (.and (.val (.notN (.var 12))) (.val (.call 84 (.cons (.var 12) (.cons (.var 11) .nil)))))) (.cons (.ret (.cst (.bl false))) .nil) .nil) .nil)) .nil) .nil)))))
def blaw_1 : Ss := (.cons (.set 8 (.call 69 (.cons (.var 3) (.cons (.var 6) .nil)))) (.cons (.ite (.not (.val (.call 73 (.cons (.var 8) (.cons (.bi .tuple (.cons (.call 87 (.cons (.var 3) (.cons (.var 6) .nil))) .nil)) .nil))))) (.cons (.ret (.cst (.bl false))) .nil) .nil) (.cons (.for (.name 9) (.seq (.var 8)) blaw_0) .nil)))
def elaw_2 : E := (.idx (.var 7) (.cst (.int 1)))
def elaw_3 : E := (.bin .add (.idx (.var 7) (.cst (.int 1))) (.cst (.int 1)))
def blaw_4 : Ss := (.cons (.set 14 (.bin .add (.var 14) (.lst (.cons (.bi .max (.cons (.cst (.int 0)) (.cons (.bin .sub (.idx (.var 9) (.cst (.int 0))) (.cst (.int 1))) .nil))) (.cons (.idx (.var 9) (.cst (.int 0))) (.cons (.idx (.var 9) (.cst (.int 1))) (.cons (.bin .add (.idx (.var 9) (.cst (.int 1))) (.cst (.int 1))) .nil))))))) .nil)
def blaw_5 : Ss := (.cons (.for (.name 9) (.seq (.ite (.val (.notN (.idx (.var 15) (.cst (.int 1))))) (.idx (.var 15) (.cst (.int 1))) (.tup .nil))) blaw_4) .nil)
def blaw_6 : Ss := (.cons (.set 18 (.call 66 (.cons (.var 13) (.cons (.var 17) .nil)))) (.cons (.ite (.and (.val (.cmp .ge (.var 17) (.idx (.var 12) (.cst (.int 0))))) (.or (.val (.isN (.var 18))) (.val (.cmp .lt (.var 18) (.var 16))))) (.cons (.ret (.cst (.bl false))) .nil) .nil) (.cons (.ite (.and (.val (.notN (.var 18))) (.or (.val (.isN (.call 89 (.cons (.var 13) (.cons (.var 18) .nil))))) (.val (.cmp .gt (.idx (.call 89 (.cons (.var 13) (.cons (.var 18) .nil))) (.cst (.int 0))) (.var 17))))) (.cons (.ret (.cst (.bl false))) .nil) .nil) (.cons (.set 19 (.ite (.val (.isN (.var 18))) (.cst .non) (.call 89 (.cons (.var 13) (.cons (.bin .add (.var 18) (.cst (.int 1))) .nil))))) (.cons (.ite (.and (.val (.notN (.var 19))) (.val (.cmp .le (.idx (.var 19) (.cst (.int 0))) (.var 17)))) (.cons (.ret (.cst (.bl false))) .nil) .nil) .nil)))))
def blaw_7 : Ss := (.cons (.set 12 (.call 89 (.cons (.var 13) (.cons (.var 16) .nil)))) (.cons (.ite (.or (.not (.val (.call 73 (.cons (.call 64 (.cons (.var 13) (.cons (.var 16) .nil))) (.cons (.ite (.val (.isN (.var 12))) (.cst .non) (.idx (.var 12) (.cst (.int 0)))) .nil))))) (.not (.val (.call 73 (.cons (.call 65 (.cons (.var 13) (.cons (.var 16) .nil))) (.cons (.ite (.val (.isN (.var 12))) (.cst .non) (.idx (.var 12) (.cst (.int 1)))) .nil)))))) (.cons (.ret (.cst (.bl false))) .nil) .nil) (.cons (.ite (.val (.notN (.var 12))) (.cons (.for (.name 17) (.seq (.lst (.cons (.idx (.var 12) (.cst (.int 0))) (.cons (.bi .max (.cons (.cst (.int 0)) (.cons (.bin .sub (.idx (.var 12) (.cst (.int 0))) (.cst (.int 1))) .nil))) (.cons (.bin .add (.idx (.var 12) (.cst (.int 0))) (.cst (.int 1))) .nil))))) blaw_6) .nil) .nil) .nil)))
def elaw_8 : E := (.idx (.var 21) (.var 25))
def blaw_9 : Ss := (.cons (.set 26 (.bin .add (.cst (.int 3)) (.bi .sum (.cons (.comp0 elaw_8 (.name 25) (.seq (.var 24)) [25]) .nil)))) (.cons (.set 27 (.call 35 (.cons (.var 20) (.cons (.tup (.cons (.var 26) (.cons (.cst (.int 1)) .nil))) .nil)))) (.cons (.ite (.and (.val (.notN (.var 27))) (.not (.val (.call 84 (.cons (.tup (.cons (.var 22) (.cons (.cst (.int 1)) .nil))) (.cons (.var 27) .nil)))))) (.cons (.set 28 (.tup (.cons (.bin .sub (.cst (.int 3)) (.var 26)) (.cons (.bi .len (.cons (.var 24) .nil)) (.cons (.bi .tuple (.cons (.var 24) .nil)) .nil))))) (.cons (.set 23 (.ite (.or (.val (.isN (.var 23))) (.val (.cmp .lt (.var 28) (.var 23)))) (.var 28) (.var 23))) .nil)) .nil) .nil)))
def elaw_10 : E := (.var 25)
def blaw_11 : Ss := (.cons (.set 23 (.cst .non)) (.cons (.for (.name 24) (.seq (.call 79 (.cons (.comp0 elaw_10 (.name 25) (.rng (.cons (.bi .len (.cons (.var 21) .nil)) .nil)) [25]) .nil))) blaw_9) (.cons (.ite (.not (.val (.call 73 (.cons (.call 38 (.cons (.var 20) (.cons (.var 21) (.cons (.var 22) .nil)))) (.cons (.ite (.val (.isN (.var 23))) (.cst .non) (.tup (.cons (.neg (.idx (.var 23) (.cst (.int 0)))) (.cons (.idx (.var 23) (.cst (.int 2))) .nil)))) .nil))))) (.cons (.ret (.cst (.bl false))) .nil) .nil) .nil)))
def blaw_12 : Ss := (.cons (.for (.name 22) (.rng (.cons (.cst (.int 0)) (.cons (.cst (.int 14)) .nil))) blaw_11) .nil)
def blaw_13 : Ss := (.cons (.set 27 (.call 35 (.cons (.var 20) (.cons (.tup (.cons (.var 26) (.cons (.cst (.int 1)) .nil))) .nil)))) (.cons (.ite (.or (.val (.cmp .ne (.isN (.var 27)) (.cmp .isin (.var 26) (.lst (.cons (.cst (.int 2)) (.cons (.cst (.int 31)) .nil)))))) (.and (.val (.notN (.var 27))) (.not (.val (.call 73 (.cons (.call 36 (.cons (.var 20) (.cons (.var 27) .nil))) (.cons (.tup (.cons (.var 26) (.cons (.cst (.int 1)) .nil))) .nil))))))) (.cons (.ret (.cst (.bl false))) .nil) .nil) .nil))
def blaw : Ss := (.cons (.set 1 (.call 74 (.cons (.var 0) .nil))) (.cons (.set 2 (.cell (.lst (.cons (.cst (.int 0)) .nil)))) (.cons (.set 3 (.call 85 (.cons (.var 1) (.cons (.var 2) .nil)))) (.cons (.set 4 (.tup (.cons (.idx (.idx (.var 3) (.cst (.int 0))) (.cst (.int 0))) (.cons (.cst (.int 1)) .nil)))) (.cons (.set 5 (.tup (.cons (.idx (.idx (.var 3) (.bin .sub (.bi .len (.cons (.var 3) .nil)) (.cst (.int 1)))) (.cst (.int 0))) (.cons (.cst (.int 1)) .nil)))) (.cons (.for (.name 6) (.seq (.bin .add (.comp0 elaw_2 (.name 7) (.seq (.sli 2 (.var 3) (.cst .non) (.cst (.int 4)))) [7]) (.comp0 elaw_3 (.name 7) (.seq (.sli 2 (.var 3) (.cst .non) (.cst (.int 3)))) [7]))) blaw_1) (.cons (.set 13 (.call 88 (.cons (.var 1) (.cons (.var 2) .nil)))) (.cons (.new 14 (.lst (.cons (.cst (.int 0)) .nil))) (.cons (.for (.name 15) (.seq (.var 13)) blaw_5) (.cons (.for (.name 16) (.seq (.sli 2 (.var 14) (.cst .non) (.cst (.int 20)))) blaw_7) (.cons (.set 20 (.tup (.cons (.tup (.cons (.cst (.int 3)) (.cons (.cst (.int 2)) .nil))) (.cons (.tup (.cons (.cst (.int 10)) (.cons (.cst (.int 9)) .nil))) (.cons (.tup (.cons (.cst (.int 30)) (.cons (.cst (.int 12)) .nil))) .nil))))) (.cons (.for (.name 21) (.seq (.lst (.cons (.tup (.cons (.cst (.int 7)) (.cons (.cst (.int 20)) (.cons (.cst (.int 27)) .nil)))) (.cons (.tup (.cons (.bin .add (.cst (.int 1)) (.call 76 (.cons (.var 1) (.cons (.var 2) (.cons (.cst (.int 30)) .nil))))) (.cons (.cst (.int 7)) .nil))) .nil)))) blaw_12) (.cons (.for (.name 26) (.seq (.lst (.cons (.cst (.int 2)) (.cons (.cst (.int 3)) (.cons (.cst (.int 10)) (.cons (.cst (.int 30)) (.cons (.cst (.int 31)) .nil))))))) blaw_13) (.cons (.ret (.call 93 (.cons (.var 1) (.cons (.var 2) .nil)))) .nil))))))))))))))
def ds : List Def := [⟨2, 3, breduced⟩, ⟨1, 1, bf_whole⟩, ⟨2, 2, bf_add⟩, ⟨2, 2, bf_sub⟩, ⟨2, 2, bf_mul⟩, ⟨2, 2, bf_div⟩, ⟨2, 2, bf_less⟩, ⟨2, 2, bf_at_most⟩, ⟨2, 2, bf_min⟩, ⟨2, 2, bf_max⟩, ⟨1, 1, bf_floor⟩, ⟨2, 4, bcovers⟩, ⟨1, 3, bturned⟩, ⟨2, 3, bheight_at⟩, ⟨3, 5, bheight_between⟩, ⟨3, 4, bplace_between⟩, ⟨3, 5, bhigh_part⟩, ⟨2, 5, bhigh_spans⟩, ⟨1, 4, ball_choices⟩, ⟨2, 2, bneed⟩, ⟨1, 1, bis_integer⟩, ⟨3, 3, bis_whole⟩, ⟨2, 2, bis_whole_from⟩, ⟨3, 3, bis_sequence⟩, ⟨1, 1, bis_pair⟩, ⟨5, 6, bis_wholes⟩, ⟨2, 5, bis_row⟩, ⟨4, 5, bis_rows⟩, ⟨1, 2, bis_rising⟩, ⟨1, 1, bis_any_fraction⟩, ⟨1, 1, bis_fraction⟩, ⟨1, 2, bfrozen⟩, ⟨1, 1, bare_loads⟩, ⟨1, 2, bis_gauge⟩, ⟨2, 2, bread_off⟩, ⟨2, 2, bdepth_of⟩, ⟨2, 2, blitres_at⟩, ⟨2, 2, broom_above⟩, ⟨3, 9, bmost_poured⟩, ⟨1, 1, bis_draughts⟩, ⟨1, 1, bis_weight⟩, ⟨1, 1, bparts_left⟩, ⟨1, 4, bshare_left⟩, ⟨2, 4, bleft_over⟩, ⟨2, 4, bweight_needed⟩, ⟨3, 7, blasts⟩, ⟨1, 5, bbands_of⟩, ⟨2, 6, bwithin⟩, ⟨3, 5, btoll_due⟩, ⟨3, 7, blast_mile⟩, ⟨3, 6, bmiles_within⟩, ⟨1, 1, bis_band⟩, ⟨1, 3, bis_toll⟩, ⟨1, 1, bis_miles⟩, ⟨3, 3, bdue⟩, ⟨3, 3, bmiles_for⟩, ⟨1, 3, bis_span⟩, ⟨1, 3, bare_spans⟩, ⟨1, 1, bis_leg⟩, ⟨1, 2, bare_legs⟩, ⟨2, 2, bchecked⟩, ⟨2, 4, bbegin_from⟩, ⟨2, 5, bbegin_till⟩, ⟨2, 7, btravelled⟩, ⟨2, 3, barrives⟩, ⟨2, 3, bwaits⟩, ⟨2, 5, bleaves⟩, ⟨1, 2, bis_table⟩, ⟨2, 4, bsour_at⟩, ⟨2, 2, bwindows⟩, ⟨3, 7, bfirst_from⟩, ⟨3, 8, blast_till⟩, ⟨3, 5, basked⟩, ⟨2, 3, b_law_so⟩, ⟨1, 6, b_law_numbers⟩, ⟨3, 4, b_law_draw⟩, ⟨3, 3, b_law_take⟩, ⟨3, 3, b_law_pick⟩, ⟨2, 6, b_law_gcd⟩, ⟨1, 4, b_law_sets⟩, ⟨2, 3, b_law_red⟩, ⟨2, 2, b_law_add⟩, ⟨2, 2, b_law_sub⟩, ⟨2, 2, b_law_mul⟩, ⟨2, 2, b_law_less⟩, ⟨2, 7, b_law_table⟩, ⟨3, 3, b_law_cross⟩, ⟨2, 7, b_law_windows⟩, ⟨2, 8, b_law_legs⟩, ⟨2, 7, b_law_arrives⟩, ⟨2, 5, b_law_toll⟩, ⟨3, 7, b_law_due⟩, ⟨3, 9, b_law_miles⟩, ⟨2, 15, b_law_borders_rest⟩, ⟨1, 29, blaw⟩]
theorem creduced : cSs ct (defScope streduced) nreduced 60 (defBody streduced) = some breduced := by first | rfl | decide +kernel
theorem sreduced : FnScope nreduced ["top", "bottom"] (defScope streduced) := ⟨rfl, rfl, rfl, by decide +kernel, rfl, by decide +kernel, by decide +kernel⟩
theorem cf_whole : cSs ct (defScope stf_whole) nf_whole 60 (defBody stf_whole) = some bf_whole := by first | rfl | decide +kernel
theorem sf_whole : FnScope nf_whole ["number"] (defScope stf_whole) := ⟨rfl, rfl, rfl, by decide +kernel, rfl, by decide +kernel, by decide +kernel⟩
theorem cf_add : cSs ct (defScope stf_add) nf_add 60 (defBody stf_add) = some bf_add := by first | rfl | decide +kernel
theorem sf_add : FnScope nf_add ["one", "other"] (defScope stf_add) := ⟨rfl, rfl, rfl, by decide +kernel, rfl, by decide +kernel, by decide +kernel⟩
theorem cf_sub : cSs ct (defScope stf_sub) nf_sub 60 (defBody stf_sub) = some bf_sub := by first | rfl | decide +kernel
theorem sf_sub : FnScope nf_sub ["one", "other"] (defScope stf_sub) := ⟨rfl, rfl, rfl, by decide +kernel, rfl, by decide +kernel, by decide +kernel⟩
theorem cf_mul : cSs ct (defScope stf_mul) nf_mul 60 (defBody stf_mul) = some bf_mul := by first | rfl | decide +kernel
theorem sf_mul : FnScope nf_mul ["one", "other"] (defScope stf_mul) := ⟨rfl, rfl, rfl, by decide +kernel, rfl, by decide +kernel, by decide +kernel⟩
theorem cf_div : cSs ct (defScope stf_div) nf_div 60 (defBody stf_div) = some bf_div := by first | rfl | decide +kernel
theorem sf_div : FnScope nf_div ["one", "other"] (defScope stf_div) := ⟨rfl, rfl, rfl, by decide +kernel, rfl, by decide +kernel, by decide +kernel⟩
theorem cf_less : cSs ct (defScope stf_less) nf_less 60 (defBody stf_less) = some bf_less := by first | rfl | decide +kernel
theorem sf_less : FnScope nf_less ["one", "other"] (defScope stf_less) := ⟨rfl, rfl, rfl, by decide +kernel, rfl, by decide +kernel, by decide +kernel⟩
theorem cf_at_most : cSs ct (defScope stf_at_most) nf_at_most 60 (defBody stf_at_most) = some bf_at_most := by first | rfl | decide +kernel
theorem sf_at_most : FnScope nf_at_most ["one", "other"] (defScope stf_at_most) := ⟨rfl, rfl, rfl, by decide +kernel, rfl, by decide +kernel, by decide +kernel⟩
theorem cf_min : cSs ct (defScope stf_min) nf_min 60 (defBody stf_min) = some bf_min := by first | rfl | decide +kernel
theorem sf_min : FnScope nf_min ["one", "other"] (defScope stf_min) := ⟨rfl, rfl, rfl, by decide +kernel, rfl, by decide +kernel, by decide +kernel⟩
theorem cf_max : cSs ct (defScope stf_max) nf_max 60 (defBody stf_max) = some bf_max := by first | rfl | decide +kernel
theorem sf_max : FnScope nf_max ["one", "other"] (defScope stf_max) := ⟨rfl, rfl, rfl, by decide +kernel, rfl, by decide +kernel, by decide +kernel⟩
theorem cf_floor : cSs ct (defScope stf_floor) nf_floor 60 (defBody stf_floor) = some bf_floor := by first | rfl | decide +kernel
theorem sf_floor : FnScope nf_floor ["one"] (defScope stf_floor) := ⟨rfl, rfl, rfl, by decide +kernel, rfl, by decide +kernel, by decide +kernel⟩
theorem ccovers : cSs ct (defScope stcovers) ncovers 60 (defBody stcovers) = some bcovers := by first | rfl | decide +kernel
theorem scovers : FnScope ncovers ["knots", "place"] (defScope stcovers) := ⟨rfl, rfl, rfl, by decide +kernel, rfl, by decide +kernel, by decide +kernel⟩
theorem cturned : cSs ct (defScope stturned) nturned 60 (defBody stturned) = some bturned := by first | rfl | decide +kernel
theorem sturned : FnScope nturned ["knots"] (defScope stturned) := ⟨rfl, rfl, rfl, by decide +kernel, rfl, by decide +kernel, by decide +kernel⟩
theorem cheight_at : cSs ct (defScope stheight_at) nheight_at 60 (defBody stheight_at) = some bheight_at := by first | rfl | decide +kernel
theorem sheight_at : FnScope nheight_at ["knots", "place"] (defScope stheight_at) := ⟨rfl, rfl, rfl, by decide +kernel, rfl, by decide +kernel, by decide +kernel⟩
theorem cheight_between : cSs ct (defScope stheight_between) nheight_between 60 (defBody stheight_between) = some bheight_between := by first | rfl | decide +kernel
theorem sheight_between : FnScope nheight_between ["one", "other", "place"] (defScope stheight_between) := ⟨rfl, rfl, rfl, by decide +kernel, rfl, by decide +kernel, by decide +kernel⟩
theorem cplace_between : cSs ct (defScope stplace_between) nplace_between 60 (defBody stplace_between) = some bplace_between := by first | rfl | decide +kernel
theorem splace_between : FnScope nplace_between ["one", "other", "height"] (defScope stplace_between) := ⟨rfl, rfl, rfl, by decide +kernel, rfl, by decide +kernel, by decide +kernel⟩
theorem chigh_part : cSs ct (defScope sthigh_part) nhigh_part 60 (defBody sthigh_part) = some bhigh_part := by first | rfl | decide +kernel
theorem shigh_part : FnScope nhigh_part ["one", "other", "height"] (defScope sthigh_part) := ⟨rfl, rfl, rfl, by decide +kernel, rfl, by decide +kernel, by decide +kernel⟩
theorem chigh_spans : cSs ct (defScope sthigh_spans) nhigh_spans 60 (defBody sthigh_spans) = some bhigh_spans := by first | rfl | decide +kernel
theorem shigh_spans : FnScope nhigh_spans ["knots", "height"] (defScope sthigh_spans) := ⟨rfl, rfl, rfl, by decide +kernel, rfl, by decide +kernel, by decide +kernel⟩
theorem call_choices : cSs ct (defScope stall_choices) nall_choices 60 (defBody stall_choices) = some ball_choices := by first | rfl | decide +kernel
theorem sall_choices : FnScope nall_choices ["many"] (defScope stall_choices) := ⟨rfl, rfl, rfl, by decide +kernel, rfl, by decide +kernel, by decide +kernel⟩
theorem cneed : cSs ct (defScope stneed) nneed 60 (defBody stneed) = some bneed := by first | rfl | decide +kernel
theorem sneed : FnScope nneed ["ok", "at"] (defScope stneed) := ⟨rfl, rfl, rfl, by decide +kernel, rfl, by decide +kernel, by decide +kernel⟩
theorem cis_integer : cSs ct (defScope stis_integer) nis_integer 60 (defBody stis_integer) = some bis_integer := by first | rfl | decide +kernel
theorem sis_integer : FnScope nis_integer ["value"] (defScope stis_integer) := ⟨rfl, rfl, rfl, by decide +kernel, rfl, by decide +kernel, by decide +kernel⟩
theorem cis_whole : cSs ct (defScope stis_whole) nis_whole 60 (defBody stis_whole) = some bis_whole := by first | rfl | decide +kernel
theorem sis_whole : FnScope nis_whole ["value", "low", "high"] (defScope stis_whole) := ⟨rfl, rfl, rfl, by decide +kernel, rfl, by decide +kernel, by decide +kernel⟩
theorem cis_whole_from : cSs ct (defScope stis_whole_from) nis_whole_from 60 (defBody stis_whole_from) = some bis_whole_from := by first | rfl | decide +kernel
theorem sis_whole_from : FnScope nis_whole_from ["value", "low"] (defScope stis_whole_from) := ⟨rfl, rfl, rfl, by decide +kernel, rfl, by decide +kernel, by decide +kernel⟩
theorem cis_sequence : cSs ct (defScope stis_sequence) nis_sequence 60 (defBody stis_sequence) = some bis_sequence := by first | rfl | decide +kernel
theorem sis_sequence : FnScope nis_sequence ["value", "fewest", "most"] (defScope stis_sequence) := ⟨rfl, rfl, rfl, by decide +kernel, rfl, by decide +kernel, by decide +kernel⟩
theorem cis_pair : cSs ct (defScope stis_pair) nis_pair 60 (defBody stis_pair) = some bis_pair := by first | rfl | decide +kernel
theorem sis_pair : FnScope nis_pair ["value"] (defScope stis_pair) := ⟨rfl, rfl, rfl, by decide +kernel, rfl, by decide +kernel, by decide +kernel⟩
theorem cis_wholes : cSs ct (defScope stis_wholes) nis_wholes 60 (defBody stis_wholes) = some bis_wholes := by first | rfl | decide +kernel
theorem sis_wholes : FnScope nis_wholes ["value", "fewest", "most", "low", "high"] (defScope stis_wholes) := ⟨rfl, rfl, rfl, by decide +kernel, rfl, by decide +kernel, by decide +kernel⟩
theorem cis_row : cSs ct (defScope stis_row) nis_row 60 (defBody stis_row) = some bis_row := by first | rfl | decide +kernel
theorem sis_row : FnScope nis_row ["value", "bounds"] (defScope stis_row) := ⟨rfl, rfl, rfl, by decide +kernel, rfl, by decide +kernel, by decide +kernel⟩
theorem cis_rows : cSs ct (defScope stis_rows) nis_rows 60 (defBody stis_rows) = some bis_rows := by first | rfl | decide +kernel
theorem sis_rows : FnScope nis_rows ["value", "fewest", "most", "bounds"] (defScope stis_rows) := ⟨rfl, rfl, rfl, by decide +kernel, rfl, by decide +kernel, by decide +kernel⟩
theorem cis_rising : cSs ct (defScope stis_rising) nis_rising 60 (defBody stis_rising) = some bis_rising := by first | rfl | decide +kernel
theorem sis_rising : FnScope nis_rising ["values"] (defScope stis_rising) := ⟨rfl, rfl, rfl, by decide +kernel, rfl, by decide +kernel, by decide +kernel⟩
theorem cis_any_fraction : cSs ct (defScope stis_any_fraction) nis_any_fraction 60 (defBody stis_any_fraction) = some bis_any_fraction := by first | rfl | decide +kernel
theorem sis_any_fraction : FnScope nis_any_fraction ["value"] (defScope stis_any_fraction) := ⟨rfl, rfl, rfl, by decide +kernel, rfl, by decide +kernel, by decide +kernel⟩
theorem cis_fraction : cSs ct (defScope stis_fraction) nis_fraction 60 (defBody stis_fraction) = some bis_fraction := by first | rfl | decide +kernel
theorem sis_fraction : FnScope nis_fraction ["value"] (defScope stis_fraction) := ⟨rfl, rfl, rfl, by decide +kernel, rfl, by decide +kernel, by decide +kernel⟩
theorem cfrozen : cSs ct (defScope stfrozen) nfrozen 60 (defBody stfrozen) = some bfrozen := by first | rfl | decide +kernel
theorem sfrozen : FnScope nfrozen ["value"] (defScope stfrozen) := ⟨rfl, rfl, rfl, by decide +kernel, rfl, by decide +kernel, by decide +kernel⟩
theorem care_loads : cSs ct (defScope stare_loads) nare_loads 60 (defBody stare_loads) = some bare_loads := by first | rfl | decide +kernel
theorem sare_loads : FnScope nare_loads ["value"] (defScope stare_loads) := ⟨rfl, rfl, rfl, by decide +kernel, rfl, by decide +kernel, by decide +kernel⟩
theorem cis_gauge : cSs ct (defScope stis_gauge) nis_gauge 60 (defBody stis_gauge) = some bis_gauge := by first | rfl | decide +kernel
theorem sis_gauge : FnScope nis_gauge ["value"] (defScope stis_gauge) := ⟨rfl, rfl, rfl, by decide +kernel, rfl, by decide +kernel, by decide +kernel⟩
theorem cread_off : cSs ct (defScope stread_off) nread_off 60 (defBody stread_off) = some bread_off := by first | rfl | decide +kernel
theorem sread_off : FnScope nread_off ["knots", "place"] (defScope stread_off) := ⟨rfl, rfl, rfl, by decide +kernel, rfl, by decide +kernel, by decide +kernel⟩
theorem cdepth_of : cSs ct (defScope stdepth_of) ndepth_of 60 (defBody stdepth_of) = some bdepth_of := by first | rfl | decide +kernel
theorem sdepth_of : FnScope ndepth_of ["gauge", "litres"] (defScope stdepth_of) := ⟨rfl, rfl, rfl, by decide +kernel, rfl, by decide +kernel, by decide +kernel⟩
theorem clitres_at : cSs ct (defScope stlitres_at) nlitres_at 60 (defBody stlitres_at) = some blitres_at := by first | rfl | decide +kernel
theorem slitres_at : FnScope nlitres_at ["gauge", "inches"] (defScope stlitres_at) := ⟨rfl, rfl, rfl, by decide +kernel, rfl, by decide +kernel, by decide +kernel⟩
theorem croom_above : cSs ct (defScope stroom_above) nroom_above 60 (defBody stroom_above) = some broom_above := by first | rfl | decide +kernel
theorem sroom_above : FnScope nroom_above ["knots", "depth"] (defScope stroom_above) := ⟨rfl, rfl, rfl, by decide +kernel, rfl, by decide +kernel, by decide +kernel⟩
theorem cmost_poured : cSs ct (defScope stmost_poured) nmost_poured 60 (defBody stmost_poured) = some bmost_poured := by first | rfl | decide +kernel
theorem smost_poured : FnScope nmost_poured ["gauge", "loads", "depth"] (defScope stmost_poured) := ⟨rfl, rfl, rfl, by decide +kernel, rfl, by decide +kernel, by decide +kernel⟩
theorem cis_draughts : cSs ct (defScope stis_draughts) nis_draughts 60 (defBody stis_draughts) = some bis_draughts := by first | rfl | decide +kernel
theorem sis_draughts : FnScope nis_draughts ["value"] (defScope stis_draughts) := ⟨rfl, rfl, rfl, by decide +kernel, rfl, by decide +kernel, by decide +kernel⟩
theorem cis_weight : cSs ct (defScope stis_weight) nis_weight 60 (defBody stis_weight) = some bis_weight := by first | rfl | decide +kernel
theorem sis_weight : FnScope nis_weight ["value"] (defScope stis_weight) := ⟨rfl, rfl, rfl, by decide +kernel, rfl, by decide +kernel, by decide +kernel⟩
theorem cparts_left : cSs ct (defScope stparts_left) nparts_left 60 (defBody stparts_left) = some bparts_left := by first | rfl | decide +kernel
theorem sparts_left : FnScope nparts_left ["draught"] (defScope stparts_left) := ⟨rfl, rfl, rfl, by decide +kernel, rfl, by decide +kernel, by decide +kernel⟩
theorem cshare_left : cSs ct (defScope stshare_left) nshare_left 60 (defBody stshare_left) = some bshare_left := by first | rfl | decide +kernel
theorem sshare_left : FnScope nshare_left ["draughts"] (defScope stshare_left) := ⟨rfl, rfl, rfl, by decide +kernel, rfl, by decide +kernel, by decide +kernel⟩
theorem cleft_over : cSs ct (defScope stleft_over) nleft_over 60 (defBody stleft_over) = some bleft_over := by first | rfl | decide +kernel
theorem sleft_over : FnScope nleft_over ["weight", "draughts"] (defScope stleft_over) := ⟨rfl, rfl, rfl, by decide +kernel, rfl, by decide +kernel, by decide +kernel⟩
theorem cweight_needed : cSs ct (defScope stweight_needed) nweight_needed 60 (defBody stweight_needed) = some bweight_needed := by first | rfl | decide +kernel
theorem sweight_needed : FnScope nweight_needed ["draughts", "least"] (defScope stweight_needed) := ⟨rfl, rfl, rfl, by decide +kernel, rfl, by decide +kernel, by decide +kernel⟩
theorem clasts : cSs ct (defScope stlasts) nlasts 60 (defBody stlasts) = some blasts := by first | rfl | decide +kernel
theorem slasts : FnScope nlasts ["weight", "draughts", "least"] (defScope stlasts) := ⟨rfl, rfl, rfl, by decide +kernel, rfl, by decide +kernel, by decide +kernel⟩
theorem cbands_of : cSs ct (defScope stbands_of) nbands_of 60 (defBody stbands_of) = some bbands_of := by first | rfl | decide +kernel
theorem sbands_of : FnScope nbands_of ["toll"] (defScope stbands_of) := ⟨rfl, rfl, rfl, by decide +kernel, rfl, by decide +kernel, by decide +kernel⟩
theorem cwithin : cSs ct (defScope stwithin) nwithin 60 (defBody stwithin) = some bwithin := by first | rfl | decide +kernel
theorem swithin : FnScope nwithin ["band", "miles"] (defScope stwithin) := ⟨rfl, rfl, rfl, by decide +kernel, rfl, by decide +kernel, by decide +kernel⟩
theorem ctoll_due : cSs ct (defScope sttoll_due) ntoll_due 60 (defBody sttoll_due) = some btoll_due := by first | rfl | decide +kernel
theorem stoll_due : FnScope ntoll_due ["toll", "tons", "miles"] (defScope sttoll_due) := ⟨rfl, rfl, rfl, by decide +kernel, rfl, by decide +kernel, by decide +kernel⟩
theorem clast_mile : cSs ct (defScope stlast_mile) nlast_mile 60 (defBody stlast_mile) = some blast_mile := by first | rfl | decide +kernel
theorem slast_mile : FnScope nlast_mile ["band", "tons", "left"] (defScope stlast_mile) := ⟨rfl, rfl, rfl, by decide +kernel, rfl, by decide +kernel, by decide +kernel⟩
theorem cmiles_within : cSs ct (defScope stmiles_within) nmiles_within 60 (defBody stmiles_within) = some bmiles_within := by first | rfl | decide +kernel
theorem smiles_within : FnScope nmiles_within ["toll", "tons", "pence"] (defScope stmiles_within) := ⟨rfl, rfl, rfl, by decide +kernel, rfl, by decide +kernel, by decide +kernel⟩
theorem cis_band : cSs ct (defScope stis_band) nis_band 60 (defBody stis_band) = some bis_band := by first | rfl | decide +kernel
theorem sis_band : FnScope nis_band ["value"] (defScope stis_band) := ⟨rfl, rfl, rfl, by decide +kernel, rfl, by decide +kernel, by decide +kernel⟩
theorem cis_toll : cSs ct (defScope stis_toll) nis_toll 60 (defBody stis_toll) = some bis_toll := by first | rfl | decide +kernel
theorem sis_toll : FnScope nis_toll ["value"] (defScope stis_toll) := ⟨rfl, rfl, rfl, by decide +kernel, rfl, by decide +kernel, by decide +kernel⟩
theorem cis_miles : cSs ct (defScope stis_miles) nis_miles 60 (defBody stis_miles) = some bis_miles := by first | rfl | decide +kernel
theorem sis_miles : FnScope nis_miles ["value"] (defScope stis_miles) := ⟨rfl, rfl, rfl, by decide +kernel, rfl, by decide +kernel, by decide +kernel⟩
theorem cdue : cSs ct (defScope stdue) ndue 60 (defBody stdue) = some bdue := by first | rfl | decide +kernel
theorem sdue : FnScope ndue ["toll", "tons", "miles"] (defScope stdue) := ⟨rfl, rfl, rfl, by decide +kernel, rfl, by decide +kernel, by decide +kernel⟩
theorem cmiles_for : cSs ct (defScope stmiles_for) nmiles_for 60 (defBody stmiles_for) = some bmiles_for := by first | rfl | decide +kernel
theorem smiles_for : FnScope nmiles_for ["toll", "tons", "pence"] (defScope stmiles_for) := ⟨rfl, rfl, rfl, by decide +kernel, rfl, by decide +kernel, by decide +kernel⟩
theorem cis_span : cSs ct (defScope stis_span) nis_span 60 (defBody stis_span) = some bis_span := by first | rfl | decide +kernel
theorem sis_span : FnScope nis_span ["value"] (defScope stis_span) := ⟨rfl, rfl, rfl, by decide +kernel, rfl, by decide +kernel, by decide +kernel⟩
theorem care_spans : cSs ct (defScope stare_spans) nare_spans 60 (defBody stare_spans) = some bare_spans := by first | rfl | decide +kernel
theorem sare_spans : FnScope nare_spans ["value"] (defScope stare_spans) := ⟨rfl, rfl, rfl, by decide +kernel, rfl, by decide +kernel, by decide +kernel⟩
theorem cis_leg : cSs ct (defScope stis_leg) nis_leg 60 (defBody stis_leg) = some bis_leg := by first | rfl | decide +kernel
theorem sis_leg : FnScope nis_leg ["value"] (defScope stis_leg) := ⟨rfl, rfl, rfl, by decide +kernel, rfl, by decide +kernel, by decide +kernel⟩
theorem care_legs : cSs ct (defScope stare_legs) nare_legs 60 (defBody stare_legs) = some bare_legs := by first | rfl | decide +kernel
theorem sare_legs : FnScope nare_legs ["value"] (defScope stare_legs) := ⟨rfl, rfl, rfl, by decide +kernel, rfl, by decide +kernel, by decide +kernel⟩
theorem cchecked : cSs ct (defScope stchecked) nchecked 60 (defBody stchecked) = some bchecked := by first | rfl | decide +kernel
theorem schecked : FnScope nchecked ["legs", "minute"] (defScope stchecked) := ⟨rfl, rfl, rfl, by decide +kernel, rfl, by decide +kernel, by decide +kernel⟩
theorem cbegin_from : cSs ct (defScope stbegin_from) nbegin_from 60 (defBody stbegin_from) = some bbegin_from := by first | rfl | decide +kernel
theorem sbegin_from : FnScope nbegin_from ["spans", "minute"] (defScope stbegin_from) := ⟨rfl, rfl, rfl, by decide +kernel, rfl, by decide +kernel, by decide +kernel⟩
theorem cbegin_till : cSs ct (defScope stbegin_till) nbegin_till 60 (defBody stbegin_till) = some bbegin_till := by first | rfl | decide +kernel
theorem sbegin_till : FnScope nbegin_till ["spans", "minute"] (defScope stbegin_till) := ⟨rfl, rfl, rfl, by decide +kernel, rfl, by decide +kernel, by decide +kernel⟩
theorem ctravelled : cSs ct (defScope sttravelled) ntravelled 60 (defBody sttravelled) = some btravelled := by first | rfl | decide +kernel
theorem stravelled : FnScope ntravelled ["legs", "minute"] (defScope sttravelled) := ⟨rfl, rfl, rfl, by decide +kernel, rfl, by decide +kernel, by decide +kernel⟩
theorem carrives : cSs ct (defScope starrives) narrives 60 (defBody starrives) = some barrives := by first | rfl | decide +kernel
theorem sarrives : FnScope narrives ["legs", "minute"] (defScope starrives) := ⟨rfl, rfl, rfl, by decide +kernel, rfl, by decide +kernel, by decide +kernel⟩
theorem cwaits : cSs ct (defScope stwaits) nwaits 60 (defBody stwaits) = some bwaits := by first | rfl | decide +kernel
theorem swaits : FnScope nwaits ["legs", "minute"] (defScope stwaits) := ⟨rfl, rfl, rfl, by decide +kernel, rfl, by decide +kernel, by decide +kernel⟩
theorem cleaves : cSs ct (defScope stleaves) nleaves 60 (defBody stleaves) = some bleaves := by first | rfl | decide +kernel
theorem sleaves : FnScope nleaves ["legs", "minute"] (defScope stleaves) := ⟨rfl, rfl, rfl, by decide +kernel, rfl, by decide +kernel, by decide +kernel⟩
theorem cis_table : cSs ct (defScope stis_table) nis_table 60 (defBody stis_table) = some bis_table := by first | rfl | decide +kernel
theorem sis_table : FnScope nis_table ["value"] (defScope stis_table) := ⟨rfl, rfl, rfl, by decide +kernel, rfl, by decide +kernel, by decide +kernel⟩
theorem csour_at : cSs ct (defScope stsour_at) nsour_at 60 (defBody stsour_at) = some bsour_at := by first | rfl | decide +kernel
theorem ssour_at : FnScope nsour_at ["table", "minute"] (defScope stsour_at) := ⟨rfl, rfl, rfl, by decide +kernel, rfl, by decide +kernel, by decide +kernel⟩
theorem cwindows : cSs ct (defScope stwindows) nwindows 60 (defBody stwindows) = some bwindows := by first | rfl | decide +kernel
theorem swindows : FnScope nwindows ["table", "least"] (defScope stwindows) := ⟨rfl, rfl, rfl, by decide +kernel, rfl, by decide +kernel, by decide +kernel⟩
theorem cfirst_from : cSs ct (defScope stfirst_from) nfirst_from 60 (defBody stfirst_from) = some bfirst_from := by first | rfl | decide +kernel
theorem sfirst_from : FnScope nfirst_from ["table", "least", "minute"] (defScope stfirst_from) := ⟨rfl, rfl, rfl, by decide +kernel, rfl, by decide +kernel, by decide +kernel⟩
theorem clast_till : cSs ct (defScope stlast_till) nlast_till 60 (defBody stlast_till) = some blast_till := by first | rfl | decide +kernel
theorem slast_till : FnScope nlast_till ["table", "least", "minute"] (defScope stlast_till) := ⟨rfl, rfl, rfl, by decide +kernel, rfl, by decide +kernel, by decide +kernel⟩
theorem casked : cSs ct (defScope stasked) nasked 60 (defBody stasked) = some basked := by first | rfl | decide +kernel
theorem sasked : FnScope nasked ["table", "least", "minute"] (defScope stasked) := ⟨rfl, rfl, rfl, by decide +kernel, rfl, by decide +kernel, by decide +kernel⟩
theorem c_law_so : cSs ct (defScope st_law_so) n_law_so 60 (defBody st_law_so) = some b_law_so := by first | rfl | decide +kernel
theorem s_law_so : FnScope n_law_so ["found", "meant"] (defScope st_law_so) := ⟨rfl, rfl, rfl, by decide +kernel, rfl, by decide +kernel, by decide +kernel⟩
theorem c_law_numbers : cSs ct (defScope st_law_numbers) n_law_numbers 60 (defBody st_law_numbers) = some b_law_numbers := by first | rfl | decide +kernel
theorem s_law_numbers : FnScope n_law_numbers ["script"] (defScope st_law_numbers) := ⟨rfl, rfl, rfl, by decide +kernel, rfl, by decide +kernel, by decide +kernel⟩
theorem c_law_draw : cSs ct (defScope st_law_draw) n_law_draw 60 (defBody st_law_draw) = some b_law_draw := by first | rfl | decide +kernel
theorem s_law_draw : FnScope n_law_draw ["row", "at", "limit"] (defScope st_law_draw) := ⟨rfl, rfl, rfl, by decide +kernel, rfl, by decide +kernel, by decide +kernel⟩
theorem c_law_take : cSs ct (defScope st_law_take) n_law_take 60 (defBody st_law_take) = some b_law_take := by first | rfl | decide +kernel
theorem s_law_take : FnScope n_law_take ["row", "spot", "limit"] (defScope st_law_take) := ⟨rfl, rfl, rfl, by decide +kernel, rfl, by decide +kernel, by decide +kernel⟩
theorem c_law_pick : cSs ct (defScope st_law_pick) n_law_pick 60 (defBody st_law_pick) = some b_law_pick := by first | rfl | decide +kernel
theorem s_law_pick : FnScope n_law_pick ["row", "spot", "things"] (defScope st_law_pick) := ⟨rfl, rfl, rfl, by decide +kernel, rfl, by decide +kernel, by decide +kernel⟩
theorem c_law_gcd : cSs ct (defScope st_law_gcd) n_law_gcd 60 (defBody st_law_gcd) = some b_law_gcd := by first | rfl | decide +kernel
theorem s_law_gcd : FnScope n_law_gcd ["one", "other"] (defScope st_law_gcd) := ⟨rfl, rfl, rfl, by decide +kernel, rfl, by decide +kernel, by decide +kernel⟩
theorem c_law_sets : cSs ct (defScope st_law_sets) n_law_sets 60 (defBody st_law_sets) = some b_law_sets := by first | rfl | decide +kernel
theorem s_law_sets : FnScope n_law_sets ["names"] (defScope st_law_sets) := ⟨rfl, rfl, rfl, by decide +kernel, rfl, by decide +kernel, by decide +kernel⟩
theorem c_law_red : cSs ct (defScope st_law_red) n_law_red 60 (defBody st_law_red) = some b_law_red := by first | rfl | decide +kernel
theorem s_law_red : FnScope n_law_red ["n", "d"] (defScope st_law_red) := ⟨rfl, rfl, rfl, by decide +kernel, rfl, by decide +kernel, by decide +kernel⟩
theorem c_law_add : cSs ct (defScope st_law_add) n_law_add 60 (defBody st_law_add) = some b_law_add := by first | rfl | decide +kernel
theorem s_law_add : FnScope n_law_add ["one", "other"] (defScope st_law_add) := ⟨rfl, rfl, rfl, by decide +kernel, rfl, by decide +kernel, by decide +kernel⟩
theorem c_law_sub : cSs ct (defScope st_law_sub) n_law_sub 60 (defBody st_law_sub) = some b_law_sub := by first | rfl | decide +kernel
theorem s_law_sub : FnScope n_law_sub ["one", "other"] (defScope st_law_sub) := ⟨rfl, rfl, rfl, by decide +kernel, rfl, by decide +kernel, by decide +kernel⟩
theorem c_law_mul : cSs ct (defScope st_law_mul) n_law_mul 60 (defBody st_law_mul) = some b_law_mul := by first | rfl | decide +kernel
theorem s_law_mul : FnScope n_law_mul ["one", "other"] (defScope st_law_mul) := ⟨rfl, rfl, rfl, by decide +kernel, rfl, by decide +kernel, by decide +kernel⟩
theorem c_law_less : cSs ct (defScope st_law_less) n_law_less 60 (defBody st_law_less) = some b_law_less := by first | rfl | decide +kernel
theorem s_law_less : FnScope n_law_less ["one", "other"] (defScope st_law_less) := ⟨rfl, rfl, rfl, by decide +kernel, rfl, by decide +kernel, by decide +kernel⟩
theorem c_law_table : cSs ct (defScope st_law_table) n_law_table 60 (defBody st_law_table) = some b_law_table := by first | rfl | decide +kernel
theorem s_law_table : FnScope n_law_table ["row", "spot"] (defScope st_law_table) := ⟨rfl, rfl, rfl, by decide +kernel, rfl, by decide +kernel, by decide +kernel⟩
theorem c_law_cross : cSs ct (defScope st_law_cross) n_law_cross 60 (defBody st_law_cross) = some b_law_cross := by first | rfl | decide +kernel
theorem s_law_cross : FnScope n_law_cross ["a", "b", "least"] (defScope st_law_cross) := ⟨rfl, rfl, rfl, by decide +kernel, rfl, by decide +kernel, by decide +kernel⟩
theorem c_law_windows : cSs ct (defScope st_law_windows) n_law_windows 60 (defBody st_law_windows) = some b_law_windows := by first | rfl | decide +kernel
theorem s_law_windows : FnScope n_law_windows ["table", "least"] (defScope st_law_windows) := ⟨rfl, rfl, rfl, by decide +kernel, rfl, by decide +kernel, by decide +kernel⟩
theorem c_law_legs : cSs ct (defScope st_law_legs) n_law_legs 60 (defBody st_law_legs) = some b_law_legs := by first | rfl | decide +kernel
theorem s_law_legs : FnScope n_law_legs ["row", "spot"] (defScope st_law_legs) := ⟨rfl, rfl, rfl, by decide +kernel, rfl, by decide +kernel, by decide +kernel⟩
theorem c_law_arrives : cSs ct (defScope st_law_arrives) n_law_arrives 60 (defBody st_law_arrives) = some b_law_arrives := by first | rfl | decide +kernel
theorem s_law_arrives : FnScope n_law_arrives ["legs", "minute"] (defScope st_law_arrives) := ⟨rfl, rfl, rfl, by decide +kernel, rfl, by decide +kernel, by decide +kernel⟩
theorem c_law_toll : cSs ct (defScope st_law_toll) n_law_toll 60 (defBody st_law_toll) = some b_law_toll := by first | rfl | decide +kernel
theorem s_law_toll : FnScope n_law_toll ["row", "spot"] (defScope st_law_toll) := ⟨rfl, rfl, rfl, by decide +kernel, rfl, by decide +kernel, by decide +kernel⟩
theorem c_law_due : cSs ct (defScope st_law_due) n_law_due 60 (defBody st_law_due) = some b_law_due := by first | rfl | decide +kernel
theorem s_law_due : FnScope n_law_due ["toll", "tons", "miles"] (defScope st_law_due) := ⟨rfl, rfl, rfl, by decide +kernel, rfl, by decide +kernel, by decide +kernel⟩
theorem c_law_miles : cSs ct (defScope st_law_miles) n_law_miles 60 (defBody st_law_miles) = some b_law_miles := by first | rfl | decide +kernel
theorem s_law_miles : FnScope n_law_miles ["toll", "tons", "pence"] (defScope st_law_miles) := ⟨rfl, rfl, rfl, by decide +kernel, rfl, by decide +kernel, by decide +kernel⟩
theorem c_law_borders_rest : cSs ct (defScope st_law_borders_rest) n_law_borders_rest 60 (defBody st_law_borders_rest) = some b_law_borders_rest := by first | rfl | decide +kernel
theorem s_law_borders_rest : FnScope n_law_borders_rest ["row", "spot"] (defScope st_law_borders_rest) := ⟨rfl, rfl, rfl, by decide +kernel, rfl, by decide +kernel, by decide +kernel⟩
theorem claw : cSs ct (defScope stlaw) nlaw 60 (defBody stlaw) = some blaw := by first | rfl | decide +kernel
theorem slaw : FnScope nlaw ["script"] (defScope stlaw) := ⟨rfl, rfl, rfl, by decide +kernel, rfl, by decide +kernel, by decide +kernel⟩
end K73
namespace K73
open PySem PySem.Spec PyProof.Rows L2 Mini
section
variable {rn : Rn} [Runs rn ds] {n : Nat} {k : Ky}
theorem l_red : RdcOk rn 3 80 := rdc_law (f := 80) (g := 78) rfl rfl
theorem l_redN : RedOk rn 2 80 := red_ok (f := 80) (g := 78) rfl rfl
theorem l_add (x y : Rat) (hx : sm x) (hy : sm y) : rn.go (n + 3) 81 [ofR x, ofR y] k = some (ofR (x + y), k) := add_ok (r := 80) (m := 2) rfl l_redN x y hx hy
theorem l_sub (x y : Rat) (hx : sm x) (hy : sm y) : rn.go (n + 3) 82 [ofR x, ofR y] k = some (ofR (x - y), k) := sub_ok (r := 80) (m := 2) rfl l_redN x y hx hy
theorem l_mul (x y : Rat) (hx : sm x) (hy : sm y) : rn.go (n + 3) 83 [ofR x, ofR y] k = some (ofR (x * y), k) := mul_ok (r := 80) (m := 2) rfl l_redN x y hx hy
theorem l_less (x y : Rat) (hx : sm x) (hy : sm y) : rn.go (n + 1) 84 [ofR x, ofR y] k = some (.bl (decide (x < y)), k) := less_ok rfl x y hx hy
theorem r_red : RdcOk rn 1 0 := rdc_prog (f := 0) rfl
theorem r_fadd (x y : Rat) (hx : sm x) (hy : sm y) : rn.go (n + 2) 2 [ofR x, ofR y] k = some (ofR (x + y), k) := add_ok (r := 0) (m := 1) rfl (x_reduced rfl) x y hx hy
theorem r_fsub (x y : Rat) (hx : sm x) (hy : sm y) : rn.go (n + 2) 3 [ofR x, ofR y] k = some (ofR (x - y), k) := sub_ok (r := 0) (m := 1) rfl (x_reduced rfl) x y hx hy
theorem r_fless (x y : Rat) (hx : sm x) (hy : sm y) : rn.go (n + 1) 6 [ofR x, ofR y] k = some (.bl (decide (x < y)), k) := less_ok rfl x y hx hy
theorem r_atmost (x y : Rat) (hx : sm x) (hy : sm y) : rn.go (n + 1) 7 [ofR x, ofR y] k = some (.bl (decide (x ≤ y)), k) := x_atmost rfl x y hx hy
theorem r_fmin (x y : Rat) (hx : sm x) (hy : sm y) : rn.go (n + 2) 8 [ofR x, ofR y] k = some (ofR (if y < x then y else x), k) := x_fmin (l := 6) rfl rfl x y hx hy
theorem r_fmax (x y : Rat) (hx : sm x) (hy : sm y) : rn.go (n + 2) 9 [ofR x, ofR y] k = some (ofR (if x < y then y else x), k) := x_fmax (l := 6) rfl rfl x y hx hy
theorem r_fwhole (v : Int) : rn.go (n + 1) 1 [.int v] k = some (ofR v, k) := x_fwhole rfl v
theorem r_need (x : D) : rn.go (n + 1) 19 [.bl true, x] k = some (.non, k) := x_need rfl x
theorem r_isint (i : Int) : rn.go (n + 1) 20 [.int i] k = some (.bl true, k) := x_int rfl i
theorem r_whole (v a b : Int) : rn.go (n + 2) 21 [.int v, .int a, .int b] k = some (.bl (decide (a ≤ v) && decide (v ≤ b)), k) := x_whole (i := 20) rfl rfl v a b
theorem r_wholeF (v a : Int) : rn.go (n + 2) 22 [.int v, .int a] k = some (.bl (decide (a ≤ v)), k) := x_wholeF (i := 20) rfl rfl v a
theorem r_seq (es : List D) (a b : Int) : rn.go (n + 1) 23 [.tup es, .int a, .int b] k = some (.bl (decide (a ≤ es.length) && decide ((es.length : Int) ≤ b)), k) := x_seq rfl es a b
theorem r_pair (x y : D) : rn.go (n + 2) 24 [.tup [x, y]] k = some (.bl true, k) := x_pair (q := 23) rfl rfl x y
theorem r_rows {α : Type} (g : α → List Int) (l : List α) (a b : Int) (bs : List (Int × Int)) (hb : bs.length ≤ 1000) (hg : ∀ x ∈ l, (g x).length = bs.length)
    (h1 : a ≤ l.length) (h2 : (l.length : Int) ≤ b) (h3 : l.length ≤ 100000) (hok : ∀ x ∈ l, ((g x).zip bs).all (fun p => decide (p.2.1 ≤ p.1) && decide (p.1 ≤ p.2.2)) = true) :
    rn.go (n + 4) 27 [.tup (l.map fun x => .tup ((g x).map .int)), .int a, .int b, .tup (bs.map pairD)] k = some (.bl true, k) := x_rows (r := 26) (q := 23) (i := 21) (j := 20) rfl rfl rfl rfl rfl g l a b bs hb hg h1 h2 h3 hok
theorem r_rising (l : List Int) (hl : l.length ≤ 100000) (h : ∀ i (_ : i + 1 < l.length), l[i] < l[i + 1]) : rn.go (n + 1) 28 [.lst (l.map .int)] k = some (.bl true, k) := x_rising rfl l hl h
theorem r_frac (x : Rat) (h1 : -1000000 ≤ x.num) (h2 : x.num ≤ 1000000) (h3 : x.den ≤ 1000000) : rn.go (n + 4) 30 [ofR x] k = some (.bl true, k) := x_frac (a := 29) (i := 20) (p := 24) (m := 21) (j := 22) (q := 23) rfl rfl rfl rfl rfl rfl rfl x h1 h2 h3
theorem r_frozen {m : Nat} {d : D} (h : FZ m d) : rn.go (n + m) 31 [d] k = some (d, k) := x_frozen (f := 31) rfl h
theorem r_span (a b : Int) (h0 : 0 ≤ a) (h1 : a ≤ b) (h2 : b ≤ 10000) : rn.go (n + 3) 56 [.tup [.int a, .int b]] k = some (.bl true, k) := by
  refine run_wp rfl rfl ?_
  simp [bis_span, r_pair, r_whole, h0, h1, h2, show a ≤ 10000 by omega, show 0 ≤ b by omega]
/-! ### journeys, in plain Lean -/
abbrev Span := Int × Int
abbrev Leg := Int × Option (List Span)
def spanD (p : Span) : D := .tup [.int p.1, .int p.2]
def spansD (l : List Span) : D := .tup (l.map spanD)
def spsD : Option (List Span) → D | none => .non | some l => spansD l
def legD (l : Leg) : D := .tup [.int l.1, spsD l.2]
def legsD (ls : List Leg) : D := .tup (ls.map legD)
def optI : Option Int → D | none => .non | some i => .int i
def beginFrom : List Span → Int → Option Int
  | [], _ => none
  | p :: r, m => if m ≤ p.2 then some (if m > p.1 then m else p.1) else beginFrom r m
def beginTill : List Span → Int → Option Int → Option Int
  | [], _, f => f
  | p :: r, m, f => beginTill r m (if p.1 ≤ m then some (if m < p.2 then m else p.2) else f)
def from' (o : Option (List Span)) (m : Int) : Option Int := match o with | none => some m | some l => beginFrom l m
def till' (o : Option (List Span)) (m : Int) : Option Int := if m < 0 then none else match o with | none => some m | some l => beginTill l m none
theorem r_from (o : Option (List Span)) (m : Int) (hl : ∀ l, o = some l → l.length ≤ 1000) : rn.go (n + 1) 61 [spsD o, .int m] k = some (optI (from' o m), k) := by
  rw [run_eq (rn := rn) (d := ⟨2, 4, bbegin_from⟩) rfl rfl]
  show fin k (evSs _ _ bbegin_from ⟨[some (spsD o), some (.int m), none, none], [], k⟩) = _
  generalize rn.go n = c
  cases o with
  | none => simp [bbegin_from, spsD, evSs, evS, evE, evT, truth, fin_rt, from', optI]
  | some l =>
    have loop : ∀ (l0 l : List Span) (x2 x3 : Option D), ∃ y2 y3, forW none (.tup (.cons (.name 2) (.cons (.name 3) .nil))) (fun s => evSs c WF bbegin_from_0 s) (l.map spanD) ⟨[some (spsD (some l0)), some (.int m), x2, x3], [], k⟩ = (match beginFrom l m with
        | none => some (.nx ⟨[some (spsD (some l0)), some (.int m), y2, y3], [], k⟩)
        | some v => some (.rt (.int v) k)) := by
      intro l0 l
      induction l with
      | nil => intro x2 x3; exact ⟨x2, x3, rfl⟩
      | cons p r ih =>
        intro x2 x3
        by_cases h : m ≤ p.2
        · refine ⟨none, none, ?_⟩
          simp [forW, okW, spanD, asg, asgs, bbegin_from_0, evSs, evS, evE, evEs, evT, coSem, truth, h, biSem, beginFrom, tgMu, tgsMu]
        · obtain ⟨y2, y3, e⟩ := ih (some (.int p.1)) (some (.int p.2))
          refine ⟨y2, y3, ?_⟩
          simp only [beginFrom, h, if_false]
          rw [← e]
          simp [forW, okW, spanD, asg, asgs, bbegin_from_0, evSs, evS, evE, evEs, evT, coSem, truth, h, biSem, tgMu, tgsMu]
    obtain ⟨y2, y3, e⟩ := loop l l none none
    have t1 : evS c WF (.ite (.val (.isN (.var 0))) (.cons (.ret (.var 1)) .nil) .nil) ⟨[some (spsD (some l)), some (.int m), none, none], [], k⟩ = some (.nx ⟨[some (spsD (some l)), some (.int m), none, none], [], k⟩) := by
      simp [evS, evSs, evT, evE, spsD, spansD, truth]
    have t2 : evS c WF (.for (.tup (.cons (.name 2) (.cons (.name 3) .nil))) (.seq (.var 0)) bbegin_from_0) ⟨[some (spsD (some l)), some (.int m), none, none], [], k⟩ = (match beginFrom l m with
        | none => some (.nx ⟨[some (spsD (some l)), some (.int m), y2, y3], [], k⟩)
        | some v => some (.rt (.int v) k)) := by
      rw [← e]
      simp only [evS, evI, evE, List.getElem?_cons_zero, Option.map_some, spsD, spansD, items, Sta.keep, List.filter_nil]
    unfold bbegin_from
    rw [seq_nx t1]
    cases hb : beginFrom l m with
    | none =>
      rw [hb] at t2
      rw [seq_nx t2]
      simp [evSs, evS, evE, fin_rt, from', hb, optI]
    | some v =>
      rw [hb] at t2
      simp only [evSs, t2]
      simp [fin_rt, from', hb, optI]
theorem r_till (o : Option (List Span)) (m : Int) : rn.go (n + 1) 62 [spsD o, .int m] k = some (optI (till' o m), k) := by
  rw [run_eq (rn := rn) (d := ⟨2, 5, bbegin_till⟩) rfl rfl]
  show fin k (evSs _ _ bbegin_till ⟨[some (spsD o), some (.int m), none, none, none], [], k⟩) = _
  generalize rn.go n = c
  by_cases h0 : m < 0
  · simp [bbegin_till, evSs, evS, evE, evT, truth, coSem, h0, fin_rt, till', optI]
  · cases o with
    | none => simp [bbegin_till, spsD, evSs, evS, evE, evT, truth, coSem, h0, fin_rt, till', optI]
    | some l =>
      have loop : ∀ (l0 l : List Span) (f : Option Int) (x3 x4 : Option D), ∃ y3 y4, forW none (.tup (.cons (.name 3) (.cons (.name 4) .nil))) (fun s => evSs c WF bbegin_till_0 s) (l.map spanD) ⟨[some (spsD (some l0)), some (.int m), some (optI f), x3, x4], [], k⟩ = some (.nx ⟨[some (spsD (some l0)), some (.int m), some (optI (beginTill l m f)), y3, y4], [], k⟩) := by
        intro l0 l
        induction l with
        | nil => intro f x3 x4; exact ⟨x3, x4, rfl⟩
        | cons p r ih =>
          intro f x3 x4
          by_cases h : p.1 ≤ m
          · obtain ⟨y3, y4, e⟩ := ih (some (if m < p.2 then m else p.2)) (some (.int p.1)) (some (.int p.2))
            refine ⟨y3, y4, ?_⟩
            simp only [beginTill, h, if_true]
            rw [← e]
            simp [forW, okW, spanD, asg, asgs, bbegin_till_0, evSs, evS, stE, evE, evEs, evT, coSem, truth, h, biSem, tgMu, tgsMu, noL, Sta.put, optI]
          · obtain ⟨y3, y4, e⟩ := ih f (some (.int p.1)) (some (.int p.2))
            refine ⟨y3, y4, ?_⟩
            simp only [beginTill, h, if_false]
            rw [← e]
            simp [forW, okW, spanD, asg, asgs, bbegin_till_0, evSs, evS, stE, evE, evEs, evT, coSem, truth, h, biSem, tgMu, tgsMu]
      obtain ⟨y3, y4, e⟩ := loop l l none none none
      have t0 : evS c WF (.ite (.val (.cmp .lt (.var 1) (.cst (.int 0)))) (.cons (.ret (.cst .non)) .nil) .nil) ⟨[some (spsD (some l)), some (.int m), none, none, none], [], k⟩ = some (.nx ⟨[some (spsD (some l)), some (.int m), none, none, none], [], k⟩) := by
        simp [evS, evSs, evT, evE, coSem, truth, h0]
      have t1 : evS c WF (.ite (.val (.isN (.var 0))) (.cons (.ret (.var 1)) .nil) .nil) ⟨[some (spsD (some l)), some (.int m), none, none, none], [], k⟩ = some (.nx ⟨[some (spsD (some l)), some (.int m), none, none, none], [], k⟩) := by
        simp [evS, evSs, evT, evE, spsD, spansD, truth]
      have t2 : evS c WF (.set 2 (.cst .non)) ⟨[some (spsD (some l)), some (.int m), none, none, none], [], k⟩ = some (.nx ⟨[some (spsD (some l)), some (.int m), some (optI none), none, none], [], k⟩) := by
        simp [evS, stE, evE, noL, Sta.put, optI]
      have t3 : evS c WF (.for (.tup (.cons (.name 3) (.cons (.name 4) .nil))) (.seq (.var 0)) bbegin_till_0) ⟨[some (spsD (some l)), some (.int m), some (optI none), none, none], [], k⟩ = some (.nx ⟨[some (spsD (some l)), some (.int m), some (optI (beginTill l m none)), y3, y4], [], k⟩) := by
        rw [← e]
        simp only [evS, evI, evE, List.getElem?_cons_zero, Option.map_some, spsD, spansD, items, Sta.keep, List.filter_nil]
      unfold bbegin_till
      rw [seq_nx t0, seq_nx t1, seq_nx t2, seq_nx t3]
      simp [evSs, evS, evE, fin_rt, till', h0]
def travel : List Leg → Int → List Int → Option (Int × List Int)
  | [], now, ws => some (now, ws)
  | l :: r, now, ws => match from' l.2 now with
    | none => none
    | some b => travel r (b + l.1) (ws ++ [b - now])
def tripD : Option (Int × List Int) → D
  | none => .non
  | some (t, ws) => .tup [.int t, .tup (ws.map .int)]
theorem r_travelled (ls : List Leg) (m : Int) (h1 : ls.length ≤ 1000) (h2 : ∀ l ∈ ls, ∀ s, l.2 = some s → s.length ≤ 1000) : rn.go (n + 2) 63 [legsD ls, .int m] k = some (tripD (travel ls m []), k) := by
  refine run_wp rfl rfl ?_
  simp [btravelled, legsD, newS]
  refine fr_list (α := Leg) _ (fun r s => ∃ (now : Int) (ws : List Int) (x4 x5 x6 : Option D), s = ⟨[some (legsD ls), some (.int m), some (.int now), some (.lst (ws.map .int)), x4, x5, x6], [3], k⟩ ∧ travel ls m [] = travel r now ws ∧ ws.length + r.length ≤ 1000 ∧ ∀ x ∈ r, ∀ s, x.2 = some s → s.length ≤ 1000) _ ls _ ?h0 ?hs ?he
  case h0 => exact ⟨m, [], none, none, none, rfl, rfl, by simpa using h1, h2⟩
  case hs =>
    rintro a r _ ⟨now, ws, x4, x5, x6, rfl, e, hl, hr⟩
    have e1 := r_from (rn := rn) (n := n) (k := k) a.2 now (fun l e => hr a List.mem_cons_self l e)
    simp at hl
    cases hb : from' a.2 now with
    | none =>
      simp [legD, btravelled_0, e1, hb, optI]
      rw [e]
      simp [travel, hb, tripD]
    | some b =>
      simp [legD, btravelled_0, e1, hb, optI, keepM]
      refine ⟨by omega, ⟨b + a.1, ws ++ [b - now], some (.int a.1), some (spsD a.2), some (.int b), by simp, ?_, ?_, ?_⟩⟩
      · rw [e, travel, hb]
      · simp; omega
      · intro x hx s; exact hr x (List.mem_cons_of_mem _ hx) s
  case he =>
    rintro _ ⟨now, ws, x4, x5, x6, rfl, e, hl, hr⟩
    rw [e]
    simp [travel, tripD]
end
end K73
namespace K73
open PySem Mini Mini.Win
open L2 (atI ixN)
section
variable {rn : Rn} [Runs rn ds] {n : Nat} {k : Ky}
def kn (l : List Kn) (i : Nat) : Kn := l.getD i (0, 0)
structure Tab (l : List Kn) : Prop where
  len2 : 2 ≤ l.length
  len : l.length ≤ 12
  rng : ∀ p ∈ l, 0 ≤ p.1 ∧ p.1 ≤ 1440 ∧ -500 ≤ p.2 ∧ p.2 ≤ 1500
  inc : ∀ i, i + 1 < l.length → (kn l i).1 < (kn l (i + 1)).1
def tabD (l : List Kn) : D := .tup (l.map pairD)
theorem kn_at {l : List Kn} {i : Nat} (h : i < l.length) : atI (l.map pairD) (i : Int) = some (pairD (kn l i)) := by
  rw [atI_nat, List.getElem?_map, List.getElem?_eq_getElem h]
  simp [kn, List.getElem?_eq_getElem h]
theorem kn_mem {l : List Kn} {i : Nat} (h : i < l.length) : kn l i ∈ l := by
  simp only [kn, List.getD_eq_getElem?_getD, List.getElem?_eq_getElem h, Option.getD_some]
  exact List.getElem_mem h
theorem kn_last {l : List Kn} (h : 2 ≤ l.length) : atI (l.map pairD) (-1) = some (pairD (kn l (l.length - 1))) := by
  rw [atI_neg1, List.getLast?_eq_getElem?, List.length_map, List.getElem?_map, List.getElem?_eq_getElem (by omega)]
  simp [kn, List.getElem?_eq_getElem (show l.length - 1 < l.length by omega)]
theorem Tab.r {l : List Kn} (t : Tab l) {i : Nat} (h : i < l.length) : 0 ≤ (kn l i).1 ∧ (kn l i).1 ≤ 1440 ∧ -500 ≤ (kn l i).2 ∧ (kn l i).2 ≤ 1500 := t.rng _ (kn_mem h)
theorem pb_small {i : Int} (h1 : -1073741824 < i) (h2 : i < 1073741824) : pb 30 (i : Rat) := pb.int (by
  have e : (2 : Nat) ^ 30 = 1073741824 := by decide
  omega) (by decide)
theorem r_between {a b : Kn} {x : Rat} {e : Nat} (ha : -2000 ≤ a.1 ∧ a.1 ≤ 2000) (ha2 : -2000 ≤ a.2 ∧ a.2 ≤ 2000) (hb : -2000 ≤ b.1 ∧ b.1 ≤ 2000) (hb2 : -2000 ≤ b.2 ∧ b.2 ≤ 2000) (hab : a.1 < b.1) (hx : pb e x) (he : e ≤ 300) :
    rn.go (n + 3) 14 [pairD a, pairD b, ofR x] k = some (ofR (hgt a b x), k) := by
  refine run_wp rfl rfl ?_
  have p1 : pb 30 ((a.1 : Int) : Rat) := pb_small (by omega) (by omega)
  have p2 : pb 30 ((a.2 : Int) : Rat) := pb_small (by omega) (by omega)
  have p3 := hx.sub p1
  have p4 : pb 30 (((b.2 - a.2 : Int) : Rat) / ((b.1 - a.1 : Int) : Rat)) := by
    have e : (2 : Nat) ^ 30 = 1073741824 := by decide
    exact pb.div (by omega) (by omega) (by omega)
  have p5 := p3.mul p4
  have m1 : mulOk (x - (a.1 : Rat)).num (b.2 - a.2) = true := mulOk_r (by omega) (by omega)
  have m2 : mulOk ((x - (a.1 : Rat)).den : Int) (b.1 - a.1) = true := mulOk_r (by omega) (by omega)
  have hd : ((x - (a.1 : Rat)).den : Int) * (b.1 - a.1) ≠ 0 := Int.mul_ne_zero (by have := (x - (a.1 : Rat)).den_pos; omega) (by omega)
  have hh : (((x - (a.1 : Rat)).den : Int) * (b.1 - a.1)).natAbs < HUGE := by
    rw [Int.natAbs_mul, Int.natAbs_natCast]
    refine sm_sq (p3.sm (by omega)).2 ?_
    have := sm_64
    omega
  have e1 := r_red (rn := rn) (n + 1) k ((x - (a.1 : Rat)).num * (b.2 - a.2)) _ hd hh
  rw [frac_mul _ _ _ (by omega)] at e1
  simp [bheight_between, r_fwhole, r_fsub x _ (hx.sm (by omega)) (p1.sm (by omega)), m1, m2, e1, -Rat.intCast_sub, -Rat.intCast_mul]
  rw [r_fadd (rn := rn) _ _ (p2.sm (by omega)) (p5.sm (by omega))]
  simp [hgt]
theorem pb_cross {a b : Kn} {c : Int} (ha : -2000 ≤ a.1 ∧ a.1 ≤ 2000) (ha2 : -2000 ≤ a.2 ∧ a.2 ≤ 2000) (hb : -2000 ≤ b.1 ∧ b.1 ≤ 2000) (hb2 : -2000 ≤ b.2 ∧ b.2 ≤ 2000) (hc : -2000 ≤ c ∧ c ≤ 2000) (hab : a.2 ≠ b.2) : pb 61 (crossR a b c) ∧ pb 30 ((((c - a.2) * (b.1 - a.1) : Int) : Rat) / ((b.2 - a.2 : Int) : Rat)) := by
  have e : (2 : Nat) ^ 30 = 1073741824 := by decide
  have h1 : ((c - a.2) * (b.1 - a.1)).natAbs ≤ 4000 * 4000 := by
    rw [Int.natAbs_mul]
    exact Nat.mul_le_mul (by omega) (by omega)
  have p4 : pb 30 ((((c - a.2) * (b.1 - a.1) : Int) : Rat) / ((b.2 - a.2 : Int) : Rat)) := pb.div (by omega) (by omega) (by omega)
  exact ⟨(pb_small (i := a.1) (by omega) (by omega)).add p4, p4⟩
theorem r_place {a b : Kn} {c : Int} (ha : -2000 ≤ a.1 ∧ a.1 ≤ 2000) (ha2 : -2000 ≤ a.2 ∧ a.2 ≤ 2000) (hb : -2000 ≤ b.1 ∧ b.1 ≤ 2000) (hb2 : -2000 ≤ b.2 ∧ b.2 ≤ 2000) (hc : -2000 ≤ c ∧ c ≤ 2000) (hab : a.2 ≠ b.2) :
    rn.go (n + 3) 15 [pairD a, pairD b, .int c] k = some (ofR (crossR a b c), k) := by
  refine run_wp rfl rfl ?_
  have m1 : mulOk (c - a.2) (b.1 - a.1) = true := mulOk_r (by omega) (by omega)
  have p4 := (pb_cross ha ha2 hb hb2 hc hab).2
  have e3 := r_red (rn := rn) (n + 1) k ((c - a.2) * (b.1 - a.1)) (b.2 - a.2) (by omega) (sm_huge (by have := sm_64; omega))
  simp [bplace_between, r_fwhole, m1, e3, -Rat.intCast_sub, -Rat.intCast_mul]
  rw [r_fadd (rn := rn) _ _ ((pb_small (i := a.1) (by omega) (by omega)).sm (by omega)) (p4.sm (by omega))]
  simp [crossR]

/-! the table's checks -/
theorem r_table {l : List Kn} (t : Tab l) : rn.go (n + 5) 67 [tabD l] k = some (.bl true, k) := by
  have e1 : rn.go (n + 4) 27 [tabD l, .int 2, .int 12, .tup [.tup [.int 0, .int 1440], .tup [.int (-500), .int 1500]]] k = some (.bl true, k) :=
    r_rows (fun x : Kn => [x.1, x.2]) l 2 12 [(0, 1440), (-500, 1500)] (by simp) (fun x _ => rfl) (by have := t.len2; omega) (by have := t.len; omega) (by have := t.len; omega) (fun x hx => by
      have := t.rng x hx
      simp [this])
  have e2 : rn.go (n + 4) 28 [.lst ((l.map (·.1)).map .int)] k = some (.bl true, k) := r_rising _ (by have := t.len; simp; omega) (fun i hi => by
    have := t.inc i (by simpa using hi)
    simp only [List.length_map] at hi
    simpa [kn, List.getElem?_eq_getElem (show i < l.length by omega), List.getElem?_eq_getElem hi] using this)
  refine run_wp rfl rfl ?_
  simp [bis_table, e1]
  simp [tabD, lineOk_of (show l.length ≤ 16777216 by have := t.len; omega)]
  refine cm_map pairD (fun p => .int p.1) l (fun p hp => ?_) ?_
  · simp [eis_table_0]
  · rw [List.map_map] at e2
    have e3 : (List.map D.int ∘ fun x => x) = List.map D.int := rfl
    simp [show (List.map (fun p : Kn => D.int p.1) l) = List.map (D.int ∘ fun x => x.fst) l from rfl, e2]
theorem r_covers {l : List Kn} (t : Tab l) {x : Rat} (hx : sm x) : rn.go (n + 2) 11 [tabD l, ofR x] k = some (.bl (decide (((kn l 0).1 : Rat) ≤ x) && decide (x ≤ ((kn l (l.length - 1)).1 : Rat))), k) := by
  refine run_wp rfl rfl ?_
  have h0 := kn_at (l := l) (i := 0) (by have := t.len2; omega)
  have h1 := kn_last t.len2
  have r0 := t.r (i := 0) (by have := t.len2; omega)
  have r1 := t.r (i := l.length - 1) (by have := t.len2; omega)
  have s0 := (pb_small (i := (kn l 0).1) (by omega) (by omega)).sm (by omega)
  have s1 := (pb_small (i := (kn l (l.length - 1)).1) (by omega) (by omega)).sm (by omega)
  simp at h0
  simp [bcovers, tabD, h0, h1, r_fwhole, r_atmost _ _ s0 hx, r_atmost _ _ hx s1]
  by_cases h : ((kn l 0).1 : Rat) ≤ x <;> simp [h]
/-- the piece of a moment -/
structure At (l : List Kn) (x : Rat) (j : Nat) : Prop where
  lt : j + 1 < l.length
  lo : ((kn l j).1 : Rat) ≤ x
  ne : ∀ i, 1 ≤ i → i ≤ j → ((kn l i).1 : Rat) < x
  hi : x ≤ ((kn l (j + 1)).1 : Rat)
theorem at_ex {l : List Kn} (t : Tab l) {x : Rat} (h0 : ((kn l 0).1 : Rat) ≤ x) (h1 : x ≤ ((kn l (l.length - 1)).1 : Rat)) : ∃ j, At l x j := by
  have key : ∀ m, m + 1 < l.length → x ≤ ((kn l (m + 1)).1 : Rat) → ∃ j, At l x j := by
    intro m
    induction m with
    | zero => intro h h2; exact ⟨0, h, h0, fun i h3 h4 => by omega, h2⟩
    | succ m ih =>
      intro h h2
      by_cases h3 : x ≤ ((kn l (m + 1)).1 : Rat)
      · exact ih (by omega) h3
      · have h3' := Rat.not_le.mp h3
        refine ⟨m + 1, h, Rat.le_of_lt h3', fun i h4 h5 => ?_, h2⟩
        have hm : ((kn l i).1 : Rat) ≤ ((kn l (m + 1)).1 : Rat) := mono_kn (kn := kn l) (n := l.length - 1) (fun j hj => t.inc j (by omega)) i (m + 1) h5 (by omega)
        grind
  have := t.len2
  exact key (l.length - 2) (by omega) (by rw [show l.length - 2 + 1 = l.length - 1 by omega]; exact h1)
theorem r_height {l : List Kn} (t : Tab l) {x : Rat} {e : Nat} (hx : pb e x) (he : e ≤ 300) {j : Nat} (hj : At l x j) : rn.go (n + 4) 13 [tabD l, ofR x] k = some (ofR (hgt (kn l j) (kn l (j + 1)) x), k) := by
  refine run_wp rfl rfl ?_
  simp [bheight_at]
  have hl2 := t.len2
  have hl := t.len
  have hlt := hj.lt
  refine wh_inv (fun s => ∃ i : Nat, 1 ≤ i ∧ i ≤ j + 1 ∧ s = ⟨[some (tabD l), some (ofR x), some (.int i)], [], k⟩) (fun s => (20 - sInt s.ρ 2).toNat) _ WF _ ⟨1, by omega, by omega, by simp⟩ (by simp [WF]) ?_
  rintro _ ⟨i, h1, h2, rfl⟩
  have hi := kn_at (l := l) (i := i) (by omega)
  have ri := t.r (i := i) (by omega)
  have si := (pb_small (i := (kn l i).1) (by omega) (by omega)).sm (by omega)
  have hne : ¬ x ≤ ((kn l i).1 : Rat) ↔ i ≤ j := by
    constructor
    · intro h
      by_cases hij : i = j + 1
      · subst hij; exact (h hj.hi).elim
      · omega
    · intro h
      have := hj.ne i h1 h
      grind
  simp [tabD, hi, r_fwhole, r_atmost _ _ (hx.sm (by omega)) si, bheight_at_0]
  by_cases hij : i ≤ j
  · have h4 : ¬ x ≤ ((kn l i).1 : Rat) := hne.mpr hij
    have h5 : (i : Int) < (l.length : Int) - 1 := by omega
    simp [h4, h5]
    exact ⟨⟨⟨i + 1, by omega, by omega, by simp⟩, by simp; omega⟩⟩
  · have h4 : x ≤ ((kn l i).1 : Rat) := by
      by_cases h : x ≤ ((kn l i).1 : Rat)
      · exact h
      · exact (hij (hne.mp h)).elim
    obtain rfl : i = j + 1 := by omega
    have hj0 := kn_at (l := l) (i := j) (by omega)
    have rj := t.r (i := j) (by omega)
    have hbt := r_between (rn := rn) (n := n) (k := k) (a := kn l j) (b := kn l (j + 1)) (x := x) (e := e) (by omega) (by omega) (by omega) (by omega) (t.inc j (by omega)) hx he
    by_cases h5 : ((j + 1 : Nat) : Int) < (l.length : Int) - 1
    · simp at hi h5
      simp [h4, h5, hi, hj0, hbt]
    · simp at hi h5
      have h6 : ¬ ((j : Int) + 1 < (l.length : Int) - 1) := by omega
      simp [h6, hi, hj0, hbt]
end
end K73
namespace K73
open PySem Mini Mini.Win
open L2 (atI ixN)
section
variable {rn : Rn} [Runs rn ds] {n : Nat} {k : Ky}
def partD : Option Sp → D | none => .non | some p => spR p
@[simp] theorem noL_partD (o : Option Sp) : noL (partD o) = true := by cases o <;> rfl
theorem r_part {a b : Kn} {c : Int} (ha : -2000 ≤ a.1 ∧ a.1 ≤ 2000) (ha2 : -2000 ≤ a.2 ∧ a.2 ≤ 2000) (hb : -2000 ≤ b.1 ∧ b.1 ≤ 2000) (hb2 : -2000 ≤ b.2 ∧ b.2 ≤ 2000) (hc : -2000 ≤ c ∧ c ≤ 2000) :
    rn.go (n + 4) 16 [pairD a, pairD b, .int c] k = some (partD (partOf a b c), k) := by
  refine run_wp rfl rfl ?_
  by_cases h1 : a.2 < c <;> by_cases h2 : b.2 < c
  · simp [bhigh_part, r_fwhole, h1, h2, partOf, partD]
  · simp [bhigh_part, r_fwhole, h1, h2, partOf, partD, r_place ha ha2 hb hb2 hc (by omega), spR]
  · simp [bhigh_part, r_fwhole, h1, h2, partOf, partD, r_place ha ha2 hb hb2 hc (by omega), spR]
  · simp [bhigh_part, r_fwhole, h1, h2, partOf, partD, spR]
theorem pb_part {a b : Kn} {c : Int} (ha : -2000 ≤ a.1 ∧ a.1 ≤ 2000) (ha2 : -2000 ≤ a.2 ∧ a.2 ≤ 2000) (hb : -2000 ≤ b.1 ∧ b.1 ≤ 2000) (hb2 : -2000 ≤ b.2 ∧ b.2 ≤ 2000) (hc : -2000 ≤ c ∧ c ≤ 2000) {p : Sp} (h : partOf a b c = some p) : pb 61 p.1 ∧ pb 61 p.2 := by
  have p1 : pb 61 ((a.1 : Int) : Rat) := (pb_small (by omega) (by omega)).mono (by omega)
  have p2 : pb 61 ((b.1 : Int) : Rat) := (pb_small (by omega) (by omega)).mono (by omega)
  unfold partOf at h
  split at h
  · cases h
  · rename_i hn
    simp only [Option.some.injEq] at h
    subst h
    refine ⟨?_, ?_⟩
    · show pb 61 (if a.2 < c then crossR a b c else (a.1 : Rat))
      split
      · exact (pb_cross ha ha2 hb hb2 hc (by omega)).1
      · exact p1
    · show pb 61 (if b.2 < c then crossR a b c else (b.1 : Rat))
      split
      · exact (pb_cross ha ha2 hb hb2 hc (by omega)).1
      · exact p2
def spsR (S : List Sp) : List D := S.map spR
theorem pb_push {S : List Sp} {o : Option Sp} (h : ∀ s ∈ S, pb 61 s.1 ∧ pb 61 s.2) (ho : ∀ p, o = some p → pb 61 p.1 ∧ pb 61 p.2) : ∀ s ∈ push S o, pb 61 s.1 ∧ pb 61 s.2 := by
  cases o with
  | none => exact h
  | some p =>
    rcases List.eq_nil_or_concat S with rfl | ⟨S0, q, rfl⟩
    · rw [push_nil]
      intro s hs
      simp only [List.mem_singleton] at hs
      subst hs
      exact ho _ rfl
    · rw [List.concat_eq_append] at *
      rw [push_cat]
      split
      · intro s hs
        rcases List.mem_append.mp hs with hs | hs
        · exact h s (by simp [hs])
        · simp only [List.mem_singleton] at hs
          subst hs
          exact ⟨(h q (by simp)).1, (ho _ rfl).2⟩
      · intro s hs
        rcases List.mem_append.mp hs with hs | hs
        · exact h s hs
        · simp only [List.mem_singleton] at hs
          subst hs
          exact ho _ rfl
theorem pb_spans {l : List Kn} (t : Tab l) {c : Int} (hc : -2000 ≤ c ∧ c ≤ 2000) : ∀ i, i + 1 ≤ l.length → ∀ s ∈ spansTo (kn l) c i, pb 61 s.1 ∧ pb 61 s.2 := by
  intro i
  induction i with
  | zero => intro _ s hs; cases hs
  | succ i ih =>
    intro hi
    have r0 := t.r (i := i) (by omega)
    have r1 := t.r (i := i + 1) (by omega)
    exact pb_push (ih (by omega)) fun p hp => pb_part (by omega) (by omega) (by omega) (by omega) hc hp
theorem push_len (S : List Sp) (o : Option Sp) : (push S o).length ≤ S.length + 1 := by
  cases o with
  | none => simp [push]
  | some p =>
    rcases List.eq_nil_or_concat S with rfl | ⟨S0, q, rfl⟩
    · rw [push_nil]; simp
    · rw [List.concat_eq_append, push_cat]
      split <;> simp
theorem spans_len (f : Nat → Kn) (c : Int) : ∀ i, (spansTo f c i).length ≤ i
  | 0 => by simp [spansTo]
  | i + 1 => by
    have := push_len (spansTo f c i) (partOf (f i) (f (i + 1)) c)
    have := spans_len f c i
    simp only [spansTo]
    omega
def spansOf (l : List Kn) (c : Int) : List Sp := spansTo (kn l) c (l.length - 1)
def winD (l : List Sp) : D := .tup (l.map spR)
def SpI (l : List Kn) (c : Int) (k : Ky) (i : Nat) (s : Sta) : Prop := ∃ x3 x4 : Option D, s = ⟨[some (tabD l), some (.int c), some (.lst ((spansTo (kn l) c i).map spR)), x3, x4], [2], k⟩
theorem spans_step {l : List Kn} (t : Tab l) {c : Int} (hc : -2000 ≤ c ∧ c ≤ 2000) {i : Nat} (hi : i < l.length - 1) {x4 : Option D} {J : O → Prop} : WP (rn.go (n + 4)) WF bhigh_spans_0 ⟨[some (tabD l), some (.int c), some (.lst ((spansTo (kn l) c i).map spR)), some (.int (1 + (i : Int))), x4], [2], k⟩ (stp (SpI l c k (i + 1)) J) := by
  have hl2 := t.len2
  have hl := t.len
  have r0 := t.r (i := i) (by omega)
  have r1 := t.r (i := i + 1) (by omega)
  have h0 := kn_at (l := l) (i := i) (by omega)
  have h1 := kn_at (l := l) (i := i + 1) (by omega)
  have hp := r_part (rn := rn) (n := n) (k := k) (a := kn l i) (b := kn l (i + 1)) (c := c) (by omega) (by omega) (by omega) (by omega) hc
  rw [show ((i + 1 : Nat) : Int) = 1 + (i : Int) by omega] at h1
  have hs := spans_len (kn l) c i
  have e0 : (1 + (i : Int) - 1) = i := by omega
  cases ho : partOf (kn l i) (kn l (i + 1)) c with
  | none =>
    rw [ho] at hp
    simp [bhigh_spans_0, tabD, h0, h1, e0, hp, partD, keepM]
    exact ⟨⟨some (.int (1 + i)), some .non, by simp [spansTo, ho, push_none, tabD]⟩⟩
  | some p =>
    rw [ho] at hp
    rcases List.eq_nil_or_concat (spansTo (kn l) c i) with e | ⟨S0, q, e⟩
    · simp [bhigh_spans_0, tabD, h0, h1, e0, hp, partD, keepM, e]
      exact ⟨⟨some (.int (1 + i)), some (spR p), by simp [spansTo, ho, e, push_nil, tabD]⟩⟩
    · rw [List.concat_eq_append] at e
      have hlen : S0.length < 100 := by rw [e] at hs; simp at hs; omega
      have ix1 := ixN_neg1 S0.length
      by_cases hq : q.2 = p.1
      · simp [bhigh_spans_0, tabD, h0, h1, e0, hp, partD, keepM, e, atI_neg1, eqD_ofR, hq, ix1]
        have := set_last (S0.map spR) (spR q) (.tup [ofR q.1, ofR p.2])
        rw [List.length_map] at this
        refine ⟨⟨some (.int (1 + i)), some (spR p), ?_⟩⟩
        simp [spansTo, ho, e, push_cat, hq, tabD, this, spR]
      · have hq' : decide (q.2 = p.1) = false := decide_eq_false hq
        simp [bhigh_spans_0, tabD, h0, h1, e0, hp, partD, keepM, e, atI_neg1, eqD_ofR, hq]
        refine ⟨by omega, ⟨some (.int (1 + i)), some (spR p), ?_⟩⟩
        simp [spansTo, ho, e, push_cat, hq, tabD, spR]
theorem r_spans {l : List Kn} (t : Tab l) {c : Int} (hc : -2000 ≤ c ∧ c ≤ 2000) : rn.go (n + 5) 17 [tabD l, .int c] k = some (winD (spansOf l c), k) := by
  refine run_wp rfl rfl ?_
  have hl2 := t.len2
  have hl := t.len
  have h62 : rng62 (l.length : Int) = true := rng62_of (by omega) (by omega)
  simp [bhigh_spans, tabD, newS, show rng62 1 = true from rfl, h62]
  refine fr_rng 1 (l.length - 1) (SpI l c k) _ _ ⟨none, none, by simp [avI, avE, avEs, spansTo, tabD]⟩ ?_ ?_
  · rintro i _ hi ⟨x3, x4, rfl⟩
    simp
    exact spans_step t hc hi
  · rintro _ ⟨x3, x4, rfl⟩
    simp [winD, spansOf]
/-! the functions over tables -/
theorem fz_pair (p : Kn) : FZ 2 (pairD p) := FZ.pair (m := 0) p
theorem fz_tab {l : List Kn} (t : Tab l) : FZ 3 (tabD l) := FZ.map (by have := t.len; omega) fun a _ => fz_pair a
structure Ok (l : List Kn) (x : Rat) : Prop where
  t : Tab l
  pb : pb 60 x
  fr : -1000000 ≤ x.num ∧ x.num ≤ 1000000 ∧ x.den ≤ 1000000
  lo : ((kn l 0).1 : Rat) ≤ x
  hi : x ≤ ((kn l (l.length - 1)).1 : Rat)
theorem r_sour {l : List Kn} {x : Rat} (o : Ok l x) {j : Nat} (hj : At l x j) : rn.go (n + 6) 68 [tabD l, ofR x] k = some (ofR (hgt (kn l j) (kn l (j + 1)) x), k) := by
  refine run_wp rfl rfl ?_
  have f1 := r_frozen (rn := rn) (n := n + 2) (k := k) (fz_tab o.t)
  have f2 := r_frozen (rn := rn) (n := n + 3) (k := k) (FZ.fr (m := 0) x)
  simp [bsour_at, r_table o.t, r_need, r_frac x o.fr.1 o.fr.2.1 o.fr.2.2, f1, f2, r_covers o.t (o.pb.sm (by omega)), o.lo, o.hi, r_height o.t o.pb (by omega) hj]
  simp [tabD]
theorem r_windows {l : List Kn} (t : Tab l) {c : Int} (hc : -500 ≤ c ∧ c ≤ 1500) : rn.go (n + 6) 69 [tabD l, .int c] k = some (winD (spansOf l c), k) := by
  refine run_wp rfl rfl ?_
  have f1 := r_frozen (rn := rn) (n := n + 2) (k := k) (fz_tab t)
  simp [bwindows, r_table t, r_need, r_whole, hc, f1, r_spans t (c := c) (by omega)]
theorem r_asked {l : List Kn} {x : Rat} (o : Ok l x) {c : Int} (hc : -500 ≤ c ∧ c ≤ 1500) : rn.go (n + 6) 72 [tabD l, .int c, ofR x] k = some (.tup [winD (spansOf l c), ofR x], k) := by
  refine run_wp rfl rfl ?_
  have f1 := r_frozen (rn := rn) (n := n + 2) (k := k) (fz_tab o.t)
  have f2 := r_frozen (rn := rn) (n := n + 3) (k := k) (FZ.fr (m := 0) x)
  simp [basked, r_table o.t, r_need, r_frac x o.fr.1 o.fr.2.1 o.fr.2.2, r_whole, hc, f1, f2, r_covers o.t (o.pb.sm (by omega)), o.lo, o.hi, r_spans o.t (c := c) (by omega)]
  simp [tabD]
theorem pb_of {l : List Kn} (t : Tab l) {c : Int} (hc : -500 ≤ c ∧ c ≤ 1500) : ∀ s ∈ spansOf l c, pb 61 s.1 ∧ pb 61 s.2 := pb_spans t (by omega) _ (by have := t.len2; omega)
def optR : Option Rat → D | none => .non | some x => ofR x
@[simp] theorem noL_optR (o : Option Rat) : noL (optR o) = true := by cases o <;> rfl
theorem r_first {l : List Kn} {x : Rat} (o : Ok l x) {c : Int} (hc : -500 ≤ c ∧ c ≤ 1500) : rn.go (n + 7) 70 [tabD l, .int c, ofR x] k = some (optR (firstFrom (spansOf l c) x), k) := by
  refine run_wp rfl rfl ?_
  simp [bfirst_from, r_asked o hc, winD]
  have hs := pb_of o.t hc
  have hx : sm x := o.pb.sm (by omega)
  refine fr_list spR (fun r s => ∃ x5 x6 : Option D, s = ⟨[some (tabD l), some (.int c), some (ofR x), some (.tup ((spansOf l c).map spR)), some (ofR x), x5, x6], [], k⟩ ∧ firstFrom (spansOf l c) x = firstFrom r x ∧ ∀ s ∈ r, pb 61 s.1 ∧ pb 61 s.2) _ (spansOf l c) _ ⟨none, none, rfl, rfl, hs⟩ ?_ ?_
  · rintro a r _ ⟨x5, x6, rfl, e, hr⟩
    have ha := hr a List.mem_cons_self
    have a1 : sm a.1 := ha.1.sm (by omega)
    have a2 : sm a.2 := ha.2.sm (by omega)
    simp [bfirst_from_0, r_atmost x a.2 hx a2, r_fmax a.1 x a1 hx]
    rw [e]
    by_cases h : x ≤ a.2
    · simp [h, firstFrom, optR]
    · simp [h, firstFrom]
      exact ⟨⟨some (ofR a.1), some (ofR a.2), by simp, by simp [firstFrom, h], fun s hs => hr s (List.mem_cons_of_mem _ hs)⟩⟩
  · rintro _ ⟨x5, x6, rfl, e, _⟩
    rw [e]
    simp [firstFrom, optR]
theorem r_last {l : List Kn} {x : Rat} (o : Ok l x) {c : Int} (hc : -500 ≤ c ∧ c ≤ 1500) : rn.go (n + 7) 71 [tabD l, .int c, ofR x] k = some (optR (lastTill (spansOf l c) x none), k) := by
  refine run_wp rfl rfl ?_
  simp [blast_till, r_asked o hc, winD]
  have hs := pb_of o.t hc
  have hx : sm x := o.pb.sm (by omega)
  refine fr_list spR (fun r s => ∃ (f : Option Rat) (x6 x7 : Option D), s = ⟨[some (tabD l), some (.int c), some (ofR x), some (.tup ((spansOf l c).map spR)), some (ofR x), some (optR f), x6, x7], [], k⟩ ∧ lastTill (spansOf l c) x none = lastTill r x f ∧ ∀ s ∈ r, pb 61 s.1 ∧ pb 61 s.2) _ (spansOf l c) _ ⟨none, none, none, rfl, rfl, hs⟩ ?_ ?_
  · rintro a r _ ⟨f, x6, x7, rfl, e, hr⟩
    have ha := hr a List.mem_cons_self
    have a1 : sm a.1 := ha.1.sm (by omega)
    have a2 : sm a.2 := ha.2.sm (by omega)
    simp [blast_till_0, r_atmost a.1 x a1 hx, r_fmin a.2 x a2 hx]
    rw [e]
    by_cases h : a.1 ≤ x
    · simp [h, lastTill]
      exact ⟨⟨some (if x < a.2 then x else a.2), some (ofR a.1), some (ofR a.2), by simp [optR], by simp [lastTill, h], fun s hs => hr s (List.mem_cons_of_mem _ hs)⟩⟩
    · simp [h, lastTill]
      exact ⟨⟨f, some (ofR a.1), some (ofR a.2), by simp, by simp [lastTill, h], fun s hs => hr s (List.mem_cons_of_mem _ hs)⟩⟩
  · rintro _ ⟨f, x6, x7, rfl, e, _⟩
    rw [e]
    simp [lastTill]
end
end K73
namespace K73
open PySem Mini Mini.Win
open L2 (atI ixN)
/-! ### journeys: the mathematics -/
structure SpOk (l : List Span) : Prop where
  dis : l.Pairwise fun a b => a.2 < b.1
  rng : ∀ p ∈ l, 0 ≤ p.1 ∧ p.1 ≤ p.2 ∧ p.2 ≤ 300
  len : l.length ≤ 4
theorem SpOk.tail {p : Span} {l : List Span} (h : SpOk (p :: l)) : SpOk l :=
  ⟨(List.pairwise_cons.mp h.dis).2, fun q hq => h.rng q (List.mem_cons_of_mem _ hq), by have := h.len; simp at this; omega⟩
def inSp (l : List Span) (t : Int) : Bool := l.any fun p => decide (p.1 ≤ t) && decide (t ≤ p.2)
theorem inSp_iff {l : List Span} {t : Int} : inSp l t = true ↔ ∃ p ∈ l, p.1 ≤ t ∧ t ≤ p.2 := by
  simp only [inSp, List.any_eq_true, Bool.and_eq_true, decide_eq_true_eq]
theorem bf_none : ∀ {l : List Span} {m : Int}, beginFrom l m = none → ∀ t, m ≤ t → inSp l t = false
  | [], m, h, t, ht => rfl
  | p :: r, m, h, t, ht => by
    simp only [beginFrom] at h
    split at h
    · cases h
    · have := bf_none h t ht
      simp only [inSp, List.any_cons] at this ⊢
      rw [this]
      have : ¬ t ≤ p.2 := by omega
      simp [this]
theorem bf_some : ∀ {l : List Span} {m b : Int}, SpOk l → beginFrom l m = some b → m ≤ b ∧ (b ≤ 300 ∨ b = m) ∧ inSp l b = true ∧ ∀ t, m ≤ t → t < b → inSp l t = false
  | [], m, b, _, h => by cases h
  | p :: r, m, b, o, h => by
    simp only [beginFrom] at h
    have hp := o.rng p List.mem_cons_self
    split at h
    · rename_i hm
      simp only [Option.some.injEq] at h
      refine ⟨by split at h <;> omega, by split at h <;> omega, ?_, fun t h1 h2 => ?_⟩
      · rw [inSp_iff]
        exact ⟨p, List.mem_cons_self, by split at h <;> omega, by split at h <;> omega⟩
      · cases hh : inSp (p :: r) t with
        | false => rfl
        | true =>
          obtain ⟨q, hq, h3, h4⟩ := inSp_iff.mp hh
          rcases List.mem_cons.mp hq with rfl | hq
          · split at h <;> omega
          · have := (List.pairwise_cons.mp o.dis).1 q hq
            split at h <;> omega
    · rename_i hm
      obtain ⟨h1, h2, h3, h4⟩ := bf_some o.tail h
      refine ⟨h1, h2, ?_, fun t h5 h6 => ?_⟩
      · obtain ⟨q, hq, h7⟩ := inSp_iff.mp h3
        exact inSp_iff.mpr ⟨q, List.mem_cons_of_mem _ hq, h7⟩
      · have := h4 t h5 h6
        simp only [inSp, List.any_cons] at this ⊢
        rw [this]
        have : ¬ t ≤ p.2 := by omega
        simp [this]
theorem bf_le : ∀ {l : List Span} {s t : Int}, SpOk l → ((∃ b, beginFrom l s = some b ∧ b ≤ t) ↔ s ≤ t ∧ ∃ p ∈ l, s ≤ p.2 ∧ p.1 ≤ t)
  | [], s, t, o => ⟨fun ⟨b, h, _⟩ => (by cases h), fun ⟨_, p, hp, _⟩ => (by cases hp)⟩
  | p :: r, s, t, o => by
    have hp := o.rng p List.mem_cons_self
    simp only [beginFrom]
    split
    · rename_i hs
      constructor
      · rintro ⟨b, h, hb⟩
        simp only [Option.some.injEq] at h
        refine ⟨by split at h <;> omega, p, List.mem_cons_self, hs, by split at h <;> omega⟩
      · rintro ⟨h, q, hq, h1, h2⟩
        have hpt : p.1 ≤ t := by
          rcases List.mem_cons.mp hq with rfl | hq
          · exact h2
          · have := (List.pairwise_cons.mp o.dis).1 q hq
            omega
        exact ⟨_, rfl, by split <;> omega⟩
    · rename_i hs
      rw [bf_le o.tail]
      refine ⟨fun ⟨h, q, hq, h1⟩ => ⟨h, q, List.mem_cons_of_mem _ hq, h1⟩, fun ⟨h, q, hq, h1, h2⟩ => ?_⟩
      rcases List.mem_cons.mp hq with rfl | hq
      · omega
      · exact ⟨h, q, hq, h1, h2⟩
theorem bt_f : ∀ {l : List Span} {t : Int} {f : Option Int}, (∀ p ∈ l, ¬ p.1 ≤ t) → beginTill l t f = f
  | [], t, f, _ => rfl
  | p :: r, t, f, h => by
    simp only [beginTill]
    rw [if_neg (h p List.mem_cons_self)]
    exact bt_f fun q hq => h q (List.mem_cons_of_mem _ hq)
theorem bt_le : ∀ {l : List Span} {s t : Int} {f : Option Int}, SpOk l → (∀ r, f = some r → r ≤ t ∧ ∀ p ∈ l, r < p.1) → ((∃ r, beginTill l t f = some r ∧ s ≤ r) ↔ (s ≤ t ∧ ∃ p ∈ l, s ≤ p.2 ∧ p.1 ≤ t) ∨ ∃ r, f = some r ∧ s ≤ r)
  | [], s, t, f, o, hf => by simp [beginTill]
  | p :: r, s, t, f, o, hf => by
    have hp := o.rng p List.mem_cons_self
    have hd := (List.pairwise_cons.mp o.dis).1
    simp only [beginTill]
    split
    · rename_i hpt
      rw [bt_le o.tail (fun r' hr' => by
        simp only [Option.some.injEq] at hr'
        refine ⟨by split at hr' <;> omega, fun q hq => by have := hd q hq; split at hr' <;> omega⟩)]
      constructor
      · rintro (⟨h, q, hq, h1⟩ | ⟨r', h1, h2⟩)
        · exact .inl ⟨h, q, List.mem_cons_of_mem _ hq, h1⟩
        · simp only [Option.some.injEq] at h1
          exact .inl ⟨by split at h1 <;> omega, p, List.mem_cons_self, by split at h1 <;> omega, hpt⟩
      · rintro (⟨h, q, hq, h1, h2⟩ | ⟨r', h1, h2⟩)
        · rcases List.mem_cons.mp hq with rfl | hq
          · exact .inr ⟨_, rfl, by split <;> omega⟩
          · exact .inl ⟨h, q, hq, h1, h2⟩
        · have := (hf r' h1)
          have h3 := this.2 p List.mem_cons_self
          exact .inr ⟨_, rfl, by split <;> omega⟩
    · rename_i hpt
      rw [bt_le o.tail (fun r' hr' => ⟨(hf r' hr').1, fun q hq => (hf r' hr').2 q (List.mem_cons_of_mem _ hq)⟩)]
      constructor
      · rintro (⟨h, q, hq, h1⟩ | h)
        · exact .inl ⟨h, q, List.mem_cons_of_mem _ hq, h1⟩
        · exact .inr h
      · rintro (⟨h, q, hq, h1, h2⟩ | h)
        · rcases List.mem_cons.mp hq with rfl | hq
          · omega
          · exact .inl ⟨h, q, hq, h1, h2⟩
        · exact .inr h
structure LegOk (l : Leg) : Prop where
  m0 : 0 ≤ l.1
  m1 : l.1 ≤ 100
  sp : ∀ s, l.2 = some s → SpOk s
theorem galois {l : Leg} (o : LegOk l) {s t : Int} (hs : 0 ≤ s) : (∃ b, from' l.2 s = some b ∧ b ≤ t) ↔ ∃ r, till' l.2 t = some r ∧ s ≤ r := by
  obtain ⟨m, sp⟩ := l
  cases sp with
  | none =>
    simp only [from', till']
    constructor
    · rintro ⟨b, h, hb⟩
      simp only [Option.some.injEq] at h
      rw [if_neg (by omega)]
      exact ⟨t, rfl, by omega⟩
    · rintro ⟨r, h, hr⟩
      split at h
      · cases h
      · simp only [Option.some.injEq] at h
        exact ⟨s, rfl, by omega⟩
  | some l =>
    have ol := o.sp l rfl
    simp only [from', till']
    rw [bf_le ol]
    by_cases ht : t < 0
    · rw [if_pos ht]
      refine ⟨fun h => (by omega), fun ⟨r, h, _⟩ => (by cases h)⟩
    · rw [if_neg ht, bt_le ol (fun r hr => by cases hr)]
      simp
def arr : List Leg → Int → Option Int
  | [], s => some s
  | l :: ls, s => (from' l.2 s).bind fun b => arr ls (b + l.1)
def lv : List Leg → Int → Option Int
  | [], g => some g
  | l :: ls, g => (lv ls g).bind fun t => till' l.2 (t - l.1)
theorem travel_arr : ∀ (ls : List Leg) (s : Int) (ws : List Int), (travel ls s ws).map Prod.fst = arr ls s
  | [], s, ws => rfl
  | l :: ls, s, ws => by
    simp only [travel, arr]
    cases from' l.2 s with
    | none => rfl
    | some b => exact travel_arr ls _ _
theorem from_ge {l : Leg} (o : LegOk l) {s b : Int} (h : from' l.2 s = some b) : s ≤ b := by
  obtain ⟨m, sp⟩ := l
  cases sp with
  | none => simp only [from', Option.some.injEq] at h; omega
  | some l => exact (bf_some (o.sp l rfl) h).1
theorem arr_lv : ∀ {ls : List Leg}, (∀ l ∈ ls, LegOk l) → ∀ {s g : Int}, 0 ≤ s → ((∃ a, arr ls s = some a ∧ a ≤ g) ↔ ∃ r, lv ls g = some r ∧ s ≤ r)
  | [], _, s, g, hs => by simp [arr, lv]
  | l :: ls, o, s, g, hs => by
    have ol := o l List.mem_cons_self
    have ih := fun {s} hs => arr_lv (ls := ls) (fun l hl => o l (List.mem_cons_of_mem _ hl)) (s := s) (g := g) hs
    constructor
    · rintro ⟨a, h, ha⟩
      simp only [arr] at h
      cases hb : from' l.2 s with
      | none => rw [hb] at h; cases h
      | some b =>
        rw [hb] at h
        have hb2 := from_ge ol hb
        have := ol.m0
        obtain ⟨r', h1, h2⟩ := (ih (s := b + l.1) (by omega)).mp ⟨a, h, ha⟩
        obtain ⟨r, h3, h4⟩ := (galois ol (t := r' - l.1) hs).mp ⟨b, hb, by omega⟩
        exact ⟨r, by simp only [lv, h1]; exact h3, h4⟩
    · rintro ⟨r, h, hr⟩
      simp only [lv] at h
      cases hl : lv ls g with
      | none => rw [hl] at h; cases h
      | some r' =>
        rw [hl] at h
        obtain ⟨b, hb, h2⟩ := (galois ol (t := r' - l.1) hs).mpr ⟨r, h, hr⟩
        have hb2 := from_ge ol hb
        have := ol.m0
        obtain ⟨a, h3, h4⟩ := (ih (s := b + l.1) (by omega)).mpr ⟨r', hl, by omega⟩
        exact ⟨a, by simp only [arr, hb]; exact h3, h4⟩
theorem till_le {l : Leg} (o : LegOk l) {t r : Int} (h : till' l.2 t = some r) : 0 ≤ r ∧ r ≤ t := by
  obtain ⟨m, sp⟩ := l
  simp only [till'] at h
  split at h
  · cases h
  · rename_i ht
    cases sp with
    | none => simp only [Option.some.injEq] at h; omega
    | some l =>
      have ol := o.sp l rfl
      have key : ∀ (l : List Span) (f : Option Int), (∀ p ∈ l, 0 ≤ p.1 ∧ p.1 ≤ p.2) → (∀ r, f = some r → 0 ≤ r ∧ r ≤ t) → ∀ r, beginTill l t f = some r → 0 ≤ r ∧ r ≤ t := by
        intro l
        induction l with
        | nil => intro f _ hf r h; exact hf r h
        | cons p l ih =>
          intro f hl hf r h
          simp only [beginTill] at h
          have hp := hl p List.mem_cons_self
          refine ih _ (fun q hq => hl q (List.mem_cons_of_mem _ hq)) (fun r' hr' => ?_) r h
          split at hr'
          · simp only [Option.some.injEq] at hr'
            split at hr' <;> omega
          · exact hf r' hr'
      exact key l none (fun p hp => ⟨(ol.rng p hp).1, (ol.rng p hp).2.1⟩) (fun _ h => by cases h) r h
theorem lv_le : ∀ {ls : List Leg}, (∀ l ∈ ls, LegOk l) → ∀ {g r : Int}, 0 ≤ g → lv ls g = some r → 0 ≤ r ∧ r ≤ g
  | [], _, g, r, hg, h => by simp only [lv, Option.some.injEq] at h; omega
  | l :: ls, o, g, r, hg, h => by
    simp only [lv] at h
    cases hl : lv ls g with
    | none => rw [hl] at h; cases h
    | some r' =>
      rw [hl] at h
      have h1 := lv_le (fun l hl => o l (List.mem_cons_of_mem _ hl)) hg hl
      have ol := o l List.mem_cons_self
      have h2 := till_le ol (show till' l.2 (r' - l.1) = some r from h)
      have := ol.m0
      omega
/-- as the program does it: from the last leg on -/
def lvR : List Leg → Int → Option Int
  | [], g => some g
  | l :: ls, g => (till' l.2 (g - l.1)).bind (lvR ls)
theorem lvR_app : ∀ (a : List Leg) (l : Leg) (g : Int), lvR (a ++ [l]) g = (lvR a g).bind fun t => till' l.2 (t - l.1)
  | [], l, g => by simp only [List.nil_append, lvR, Option.bind_some]; cases till' l.2 (g - l.1) <;> rfl
  | b :: a, l, g => by
    simp only [List.cons_append, lvR]
    cases till' b.2 (g - b.1) with
    | none => rfl
    | some t => exact lvR_app a l t
theorem lvR_rev : ∀ (ls : List Leg) (g : Int), lvR ls.reverse g = lv ls g
  | [], g => rfl
  | l :: ls, g => by rw [List.reverse_cons, lvR_app, lvR_rev ls g]; rfl
/-- waiting one by one -/
def waitN (l : List Span) (c : Int) : Nat → Int
  | 0 => 0
  | i + 1 => if inSp l (c + waitN l c i) then waitN l c i else waitN l c i + 1
theorem waitN_none {l : List Span} {c : Int} (h : ∀ t, c ≤ t → inSp l t = false) : ∀ i : Nat, waitN l c i = i
  | 0 => rfl
  | i + 1 => by
    simp only [waitN, waitN_none h i]
    rw [h (c + i) (by omega)]
    simp
theorem waitN_some {l : List Span} {c b : Int} (hb : c ≤ b) (h1 : inSp l b = true) (h2 : ∀ t, c ≤ t → t < b → inSp l t = false) : ∀ i : Nat, waitN l c i = if (i : Int) < b - c then (i : Int) else b - c
  | 0 => by simp only [waitN]; split <;> omega
  | i + 1 => by
    simp only [waitN, waitN_some hb h1 h2 i]
    by_cases hi : (i : Int) < b - c
    · rw [if_pos hi, h2 (c + i) (by omega) (by omega)]
      simp only [Bool.false_eq_true, if_false]
      split <;> omega
    · rw [if_neg hi, show c + (b - c) = b by omega, h1]
      simp only [if_true]
      rw [if_neg (by omega)]
section
variable {rn : Rn} [Runs rn ds] {n : Nat} {k : Ky}
/-! journeys: the walk -/
@[simp] theorem noL_spsD (o : Option (List Span)) : noL (spsD o) = true := by
  cases o with
  | none => rfl
  | some l => exact noLs_map (fun p => rfl) l
@[simp] theorem noL_optI (o : Option Int) : noL (optI o) = true := by cases o <;> rfl
theorem r_spansOk {l : List Span} (o : SpOk l) : rn.go (n + 4) 57 [spansD l] k = some (.bl true, k) := by
  refine run_wp rfl rfl ?_
  have hl := o.len
  have h62 : rng62 (l.length : Int) = true := rng62_of (by omega) (by omega)
  simp [bare_spans, spansD, r_seq, show (l.length : Int) ≤ 4 by omega, lineOk_of (show l.length ≤ 16777216 by omega)]
  refine cm_map spanD (fun _ => .bl true) l (fun p hp => ?_) ?_
  · have := o.rng p hp
    simp [eare_spans_0, spanD, r_span p.1 p.2 (by omega) (by omega) (by omega)]
  · simp [h62, show rng62 1 = true from rfl, lineOk_of (show (rngL 1 1 (l.length - 1)).length ≤ 16777216 by simp [rngL]; omega)]
    refine cm_rng 1 (l.length - 1) (fun _ => .bl true) (fun i hi => ?_) ?_
    · have e0 : (1 + (i : Int) - 1) = i := by omega
      have a0 : atI (l.map spanD) (i : Int) = some (spanD l[i]) := by rw [atI_nat]; simp [List.getElem?_eq_getElem (show i < l.length by omega)]
      have a1 : atI (l.map spanD) (1 + (i : Int)) = some (spanD l[i + 1]) := by
        rw [show (1 + (i : Int)) = ((i + 1 : Nat) : Int) by omega, atI_nat]
        simp [List.getElem?_eq_getElem (show i + 1 < l.length by omega)]
      have hlt := (List.pairwise_iff_getElem.mp o.dis) i (i + 1) (by omega) (by omega) (by omega)
      simp [eare_spans_1, e0, a0, a1, spanD, hlt]
    · simp
theorem r_leg {l : Leg} (o : LegOk l) : rn.go (n + 5) 58 [legD l] k = some (.bl true, k) := by
  refine run_wp rfl rfl ?_
  have h0 := o.m0
  have h1 := o.m1
  obtain ⟨m, sp⟩ := l
  simp only at h0 h1
  have hm : m ≤ 1000 := by omega
  cases sp with
  | none => simp [bis_leg, legD, r_pair, r_whole, h0, hm, spsD]
  | some s => simp [bis_leg, legD, r_pair, r_whole, h0, hm, spsD, r_spansOk (o.sp s rfl), show isNonD (spansD s) = false from rfl]
theorem r_legs {ls : List Leg} (o : ∀ l ∈ ls, LegOk l) (hl : ls.length ≤ 10) : rn.go (n + 6) 59 [legsD ls] k = some (.bl true, k) := by
  refine run_wp rfl rfl ?_
  simp [bare_legs, legsD, r_seq, show (ls.length : Int) ≤ 10 by omega, lineOk_of (show ls.length ≤ 16777216 by omega)]
  refine cm_map legD (fun _ => .bl true) ls (fun p hp => ?_) ?_
  · simp [eare_legs_0, r_leg (o p hp)]
  · simp
theorem fz_legs {ls : List Leg} (o : ∀ l ∈ ls, LegOk l) (hl : ls.length ≤ 10) : FZ 5 (legsD ls) := by
  refine FZ.map (by omega) fun l hl => ?_
  refine FZ.tup (by simp) fun d hd => ?_
  simp at hd
  rcases hd with rfl | rfl
  · exact .int _
  · obtain ⟨m, sp⟩ := l
    cases sp with
    | none => exact .non
    | some s =>
      have := (o _ hl).sp s rfl
      refine FZ.map (by have := this.len; omega) fun p _ => ?_
      exact FZ.pair (m := 0) p
theorem r_checked {ls : List Leg} (o : ∀ l ∈ ls, LegOk l) (hl : ls.length ≤ 10) (m : Int) (h0 : 0 ≤ m) (h1 : m ≤ 10000) : rn.go (n + 7) 60 [legsD ls, .int m] k = some (legsD ls, k) := by
  refine run_wp rfl rfl ?_
  have f1 := r_frozen (rn := rn) (n := n + 1) (k := k) (fz_legs o hl)
  simp [bchecked, r_legs o hl, r_need, r_whole, h0, h1, f1]
theorem legs_len {ls : List Leg} (o : ∀ l ∈ ls, LegOk l) : ∀ l ∈ ls, ∀ s, l.2 = some s → s.length ≤ 1000 := fun l hl s hs => by
  have := ((o l hl).sp s hs).len
  omega
theorem r_arrives {ls : List Leg} (o : ∀ l ∈ ls, LegOk l) (hl : ls.length ≤ 10) (m : Int) (h0 : 0 ≤ m) (h1 : m ≤ 10000) : rn.go (n + 8) 64 [legsD ls, .int m] k = some (optI (arr ls m), k) := by
  refine run_wp rfl rfl ?_
  have e := r_travelled (rn := rn) (n := n + 5) (k := k) ls m (by omega) (legs_len o)
  have ea := travel_arr ls m []
  cases ht : travel ls m [] with
  | none =>
    rw [ht] at e ea
    simp [barrives, r_checked o hl m h0 h1, e, tripD]
    rw [← ea]; rfl
  | some q =>
    obtain ⟨t, us⟩ := q
    rw [ht] at e ea
    simp [barrives, r_checked o hl m h0 h1, e, tripD]
    rw [← ea]; rfl
def waitsD : Option (Int × List Int) → D
  | none => .non
  | some (_, ws) => .tup (ws.map .int)
theorem r_waits {ls : List Leg} (o : ∀ l ∈ ls, LegOk l) (hl : ls.length ≤ 10) (m : Int) (h0 : 0 ≤ m) (h1 : m ≤ 10000) : rn.go (n + 8) 65 [legsD ls, .int m] k = some (waitsD (travel ls m []), k) := by
  refine run_wp rfl rfl ?_
  have e := r_travelled (rn := rn) (n := n + 5) (k := k) ls m (by omega) (legs_len o)
  cases ht : travel ls m [] with
  | none =>
    rw [ht] at e
    simp [bwaits, r_checked o hl m h0 h1, e, tripD, waitsD]
  | some q =>
    obtain ⟨t, us⟩ := q
    rw [ht] at e
    simp [bwaits, r_checked o hl m h0 h1, e, tripD, waitsD]
theorem r_leaves {ls : List Leg} (o : ∀ l ∈ ls, LegOk l) (hl : ls.length ≤ 10) (m : Int) (h0 : 0 ≤ m) (h1 : m ≤ 10000) : rn.go (n + 8) 66 [legsD ls, .int m] k = some (optI (lv ls m), k) := by
  refine run_wp rfl rfl ?_
  rw [← lvR_rev]
  have hr : ∀ m k, rn.go (n + 7) 60 [legsD ls, .int m] k = rn.go (n + 7) 60 [legsD ls, .int m] k := fun _ _ => rfl
  simp [bleaves, r_checked o hl m h0 h1]
  simp [legsD, ← List.map_reverse]
  refine fr_list legD (fun r s => ∃ (g : Int) (x3 x4 : Option D), s = ⟨[some (legsD ls), some (.int m), some (.int g), x3, x4], [], k⟩ ∧ lvR ls.reverse m = lvR r g) _ ls.reverse _ ⟨m, none, none, rfl, rfl⟩ ?_ ?_
  · rintro a r _ ⟨g, x3, x4, rfl, e⟩
    have et := r_till (rn := rn) (n := n + 6) (k := k) a.2 (g - a.1)
    rw [e]
    cases hb : till' a.2 (g - a.1) with
    | none =>
      rw [hb] at et
      simp [legD, bleaves_0, et, optI, lvR, hb]
    | some t =>
      rw [hb] at et
      simp [legD, bleaves_0, et, optI, lvR, hb]
      exact ⟨⟨t, _, _, rfl, by rw [hb]; rfl⟩⟩
  · rintro _ ⟨g, x3, x4, rfl, e⟩
    rw [e]
    simp [lvR, optI]
end
end K73
namespace K73
open PySem Mini Mini.Win
open L2 (atI ixN)
section
variable {rn : Rn} [Runs rn ds] {n : Nat} {k : Ky}
theorem l_so {m : Nat} {d : D} (h : FZ m d) : rn.go (n + m) 73 [d, d] k = some (.bl true, k) := x_so (f := 73) rfl h
theorem fr1 (m : Int) : D.tup [.int m, .int 1] = ofR (m : Rat) := rfl
theorem fz_fr (x : Rat) : FZ 2 (ofR x) := FZ.fr (m := 0) x
theorem fz_opt (o : Option Int) : FZ 2 (optI o) := by
  cases o <;> constructor
/-! ### the law's own windows -/
theorem l_cross {a b : Kn} {c : Int} (ha : -2000 ≤ a.1 ∧ a.1 ≤ 2000) (ha2 : -2000 ≤ a.2 ∧ a.2 ≤ 2000) (hb : -2000 ≤ b.1 ∧ b.1 ≤ 2000) (hb2 : -2000 ≤ b.2 ∧ b.2 ≤ 2000) (hc : -2000 ≤ c ∧ c ≤ 2000) (hab : a.2 ≠ b.2) :
    rn.go (n + 4) 86 [pairD a, pairD b, .int c] k = some (ofR (crossR a b c), k) := by
  refine run_wp rfl rfl ?_
  have m1 : mulOk (c - a.2) (b.1 - a.1) = true := mulOk_r (by omega) (by omega)
  have p4 := (pb_cross ha ha2 hb hb2 hc hab).2
  have e3 := l_red (rn := rn) n k ((c - a.2) * (b.1 - a.1)) (b.2 - a.2) (by omega) (sm_huge (by have := sm_64; omega))
  simp [b_law_cross, pairD, m1, e3, fr1, -Rat.intCast_sub, -Rat.intCast_mul]
  rw [l_add (rn := rn) _ _ ((pb_small (i := a.1) (by omega) (by omega)).sm (by omega)) (p4.sm (by omega))]
  simp [crossR]
/-- closed windows and the one that is begun -/
abbrev LW := List Sp × Option Rat
def lwStep (a b : Kn) (c : Int) (s : LW) : LW := match s.2 with
  | some st => if b.2 < c then (s.1 ++ [(st, if c < a.2 then crossR a b c else (a.1 : Rat))], none) else s
  | none => if c ≤ b.2 then (s.1, some (crossR a b c)) else s
def lwTo (kn : Nat → Kn) (c : Int) : Nat → LW
  | 0 => ([], if c ≤ (kn 0).2 then some ((kn 0).1 : Rat) else none)
  | i + 1 => lwStep (kn i) (kn (i + 1)) c (lwTo kn c i)
def lwEnd (x : Rat) (s : LW) : List Sp := match s.2 with
  | some st => s.1 ++ [(st, x)]
  | none => s.1
theorem cross_at {a b : Kn} {c : Int} (h : c = a.2) : crossR a b c = (a.1 : Rat) := by
  subst h
  simp [crossR, Rat.div_def, Rat.zero_mul, Rat.add_zero]
structure LwI (kn : Nat → Kn) (c : Int) (i : Nat) (s : LW) : Prop where
  op : s.2.isSome = true ↔ c ≤ (kn i).2
  eq : 0 < i → spansTo kn c i = lwEnd ((kn i).1 : Rat) s
  z1 : i = 0 → s.1 = []
  z2 : i = 0 → ∀ st, s.2 = some st → st = ((kn 0).1 : Rat)
  top : ∀ p ∈ s.1, p.2 ≤ ((kn i).1 : Rat)
theorem lw_spans {kn : Nat → Kn} {c : Int} {n : Nat} (hm : ∀ j, j < n → (kn j).1 < (kn (j + 1)).1) : ∀ i, i ≤ n → LwI kn c i (lwTo kn c i) := by
  intro i
  induction i with
  | zero =>
    intro _
    refine ⟨?_, fun h => by omega, fun _ => rfl, fun _ st h => ?_, fun p hp => by simp [lwTo] at hp⟩
    · by_cases h : c ≤ (kn 0).2 <;> simp [lwTo, h]
    · simp only [lwTo] at h
      split at h <;> cases h
      rfl
  | succ i ih =>
    intro hi
    have I := ih (by omega)
    have hab := hm i (by omega)
    have hab' := cast_le (Int.le_of_lt hab)
    have hz : ∀ {α : Prop}, i + 1 = 0 → α := fun h => by omega
    rw [lwTo]
    generalize lwTo kn c i = s at I
    obtain ⟨S, o⟩ := s
    cases o with
    | some st =>
      have hca : c ≤ (kn i).2 := I.op.mp rfl
      have hna : ¬ (kn i).2 < c := by omega
      have hsp : spansTo kn c (i + 1) = S ++ [(st, if (kn (i + 1)).2 < c then crossR (kn i) (kn (i + 1)) c else ((kn (i + 1)).1 : Rat))] := by
        rw [spansTo]
        have hp : partOf (kn i) (kn (i + 1)) c = some (((kn i).1 : Rat), if (kn (i + 1)).2 < c then crossR (kn i) (kn (i + 1)) c else ((kn (i + 1)).1 : Rat)) := by
          simp [partOf, hna]
        rw [hp]
        rcases Nat.eq_zero_or_pos i with h0 | h0
        · subst h0
          have e1 := I.z1 rfl
          have e2 := I.z2 rfl st rfl
          simp only at e1
          subst e1 e2
          rfl
        · have e := I.eq h0
          simp only [lwEnd] at e
          rw [e, push_cat, if_pos rfl]
      by_cases hb : (kn (i + 1)).2 < c
      · have hl : lwStep (kn i) (kn (i + 1)) c (S, some st) = (S ++ [(st, if c < (kn i).2 then crossR (kn i) (kn (i + 1)) c else ((kn i).1 : Rat))], none) := by simp [lwStep, hb]
        have he : (if c < (kn i).2 then crossR (kn i) (kn (i + 1)) c else ((kn i).1 : Rat)) = crossR (kn i) (kn (i + 1)) c := by
          by_cases h : c < (kn i).2
          · rw [if_pos h]
          · rw [if_neg h, cross_at (by omega)]
        rw [hl, he]
        rw [if_pos hb] at hsp
        refine ⟨by simp; omega, fun _ => ?_, fun h => hz h, fun h => hz h, fun p hp => ?_⟩
        · rw [hsp]; rfl
        · have hpp : partOf (kn i) (kn (i + 1)) c = some (((kn i).1 : Rat), crossR (kn i) (kn (i + 1)) c) := by simp [partOf, hna, hb]
          have P := part_some hab hpp
          rcases List.mem_append.mp hp with hp | hp
          · exact Rat.le_trans (I.top p hp) hab'
          · rw [List.mem_singleton.mp hp]; exact P.l3
      · have hl : lwStep (kn i) (kn (i + 1)) c (S, some st) = (S, some st) := by simp [lwStep, hb]
        rw [hl]
        rw [if_neg hb] at hsp
        exact ⟨by simp; omega, fun _ => by rw [hsp]; rfl, fun h => hz h, fun h => hz h, fun p hp => Rat.le_trans (I.top p hp) hab'⟩
    | none =>
      have hca : ¬ c ≤ (kn i).2 := fun h => by have := I.op.mpr h; simp at this
      have hna : (kn i).2 < c := by omega
      have hS : spansTo kn c i = S := by
        rcases Nat.eq_zero_or_pos i with h0 | h0
        · subst h0
          have e1 := I.z1 rfl
          simp only at e1
          subst e1
          rfl
        · exact I.eq h0
      by_cases hb : (kn (i + 1)).2 < c
      · have hl : lwStep (kn i) (kn (i + 1)) c (S, none) = (S, none) := by simp [lwStep]; omega
        rw [hl]
        have hp : partOf (kn i) (kn (i + 1)) c = none := by simp [partOf, hna, hb]
        refine ⟨by simp; omega, fun _ => ?_, fun h => hz h, fun h => hz h, fun p hp => Rat.le_trans (I.top p hp) hab'⟩
        rw [spansTo, hp, push_none, hS]; rfl
      · have hl : lwStep (kn i) (kn (i + 1)) c (S, none) = (S, some (crossR (kn i) (kn (i + 1)) c)) := by simp [lwStep]; omega
        rw [hl]
        have hp : partOf (kn i) (kn (i + 1)) c = some (crossR (kn i) (kn (i + 1)) c, ((kn (i + 1)).1 : Rat)) := by simp [partOf, hna, hb]
        have P := part_some hab hp
        refine ⟨by simp; omega, fun _ => ?_, fun h => hz h, fun h => hz h, fun p hp => Rat.le_trans (I.top p hp) hab'⟩
        rw [spansTo, hp, hS]
        simp only [lwEnd]
        rcases List.eq_nil_or_concat S with e | ⟨S0, q, e⟩
        · rw [e]; rfl
        · rw [List.concat_eq_append] at e
          have hq := I.top q (by rw [e]; simp)
          rw [e, push_cat, if_neg fun h => ?_]
          have h1 := P.l1
          have h2 : crossR (kn i) (kn (i + 1)) c = ((kn i).1 : Rat) := by
            simp only at h h1
            rw [h] at hq
            exact Rat.le_antisymm hq h1
          exact hca (P.lo.mpr h2)
end
end K73
namespace K73
open PySem Mini Mini.Win
open L2 (atI ixN)
section
variable {rn : Rn} [Runs rn ds] {n : Nat} {k : Ky}
theorem r_fmul (x y : Rat) (hx : sm x) (hy : sm y) : rn.go (n + 2) 4 [ofR x, ofR y] k = some (ofR (x * y), k) := mul_ok (r := 0) (m := 1) rfl (x_reduced rfl) x y hx hy
theorem r_fdiv (x y : Rat) (hx : sm x) (hy : sm y) (h0 : y ≠ 0) : rn.go (n + 2) 5 [ofR x, ofR y] k = some (ofR (x / y), k) := by
  refine run_wp rfl rfl ?_
  have hd := x.den_pos
  have hn : y.num ≠ 0 := fun h => h0 (Rat.num_eq_zero.mp h)
  have h1 : (x.den : Int) * y.num ≠ 0 := Int.mul_ne_zero (by omega) hn
  have hs : ((x.den : Int) * y.num).natAbs < HUGE := by
    rw [Int.natAbs_mul]
    exact sm_sq (by simpa using hx.2) hy.1
  have m1 : mulOk x.num y.den = true := mulOk_huge (sm_huge hx.1) (sm_huge (by simpa using hy.2))
  have m2 : mulOk x.den y.num = true := mulOk_huge (sm_huge (by simpa using hx.2)) (sm_huge hy.1)
  have e := r_red (rn := rn) n k (x.num * y.den) (x.den * y.num) h1 hs
  have hq : ((x.num * y.den : Int) : Rat) / ((x.den * y.num : Int) : Rat) = x / y := by
    have e1 : (x : Rat) = (x.num : Rat) / ((x.den : Int) : Rat) := by
      rw [← Rat.divInt_eq_div, Rat.num_divInt_den]
    have e2 : (y : Rat) = (y.num : Rat) / ((y.den : Int) : Rat) := by
      rw [← Rat.divInt_eq_div, Rat.num_divInt_den]
    have p1 : ((x.den : Int) : Rat) ≠ 0 := by
      have : x.den ≠ 0 := x.den_nz
      simpa using this
    have p2 : ((y.den : Int) : Rat) ≠ 0 := by
      have : y.den ≠ 0 := y.den_nz
      simpa using this
    have p3 : (y.num : Rat) ≠ 0 := by simpa using hn
    rw [Rat.intCast_mul, Rat.intCast_mul]
    conv => rhs; rw [e1, e2]
    rw [Rat.div_def, Rat.div_def, Rat.div_def, Rat.div_def, Rat.inv_mul_rev, Rat.inv_mul_rev, Rat.inv_inv]
    grind
  rw [hq] at e
  simp [bf_div, m1, m2, e]
end
/-! ### haulage -/
abbrev Bnd := Int × Option Int × Int
def optJ : Option Int → D | none => .non | some i => .int i
@[simp] theorem optJ_some (i : Int) : optJ (some i) = .int i := rfl
@[simp] theorem optJ_none : optJ none = .non := rfl
@[simp] theorem noL_optJ (o : Option Int) : noL (optJ o) = true := by cases o <;> rfl
@[simp] theorem deref_optJ (k : Ky) (o : Option Int) : deref k (optJ o) = optJ o := by cases o <;> rfl
def bndD (b : Bnd) : D := .tup [.int b.1, optJ b.2.1, .int b.2.2]
def tD (x : Option Int × Int) : D := .tup [optJ x.1, .int x.2]
def tollL (t : List (Int × Int)) (p : Int) : List (Option Int × Int) := t.map (fun q => (some q.1, q.2)) ++ [(none, p)]
def tollD (t : List (Int × Int)) (p : Int) : D := .tup ((tollL t p).map tD)
def bnds : Int → List (Int × Int) → Int → List Bnd
  | b, [], p => [(b, none, p)]
  | b, q :: r, p => (b, some q.1, q.2) :: bnds q.1 r p
structure Toll (t : List (Int × Int)) (p : Int) : Prop where
  len : t.length ≤ 3
  r : ∀ q ∈ t, (1 ≤ q.1 ∧ q.1 ≤ 1000) ∧ 0 ≤ q.2 ∧ q.2 ≤ 1000
  p0 : 0 ≤ p ∧ p ≤ 1000
  inc : ∀ i (_ : i + 1 < t.length), t[i].1 < t[i + 1].1
def wthR (b : Bnd) (x : Rat) : Rat :=
  if (match b.2.1 with | none => x | some e => if ((e : Int) : Rat) < x then ((e : Int) : Rat) else x) - ((b.1 : Int) : Rat) < (0 : Rat) then (0 : Rat) else (match b.2.1 with | none => x | some e => if ((e : Int) : Rat) < x then ((e : Int) : Rat) else x) - ((b.1 : Int) : Rat)
def dueA : List Bnd → Int → Rat → Rat → Rat
  | [], _, _, a => a
  | b :: r, t, x, a => dueA r t x (a + ((b.2.2 * t : Int) : Rat) * wthR b x)
def lastM (b : Bnd) (t : Int) (left : Rat) : Option Rat :=
  if b.2.2 = 0 then (match b.2.1 with | none => none | some e => some ((e : Int) : Rat))
  else match b.2.1 with
    | none => some (((b.1 : Int) : Rat) + left / ((b.2.2 * t : Int) : Rat))
    | some e => some (if ((e : Int) : Rat) < ((b.1 : Int) : Rat) + left / ((b.2.2 * t : Int) : Rat) then ((e : Int) : Rat) else ((b.1 : Int) : Rat) + left / ((b.2.2 * t : Int) : Rat))
def milesA : List Bnd → Int → Rat → Rat → Option Rat
  | [], _, _, x => some x
  | b :: r, t, left, x => if ((b.1 : Int) : Rat) ≤ x then (match lastM b t left with
      | none => none
      | some y => milesA r t (left - ((b.2.2 * t : Int) : Rat) * wthR b y) y) else milesA r t left x
def optQ : Option Rat → D | none => .non | some x => ofR x
theorem pb_ite {c : Prop} [Decidable c] {e : Nat} {x y : Rat} (hx : pb e x) (hy : pb e y) : pb e (if c then x else y) := by split <;> assumption
theorem pb_divI {e f : Nat} {x y : Rat} (hx : pb e x) (hy : pb f y) (h0 : y ≠ 0) : pb (e + f) (x / y) := by
  have : pb f y⁻¹ := by
    have e2 : (y : Rat) = (y.num : Rat) / ((y.den : Int) : Rat) := by
      rw [← Rat.divInt_eq_div, Rat.num_divInt_den]
    have hn : y.num ≠ 0 := fun h => h0 (Rat.num_eq_zero.mp h)
    have e3 : y⁻¹ = ((y.den : Int) : Rat) / (y.num : Rat) := by
      conv => lhs; rw [e2]
      rw [Rat.div_def, Rat.div_def, Rat.inv_mul_rev, Rat.inv_inv]
    rw [e3]
    exact pb.div hn (by have := hy.d; simpa using this) hy.n
  rw [Rat.div_def]
  exact hx.mul this
theorem pb_i31 {i : Int} (h1 : -2147483648 < i) (h2 : i < 2147483648) : pb 31 ((i : Int) : Rat) := pb.int (by omega) (by omega)
/-- a band whose numbers are small -/
structure BndOk (b : Bnd) : Prop where
  lo : 0 ≤ b.1 ∧ b.1 ≤ 1000
  en : ∀ v : Int, b.2.1 = some v → 0 ≤ v ∧ v ≤ 1000
  pr : 0 ≤ b.2.2 ∧ b.2.2 ≤ 1000
theorem bnds_ok : ∀ {t : List (Int × Int)} {p : Int} {b : Int}, (∀ q ∈ t, (1 ≤ q.1 ∧ q.1 ≤ 1000) ∧ 0 ≤ q.2 ∧ q.2 ≤ 1000) → 0 ≤ p ∧ p ≤ 1000 → 0 ≤ b ∧ b ≤ 1000 → ∀ x ∈ bnds b t p, BndOk x
  | [], p, b, _, hp, hb, x, hx => by
    simp only [bnds, List.mem_singleton] at hx
    subst hx
    exact ⟨hb, fun e h => (by cases h), hp⟩
  | q :: r, p, b, h, hp, hb, x, hx => by
    have hq := h q (by simp)
    simp only [bnds, List.mem_cons] at hx
    rcases hx with rfl | hx
    · exact ⟨hb, fun e h => (by cases h; omega), hq.2⟩
    · exact bnds_ok (fun y hy => h y (by simp [hy])) hp (by omega) x hx
theorem bnds_len : ∀ (t : List (Int × Int)) (p b : Int), (bnds b t p).length = t.length + 1
  | [], _, _ => rfl
  | q :: r, p, b => by simp [bnds, bnds_len r p q.1]
theorem pb_wth {b : Bnd} (o : BndOk b) {x : Rat} {e : Nat} (hx : pb e x) (he : 31 ≤ e) : pb (e + 32) (wthR b x) := by
  have hb : pb 31 ((b.1 : Int) : Rat) := pb_i31 (by have := o.lo; omega) (by have := o.lo; omega)
  have h0 : pb 31 (0 : Rat) := pb_i31 (i := 0) (by omega) (by omega)
  have hm : pb e (match b.2.1 with | none => x | some e => if ((e : Int) : Rat) < x then ((e : Int) : Rat) else x) := by
    cases h : b.2.1 with
    | none => exact hx
    | some v => exact pb_ite ((pb_i31 (by have := o.en v h; omega) (by have := o.en v h; omega)).mono he) hx
  exact pb_ite (h0.mono (by omega)) ((hm.sub hb).mono (by omega))
section
variable {rn : Rn} [Runs rn ds] {n : Nat} {k : Ky}
@[simp] theorem set_at (k : Ky) (o o' : Ob) : (k ++ [o]).set k.length o' = k ++ [o'] := by simp
theorem tollL_len (t : List (Int × Int)) (p : Int) : (tollL t p).length = t.length + 1 := by simp [tollL]
theorem r_bands {t : List (Int × Int)} {p : Int} (hl : t.length ≤ 100) : rn.go (n + 1) 46 [tollD t p] k = some (.ref k.length, k ++ [.lst ((bnds 0 t p).map bndD)]) := by
  refine run_wp rfl rfl ?_
  simp [bbands_of, tollD]
  refine fp_list [2, 3, 4] tD (fun r vs mu k' => mu = [] ∧ ∃ (done : List Bnd) (ob : Option Int) (x3 x4 : Option D), k' = k ++ [.lst (done.map bndD)] ∧ vs = [some (optJ ob), x3, x4] ∧ done.length + r.length ≤ 101 ∧ ((∃ (t' : List (Int × Int)) (b : Int), r = tollL t' p ∧ ob = some b ∧ done ++ bnds b t' p = bnds 0 t p) ∨ (r = [] ∧ done = bnds 0 t p))) _ _ _ ⟨rfl, [], some 0, none, none, rfl, rfl, by simp [tollL_len]; omega, .inl ⟨t, 0, rfl, rfl, rfl⟩⟩ ?_ ?_
  · rintro a r vs mu k' ⟨rfl, done, ob, x3, x4, rfl, rfl, hlen, h⟩
    rcases h with ⟨t', b, hr, rfl, hd⟩ | ⟨h, _⟩
    · simp only [List.length_cons] at hlen
      have h16 : done.length < 16777216 := by omega
      cases t' with
      | nil =>
        simp only [tollL, List.map_nil, List.nil_append] at hr
        injection hr with e1 e2
        subst e1 e2
        simp [tD, bbands_of_0, h16]
        exact ⟨rfl, rfl, done ++ [(b, none, p)], none, _, _, by simp [bndD], rfl, by simp; omega, .inr ⟨rfl, hd⟩⟩
      | cons q t' =>
        simp only [tollL, List.map_cons, List.cons_append] at hr
        injection hr with e1 e2
        subst e1
        simp [tD, bbands_of_0, h16]
        refine ⟨rfl, rfl, done ++ [(b, some q.1, q.2)], some q.1, _, _, by simp [bndD], rfl, by simp; omega, .inl ⟨t', q.1, e2, rfl, ?_⟩⟩
        rw [← hd]; simp [bnds]
    · cases h
  · rintro vs mu k' ⟨rfl, done, ob, x3, x4, rfl, rfl, hlen, h⟩
    rcases h with ⟨t', b, hr, _, hd⟩ | ⟨_, rfl⟩
    · simp [tollL] at hr
    · simp
theorem r_within {b : Bnd} (o : BndOk b) {x : Rat} {e : Nat} (hx : pb e x) (he : e ≤ 1900) : rn.go (n + 3) 47 [bndD b, ofR x] k = some (ofR (wthR b x), k) := by
  refine run_wp rfl rfl ?_
  obtain ⟨b, oe, p⟩ := b
  have hb : sm ((b : Int) : Rat) := (pb_i31 (i := b) (by have := o.lo; simp only at this; omega) (by have := o.lo; simp only at this; omega)).sm (by omega)
  have h0 : sm (0 : Rat) := (pb_i31 (i := 0) (by omega) (by omega)).sm (by omega)
  have hxs := hx.sm (by omega)
  cases oe with
  | none =>
    have h1 : sm (x - ((b : Int) : Rat)) := (hx.sub (pb_i31 (i := b) (by have := o.lo; simp only at this; omega) (by have := o.lo; simp only at this; omega))).sm (by omega)
    simp [bwithin, bndD, r_fwhole, r_fsub _ _ hxs hb]
    rw [r_fmax _ _ h1 h0]
    simp [wthR]
  | some v =>
    have hv : pb 31 ((v : Int) : Rat) := pb_i31 (by have := o.en v rfl; omega) (by have := o.en v rfl; omega)
    have hm : pb (e + 31) (if ((v : Int) : Rat) < x then ((v : Int) : Rat) else x) := pb_ite (hv.mono (by omega)) (hx.mono (by omega))
    have h1 := ((hm.sub (pb_i31 (i := b) (by have := o.lo; simp only at this; omega) (by have := o.lo; simp only at this; omega)))).sm (by omega)
    simp [bwithin, bndD, r_fwhole, r_fmin _ _ hxs (hv.sm (by omega)), r_fsub _ _ (hm.sm (by omega)) hb]
    rw [r_fmax _ _ h1 h0]
    simp [wthR]
theorem r_due0 {t : List (Int × Int)} {p : Int} (o : Toll t p) (hk : KOk k) {tons : Int} (ht0 : 0 ≤ tons) (ht1 : tons ≤ 1000) {x : Rat} (hx : pb 31 x) : rn.go (n + 4) 48 [tollD t p, .int tons, ofR x] k = some (ofR (dueA (bnds 0 t p) tons x (0 : Rat)), k) := by
  refine run_wp rfl rfl ?_
  have hl := o.len
  have eb := r_bands (rn := rn) (n := n + 2) (k := k) (t := t) (p := p) (by omega)
  simp [btoll_due, r_fwhole, eb]
  refine fp_ref [3, 4] bndD (fun r vs mu k' => mu = [] ∧ k' = k ++ [.lst ((bnds 0 t p).map bndD)] ∧ ∃ (a : Rat) (x4 : Option D), vs = [some (ofR a), x4] ∧ pb (31 + (4 - r.length) * 100) a ∧ r.length ≤ 4 ∧ (∀ b ∈ r, BndOk b) ∧ dueA r tons x a = dueA (bnds 0 t p) tons x (0 : Rat)) _ _ _ (beqD_refl.2 _) (by rintro _ _ _ _ ⟨_, rfl, _⟩; simp) ⟨rfl, rfl, (0 : Rat), none, by simp [pick], (pb_i31 (i := 0) (by omega) (by omega)).mono (by omega), by rw [bnds_len]; omega, bnds_ok o.r o.p0 (by omega), rfl⟩ ?_ ?_
  · rintro b r vs mu k' ⟨rfl, rfl, a, x4, rfl, ha, hr, hok, hd⟩
    simp only [List.length_cons] at hr ha
    have ob := hok b (by simp)
    have hw := pb_wth ob hx (by omega)
    have hpt0 : 0 ≤ b.2.2 * tons := Int.mul_nonneg ob.pr.1 ht0
    have hpt1 : b.2.2 * tons ≤ 1000 * 1000 := Int.mul_le_mul ob.pr.2 ht1 ht0 (by omega)
    have hpt : pb 31 ((b.2.2 * tons : Int) : Rat) := pb_i31 (by omega) (by omega)
    have m1 : mulOk b.2.2 tons = true := mulOk_l (by have := ob.pr; omega) (by have := ob.pr; omega)
    have e1 := r_within (rn := rn) (n := n) (k := k ++ [.lst ((bnds 0 t p).map bndD)]) ob hx (by omega)
    have e2 := r_fmul (rn := rn) (n := n + 1) (k := k ++ [.lst ((bnds 0 t p).map bndD)]) _ _ (hpt.sm (by omega)) (hw.sm (by omega))
    have e3 := r_fadd (rn := rn) (n := n + 1) (k := k ++ [.lst ((bnds 0 t p).map bndD)]) _ _ (ha.sm (by omega)) ((hpt.mul hw).sm (by omega))
    have e4 : idxSem (k ++ [.lst ((bnds 0 t p).map bndD)]) (bndD b) (.int 2) = some (.int b.2.2) := by simp [bndD]
    simp [-Rat.intCast_mul, btoll_due_0, e4, m1, r_fwhole, e1, e2, e3]
    refine ⟨rfl, rfl, rfl, _, _, rfl, (ha.add (hpt.mul hw)).mono (by omega), by omega, fun c hc => hok c (by simp [hc]), hd⟩
  · rintro vs mu k' ⟨rfl, rfl, a, x4, rfl, ha, hr, hok, hd⟩
    simp only [dueA] at hd
    subst hd
    simp
    exact fin_rtD _ _ rfl hk

theorem r_lastm {b : Bnd} (o : BndOk b) {t : Int} (h0 : 1 ≤ t) (h1 : t ≤ 1000) {left : Rat} {e : Nat} (hx : pb e left) (he : e ≤ 1800) : rn.go (n + 3) 49 [bndD b, .int t, ofR left] k = some (optQ (lastM b t left), k) := by
  refine run_wp rfl rfl ?_
  obtain ⟨b, oe, p⟩ := b
  have hp := o.pr
  simp only at hp
  by_cases hp0 : p = 0
  · subst hp0
    cases oe with
    | none => simp [blast_mile, bndD, lastM, optQ]
    | some v => simp [blast_mile, bndD, lastM, optQ, r_fwhole]
  · have hb : pb 31 ((b : Int) : Rat) := pb_i31 (i := b) (by have := o.lo; simp only at this; omega) (by have := o.lo; simp only at this; omega)
    have hpt0 : 1 * 1 ≤ p * t := Int.mul_le_mul (by omega) h0 (by omega) (by omega)
    have hpt1 : p * t ≤ 1000 * 1000 := Int.mul_le_mul hp.2 h1 (by omega) (by omega)
    have hpt : pb 31 ((p * t : Int) : Rat) := pb_i31 (by omega) (by omega)
    have hne : ((p * t : Int) : Rat) ≠ 0 := by
      have : p * t ≠ 0 := by omega
      exact fun h => this (by simpa [-Rat.intCast_mul] using h)
    have m1 : mulOk p t = true := mulOk_l (by omega) (by omega)
    have hq : pb (e + 31) (left / ((p * t : Int) : Rat)) := pb_divI hx hpt hne
    have e1 := r_fdiv (rn := rn) (n := n) (k := k) left _ (hx.sm (by omega)) (hpt.sm (by omega)) hne
    have e2 := r_fadd (rn := rn) (n := n) (k := k) _ _ (hb.sm (by omega)) (hq.sm (by omega))
    have hs := hb.add hq
    cases oe with
    | none => simp [-Rat.intCast_mul, blast_mile, bndD, lastM, optQ, r_fwhole, hp0, m1, e1, e2]
    | some v =>
      have hv : pb 31 ((v : Int) : Rat) := pb_i31 (by have := o.en v rfl; omega) (by have := o.en v rfl; omega)
      have e3 := r_fmin (rn := rn) (n := n) (k := k) _ _ (hs.sm (by omega)) (hv.sm (by omega))
      simp [-Rat.intCast_mul, blast_mile, bndD, lastM, optQ, r_fwhole, hp0, m1, e1, e2, e3]
theorem pb_lastm {b : Bnd} (o : BndOk b) {t : Int} (h0 : 1 ≤ t) (h1 : t ≤ 1000) {left y : Rat} {e : Nat} (hx : pb e left) (h : lastM b t left = some y) : pb (e + 63) y := by
  obtain ⟨b, oe, p⟩ := b
  have hp := o.pr
  simp only at hp
  have hv : ∀ v : Int, oe = some v → pb 31 ((v : Int) : Rat) := fun v hv => pb_i31 (by have := o.en v hv; omega) (by have := o.en v hv; omega)
  by_cases hp0 : p = 0
  · subst hp0
    cases oe with
    | none => simp [lastM] at h
    | some v => simp [lastM] at h; subst h; exact (hv v rfl).mono (by omega)
  · have hb : pb 31 ((b : Int) : Rat) := pb_i31 (i := b) (by have := o.lo; simp only at this; omega) (by have := o.lo; simp only at this; omega)
    have hpt0 : 1 * 1 ≤ p * t := Int.mul_le_mul (by omega) h0 (by omega) (by omega)
    have hpt1 : p * t ≤ 1000 * 1000 := Int.mul_le_mul hp.2 h1 (by omega) (by omega)
    have hpt : pb 31 ((p * t : Int) : Rat) := pb_i31 (by omega) (by omega)
    have hne : ((p * t : Int) : Rat) ≠ 0 := by
      have : p * t ≠ 0 := by omega
      exact fun h => this (by simpa [-Rat.intCast_mul] using h)
    have hs := hb.add (pb_divI hx hpt hne)
    cases oe with
    | none => simp only [lastM, hp0, if_false] at h; cases h; exact hs.mono (by omega)
    | some v => simp only [lastM, hp0, if_false] at h; cases h; exact pb_ite ((hv v rfl).mono (by omega)) (hs.mono (by omega))
def gE : Nat → Nat
  | 0 => 31
  | i + 1 => 2 * gE i + 127
theorem r_miles0 {t : List (Int × Int)} {p : Int} (o : Toll t p) (hk : KOk k) {tons : Int} (ht0 : 1 ≤ tons) (ht1 : tons ≤ 1000) {c : Int} (hc0 : 0 ≤ c) (hc1 : c ≤ 1000000000) : rn.go (n + 4) 50 [tollD t p, .int tons, .int c] k = some (optQ (milesA (bnds 0 t p) tons ((c : Int) : Rat) 0), k) := by
  refine run_wp rfl rfl ?_
  have hl := o.len
  have eb := r_bands (rn := rn) (n := n + 2) (k := k) (t := t) (p := p) (by omega)
  simp [bmiles_within, r_fwhole, eb]
  refine fp_ref [3, 4, 5] bndD (fun r vs mu k' => mu = [] ∧ k' = k ++ [.lst ((bnds 0 t p).map bndD)] ∧ ∃ (l x : Rat) (x5 : Option D), vs = [some (ofR l), some (ofR x), x5] ∧ pb (gE (4 - r.length)) l ∧ pb 1500 x ∧ r.length ≤ 4 ∧ (∀ b ∈ r, BndOk b) ∧ milesA r tons l x = milesA (bnds 0 t p) tons ((c : Int) : Rat) 0) _ _ _ (beqD_refl.2 _) (by rintro _ _ _ _ ⟨_, rfl, _⟩; simp) ⟨rfl, rfl, ((c : Int) : Rat), 0, none, by simp [pick], ?_, (pb_i31 (i := 0) (by omega) (by omega)).mono (by omega), by rw [bnds_len]; omega, bnds_ok o.r o.p0 (by omega), rfl⟩ ?_ ?_
  · have : ∀ i, 31 ≤ gE i := fun i => by cases i <;> simp [gE]
    exact (pb_i31 (by omega) (by omega)).mono (this _)
  · rintro b r vs mu k' ⟨rfl, rfl, l, x, x5, rfl, ha, hx, hr, hok, hd⟩
    simp only [List.length_cons] at hr ha
    have ob := hok b (by simp)
    have hb : pb 31 ((b.1 : Int) : Rat) := pb_i31 (by have := ob.lo; omega) (by have := ob.lo; omega)
    have ea := r_atmost (rn := rn) (n := n + 2) (k := k ++ [.lst ((bnds 0 t p).map bndD)]) ((b.1 : Int) : Rat) x (hb.sm (by omega)) (hx.sm (by omega))
    have hg : gE (4 - (r.length + 1)) ≤ 1137 := by
      rcases (show r.length = 0 ∨ r.length = 1 ∨ r.length = 2 ∨ r.length = 3 by omega) with h | h | h | h <;> rw [h] <;> decide
    have hg2 : 4 - r.length = (4 - (r.length + 1)) + 1 := by omega
    have hg3 : 31 ≤ gE (4 - (r.length + 1)) := by cases (4 - (r.length + 1)) <;> simp [gE]
    rw [hg2]
    have i0 : idxSem (k ++ [.lst ((bnds 0 t p).map bndD)]) (bndD b) (.int 0) = some (.int b.1) := by simp [bndD]
    have i2 : idxSem (k ++ [.lst ((bnds 0 t p).map bndD)]) (bndD b) (.int 2) = some (.int b.2.2) := by simp [bndD]
    have nb : noL (bndD b) = true := by simp [bndD]
    simp only [milesA] at hd
    by_cases hle : ((b.1 : Int) : Rat) ≤ x
    · rw [if_pos hle] at hd
      have el := r_lastm (rn := rn) (n := n) (k := k ++ [.lst ((bnds 0 t p).map bndD)]) ob ht0 ht1 ha (by omega)
      cases hm : lastM b tons l with
      | none =>
        rw [hm] at el hd
        simp [bmiles_within_0, i0, r_fwhole, ea, hle, el, optQ, ← hd]
        exact fin_rtD _ _ rfl hk
      | some y =>
        rw [hm] at el hd
        simp only at hd
        have hy := pb_lastm ob ht0 ht1 ha hm
        have hw := pb_wth ob hy (by omega)
        have hpt0 : 0 ≤ b.2.2 * tons := Int.mul_nonneg ob.pr.1 (by omega)
        have hpt1 : b.2.2 * tons ≤ 1000 * 1000 := Int.mul_le_mul ob.pr.2 ht1 (by omega) (by omega)
        have hpt : pb 31 ((b.2.2 * tons : Int) : Rat) := pb_i31 (by omega) (by omega)
        have m1 : mulOk b.2.2 tons = true := mulOk_l (by have := ob.pr; omega) (by have := ob.pr; omega)
        have e1 := r_within (rn := rn) (n := n) (k := k ++ [.lst ((bnds 0 t p).map bndD)]) ob hy (by omega)
        have e2 := r_fmul (rn := rn) (n := n + 1) (k := k ++ [.lst ((bnds 0 t p).map bndD)]) _ _ (hpt.sm (by omega)) (hw.sm (by omega))
        have e3 := r_fsub (rn := rn) (n := n + 1) (k := k ++ [.lst ((bnds 0 t p).map bndD)]) _ _ (ha.sm (by omega)) ((hpt.mul hw).sm (by omega))
        simp [-Rat.intCast_mul, bmiles_within_0, i0, i2, r_fwhole, ea, hle, el, optQ, m1, e1, e2, e3]
        refine ⟨rfl, rfl, rfl, _, _, _, rfl, (ha.sub (hpt.mul hw)).mono (by simp only [gE]; omega), hy.mono (by omega), by omega, fun c hc => hok c (by simp [hc]), hd⟩
    · rw [if_neg hle] at hd
      simp [bmiles_within_0, i0, r_fwhole, ea, hle]
      exact ⟨rfl, rfl, rfl, _, _, _, rfl, ha.mono (by simp only [gE]; omega), hx, by omega, fun c hc => hok c (by simp [hc]), hd⟩
  · rintro vs mu k' ⟨rfl, rfl, l, x, x5, rfl, ha, hx, hr, hok, hd⟩
    simp only [milesA] at hd
    simp [← hd, optQ]
    exact fin_rtD _ _ rfl hk
theorem fz_toll (t : List (Int × Int)) (p : Int) (hl : t.length ≤ 1000) : FZ 3 (tollD t p) := by
  refine FZ.map (by rw [tollL_len]; omega) fun a _ => ?_
  refine .tup (by simp) (by
    intro d hd
    simp only [List.mem_cons, List.mem_nil_iff, or_false] at hd
    rcases hd with rfl | rfl
    · cases a.1 <;> constructor
    · constructor)
theorem r_istoll {t : List (Int × Int)} {p : Int} (o : Toll t p) (hk : KOk k) : rn.go (n + 4) 52 [tollD t p] k = some (.bl true, k) := by
  refine run_wp rfl rfl ?_
  have hl := o.len
  have hlen := tollL_len t p
  have h1 : lineOk (tollL t p).length = true := lineOk_of (by omega)
  have h1' : lineOk (t.length + 1) = true := lineOk_of (by omega)
  have hlim : (tollL t p).map (fun x => optJ x.1) = t.map (fun q => D.int q.1) ++ [.non] := by simp [tollL, Function.comp_def]
  have ht : t.map (fun q => D.int q.1) = (t.map Prod.fst).map D.int := by simp
  have hr0 : ∀ x ∈ tollL t p, 0 ≤ x.2 ∧ x.2 ≤ 1000 := by
    intro x hx
    rcases List.mem_append.mp hx with hx | hx
    · obtain ⟨q, hq, rfl⟩ := List.mem_map.mp hx
      exact (o.r q hq).2
    · simp only [List.mem_singleton] at hx
      subst hx
      exact o.p0
  have hsq := r_seq (rn := rn) (n := n + 2) (k := k) ((tollL t p).map tD) 1 4
  simp [bis_toll, tollD, hsq, hlen, h1', show (1 : Int) ≤ (t.length : Int) + 1 by omega, show (t.length : Int) + 1 ≤ 4 by omega]
  refine cm_map tD (fun _ => .bl true) (tollL t p) (fun x hx => ?_) ?_
  · have eb : rn.go (n + 1 + 2) 51 [tD x] k = some (.bl true, k) := by
      refine run_wp rfl rfl ?_
      simp [bis_band, tD, r_pair, r_whole, hr0 x hx]
    simp [eis_toll_0, eb]
  simp [hlen, h1']
  refine cm_map tD (fun x => optJ x.1) (tollL t p) (fun x hx => ?_) ?_
  · simp [eis_toll_1, tD]
  rw [hlim, ht]
  have e1 := x_wholesR (rn := rn) (n := n) (f := 25) (q := 23) (i := 21) (j := 20) (r := k.length) (k := k ++ [.lst ((t.map Prod.fst).map D.int)]) rfl rfl rfl rfl (t.map Prod.fst) (by simp) 0 4 1 1000 (by simp <;> omega) (by simp <;> omega) (by simp <;> omega) (by
    intro x hx
    obtain ⟨q, hq, rfl⟩ := List.mem_map.mp hx
    exact (o.r q hq).1)
  have e2 := x_risingR (rn := rn) (n := n + 2) (f := 28) (r := k.length) (k := k ++ [.lst ((t.map Prod.fst).map D.int)]) rfl (t.map Prod.fst) (by simp) (by simp; omega) (by
    intro i hi
    simp only [List.length_map] at hi
    simp only [List.getElem_map]
    exact o.inc i hi)
  generalize t.map Prod.fst = ls at e1 e2 ⊢
  simp [e1, e2]
  exact fin_rtD (.bl true) _ rfl hk
theorem r_ismiles {x : Rat} (h0 : 0 ≤ x.num) (h1 : x.num ≤ 1000000) (h2 : x.den ≤ 1000000) : rn.go (n + 5) 53 [ofR x] k = some (.bl true, k) := by
  refine run_wp rfl rfl ?_
  simp [bis_miles, r_frac x (by omega) h1 h2, h0]
theorem pb_mil {x : Rat} (h0 : 0 ≤ x.num) (h1 : x.num ≤ 1000000) (h2 : x.den ≤ 1000000) : pb 31 x := ⟨by omega, by omega⟩
theorem r_due {t : List (Int × Int)} {p : Int} (o : Toll t p) (hk : KOk k) {tons : Int} (ht0 : 0 ≤ tons) (ht1 : tons ≤ 1000) {x : Rat} (h0 : 0 ≤ x.num) (h1 : x.num ≤ 1000000) (h2 : x.den ≤ 1000000) : rn.go (n + 6) 54 [tollD t p, .int tons, ofR x] k = some (ofR (dueA (bnds 0 t p) tons x 0), k) := by
  refine run_wp rfl rfl ?_
  have hl := o.len
  simp [bdue, r_istoll o hk, r_need, r_whole, ht0, ht1, r_ismiles h0 h1 h2, r_frozen (rn := rn) (n := n + 2) (fz_toll t p (by omega)), r_frozen (rn := rn) (n := n + 3) (FZ.fr (m := 0) x), r_due0 o hk ht0 ht1 (pb_mil h0 h1 h2)]
theorem r_milesfor {t : List (Int × Int)} {p : Int} (o : Toll t p) (hk : KOk k) {tons : Int} (ht0 : 1 ≤ tons) (ht1 : tons ≤ 1000) {c : Int} (hc0 : 0 ≤ c) (hc1 : c ≤ 1000000000) : rn.go (n + 6) 55 [tollD t p, .int tons, .int c] k = some (optQ (milesA (bnds 0 t p) tons ((c : Int) : Rat) 0), k) := by
  refine run_wp rfl rfl ?_
  have hl := o.len
  simp [bmiles_for, r_istoll o hk, r_need, r_whole, ht0, ht1, hc0, hc1, r_frozen (rn := rn) (n := n + 2) (fz_toll t p (by omega)), r_miles0 o hk ht0 ht1 hc0 hc1]
end
section
variable {rn : Rn} [Runs rn ds] {n : Nat} {k : Ky}
/-! ### drying -/
def prt (d : Int) : Int := 200 - (if d > 0 then d else 0)
def topsA : List Int → Int → Int
  | [], t => t
  | d :: r, t => topsA r (t * prt d)
def tops (l : List Int) : Int := topsA l 1
structure Dry (l : List Int) : Prop where
  len : l.length ≤ 24
  r : ∀ d ∈ l, -10 ≤ d ∧ d ≤ 40
theorem prt_r {d : Int} (h : -10 ≤ d ∧ d ≤ 40) : 160 ≤ prt d ∧ prt d ≤ 200 := by
  unfold prt; split <;> omega
theorem r_parts (d : Int) : rn.go (n + 1) 41 [.int d] k = some (.int (prt d), k) := by
  refine run_wp rfl rfl ?_
  simp [bparts_left, prt]
theorem r_share {l : List Int} (o : Dry l) : rn.go (n + 2) 42 [.tup (l.map .int)] k = some (.tup [.int (tops l), .int (200 ^ l.length)], k) := by
  refine run_wp rfl rfl ?_
  simp [bshare_left]
  refine fp_list [1, 2, 3] D.int (fun r vs mu k' => k' = k ∧ mu = [] ∧ (∀ d ∈ r, -10 ≤ d ∧ d ≤ 40) ∧ r.length ≤ l.length ∧ ∃ t x3, topsA r t = tops l ∧ vs = [some (.int t), some (.int (200 ^ (l.length - r.length))), x3]) _ l _ ⟨rfl, rfl, o.r, Nat.le_refl _, 1, none, rfl, by simp [pick]⟩ ?_ ?_
  · rintro a r vs mu k' ⟨rfl, rfl, ha, hle, t, x3, ht, rfl⟩
    have h1 := prt_r (ha a (by simp))
    have h2 : small64 (prt a) = true := by simp [small64]; omega
    simp only [List.length_cons] at hle
    simp [bshare_left_0, r_parts, augSem, h2, show small64 200 = true from rfl]
    refine ⟨rfl, rfl, rfl, fun d hd => ha d (by simp [hd]), by omega, t * prt a, some (.int a), ht, ?_⟩
    have : l.length - r.length = l.length - (r.length + 1) + 1 := by omega
    rw [this, Int.pow_succ]
    rfl
  · rintro vs mu k' ⟨rfl, rfl, ha, hle, t, x3, ht, rfl⟩
    simp only [topsA] at ht
    subst ht
    simp
theorem r_weight {w : Int} (h0 : 0 ≤ w) (h1 : w ≤ 10000) : rn.go (n + 3) 40 [.int w] k = some (.bl true, k) := by
  refine run_wp rfl rfl ?_
  simp [bis_weight, r_whole, h0, h1]
theorem r_draughts {l : List Int} (o : Dry l) : rn.go (n + 4) 39 [.tup (l.map .int)] k = some (.bl true, k) := by
  refine run_wp rfl rfl ?_
  have := o.len
  have h := x_wholes (rn := rn) (n := n) (f := 25) (q := 23) (i := 21) (j := 20) (k := k) rfl rfl rfl rfl l 0 24 (-10) 40 (by omega) (by omega) (by omega) o.r
  simp [bis_draughts, h]
theorem topsA_mul : ∀ (l : List Int) (t : Int), topsA l t = t * tops l
  | [], t => by simp [tops, topsA]
  | d :: r, t => by
    simp only [tops, topsA]
    rw [topsA_mul r (t * prt d), topsA_mul r (1 * prt d), Int.one_mul, Int.mul_assoc]
theorem tops_cons (d : Int) (r : List Int) : tops (d :: r) = prt d * tops r := by
  unfold tops
  simp only [topsA]
  rw [topsA_mul r (1 * prt d), Int.one_mul]
  rfl
theorem tops_app : ∀ (l m : List Int), tops (l ++ m) = tops l * tops m
  | [], m => by simp [tops, topsA]
  | d :: l, m => by
    rw [List.cons_append, tops_cons, tops_cons, tops_app l m, Int.mul_assoc]
theorem tops_r : ∀ (l : List Int), (∀ d ∈ l, -10 ≤ d ∧ d ≤ 40) → 160 ^ l.length ≤ tops l ∧ tops l ≤ 200 ^ l.length
  | [], _ => by simp [tops, topsA]
  | d :: r, h => by
    have h1 := prt_r (h d (by simp))
    have h2 := tops_r r fun d hd => h d (by simp [hd])
    have h3 : (0 : Int) < 160 ^ r.length := Int.pow_pos (by decide)
    rw [tops_cons, List.length_cons, Int.pow_succ, Int.pow_succ]
    constructor
    · calc (160 : Int) ^ r.length * 160 ≤ tops r * prt d := Int.mul_le_mul h2.1 h1.1 (by decide) (by omega)
        _ = prt d * tops r := Int.mul_comm _ _
    · calc prt d * tops r = tops r * prt d := Int.mul_comm _ _
        _ ≤ 200 ^ r.length * 200 := Int.mul_le_mul h2.2 h1.2 (by omega) (by omega)
theorem tops_pos {l : List Int} (o : Dry l) : 0 < tops l := by
  have := (tops_r l o.r).1
  have h3 : (0 : Int) < 160 ^ l.length := Int.pow_pos (by decide)
  omega
theorem pow200 {i : Nat} (h : i ≤ 24) : (0 : Int) < 200 ^ i ∧ (200 : Int) ^ i ≤ 200 ^ 24 := by
  refine ⟨Int.pow_pos (by decide), ?_⟩
  have := Nat.pow_le_pow_right (n := 200) (by omega) h
  exact_mod_cast this
theorem r_left {l : List Int} (o : Dry l) {w : Int} (h0 : 0 ≤ w) (h1 : w ≤ 10000) : rn.go (n + 5) 43 [.int w, .tup (l.map .int)] k = some (ofR (((w * tops l : Int) : Rat) / ((200 ^ l.length : Int) : Rat)), k) := by
  refine run_wp rfl rfl ?_
  have m1 : mulOk w (tops l) = true := mulOk_l (by omega) (by omega)
  have h2 := pow200 o.len
  have hb : (200 : Int) ^ l.length ≠ 0 := by omega
  have hh : ((200 : Int) ^ l.length).natAbs < HUGE := by
    have : (200 : Nat) ^ 24 ≤ 2 ^ 200 := by decide
    have : (2 : Nat) ^ 200 < HUGE := Nat.pow_lt_pow_right (by omega) (by omega)
    have : (200 : Int) ^ 24 = ((200 ^ 24 : Nat) : Int) := by norm_cast
    omega
  have e := r_red (rn := rn) (n + 3) k (w * tops l) (200 ^ l.length) hb hh
  simp [bleft_over, r_weight h0 h1, r_draughts o, r_need, r_share o, m1, e]
theorem r_wneed {l : List Int} (o : Dry l) {w : Int} (h0 : 0 ≤ w) (h1 : w ≤ 10000) : rn.go (n + 5) 44 [.tup (l.map .int), .int w] k = some (.int ((w * 200 ^ l.length + tops l - 1) / tops l), k) := by
  refine run_wp rfl rfl ?_
  have m1 : mulOk w (200 ^ l.length) = true := mulOk_l (by omega) (by omega)
  have hp := tops_pos o
  have hq := (tops_r l o.r).2
  have h2 := pow200 o.len
  have d1 : divOk (tops l) = true := by
    refine divOk_huge hp ?_
    have : (200 : Nat) ^ 24 ≤ 2 ^ 200 := by decide
    have : (2 : Nat) ^ 200 < HUGE := Nat.pow_lt_pow_right (by omega) (by omega)
    have : (200 : Int) ^ 24 = ((200 ^ 24 : Nat) : Int) := by norm_cast
    omega
  simp [bweight_needed, r_weight h0 h1, r_draughts o, r_need, r_share o, m1, d1]
/-- the first day behind which less is left -/
def lastsA (w : Int) : List Int → Int → Int → Int → Option Int
  | [], _, _, _ => none
  | d :: r, t, b, i => if t * prt d < w * (b * 200) then some i else lastsA w r (t * prt d) (b * 200) (i + 1)
theorem r_lasts {l : List Int} (o : Dry l) {v w : Int} (h0 : 0 ≤ v) (h1 : v ≤ 10000) (g0 : 0 ≤ w) (g1 : w ≤ 10000) : rn.go (n + 5) 45 [.int v, .tup (l.map .int), .int w] k = some (optJ (lastsA w l v 1 0), k) := by
  refine run_wp rfl rfl ?_
  have en : enumL 0 (l.map .int) = (l.zipIdx).map fun p => D.tup [.int p.2, .int p.1] := by
    have : ∀ (l : List Int) (i : Nat), enumL i (l.map .int) = (l.zipIdx i).map fun p => D.tup [.int p.2, .int p.1] := by
      intro l
      induction l with
      | nil => intro i; rfl
      | cons a l ih => intro i; simp [enumL, ih]
    exact this l 0
  simp [blasts, r_weight h0 h1, r_weight g0 g1, r_draughts o, r_need, en]
  refine fp_list [3, 4, 5, 6] (fun p : Int × Nat => D.tup [.int p.2, .int p.1]) (fun r vs mu k' => k' = k ∧ mu = [] ∧ ∃ (i : Nat) (t b : Int) (x5 x6 : Option D), r = (l.drop i).zipIdx i ∧ lastsA w (l.drop i) t b i = lastsA w l v 1 0 ∧ vs = [some (.int t), some (.int b), x5, x6]) _ _ _ ⟨rfl, rfl, 0, v, 1, none, none, rfl, rfl, by simp [pick]⟩ ?_ ?_
  · rintro ⟨a, j⟩ r vs mu k' ⟨rfl, rfl, i, t, b, x5, x6, hr, hl, rfl⟩
    have hlt : i < l.length := by
      rcases Nat.lt_or_ge i l.length with h | h
      · exact h
      · rw [List.drop_of_length_le h] at hr; cases hr
    rw [List.drop_eq_getElem_cons hlt] at hr hl
    simp only [List.zipIdx_cons] at hr
    injection hr with e1 e2
    injection e1 with e1 e3
    have ha := o.r a (by rw [e1]; exact List.getElem_mem _)
    have hp := prt_r ha
    have s1 : small64 (prt a) = true := by simp [small64]; omega
    have m1 : mulOk w (b * 200) = true := mulOk_l (by omega) (by omega)
    rw [← e1] at hl
    simp only [lastsA] at hl
    simp [blasts_0, r_parts, augSem, s1, show small64 200 = true from rfl, m1]
    by_cases hc : t * prt a < w * (b * 200)
    · rw [if_pos hc] at hl
      subst e3
      simp [hc, ← hl, optJ]
    · rw [if_neg hc] at hl
      subst e3
      simp [hc]
      exact ⟨rfl, rfl, rfl, j + 1, _, _, _, _, e2, by simpa using hl, rfl⟩
  · rintro vs mu k' ⟨rfl, rfl, i, t, b, x5, x6, hr, hl, rfl⟩
    have : l.drop i = [] := by
      cases h : l.drop i with
      | nil => rfl
      | cons a m => rw [h] at hr; simp at hr
    rw [this] at hl
    simp only [lastsA] at hl
    simp [← hl, optJ]
end
end K73
namespace K73
open PySem Mini Mini.Win
open L2 (atI ixN)
/-! ### tolls in plain Lean -/
def wth2 (b : Int) (e : Option Int) (x : Rat) : Rat := wthR (b, e, 0) x
theorem wth_some_hi {b e : Int} {p : Int} {x : Rat} (hbe : ((b : Int) : Rat) ≤ ((e : Int) : Rat)) (h : ((e : Int) : Rat) ≤ x) : wthR (b, some e, p) x = ((e : Int) : Rat) - ((b : Int) : Rat) := by
  unfold wthR
  simp only
  have e1 : (if ((e : Int) : Rat) < x then ((e : Int) : Rat) else x) = ((e : Int) : Rat) := by
    split <;> grind
  rw [e1]
  split <;> grind
theorem wth_some_mid {b e : Int} {p : Int} {x : Rat} (hb : ((b : Int) : Rat) ≤ x) (h : x ≤ ((e : Int) : Rat)) : wthR (b, some e, p) x = x - ((b : Int) : Rat) := by
  unfold wthR
  simp only
  have e1 : (if ((e : Int) : Rat) < x then ((e : Int) : Rat) else x) = x := by
    split <;> grind
  rw [e1]
  split <;> grind
theorem wth_none {b : Int} {p : Int} {x : Rat} (hb : ((b : Int) : Rat) ≤ x) : wthR (b, none, p) x = x - ((b : Int) : Rat) := by
  unfold wthR
  simp only
  split <;> grind
theorem wth_lo {b : Int} {e : Option Int} {p : Int} {x : Rat} (hb : x ≤ ((b : Int) : Rat)) : wthR (b, e, p) x = 0 := by
  unfold wthR
  cases e with
  | none => simp only; split <;> grind
  | some v =>
    simp only
    have : (if ((v : Int) : Rat) < x then ((v : Int) : Rat) else x) ≤ x := by split <;> grind
    generalize (if ((v : Int) : Rat) < x then ((v : Int) : Rat) else x) = z at *
    split <;> grind
/-- limits that rise, the first above b -/
def Up : Int → List (Int × Int) → Prop
  | _, [] => True
  | b, q :: r => b < q.1 ∧ Up q.1 r
theorem up_of : ∀ {t : List (Int × Int)} {b : Int}, (∀ i (_ : i + 1 < t.length), t[i].1 < t[i + 1].1) → (∀ q ∈ t, b < q.1) → Up b t
  | [], _, _, _ => trivial
  | [q], b, _, h => ⟨h q (by simp), trivial⟩
  | q :: q' :: r, b, hi, h => ⟨h q (by simp), up_of (t := q' :: r) (fun i h' => by
      have := hi (i + 1) (by simpa using h')
      simpa using this) (fun z hz => by
      have key : ∀ (r : List (Int × Int)) (v : Int × Int), (∀ i (_ : i + 1 < (v :: r).length), (v :: r)[i].1 < (v :: r)[i + 1].1) → ∀ z ∈ r, v.1 < z.1 := by
        intro r
        induction r with
        | nil => intro v _ z hz; cases hz
        | cons w r ih =>
          intro v hi z hz
          have h0 := hi 0 (by simp)
          simp at h0
          rcases List.mem_cons.mp hz with rfl | hz
          · exact h0
          · have := ih w (fun i h' => by
              have := hi (i + 1) (by simpa using h')
              simpa using this) z hz
            omega
      exact key (q' :: r) q hi z hz)⟩
theorem due_lo : ∀ {t : List (Int × Int)} {p b tons : Int} {x a : Rat}, Up b t → x ≤ ((b : Int) : Rat) → dueA (bnds b t p) tons x a = a
  | [], p, b, tons, x, a, _, h => by
    simp only [bnds, dueA, wth_lo h, Rat.mul_zero, Rat.add_zero]
  | q :: r, p, b, tons, x, a, u, h => by
    simp only [bnds, dueA, wth_lo h, Rat.mul_zero, Rat.add_zero]
    have : ((b : Int) : Rat) ≤ ((q.1 : Int) : Rat) := Rat.intCast_le_intCast.mpr (by have := u.1; omega)
    exact due_lo u.2 (by grind)
theorem miles_lo : ∀ {t : List (Int × Int)} {p b tons : Int} {l x : Rat}, Up b t → x < ((b : Int) : Rat) → milesA (bnds b t p) tons l x = some x
  | [], p, b, tons, l, x, _, h => by
    simp only [bnds, milesA]
    rw [if_neg (by grind)]
  | q :: r, p, b, tons, l, x, u, h => by
    simp only [bnds, milesA]
    rw [if_neg (by grind)]
    have : ((b : Int) : Rat) ≤ ((q.1 : Int) : Rat) := Rat.intCast_le_intCast.mpr (by have := u.1; omega)
    exact miles_lo u.2 (by grind)
/-- the law's own due -/
def ldue : List (Option Int × Int) → Int → Rat → Rat → Rat → Rat
  | [], _, _, a, _ => a
  | q :: r, tons, x, a, last =>
    let top := match q.1 with | none => x | some e => if x < ((e : Int) : Rat) then x else ((e : Int) : Rat)
    if last < top then ldue r tons x (a + (top - last) * ((q.2 * tons : Int) : Rat)) top else ldue r tons x a last
theorem ldue_eq : ∀ {t : List (Int × Int)} {p b tons : Int} {x a last : Rat}, Up b t → last = (if x < ((b : Int) : Rat) then x else ((b : Int) : Rat)) → ldue (tollL t p) tons x a last = dueA (bnds b t p) tons x a
  | [], p, b, tons, x, a, last, _, h => by
    simp only [tollL, List.map_nil, List.nil_append, ldue, bnds, dueA]
    split at h
    · rw [if_neg (by grind), wth_lo (by grind)]; grind
    · subst h
      by_cases hx : ((b : Int) : Rat) < x
      · rw [if_pos hx, wth_none (by grind), Rat.mul_comm]
      · rw [if_neg hx, wth_lo (by grind)]; grind
  | q :: r, p, b, tons, x, a, last, u, h => by
    have hq : ((b : Int) : Rat) < ((q.1 : Int) : Rat) := Rat.intCast_lt_intCast.mpr u.1
    have ih := fun a last => ldue_eq (t := r) (p := p) (b := q.1) (tons := tons) (x := x) (a := a) (last := last) u.2
    simp only [tollL] at ih
    simp only [tollL, List.map_cons, List.cons_append, ldue, bnds, dueA]
    by_cases h1 : x < ((b : Int) : Rat)
    · rw [if_pos h1] at h
      rw [if_pos (show x < ((q.1 : Int) : Rat) by grind), if_neg (by grind), wth_lo (by grind), ih a last (by rw [if_pos (by grind)]; exact h)]
      grind
    · rw [if_neg h1] at h
      subst h
      by_cases h2 : x < ((q.1 : Int) : Rat)
      · rw [if_pos h2, wth_some_mid (by grind) (by grind)]
        by_cases h3 : ((b : Int) : Rat) < x
        · rw [if_pos h3, ih _ _ (by rw [if_pos h2]), Rat.mul_comm]
        · rw [if_neg h3]
          have hx : x = ((b : Int) : Rat) := by grind
          rw [← hx, ih a x (by rw [if_pos h2])]
          grind
      · rw [if_neg h2, wth_some_hi (by grind) (by grind), if_pos hq, ih _ _ (by rw [if_neg h2]), Rat.mul_comm]
/-- the law's own miles -/
def lmiles : List (Option Int × Int) → Int → Rat → Rat → Option Rat
  | [], _, _, _ => none
  | q :: r, tons, l, at' => match q.1 with
    | none => if q.2 * tons = 0 then none else some (at' + l * ((1 : Rat) / ((q.2 * tons : Int) : Rat)))
    | some e => if l < (((e : Int) : Rat) - at') * ((q.2 * tons : Int) : Rat) then some (at' + l * ((1 : Rat) / ((q.2 * tons : Int) : Rat))) else lmiles r tons (l - (((e : Int) : Rat) - at') * ((q.2 * tons : Int) : Rat)) ((e : Int) : Rat)
theorem div_one_mul (l r : Rat) : l * ((1 : Rat) / r) = l / r := by
  rw [Rat.div_def, Rat.div_def]; simp
theorem add_div_lt {b e l r : Rat} (hr : 0 < r) : e < b + l / r ↔ (e - b) * r < l := by
  constructor
  · intro h
    have h1 : e - b < l / r := by grind
    have h2 := Rat.mul_lt_mul_of_pos_right h1 hr
    rwa [Rat.div_mul_cancel (by grind)] at h2
  · intro h
    have h1 : (e - b) * r / r < l / r := by
      rw [Rat.div_def, Rat.div_def]
      exact Rat.mul_lt_mul_of_pos_right h (Rat.inv_pos.mpr hr)
    rw [Rat.mul_div_cancel (by grind)] at h1
    grind
theorem miles_eq : ∀ {t : List (Int × Int)} {p b tons : Int} {l : Rat}, Up b t → (∀ q ∈ t, 0 ≤ q.2) → 0 ≤ p → 1 ≤ tons → 0 ≤ l → lmiles (tollL t p) tons l ((b : Int) : Rat) = milesA (bnds b t p) tons l ((b : Int) : Rat)
  | [], p, b, tons, l, _, _, hp, ht, hl => by
    simp only [tollL, List.map_nil, List.nil_append, lmiles, bnds, milesA, lastM]
    rw [if_pos (Rat.le_refl)]
    by_cases h0 : p = 0
    · subst h0; simp
    · have : ¬ p * tons = 0 := Int.mul_ne_zero h0 (by omega)
      rw [if_neg this, if_neg h0, div_one_mul]
  | q :: r, p, b, tons, l, u, hq, hp, ht, hl => by
    have hbe : ((b : Int) : Rat) < ((q.1 : Int) : Rat) := Rat.intCast_lt_intCast.mpr u.1
    have ih := fun l => miles_eq (t := r) (p := p) (b := q.1) (tons := tons) (l := l) u.2 (fun z hz => hq z (by simp [hz])) hp ht
    simp only [tollL] at ih
    simp only [tollL, List.map_cons, List.cons_append, lmiles, bnds, milesA, lastM]
    rw [if_pos (Rat.le_refl)]
    have q0 := hq q (by simp)
    by_cases h0 : q.2 = 0
    · rw [if_pos h0, h0, Int.zero_mul]
      have z : ((0 : Int) : Rat) = 0 := rfl
      simp only [z, Rat.mul_zero, Rat.zero_mul]
      rw [if_neg (by grind), show l - 0 = l by grind, ih l hl]
    · rw [if_neg h0]
      have hr : 0 < ((q.2 * tons : Int) : Rat) := by
        have : 0 < q.2 * tons := Int.mul_pos (by omega) (by omega)
        exact Rat.intCast_lt_intCast.mpr this
      generalize ((q.2 * tons : Int) : Rat) = rt at *
      simp only
      rw [div_one_mul]
      by_cases h1 : ((q.1 : Int) : Rat) < ((b : Int) : Rat) + l / rt
      · rw [if_pos h1, wth_some_hi (by grind) (by grind)]
        have h2 := (add_div_lt hr).mp h1
        rw [if_neg (by grind), ih _ (by grind), Rat.mul_comm]
      · rw [if_neg h1]
        have h2 : ¬ (((q.1 : Int) : Rat) - ((b : Int) : Rat)) * rt < l := fun h => h1 ((add_div_lt hr).mpr h)
        have hnn : 0 ≤ l / rt := by
          rw [Rat.div_def]
          exact Rat.mul_nonneg hl (by have := Rat.inv_pos.mpr hr; grind)
        have hm : rt * (l / rt) = l := by rw [Rat.mul_comm, Rat.div_mul_cancel (by grind)]
        rw [wth_some_mid (by grind) (by grind)]
        by_cases h3 : l < (((q.1 : Int) : Rat) - ((b : Int) : Rat)) * rt
        · rw [if_pos h3]
          have h4 : ((b : Int) : Rat) + l / rt < ((q.1 : Int) : Rat) := by
            have : ¬ ((q.1 : Int) : Rat) = ((b : Int) : Rat) + l / rt := fun h => by
              have : (((q.1 : Int) : Rat) - ((b : Int) : Rat)) = l / rt := by grind
              rw [this, Rat.mul_comm, hm] at h3
              grind
            grind
          rw [miles_lo u.2 h4]
        · rw [if_neg h3]
          have h5 : (((q.1 : Int) : Rat) - ((b : Int) : Rat)) * rt = l := by grind
          have h6 : ((b : Int) : Rat) + l / rt = ((q.1 : Int) : Rat) := by
            rw [← h5, Rat.mul_div_cancel (by grind)]; grind
          rw [h6, h5, show (((q.1 : Int) : Rat) - ((b : Int) : Rat)) = l / rt by grind, hm, show l - l = (0 : Rat) by grind, ih 0 (by grind)]
theorem miles_ge : ∀ {t : List (Int × Int)} {p b tons : Int} {l x y : Rat}, Up b t → (∀ q ∈ t, 0 ≤ q.2) → 0 ≤ p → 1 ≤ tons → 0 ≤ l → x = ((b : Int) : Rat) → milesA (bnds b t p) tons l x = some y → ((b : Int) : Rat) ≤ y ∧ ∀ a, dueA (bnds b t p) tons y a = a + l
  | [], p, b, tons, l, x, y, _, _, hp, ht, hl, hx, h => by
    subst hx
    simp only [bnds, milesA, lastM, dueA] at h ⊢
    rw [if_pos (Rat.le_refl)] at h
    by_cases h0 : p = 0
    · subst h0; simp at h
    · have hr : 0 < ((p * tons : Int) : Rat) := by
        have : 0 < p * tons := Int.mul_pos (by omega) (by omega)
        exact Rat.intCast_lt_intCast.mpr this
      rw [if_neg h0] at h
      generalize ((p * tons : Int) : Rat) = rt at *
      cases h
      have hnn : 0 ≤ l / rt := by
        rw [Rat.div_def]
        exact Rat.mul_nonneg hl (by have := Rat.inv_pos.mpr hr; grind)
      have hm : rt * (l / rt) = l := by rw [Rat.mul_comm, Rat.div_mul_cancel (by grind)]
      refine ⟨by grind, fun a => ?_⟩
      rw [wth_none (by grind), show ((b : Int) : Rat) + l / rt - ((b : Int) : Rat) = l / rt by grind, hm]
  | q :: r, p, b, tons, l, x, y, u, hq, hp, ht, hl, hx, h => by
    subst hx
    have hbe : ((b : Int) : Rat) < ((q.1 : Int) : Rat) := Rat.intCast_lt_intCast.mpr u.1
    have ih := fun l x y => miles_ge (t := r) (p := p) (b := q.1) (tons := tons) (l := l) (x := x) (y := y) u.2 (fun z hz => hq z (by simp [hz])) hp ht
    simp only [bnds, milesA, lastM, dueA] at h ⊢
    rw [if_pos (Rat.le_refl)] at h
    have q0 := hq q (by simp)
    by_cases h0 : q.2 = 0
    · rw [if_pos h0, h0, Int.zero_mul] at h
      have z : ((0 : Int) : Rat) = 0 := rfl
      simp only [z, Rat.zero_mul] at h
      rw [show l - 0 = l by grind] at h
      obtain ⟨i1, i2⟩ := ih l _ y hl rfl h
      refine ⟨by grind, fun a => ?_⟩
      rw [h0, Int.zero_mul, z, Rat.zero_mul, i2]; grind
    · rw [if_neg h0] at h
      have hr : 0 < ((q.2 * tons : Int) : Rat) := by
        have : 0 < q.2 * tons := Int.mul_pos (by omega) (by omega)
        exact Rat.intCast_lt_intCast.mpr this
      generalize ((q.2 * tons : Int) : Rat) = rt at *
      simp only at h
      by_cases h1 : ((q.1 : Int) : Rat) < ((b : Int) : Rat) + l / rt
      · rw [if_pos h1, wth_some_hi (by grind) (by grind)] at h
        have h2 := (add_div_lt hr).mp h1
        obtain ⟨i1, i2⟩ := ih _ _ y (by rw [Rat.mul_comm]; grind) rfl h
        refine ⟨by grind, fun a => ?_⟩
        rw [wth_some_hi (by grind) i1, i2]; grind
      · rw [if_neg h1] at h
        have h2 : ¬ (((q.1 : Int) : Rat) - ((b : Int) : Rat)) * rt < l := fun h => h1 ((add_div_lt hr).mpr h)
        have hnn : 0 ≤ l / rt := by
          rw [Rat.div_def]
          exact Rat.mul_nonneg hl (by have := Rat.inv_pos.mpr hr; grind)
        have hm : rt * (l / rt) = l := by rw [Rat.mul_comm, Rat.div_mul_cancel (by grind)]
        rw [wth_some_mid (by grind) (by grind)] at h
        by_cases h4 : ((b : Int) : Rat) + l / rt < ((q.1 : Int) : Rat)
        · rw [miles_lo u.2 h4] at h
          cases h
          refine ⟨by grind, fun a => ?_⟩
          rw [wth_some_mid (by grind) (by grind), due_lo u.2 (by grind), show ((b : Int) : Rat) + l / rt - ((b : Int) : Rat) = l / rt by grind, hm]
        · have h6 : ((b : Int) : Rat) + l / rt = ((q.1 : Int) : Rat) := by grind
          rw [show ((b : Int) : Rat) + l / rt - ((b : Int) : Rat) = l / rt by grind, hm, show l - l = (0 : Rat) by grind] at h
          obtain ⟨i1, i2⟩ := ih _ _ y (by grind) h6 h
          refine ⟨by grind, fun a => ?_⟩
          rw [wth_some_hi (by grind) i1, i2, show (((q.1 : Int) : Rat) - ((b : Int) : Rat)) = l / rt by grind, hm]; grind
end K73
namespace K73
open PySem Mini Mini.Win
open L2 (atI ixN)
section
variable {rn : Rn} [Runs rn ds] {n : Nat} {row : List Int} {m : Int}
/-! ### drawing -/
theorem take (hr : row ≠ []) (hm : 0 ≤ m) {lim : Int} (hl : 0 < lim) {P : D × Ky → Prop} (h : ∀ v : Int, 0 ≤ v → v < lim → P (.int v, sp (m + 1))) : OPQ (rn.go (n + 2) 76 [.lst (row.map .int), .ref 0, .int lim] (sp m)) P := opq_draw (f := 76) (dr := 75) rfl rfl hr hm hl h
theorem pickL (hr : row ≠ []) (hm : 0 ≤ m) {l : List D} (hl : 0 < l.length) {P : D × Ky → Prop} (h : ∀ x ∈ l, P (x, sp (m + 1))) : OPQ (rn.go (n + 3) 77 [.lst (row.map .int), .ref 0, .lst l] (sp m)) P := opq_pick (p := 77) (f := 76) (dr := 75) rfl rfl rfl hr hm hl h
theorem pickI (hr : row ≠ []) (hm : 0 ≤ m) (l : List Int) (hl : 0 < l.length) {P : D × Ky → Prop} (h : ∀ v ∈ l, P (.int v, sp (m + 1))) : OPQ (rn.go (n + 3) 77 [.lst (row.map .int), .ref 0, .lst (l.map .int)] (sp m)) P := pickL hr hm (by simpa using hl) fun x hx => by
  obtain ⟨v, hv, rfl⟩ := List.mem_map.mp hx
  exact h v hv
end
section
variable {rn : Rn} [Runs rn ds] {n : Nat} {row : List Int} {m : Int} {k : Ky}
/-! ### what the law draws -/
structure TabI (l : List Kn) (mn : Int) : Prop where
  rng : ∀ p ∈ l, 0 ≤ p.1 ∧ p.1 < mn ∧ -500 ≤ p.2 ∧ p.2 ≤ 1500
  inc : l.Pairwise fun a b => a.1 < b.1
  lo : 0 ≤ mn
  hi : mn ≤ 29 + 120 * (l.length : Int)
  top : ∀ p ∈ l, p.1 ≤ 29 + 120 * ((l.length : Int) - 1)
/-- a table that the law drew -/
structure TabS (l : List Kn) : Prop where
  t : Tab l
  m : ∀ p ∈ l, p.1 ≤ 869
  w : ∃ lo : Int, lo ≤ 0 ∧ ∀ p ∈ l, lo ≤ p.2 ∧ p.2 < lo + 997
theorem tab_of {l : List Kn} {mn : Int} (h : TabI l mn) (h2 : 2 ≤ l.length) (h8 : l.length ≤ 8) : Tab l := by
  refine ⟨h2, by omega, fun p hp => ?_, fun i hi => ?_⟩
  · have := h.rng p hp
    have := h.hi
    omega
  · have e1 : kn l i = l[i] := by simp [kn, List.getElem?_eq_getElem (show i < l.length by omega)]
    have e2 : kn l (i + 1) = l[i + 1] := by simp [kn, List.getElem?_eq_getElem hi]
    rw [e1, e2]
    exact (List.pairwise_iff_getElem.mp h.inc) i (i + 1) (by omega) hi (by omega)
theorem l_table (hr : row ≠ []) (hm : 0 ≤ m) {P : D × Ky → Prop} (h : ∀ l m', 0 ≤ m' → TabS l → P (tabD l, sp m')) : OPQ (rn.go (n + 5) 85 [.lst (row.map .int), .ref 0] (sp m)) P := by
  refine opq_monoL (run_wpE (P := fun x k => P (x, k)) rfl rfl ?_) fun x h => h
  simp [b_law_table, newS]
  refine take hr hm (by decide) fun m0 a0 a1 => ?_
  simp [keepM]
  refine pickI hr (by omega) [4, 100, 997] (by decide) fun wd b0 => ?_
  have hw : 4 ≤ wd ∧ wd ≤ 997 := by
    simp only [List.mem_cons, List.mem_nil_iff, or_false] at b0; omega
  simp [keepM]
  refine ⟨divOk_of (by decide) (by decide), ?_⟩
  refine pickI hr (by omega) [0, wd / 2] (by simp) fun lo c0 => ?_
  have hlo : 0 ≤ lo ∧ lo ≤ 498 := by
    simp only [List.mem_cons, List.mem_nil_iff, or_false] at c0; omega
  simp [keepM]
  refine take hr (by omega) (by decide) fun cnt d0 d1 => ?_
  have h62 : rng62 (2 + cnt) = true := rng62_of (by omega) (by omega)
  simp [h62]
  refine fp_rng [2, 3, 6] (fun i vs mu k => mu = [2] ∧ ∃ (l : List Kn) (mn : Int) (x6 : Option D) (m' : Int), k = sp m' ∧ 0 ≤ m' ∧ l.length = i ∧ TabI l mn ∧ (∀ p ∈ l, -lo ≤ p.2 ∧ p.2 < -lo + 997) ∧ vs = [some (.lst (l.map pairD)), some (.int mn), x6]) _ 0 _ _ ⟨rfl, [], m0, none, _, rfl, by omega, rfl, ⟨fun p hp => (by cases hp), List.Pairwise.nil, a0, by simp; omega, fun p hp => (by cases hp)⟩, fun p hp => (by cases hp), rfl⟩ ?_ ?_
  · rintro i vs mu k hi ⟨rfl, l, mn, x6, m', rfl, hm', hl, hT, hW, rfl⟩
    simp [b_law_table_0]
    refine take hr hm' (by omega) fun v e0 e1 => ?_
    simp [show l.length < 16777216 by omega]
    refine pickI hr (by omega) [2, 20, 120] (by decide) fun w f0 => ?_
    have hw2 : 2 ≤ w ∧ w ≤ 120 := by
      simp only [List.mem_cons, List.mem_nil_iff, or_false] at f0; omega
    simp
    refine take hr (by omega) (by omega) fun u g0 g1 => ?_
    simp [keepM]
    refine ⟨rfl, rfl, l ++ [(mn, v - lo)], mn + 1 + u, _, _, rfl, by omega, by simp; omega, ⟨fun p hp => ?_, ?_, ?_, ?_, fun p hp => ?_⟩, fun p hp => ?_, by simp [pick, pairD]; rfl⟩
    · rcases List.mem_append.mp hp with hp | hp
      · have := hT.rng p hp; omega
      · simp only [List.mem_singleton] at hp
        subst hp
        have := hT.lo
        simp only
        omega
    · refine List.pairwise_append.mpr ⟨hT.inc, by simp, fun a ha b hb => ?_⟩
      simp only [List.mem_singleton] at hb
      subst hb
      exact (hT.rng a ha).2.1
    · have := hT.lo; omega
    · have := hT.hi; simp; omega
    · simp only [List.length_append, List.length_cons, List.length_nil]
      rcases List.mem_append.mp hp with hp | hp
      · have := hT.top p hp; omega
      · simp only [List.mem_singleton] at hp
        subst hp
        have := hT.hi
        simp only
        omega
    · rcases List.mem_append.mp hp with hp | hp
      · exact hW p hp
      · simp only [List.mem_singleton] at hp
        subst hp
        simp only
        omega
  · rintro vs mu k ⟨rfl, l, mn, x6, m', rfl, hm', hl, hT, hW, rfl⟩
    simp
    exact h l m' hm' ⟨tab_of hT (by omega) (by omega), fun p hp => by have := hT.top p hp; omega, -lo, by omega, hW⟩
/-! ### the law's own windows, walked -/
theorem lw_loop {l : List Kn} (t : Tab l) {c : Int} (hc : -2000 ≤ c ∧ c ≤ 2000) {x3 : D} (h3 : x3 = optR (lwTo (kn l) c 0).2) {J : O → Prop}
    (hJ : ∀ x4 x5 x6, J (.nx ⟨[some (tabD l), some (.int c), some (.lst ((lwTo (kn l) c (l.length - 1)).1.map spR)), some (optR (lwTo (kn l) c (l.length - 1)).2), x4, x5, x6], [2], k⟩)) :
    FR (rn.go (n + 4)) WF none (Tg.name 4) b_law_windows_0 (rngL 1 1 (l.length - 1)) ⟨[some (tabD l), some (.int c), some (.lst []), some x3, none, none, none], [2], k⟩ J := by
  have h2 := t.len2
  have hl := t.len
  have hlen : ∀ i, (lwTo (kn l) c i).1.length ≤ i := by
    intro i
    induction i with
    | zero => simp [lwTo]
    | succ i ih =>
      simp only [lwTo, lwStep]
      split <;> split <;> first | omega | (simp; omega)
  refine fp_rng [2, 3, 4, 5, 6] (fun i vs mu k' => mu = [2] ∧ k' = k ∧ ∃ x4 x5 x6 : Option D, vs = [some (.lst ((lwTo (kn l) c i).1.map spR)), some (optR (lwTo (kn l) c i).2), x4, x5, x6]) _ 1 _ _ ⟨rfl, rfl, none, none, none, by simp [pick, lwTo, h3]⟩ ?_ ?_
  · rintro i vs mu k' hi ⟨rfl, rfl, x4, x5, x6, rfl⟩
    have r0 := t.r (i := i) (by omega)
    have r1 := t.r (i := i + 1) (by omega)
    have e0 := kn_at (l := l) (i := i) (by omega)
    have e1 := kn_at (l := l) (i := i + 1) (by omega)
    rw [show ((i + 1 : Nat) : Int) = 1 + (i : Int) by omega] at e1
    have e2 : (1 + (i : Int) - 1) = i := by omega
    have hL := hlen i
    have ec := fun h => l_cross (rn := rn) (n := n) (k := k') (a := kn l i) (b := kn l (i + 1)) (c := c) (by omega) (by omega) (by omega) (by omega) hc h
    have hop := (lw_spans (kn := kn l) (c := c) (n := l.length - 1) (fun j hj => t.inc j (by omega)) i (by omega)).op
    simp only [lwTo]
    generalize lwTo (kn l) c i = s at hL hop ⊢
    obtain ⟨S, o⟩ := s
    simp only at hL hop
    cases o with
    | none =>
      have hna : ¬ c ≤ (kn l i).2 := fun h => by have := hop.mpr h; simp at this
      by_cases hb : c ≤ (kn l (i + 1)).2
      · have hs : lwStep (kn l i) (kn l (i + 1)) c (S, none) = (S, some (crossR (kn l i) (kn l (i + 1)) c)) := by simp [lwStep, hb]
        rw [hs]
        simp [b_law_windows_0, tabD, e0, e1, e2, optR, keepM, hb, ec (by omega)]
        exact ⟨rfl, rfl, rfl, _, _, _, rfl⟩
      · have hs : lwStep (kn l i) (kn l (i + 1)) c (S, none) = (S, none) := by simp [lwStep, hb]
        rw [hs]
        simp [b_law_windows_0, tabD, e0, e1, e2, optR, keepM, hb]
        exact ⟨rfl, rfl, rfl, _, _, _, rfl⟩
    | some st =>
      by_cases hb : (kn l (i + 1)).2 < c
      · have hs : lwStep (kn l i) (kn l (i + 1)) c (S, some st) = (S ++ [(st, if c < (kn l i).2 then crossR (kn l i) (kn l (i + 1)) c else ((kn l i).1 : Rat))], none) := by simp [lwStep, hb]
        rw [hs]
        by_cases hab : c < (kn l i).2
        · rw [if_pos hab]
          simp [b_law_windows_0, tabD, e0, e1, e2, optR, keepM, hb, hab, ec (by omega), show S.length < 16777216 by omega]
          exact ⟨rfl, rfl, rfl, _, _, _, by rw [List.map_append]; rfl⟩
        · rw [if_neg hab]
          simp [b_law_windows_0, tabD, e0, e1, e2, optR, keepM, hb, hab, show S.length < 16777216 by omega]
          exact ⟨rfl, rfl, rfl, _, _, _, by rw [List.map_append]; rfl⟩
      · have hs : lwStep (kn l i) (kn l (i + 1)) c (S, some st) = (S, some st) := by simp [lwStep, hb]
        rw [hs]
        simp [b_law_windows_0, tabD, e0, e1, e2, optR, keepM, hb]
        exact ⟨rfl, rfl, rfl, _, _, _, rfl⟩
  · rintro vs mu k' ⟨rfl, rfl, x4, x5, x6, rfl⟩
    simp
    exact hJ _ _ _
theorem l_windows {l : List Kn} (t : Tab l) {c : Int} (hc : -2000 ≤ c ∧ c ≤ 2000) : rn.go (n + 5) 87 [tabD l, .int c] k = some (.lst ((spansOf l c).map spR), k) := by
  refine run_wp rfl rfl ?_
  have h2 := t.len2
  have hl := t.len
  have k0 := kn_at (l := l) (i := 0) (by omega)
  rw [show ((0 : Nat) : Int) = 0 from rfl] at k0
  have I := lw_spans (kn := kn l) (c := c) (n := l.length - 1) (fun j hj => t.inc j (by omega)) (l.length - 1) (Nat.le_refl _)
  have k1 := kn_at (l := l) (i := l.length - 1) (by omega)
  rw [show ((l.length - 1 : Nat) : Int) = (l.length : Int) - 1 by omega] at k1
  have h62 : rng62 (l.length : Int) = true := rng62_of (by omega) (by omega)
  have I2 := I.eq (by omega)
  have hlen : (lwTo (kn l) c (l.length - 1)).1.length ≤ l.length - 1 := by
    have : ∀ i, (lwTo (kn l) c i).1.length ≤ i := by
      intro i
      induction i with
      | zero => simp [lwTo]
      | succ i ih =>
        simp only [lwTo, lwStep]
        split <;> split <;> first | omega | (simp; omega)
    exact this _
  simp [b_law_windows, newS, tabD, k0, keepM, h62, show rng62 1 = true from rfl]
  have fin' : ∀ x4 x5 x6 : Option D, WP (rn.go (n + 4)) WF (Ss.cons (S.ite (T.val (E.var 3).notN) (Ss.cons (S.app 2 (E.tup (Es.cons (E.var 3) (Es.cons (E.tup (Es.cons (((E.var 0).idx (E.bin BO.sub (E.bi BI.len (Es.cons (E.var 0) Es.nil)) (E.cst (D.int 1)))).idx (E.cst (D.int 0))) (Es.cons (E.cst (D.int 1)) Es.nil))) Es.nil)))) Ss.nil) Ss.nil) (Ss.cons (S.ret (E.var 2)) Ss.nil)) ⟨[some (tabD l), some (.int c), some (.lst ((lwTo (kn l) c (l.length - 1)).1.map spR)), some (optR (lwTo (kn l) c (l.length - 1)).2), x4, x5, x6], [2], k⟩ fun o => fin k (some o) = some (D.lst (List.map spR (spansOf l c)), k) := by
    intro x4 x5 x6
    unfold spansOf
    rw [I2]
    generalize lwTo (kn l) c (l.length - 1) = s at hlen ⊢
    obtain ⟨S, o⟩ := s
    simp only at hlen
    cases o with
    | none => simp [optR, lwEnd]
    | some st => simp [optR, lwEnd, tabD, k1, show S.length < 16777216 by omega]; rfl
  split
  · rename_i h0
    refine lw_loop t hc (by simp [lwTo, h0, optR]; rfl) fun x4 x5 x6 => ?_
    rw [nxt_nx]
    exact fin' x4 x5 x6
  · rename_i h0
    refine lw_loop t hc (by simp [lwTo, h0, optR]) fun x4 x5 x6 => ?_
    rw [nxt_nx]
    exact fin' x4 x5 x6
end
end K73
namespace K73
open PySem Mini Mini.Win
open L2 (atI ixN)
section
variable {rn : Rn} [Runs rn ds] {n : Nat} {row : List Int} {m : Int} {k : Ky}
structure LsI (l : List Span) (at' : Int) (j : Nat) : Prop where
  dis : l.Pairwise fun a b => a.2 < b.1
  rng : ∀ p ∈ l, 0 ≤ p.1 ∧ p.1 ≤ p.2 ∧ p.2 < at'
  len : l.length = j
  lo : 0 ≤ at'
  hi : at' ≤ 39 + 70 * (j : Int)
theorem l_legs (hr : row ≠ []) (hm : 0 ≤ m) {P : D × Ky → Prop} (h : ∀ ls m', 0 ≤ m' → (∀ l ∈ ls, LegOk l) → ls.length ≤ 5 → P (legsD ls, sp m')) : OPQ (rn.go (n + 5) 88 [.lst (row.map .int), .ref 0] (sp m)) P := by
  refine opq_monoL (run_wpE (P := fun x k => P (x, k)) rfl rfl ?_) fun x h => h
  simp [b_law_legs, newS]
  refine take hr hm (by decide) fun cnt a0 a1 => ?_
  have h62 : rng62 cnt = true := rng62_of (by omega) (by omega)
  simp [h62]
  refine fp_rng [2, 3, 4, 5, 6, 7] (fun i vs mu k => mu = [2] ∧ ∃ (ls : List Leg) (x3 x4 x5 x6 x7 : Option D) (m' : Int), k = sp m' ∧ 0 ≤ m' ∧ ls.length = i ∧ (∀ l ∈ ls, LegOk l) ∧ vs = [some (.lst (ls.map legD)), x3, x4, x5, x6, x7]) _ 0 _ _ ⟨rfl, [], none, none, none, none, none, _, rfl, by omega, rfl, fun l hl => (by cases hl), rfl⟩ ?_ ?_
  · rintro i vs mu k hi ⟨rfl, ls, x3, x4, x5, x6, x7, m', rfl, hm', hl, ho, rfl⟩
    simp [b_law_legs_1]
    refine take hr hm' (by decide) fun v b0 b1 => ?_
    have h16 : ls.length < 16777216 := by omega
    have grow : ∀ (o : Option (List Span)) (u : Int), 0 ≤ u → u < 30 → (∀ s, o = some s → SpOk s) → ∀ l ∈ ls ++ [(u, o)], LegOk l := fun o u g0 g1 hs l hl => by
      rcases List.mem_append.mp hl with hl | hl
      · exact ho l hl
      · simp only [List.mem_singleton] at hl
        subst hl
        exact ⟨g0, by show u ≤ 100; omega, hs⟩
    by_cases hv : 0 < v
    · simp [hv, newS]
      refine take hr (by omega) (by decide) fun at0 c0 c1 => ?_
      simp [keepM]
      refine take hr (by omega) (by decide) fun cn d0 d1 => ?_
      have h62 : rng62 cn = true := rng62_of (by omega) (by omega)
      simp [h62]
      refine fp_rng [4, 5, 6, 7] (fun j vs mu k => mu = [4, 2] ∧ ∃ (l : List Span) (at' : Int) (x6 x7 : Option D) (m' : Int), k = sp m' ∧ 0 ≤ m' ∧ LsI l at' j ∧ vs = [some (.lst (l.map spanD)), some (.int at'), x6, x7]) _ 0 _ _ ⟨rfl, [], at0, _, _, _, rfl, by omega, ⟨List.Pairwise.nil, fun p hp => (by cases hp), rfl, c0, by omega⟩, rfl⟩ ?_ ?_
      · rintro j vs mu k hj ⟨rfl, l, at', x6, x7, m3, rfl, hm3, hT, rfl⟩
        have hl := hT.len
        simp [b_law_legs_0]
        refine take hr hm3 (by decide) fun v e0 e1 => ?_
        simp [keepM, show l.length < 16777216 by omega]
        refine take hr (by omega) (by decide) fun u f0 f1 => ?_
        simp [keepM]
        have := hT.lo
        have := hT.hi
        refine ⟨rfl, rfl, l ++ [(at', at' + v)], at' + v + 1 + u, _, _, _, rfl, by omega, ⟨?_, fun p hp => ?_, by simp; omega, by omega, by omega⟩, by rw [List.map_append]; rfl⟩
        · refine List.pairwise_append.mpr ⟨hT.dis, by simp, fun a ha b hb => ?_⟩
          simp only [List.mem_singleton] at hb
          subst hb
          exact (hT.rng a ha).2.2
        · rcases List.mem_append.mp hp with hp | hp
          · have := hT.rng p hp; omega
          · simp only [List.mem_singleton] at hp
            subst hp
            simp only
            omega
      · rintro vs mu k ⟨rfl, l, at', x6, x7, m3, rfl, hm3, hT, rfl⟩
        have hn : noLs (l.map spanD) = true := noLs_map (fun _ => rfl) l
        have := hT.len
        have := hT.hi
        simp [keepM, hn]
        refine take hr hm3 (by decide) fun u g0 g1 => ?_
        simp [h16, hn]
        exact ⟨rfl, rfl, ls ++ [(u, some l)], _, _, _, _, _, _, rfl, by omega, by simp; omega, grow _ u g0 g1 fun s hs => by
          cases hs
          exact ⟨hT.dis, fun p hp => by have := hT.rng p hp; omega, by omega⟩, by rw [List.map_append]; rfl⟩
    · simp [hv]
      refine take hr (by omega) (by decide) fun u g0 g1 => ?_
      simp [h16, keepM]
      exact ⟨rfl, rfl, ls ++ [(u, none)], _, _, _, _, _, _, rfl, by omega, by simp; omega, grow _ u g0 g1 fun s hs => (by cases hs), by rw [List.map_append]; rfl⟩
  · rintro vs mu k ⟨rfl, ls, x3, x4, x5, x6, x7, m', rfl, hm', hl, ho, rfl⟩
    simp
    exact h ls m' hm' ho (by omega)
end
end K73
namespace K73
open PySem Mini Mini.Win
open L2 (atI ixN)
section
variable {rn : Rn} [Runs rn ds] {n : Nat} {row : List Int} {m : Int} {k : Ky}
theorem bf_filter : ∀ (l : List Span) (m : Int), beginFrom l m = (l.filter fun p => decide (m ≤ p.2)).head?.map fun p => if p.1 > m then p.1 else m
  | [], m => rfl
  | p :: r, m => by
    simp only [beginFrom, List.filter_cons]
    by_cases h : m ≤ p.2
    · simp [h]
      split <;> split <;> omega
    · simp [h, bf_filter r m]
theorem l_arrives {ls : List Leg} (hl : ls.length ≤ 1000) (h2 : ∀ l ∈ ls, ∀ s, l.2 = some s → s.length ≤ 1000) (mn : Int) : rn.go (n + 1) 89 [legsD ls, .int mn] k = some (tripD (travel ls mn []), k) := by
  refine run_wp rfl rfl ?_
  simp [b_law_arrives, legsD, newS]
  refine fp_list [1, 2, 3, 4, 5, 6] legD (fun r vs mu k' => k' = k ∧ 2 ∈ mu ∧ (∀ i ∈ mu, i = 2 ∨ i = 5) ∧ ∃ (now : Int) (ws : List Int) (x3 x4 x5 x6 : Option D), vs = [some (.int now), some (.lst (ws.map .int)), x3, x4, x5, x6] ∧ travel ls mn [] = travel r now ws ∧ ws.length + r.length ≤ 1000 ∧ ∀ x ∈ r, ∀ s, x.2 = some s → s.length ≤ 1000) _ ls _ ⟨rfl, by simp, by simp, mn, [], none, none, none, none, rfl, rfl, by simpa using hl, h2⟩ ?_ ?_
  · rintro a r vs mu k' ⟨rfl, hmu2, hmu, now, ws, x3, x4, x5, x6, rfl, e, hlen, hr⟩
    simp at hlen
    have hw : ws.length < 16777216 := by omega
    have ha := fun s hs => hr a List.mem_cons_self s hs
    have hr' : ∀ x ∈ r, ∀ s, x.2 = some s → s.length ≤ 1000 := fun x hx s hs => hr x (List.mem_cons_of_mem _ hx) s hs
    obtain ⟨d, o⟩ := a
    cases o with
    | none =>
      simp [b_law_arrives_2, legD, spsD, keepM, hmu2, hw]
      refine ⟨rfl, rfl, ?_, ?_, now + d, ws ++ [0], _, _, _, _, by rw [List.map_append]; rfl, ?_, by simp; omega, hr'⟩
      · simp [hmu2]
      · intro i hi; simp at hi; exact hmu i hi.1
      · rw [e, travel]; simp [from']
    | some s =>
      have hs := ha s rfl
      have hlo : lineOk s.length = true := lineOk_of (by omega)
      have hnl : noLs (s.map spanD) = true := noLs_map (fun _ => rfl) s
      simp [b_law_arrives_2, legD, spsD, spansD, show ∀ l, isNonD (spansD l) = false from fun _ => rfl, keepM, hlo, newS]
      refine cn_map spanD (fun p => decide (now ≤ p.2)) spanD s (fun p hp => ?_) ?_
      · simp [t_law_arrives_1, e_law_arrives_0, spanD]
      rw [travel, from', bf_filter] at e
      generalize hF : s.filter (fun p => decide (now ≤ p.2)) = F at e ⊢
      have hnF : noLs (F.map spanD) = true := noLs_map (fun _ => rfl) F
      cases F with
      | nil =>
        simp at e
        simp [e, tripD]
      | cons p F =>
        simp at e
        simp at hnF
        simp [hnF, spanD, hmu2, hw, keepM]
        refine ⟨rfl, rfl, ?_, ?_, (if p.1 > now then p.1 else now) + d, ws ++ [(if p.1 > now then p.1 else now) - now], _, _, _, _, by rw [List.map_append]; rfl, e, by simp; omega, hr'⟩
        · simp [hmu2]
        · intro i hi; simp at hi; rcases hi with h | h
          · exact .inr h
          · exact hmu i h.1
  · rintro vs mu k' ⟨rfl, hmu2, hmu, now, ws, x3, x4, x5, x6, rfl, e, hlen, hr⟩
    rw [e]
    simp [travel, tripD]
structure TollI (t : List (Int × Int)) (lim : Int) : Prop where
  r : ∀ q ∈ t, (1 ≤ q.1 ∧ q.1 ≤ lim) ∧ 0 ≤ q.2 ∧ q.2 ≤ 1000
  inc : t.Pairwise fun a b => a.1 < b.1
  lo : 0 ≤ lim
  hi : lim ≤ 200 * (t.length : Int)
theorem l_toll (hr : row ≠ []) (hm : 0 ≤ m) {P : D × Ky → Prop} (h : ∀ t p m', 0 ≤ m' → Toll t p → (∀ q ∈ t, q.1 ≤ 600) → P (tollD t p, sp m')) : OPQ (rn.go (n + 5) 90 [.lst (row.map .int), .ref 0] (sp m)) P := by
  refine opq_monoL (run_wpE (P := fun x k => P (x, k)) rfl rfl ?_) fun x h => h
  simp [b_law_toll, newS]
  refine take hr hm (by decide) fun cnt a0 a1 => ?_
  have h62 : rng62 cnt = true := rng62_of (by omega) (by omega)
  simp [h62]
  refine fp_rng [2, 3, 4] (fun i vs mu k => mu = [2] ∧ ∃ (t : List (Int × Int)) (lim : Int) (x4 : Option D) (m' : Int), k = sp m' ∧ 0 ≤ m' ∧ t.length = i ∧ TollI t lim ∧ vs = [some (.lst (t.map fun q => tD (some q.1, q.2))), some (.int lim), x4]) _ 0 _ _ ⟨rfl, [], 0, none, _, rfl, by omega, rfl, ⟨fun p hp => (by cases hp), List.Pairwise.nil, by omega, by simp⟩, rfl⟩ ?_ ?_
  · rintro i vs mu k hi ⟨rfl, t, lim, x4, m', rfl, hm', hl, hT, rfl⟩
    have := hT.lo
    have := hT.hi
    simp [b_law_toll_0]
    refine pickI hr hm' [4, 200] (by decide) fun w f0 => ?_
    have hw2 : 4 ≤ w ∧ w ≤ 200 := by
      simp only [List.mem_cons, List.mem_nil_iff, or_false] at f0; omega
    simp
    refine take hr (by omega) (by omega) fun u g0 g1 => ?_
    simp [keepM]
    refine take hr (by omega) (by omega) fun z c0 c1 => ?_
    simp
    refine pickI hr (by omega) [0, 1, 3, z] (by simp) fun pr e0 => ?_
    have hp2 : 0 ≤ pr ∧ pr ≤ 1000 := by
      simp only [List.mem_cons, List.mem_nil_iff, or_false] at e0; omega
    simp [show t.length < 16777216 by omega]
    refine ⟨rfl, rfl, t ++ [(lim + 1 + u, pr)], lim + 1 + u, _, _, rfl, by omega, by simp; omega, ⟨fun p hp => ?_, ?_, by omega, by simp; omega⟩, by rw [List.map_append]; rfl⟩
    · rcases List.mem_append.mp hp with hp | hp
      · have := hT.r p hp; omega
      · simp only [List.mem_singleton] at hp
        subst hp
        simp only
        omega
    · refine List.pairwise_append.mpr ⟨hT.inc, by simp, fun a ha b hb => ?_⟩
      simp only [List.mem_singleton] at hb
      subst hb
      have := hT.r a ha
      show a.1 < lim + 1 + u
      omega
  · rintro vs mu k ⟨rfl, t, lim, x4, m', rfl, hm', hl, hT, rfl⟩
    have := hT.hi
    simp
    refine pickI hr hm' [0, 1, 2, 1000] (by decide) fun p f0 => ?_
    have hp : 0 ≤ p ∧ p ≤ 1000 := by
      simp only [List.mem_cons, List.mem_nil_iff, or_false] at f0; omega
    simp [lineOk_of (show t.length + 1 ≤ 16777216 by omega)]
    have := h t p (m' + 1) (by omega) ⟨by omega, fun q hq => by have := hT.r q hq; omega, hp, fun i hi => (List.pairwise_iff_getElem.mp hT.inc) i (i + 1) (by omega) hi (by omega)⟩ fun q hq => by have := hT.r q hq; omega
    simp [tollD, tollL, tD, Function.comp_def] at this ⊢
    exact this
theorem less1 {x y : Rat} (hx : pb 600 x) (hy : pb 600 y) : rn.go (n + 1) 84 [ofR x, ofR y] k = some (.bl (decide (x < y)), k) := l_less x y (hx.sm (by omega)) (hy.sm (by omega))
theorem l_due {t : List (Int × Int)} {p : Int} (o : Toll t p) {tons : Int} (ht0 : 0 ≤ tons) (ht1 : tons ≤ 1000) {x : Rat} (hx : pb 31 x) : rn.go (n + 4) 91 [tollD t p, .int tons, ofR x] k = some (ofR (ldue (tollL t p) tons x 0 0), k) := by
  refine run_wp rfl rfl ?_
  have hl := o.len
  have h0 : D.tup [.int 0, .int 1] = ofR 0 := rfl
  have hr0 : ∀ q ∈ tollL t p, (∀ e, q.1 = some e → 0 ≤ e ∧ e ≤ 1000) ∧ 0 ≤ q.2 ∧ q.2 ≤ 1000 := by
    intro x hx
    rcases List.mem_append.mp hx with hx | hx
    · obtain ⟨q, hq, rfl⟩ := List.mem_map.mp hx
      have := o.r q hq
      exact ⟨fun e he => (by cases he; omega), this.2⟩
    · simp only [List.mem_singleton] at hx
      subst hx
      exact ⟨fun e he => (by cases he), o.p0⟩
  simp [b_law_due, tollD, h0]
  refine fp_list [3, 4, 5, 6] tD (fun r vs mu k' => k' = k ∧ mu = [] ∧ ∃ (a last : Rat) (x5 x6 : Option D), vs = [some (ofR a), some (ofR last), x5, x6] ∧ pb (31 + (4 - r.length) * 100) a ∧ pb 31 last ∧ r.length ≤ 4 ∧ (∀ q ∈ r, (∀ e, q.1 = some e → 0 ≤ e ∧ e ≤ 1000) ∧ 0 ≤ q.2 ∧ q.2 ≤ 1000) ∧ ldue r tons x a last = ldue (tollL t p) tons x 0 0) _ _ _ ⟨rfl, rfl, 0, 0, none, none, rfl, (pb_i31 (i := 0) (by omega) (by omega)).mono (by omega), (pb_i31 (i := 0) (by omega) (by omega)), by rw [tollL_len]; omega, hr0, rfl⟩ ?_ ?_
  · rintro q r vs mu k' ⟨rfl, rfl, a, last, x5, x6, rfl, ha, hla, hr, hok, hd⟩
    simp only [List.length_cons] at hr ha
    obtain ⟨oe, pr⟩ := q
    have hq := hok (oe, pr) (by simp)
    simp only at hq
    have hpt0 : 0 ≤ pr * tons := Int.mul_nonneg hq.2.1 ht0
    have hpt1 : pr * tons ≤ 1000 * 1000 := Int.mul_le_mul hq.2.2 ht1 ht0 (by omega)
    have hpt : pb 31 ((pr * tons : Int) : Rat) := pb_i31 (by omega) (by omega)
    have m1 : mulOk pr tons = true := mulOk_l (by omega) (by omega)
    have fr' := fr1 (pr * tons)
    have main : ∀ (top : Rat), pb 31 top → rn.go (n + 3) 81 [ofR a, ofR ((top - last) * ((pr * tons : Int) : Rat))] k' = some (ofR (a + (top - last) * ((pr * tons : Int) : Rat)), k') ∧ rn.go (n + 3) 82 [ofR top, ofR last] k' = some (ofR (top - last), k') ∧ rn.go (n + 3) 83 [ofR (top - last), ofR ((pr * tons : Int) : Rat)] k' = some (ofR ((top - last) * ((pr * tons : Int) : Rat)), k') ∧ rn.go (n + 3) 84 [ofR last, ofR top] k' = some (.bl (decide (last < top)), k') ∧ pb (31 + (4 - r.length) * 100) (a + (top - last) * ((pr * tons : Int) : Rat)) := by
      intro top htop
      have hs := htop.sub hla
      have hm := hs.mul hpt
      exact ⟨l_add _ _ (ha.sm (by omega)) (hm.sm (by omega)), l_sub _ _ (htop.sm (by omega)) (hla.sm (by omega)), l_mul _ _ (hs.sm (by omega)) (hpt.sm (by omega)), l_less _ _ (hla.sm (by omega)) (htop.sm (by omega)), (ha.add hm).mono (by omega)⟩
    cases oe with
    | none =>
      obtain ⟨e1, e2, e3, e4, e5⟩ := main x hx
      simp only [ldue] at hd
      by_cases hc : last < x
      · rw [if_pos hc] at hd
        simp [-Rat.intCast_mul, b_law_due_0, tD, e1, e2, e3, e4, m1, fr', keepM, hc]
        exact ⟨rfl, rfl, rfl, _, _, _, _, rfl, e5, hx, by omega, fun c hc => hok c (by simp [hc]), hd⟩
      · rw [if_neg hc] at hd
        simp [-Rat.intCast_mul, b_law_due_0, tD, e1, e2, e3, e4, m1, fr', keepM, hc]
        exact ⟨rfl, rfl, rfl, _, _, _, _, rfl, ha.mono (by omega), hla, by omega, fun c hc => hok c (by simp [hc]), hd⟩
    | some e =>
      have he := hq.1 e rfl
      have hpe : pb 31 ((e : Int) : Rat) := pb_i31 (by omega) (by omega)
      obtain ⟨e1, e2, e3, e4, e5⟩ := main (if x < ((e : Int) : Rat) then x else ((e : Int) : Rat)) (pb_ite hx hpe)
      have e0 := l_less (rn := rn) (n := n + 2) (k := k') x ((e : Int) : Rat) (hx.sm (by omega)) (hpe.sm (by omega))
      simp only [ldue] at hd
      have fre := fr1 e
      by_cases hc0 : x < ((e : Int) : Rat)
      · simp only [if_pos hc0] at e1 e2 e3 e4 e5 hd
        by_cases hc : last < x
        · rw [if_pos hc] at hd
          simp [-Rat.intCast_mul, b_law_due_0, tD, fre, e0, hc0, e1, e2, e3, e4, m1, fr', keepM, hc]
          exact ⟨rfl, rfl, rfl, _, _, _, _, rfl, e5, hx, by omega, fun c hc => hok c (by simp [hc]), hd⟩
        · rw [if_neg hc] at hd
          simp [-Rat.intCast_mul, b_law_due_0, tD, fre, e0, hc0, e1, e2, e3, e4, m1, fr', keepM, hc]
          exact ⟨rfl, rfl, rfl, _, _, _, _, rfl, ha.mono (by omega), hla, by omega, fun c hc => hok c (by simp [hc]), hd⟩
      · simp only [if_neg hc0] at e1 e2 e3 e4 e5 hd
        by_cases hc : last < ((e : Int) : Rat)
        · rw [if_pos hc] at hd
          simp [-Rat.intCast_mul, b_law_due_0, tD, fre, e0, hc0, e1, e2, e3, e4, m1, fr', keepM, hc]
          exact ⟨rfl, rfl, rfl, _, _, _, _, rfl, e5, hpe, by omega, fun c hc => hok c (by simp [hc]), hd⟩
        · rw [if_neg hc] at hd
          simp [-Rat.intCast_mul, b_law_due_0, tD, fre, e0, hc0, e1, e2, e3, e4, m1, fr', keepM, hc]
          exact ⟨rfl, rfl, rfl, _, _, _, _, rfl, ha.mono (by omega), hla, by omega, fun c hc => hok c (by simp [hc]), hd⟩
  · rintro vs mu k' ⟨rfl, rfl, a, last, x5, x6, rfl, ha, hla, hr, hok, hd⟩
    simp only [ldue] at hd
    subst hd
    simp
end
end K73
namespace K73
open PySem Mini Mini.Win
open L2 (atI ixN)
section
variable {rn : Rn} [Runs rn ds] {n : Nat} {row : List Int} {m : Int} {k : Ky}
theorem ofR_mk (a : Int) (d : Int) (hd : 0 < d) (hc : Nat.Coprime a.natAbs d.natAbs) : D.tup [.int a, .int d] = ofR ((a : Rat) / (d : Rat)) := by
  have e : (⟨a, d.natAbs, by omega, hc⟩ : Rat) = (a : Rat) / (d : Rat) := by
    rw [← Rat.num_divInt_den ⟨a, d.natAbs, by omega, hc⟩, Rat.divInt_eq_div]
    simp only
    rw [show ((d.natAbs : Nat) : Int) = d by omega]
  rw [← e]
  show _ = D.tup [.int a, .int ((d.natAbs : Nat) : Int)]
  rw [show ((d.natAbs : Nat) : Int) = d by omega]
theorem l_miles {t : List (Int × Int)} {p : Int} (o : Toll t p) {tons : Int} (ht0 : 1 ≤ tons) (ht1 : tons ≤ 1000) {c : Int} (hc0 : 0 ≤ c) (hc1 : c ≤ 1000000000) : rn.go (n + 4) 92 [tollD t p, .int tons, .int c] k = some (optQ (lmiles (tollL t p) tons ((c : Int) : Rat) 0), k) := by
  refine run_wp rfl rfl ?_
  have hl := o.len
  have h0 : D.tup [.int 0, .int 1] = ofR ((0 : Int) : Rat) := rfl
  have hr0 : ∀ q ∈ tollL t p, (∀ e, q.1 = some e → 0 ≤ e ∧ e ≤ 1000) ∧ 0 ≤ q.2 ∧ q.2 ≤ 1000 := by
    intro x hx
    rcases List.mem_append.mp hx with hx | hx
    · obtain ⟨q, hq, rfl⟩ := List.mem_map.mp hx
      have := o.r q hq
      exact ⟨fun e he => (by cases he; omega), this.2⟩
    · simp only [List.mem_singleton] at hx
      subst hx
      exact ⟨fun e he => (by cases he), o.p0⟩
  simp [b_law_miles, tollD, h0, fr1 c]
  refine fp_list [3, 4, 5, 6, 7, 8] tD (fun r vs mu k' => k' = k ∧ mu = [] ∧ ∃ (l : Rat) (at' : Int) (x5 x6 x7 x8 : Option D), vs = [some (ofR l), some (ofR (at' : Rat)), x5, x6, x7, x8] ∧ pb (31 + (4 - r.length) * 100) l ∧ 0 ≤ l ∧ (0 ≤ at' ∧ at' ≤ 1000) ∧ r.length ≤ 4 ∧ (∀ q ∈ r, (∀ e, q.1 = some e → 0 ≤ e ∧ e ≤ 1000) ∧ 0 ≤ q.2 ∧ q.2 ≤ 1000) ∧ lmiles r tons l at' = lmiles (tollL t p) tons ((c : Int) : Rat) 0) _ _ _ ⟨rfl, rfl, ((c : Int) : Rat), 0, none, none, none, none, rfl, (pb_i31 (by omega) (by omega)).mono (by omega), Rat.intCast_nonneg.mpr hc0, by omega, by rw [tollL_len]; omega, hr0, rfl⟩ ?_ ?_
  · rintro q r vs mu k' ⟨rfl, rfl, l, at', x5, x6, x7, x8, rfl, ha, hl0, hat, hr, hok, hd⟩
    simp only [List.length_cons] at hr ha
    obtain ⟨oe, pr⟩ := q
    have hq := hok (oe, pr) (by simp)
    simp only at hq
    have hpt0 : 0 ≤ pr * tons := Int.mul_nonneg hq.2.1 (by omega)
    have hpt1 : pr * tons ≤ 1000 * 1000 := Int.mul_le_mul hq.2.2 ht1 (by omega) (by omega)
    have hpt : pb 31 ((pr * tons : Int) : Rat) := pb_i31 (by omega) (by omega)
    have m1 : mulOk pr tons = true := mulOk_l (by omega) (by omega)
    have hpa : pb 31 ((at' : Int) : Rat) := pb_i31 (by omega) (by omega)
    have frt := fr1 (pr * tons)
    have hone : 0 < pr * tons → D.tup [.int 1, .int (pr * tons)] = ofR ((1 : Rat) / ((pr * tons : Int) : Rat)) := fun h => ofR_mk 1 _ h (by simp)
    have hinv : 0 < pr * tons → pb 31 ((1 : Rat) / ((pr * tons : Int) : Rat)) := fun h => pb.div (a := 1) (by omega) (by decide) (by omega)
    have e1 : 0 < pr * tons → rn.go (n + 3) 83 [ofR l, ofR ((1 : Rat) / ((pr * tons : Int) : Rat))] k' = some (ofR (l * ((1 : Rat) / ((pr * tons : Int) : Rat))), k') := fun h => l_mul _ _ (ha.sm (by omega)) ((hinv h).sm (by omega))
    have e2 : 0 < pr * tons → rn.go (n + 3) 81 [ofR ((at' : Int) : Rat), ofR (l * ((1 : Rat) / ((pr * tons : Int) : Rat)))] k' = some (ofR (((at' : Int) : Rat) + l * ((1 : Rat) / ((pr * tons : Int) : Rat))), k') := fun h => l_add _ _ (hpa.sm (by omega)) ((ha.mul (hinv h)).sm (by omega))
    simp only [lmiles] at hd
    cases oe with
    | none =>
      simp only at hd
      by_cases hz : pr * tons = 0
      · rw [if_pos hz] at hd
        simp [-Rat.intCast_mul, b_law_miles_0, tD, m1, hz, ← hd, optQ]
      · rw [if_neg hz] at hd
        have hp : 0 < pr * tons := by omega
        simp [-Rat.intCast_mul, b_law_miles_0, tD, m1, hz, ← hd, optQ, hone hp, e1 hp, e2 hp]
    | some e =>
      have he := hq.1 e rfl
      simp only at hd
      have hpe : pb 31 ((e : Int) : Rat) := pb_i31 (by omega) (by omega)
      have fre := fr1 e
      have e3 := l_sub (rn := rn) (n := n) (k := k') ((e : Int) : Rat) ((at' : Int) : Rat) (hpe.sm (by omega)) (hpa.sm (by omega))
      have e4 := l_mul (rn := rn) (n := n) (k := k') _ ((pr * tons : Int) : Rat) ((hpe.sub hpa).sm (by omega)) (hpt.sm (by omega))
      have hcp := (hpe.sub hpa).mul hpt
      have e5 := l_less (rn := rn) (n := n + 2) (k := k') l _ (ha.sm (by omega)) (hcp.sm (by omega))
      have e6 := l_sub (rn := rn) (n := n) (k := k') l _ (ha.sm (by omega)) (hcp.sm (by omega))
      by_cases hc : l < (((e : Int) : Rat) - ((at' : Int) : Rat)) * ((pr * tons : Int) : Rat)
      · rw [if_pos hc] at hd
        by_cases hz : pr * tons = 0
        · rw [hz] at hc
          have z : ((0 : Int) : Rat) = 0 := rfl
          rw [z, Rat.mul_zero] at hc
          grind
        · have hp : 0 < pr * tons := by omega
          simp [-Rat.intCast_mul, -Rat.intCast_sub, b_law_miles_0, tD, m1, ← hd, optQ, fre, frt, hone hp, e1 hp, e2 hp, e3, e4, e5, hc]
      · rw [if_neg hc] at hd
        simp [-Rat.intCast_mul, -Rat.intCast_sub, b_law_miles_0, tD, m1, fre, frt, e3, e4, e5, hc, e6]
        exact ⟨rfl, rfl, rfl, _, e, _, _, _, _, rfl, (ha.sub hcp).mono (by omega), by grind, he, by omega, fun c hc => hok c (by simp [hc]), hd⟩
  · rintro vs mu k' ⟨rfl, rfl, l, at', x5, x6, x7, x8, rfl, ha, hl0, hat, hr, hok, hd⟩
    simp only [lmiles] at hd
    simp [← hd, optQ]
end
end K73
namespace K73
open PySem Mini Mini.Win
open L2 (atI ixN)
/-! ### drying in plain Lean -/
theorem lasts_none : ∀ {l : List Int} {w t b i : Int}, (∀ d ∈ l, -10 ≤ d ∧ d ≤ 40) → 0 ≤ t → w * b * 200 ^ l.length ≤ t * tops l → lastsA w l t b i = none
  | [], _, _, _, _, _, _, _ => rfl
  | d :: r, w, t, b, i, h, ht, hle => by
    have h1 := prt_r (h d (by simp))
    have hr : ∀ d ∈ r, -10 ≤ d ∧ d ≤ 40 := fun d hd => h d (by simp [hd])
    have h2 := tops_r r hr
    have hp : (0 : Int) < 160 ^ r.length := Int.pow_pos (by decide)
    have hP : (0 : Int) < 200 ^ r.length := Int.pow_pos (by decide)
    rw [tops_cons, List.length_cons, Int.pow_succ] at hle
    have e1 : w * b * (200 ^ r.length * 200) = w * (b * 200) * 200 ^ r.length := by grind
    have e2 : t * (prt d * tops r) = t * prt d * tops r := by grind
    rw [e1, e2] at hle
    have hn : 0 ≤ t * prt d := Int.mul_nonneg ht (by omega)
    simp only [lastsA]
    rw [if_neg, lasts_none hr hn hle]
    intro hlt
    have g1 : t * prt d * tops r ≤ t * prt d * 200 ^ r.length := Int.mul_le_mul_of_nonneg_left h2.2 hn
    have g2 : t * prt d * 200 ^ r.length < w * (b * 200) * 200 ^ r.length := Int.mul_lt_mul_of_pos_right hlt hP
    omega
theorem lasts_some : ∀ {l : List Int} {w t b i : Int}, l ≠ [] → t * tops l < w * b * 200 ^ l.length → lastsA w l t b i ≠ none
  | [], _, _, _, _, h, _ => (h rfl).elim
  | d :: r, w, t, b, i, _, hlt => by
    rw [tops_cons, List.length_cons, Int.pow_succ] at hlt
    have e1 : w * b * (200 ^ r.length * 200) = w * (b * 200) * 200 ^ r.length := by grind
    have e2 : t * (prt d * tops r) = t * prt d * tops r := by grind
    rw [e1, e2] at hlt
    simp only [lastsA]
    split
    · simp
    · rename_i h
      cases r with
      | nil => simp [tops, topsA] at hlt; omega
      | cons d' r' => exact lasts_some (by simp) hlt
structure NeedOk (l : List Int) (w v : Int) : Prop where
  lo : 0 ≤ v
  hi : v ≤ 10000
  ge : w * 200 ^ l.length ≤ v * tops l
  lt : 0 < w → 0 < v ∧ (v - 1) * tops l < w * 200 ^ l.length
  z : w = 0 → v = 0
theorem need_core {B T C w : Int} (hp : 0 < T) (h2 : C ≤ T) (hB : 0 < B) (h4 : B ≤ 4 * C) (h0 : 0 ≤ w) (h1 : w ≤ 997) : ∃ v, (w * B + T - 1) / T = v ∧ 0 ≤ v ∧ v ≤ 10000 ∧ w * B ≤ v * T ∧ (0 < w → 0 < v ∧ (v - 1) * T < w * B) ∧ (w = 0 → v = 0) := by
  have hw : w * B ≤ 997 * B := Int.mul_le_mul_of_nonneg_right h1 (by omega)
  have hw0 : 0 ≤ w * B := Int.mul_nonneg h0 (by omega)
  have hX : 0 < w → 0 < w * B := fun h => Int.mul_pos h hB
  have hX0 : w = 0 → w * B = 0 := fun h => by rw [h, Int.zero_mul]
  generalize w * B = X at *
  have d1 := Int.emod_add_mul_ediv (X + T - 1) T
  have d2 := Int.emod_nonneg (X + T - 1) (show T ≠ 0 by omega)
  have d3 := Int.emod_lt_of_pos (X + T - 1) hp
  have hv0 : 0 ≤ (X + T - 1) / T := Int.ediv_nonneg (by omega) (by omega)
  refine ⟨(X + T - 1) / T, rfl, hv0, ?_⟩
  generalize (X + T - 1) / T = v at *
  generalize (X + T - 1) % T = r at *
  have hvT : T * v = v * T := Int.mul_comm _ _
  have hge : X ≤ v * T := by omega
  refine ⟨?_, hge, fun h => ?_, fun h => ?_⟩
  · refine Int.not_lt.mp fun h' => ?_
    have : T * 10001 ≤ T * v := Int.mul_le_mul_of_nonneg_left (by omega) (by omega)
    omega
  · have := hX h
    refine ⟨?_, ?_⟩
    · refine Int.not_le.mp fun h' => ?_
      have : v = 0 := by omega
      subst this
      omega
    · rw [Int.sub_mul, Int.one_mul]
      omega
  · have := hX0 h
    refine Int.le_antisymm (Int.not_lt.mp fun h' => ?_) hv0
    have : T * 1 ≤ T * v := Int.mul_le_mul_of_nonneg_left (by omega) (by omega)
    omega
theorem need_ok {l : List Int} (o : Dry l) (h5 : l.length ≤ 5) {w : Int} (h0 : 0 ≤ w) (h1 : w ≤ 997) : NeedOk l w ((w * 200 ^ l.length + tops l - 1) / tops l) := by
  have h4 : (200 : Int) ^ l.length ≤ 4 * 160 ^ l.length := by
    rcases (show l.length = 0 ∨ l.length = 1 ∨ l.length = 2 ∨ l.length = 3 ∨ l.length = 4 ∨ l.length = 5 by omega) with h | h | h | h | h | h <;> rw [h] <;> decide
  obtain ⟨v, hv, c1, c2, c3, c4, c5⟩ := need_core (w := w) (tops_pos o) (tops_r l o.r).1 (Int.pow_pos (by decide)) h4 h0 h1
  rw [hv]
  exact ⟨c1, c2, c3, c4, c5⟩
theorem left_lt {l : List Int} {w v : Int} : (((v * tops l : Int) : Rat) / ((200 ^ l.length : Int) : Rat) < ((w : Int) : Rat)) ↔ v * tops l < w * 200 ^ l.length := by
  have hB : (0 : Int) < 200 ^ l.length := Int.pow_pos (by decide)
  have := div_le (a := ((v * tops l : Int) : Rat)) (b := ((200 ^ l.length : Int) : Rat)) (x := ((w : Int) : Rat)) (cast_pos hB)
  rw [← Rat.not_le, this, ← Rat.intCast_mul, Rat.intCast_le_intCast]
  omega
theorem pb_left {l : List Int} (o : Dry l) {v : Int} (h0 : 0 ≤ v) (h1 : v ≤ 10000) : pb 220 (((v * tops l : Int) : Rat) / ((200 ^ l.length : Int) : Rat)) := by
  have h2 := pow200 o.len
  have hq := (tops_r l o.r).2
  have hp := tops_pos o
  have e1 : (200 : Int) ^ 24 ≤ 2 ^ 200 := by decide
  have e2 : v * tops l ≤ 10000 * 2 ^ 200 := Int.mul_le_mul h1 (by omega) (by omega) (by omega)
  have e3 : 0 ≤ v * tops l := Int.mul_nonneg h0 (by omega)
  have e4 : (10000 : Int) * 2 ^ 200 < 2 ^ 220 := by decide
  have e5 : (2 : Int) ^ 220 = ((2 ^ 220 : Nat) : Int) := by norm_cast
  have e6 : (2 : Int) ^ 200 = ((2 ^ 200 : Nat) : Int) := by norm_cast
  have e7 : (2 ^ 200 : Nat) < 2 ^ 220 := by decide
  refine pb.div (by omega) (by omega) (by omega)
section
variable {rn : Rn} [Runs rn ds] {n : Nat} {row : List Int} {m : Int} {k : Ky}
theorem l_sixT {rn : Rn} : True := trivial
theorem fz_optQ (o : Option Rat) : FZ 2 (optQ o) := by
  cases o with
  | none => constructor
  | some x => exact FZ.fr (m := 0) x
theorem isNon_optJ (o : Option Int) : isNonD (optJ o) = decide (o = none) := by cases o <;> simp [optJ]
theorem rest1 {l : List Int} (o : Dry l) (h5 : l.length ≤ 5) (hne : l ≠ []) {w : Int} (h0 : 0 ≤ w) (h1 : w ≤ 997) {A0 A1 A3 A4 x6 x7 x8 x9 x10 x11 x12 x13 x14 : Option D} {Q : O → Prop}
    (hQ : ∀ x6, Q (.nx ⟨[A0, A1, some (.tup (l.map .int)), A3, A4, some (.int w), x6, x7, x8, x9, x10, x11, x12, x13, x14], [], k⟩)) :
    WP (rn.go (n + 6)) WF b_law_borders_rest_1 ⟨[A0, A1, some (.tup (l.map .int)), A3, A4, some (.int w), x6, x7, x8, x9, x10, x11, x12, x13, x14], [], k⟩ Q := by
  have N := need_ok o h5 h0 h1
  have e1 := r_wneed (rn := rn) (n := n + 1) (k := k) o h0 (show w ≤ 10000 by omega)
  generalize (w * 200 ^ l.length + tops l - 1) / tops l = v at N e1
  have e2 := r_left (rn := rn) (n := n + 1) (k := k) o N.lo N.hi
  have hw : pb 31 ((w : Int) : Rat) := pb_i31 (by omega) (by omega)
  have e3 := l_less (rn := rn) (n := n + 5) (k := k) _ ((w : Int) : Rat) ((pb_left o N.lo N.hi).sm (by omega)) (hw.sm (by omega))
  have c1 : ¬ (((v * tops l : Int) : Rat) / ((200 ^ l.length : Int) : Rat) < ((w : Int) : Rat)) := fun h => by
    have := left_lt.mp h
    have := N.ge
    omega
  have e4 := r_lasts (rn := rn) (n := n + 1) (k := k) o N.lo N.hi h0 (show w ≤ 10000 by omega)
  rw [lasts_none o.r N.lo (by have := N.ge; simpa using this)] at e4
  have fw := fr1 w
  have g1 : ¬ 10000 < v := by have := N.hi; omega
  by_cases hz : 0 < v
  · have e5 := r_left (rn := rn) (n := n + 1) (k := k) o (w := v - 1) (by omega) (by omega)
    have e6 := l_less (rn := rn) (n := n + 5) (k := k) _ ((w : Int) : Rat) ((pb_left o (v := v - 1) (by omega) (by omega)).sm (by omega)) (hw.sm (by omega))
    have e7 := r_lasts (rn := rn) (n := n + 1) (k := k) o (v := v - 1) (by omega) (by omega) h0 (show w ≤ 10000 by omega)
    have hw0 : 0 < w := by
      refine Int.not_le.mp fun h => ?_
      have := N.z (by omega)
      omega
    have c2 : (((v - 1) * tops l : Int) : Rat) / ((200 ^ l.length : Int) : Rat) < ((w : Int) : Rat) := left_lt.mpr (N.lt hw0).2
    have c3 := lasts_some (l := l) (w := w) (t := v - 1) (b := 1) (i := 0) hne (by have := (N.lt hw0).2; simpa using this)
    have c4 : isNonD (optJ (lastsA w l (v - 1) 1 0)) = false := by rw [isNon_optJ]; simp [c3]
    generalize lastsA w l (v - 1) 1 0 = oo at *
    simp [-Rat.intCast_mul, -Rat.intCast_sub, -Rat.intCast_pow, b_law_borders_rest_1, e1, e2, e3, e4, e5, e6, e7, c1, c2, c4, fw, g1, hz]
    exact hQ _
  · simp [-Rat.intCast_mul, -Rat.intCast_sub, -Rat.intCast_pow, b_law_borders_rest_1, e1, e2, e3, e4, c1, fw, g1, hz]
    exact hQ _
end
end K73
namespace K73
open PySem Mini Mini.Win
open L2 (atI ixN)
theorem wth_int {b : Bnd} (o : BndOk b) {e : Int} (h0 : 0 ≤ e) (h1 : e ≤ 1000) : ∃ z : Int, 0 ≤ z ∧ z ≤ 1000 ∧ wthR b ((e : Int) : Rat) = (z : Rat) := by
  obtain ⟨b, oe, p⟩ := b
  have hlo := o.lo
  simp only at hlo
  have key : ∀ mi : Int, mi ≤ 1000 → ∃ z : Int, 0 ≤ z ∧ z ≤ 1000 ∧ (if ((mi : Int) : Rat) - ((b : Int) : Rat) < 0 then (0 : Rat) else ((mi : Int) : Rat) - ((b : Int) : Rat)) = (z : Rat) := by
    intro mi hmi
    rw [← Rat.intCast_sub]
    have : (((mi - b : Int) : Rat) < 0) ↔ mi - b < 0 := by
      have := Rat.intCast_lt_intCast (a := mi - b) (b := 0)
      exact this
    by_cases h : mi - b < 0
    · exact ⟨0, by omega, by omega, by rw [if_pos (this.mpr h)]; rfl⟩
    · exact ⟨mi - b, by omega, by omega, by rw [if_neg (fun h' => h (this.mp h'))]⟩
  unfold wthR
  cases oe with
  | none => exact key e h1
  | some v =>
    have hv := o.en v rfl
    simp only
    by_cases h : v < e
    · rw [if_pos (cast_lt h)]; exact key v (by omega)
    · rw [if_neg (fun h' => h (Rat.intCast_lt_intCast.mp h'))]; exact key e h1
theorem due_int {tons e : Int} (ht0 : 0 ≤ tons) (ht1 : tons ≤ 9) (h0 : 0 ≤ e) (h1 : e ≤ 1000) : ∀ {l : List Bnd} {a : Int}, (∀ b ∈ l, BndOk b) → 0 ≤ a → ∃ z : Int, 0 ≤ z ∧ z ≤ a + 9000000 * l.length ∧ dueA l tons ((e : Int) : Rat) ((a : Int) : Rat) = (z : Rat)
  | [], a, _, ha => ⟨a, ha, by simp, rfl⟩
  | b :: r, a, ho, ha => by
    have ob := ho b (by simp)
    obtain ⟨z, z0, z1, hz⟩ := wth_int ob h0 h1
    have p1 : 0 ≤ b.2.2 * tons := Int.mul_nonneg ob.pr.1 ht0
    have p2 : b.2.2 * tons ≤ 1000 * 9 := Int.mul_le_mul ob.pr.2 ht1 ht0 (by omega)
    have p3 : 0 ≤ b.2.2 * tons * z := Int.mul_nonneg p1 z0
    have p4 : b.2.2 * tons * z ≤ 9000 * 1000 := Int.mul_le_mul (by omega) z1 z0 (by omega)
    obtain ⟨y, y0, y1, hy⟩ := due_int ht0 ht1 h0 h1 (l := r) (a := a + b.2.2 * tons * z) (fun c hc => ho c (by simp [hc])) (by omega)
    refine ⟨y, y0, by rw [List.length_cons]; omega, ?_⟩
    rw [dueA, hz, ← hy, ← Rat.intCast_mul, ← Rat.intCast_add]
section
variable {rn : Rn} [Runs rn ds] {n : Nat} {row : List Int} {m : Int} {k : Ky}
theorem bi_maxR (y : Rat) : biSem .max [ofR y] = some (.int (if y.num < y.den then (y.den : Int) else y.num)) := rfl
@[simp] theorem isNon_optQ (o : Option Rat) : isNonD (optQ o) = decide (o = none) := by cases o <;> simp [optQ]
@[simp] theorem noL_optQ (o : Option Rat) : noL (optQ o) = true := by cases o <;> rfl
@[simp] theorem noL_tollD (t : List (Int × Int)) (p : Int) : noL (tollD t p) = true := noLs_map (fun x => by simp [tD]) _
theorem toll_up {t : List (Int × Int)} {p : Int} (o : Toll t p) : Up 0 t := up_of o.inc fun q hq => by have := (o.r q hq).1; omega
theorem rest2 {t : List (Int × Int)} {p : Int} (o : Toll t p) (hk : KOk k) {tons : Int} (ht0 : 1 ≤ tons) (ht1 : tons ≤ 9) {z mo : Int} (hz0 : 0 ≤ z) (hz1 : z ≤ 36000000) (hm0 : -1 ≤ mo) (hm1 : mo ≤ 1) {A0 A1 A2 A3 A4 A5 A6 A7 A10 x13 x14 : Option D} {Q : O → Prop}
    (hQ : ∀ x13 x14, Q (.nx ⟨[A0, A1, A2, A3, A4, A5, A6, A7, some (tollD t p), some (.int tons), A10, some (ofR (z : Rat)), some (.int mo), x13, x14], [], k⟩)) :
    WP (rn.go (n + 7)) WF b_law_borders_rest_2 ⟨[A0, A1, A2, A3, A4, A5, A6, A7, some (tollD t p), some (.int tons), A10, some (ofR (z : Rat)), some (.int mo), x13, x14], [], k⟩ Q := by
  have d1 : divOk 1 = true := divOk_of (by decide) (by decide)
  by_cases hc : 0 ≤ z + mo
  · have hup := toll_up o
    have e1 := r_milesfor (rn := rn) (n := n + 1) (k := k) o hk ht0 (show tons ≤ 1000 by omega) hc (by omega)
    have e2 := l_miles (rn := rn) (n := n + 3) (k := k) o ht0 (show tons ≤ 1000 by omega) hc (by omega)
    have hc' : (0 : Rat) ≤ ((z + mo : Int) : Rat) := Rat.intCast_nonneg.mpr hc
    have hp0 : ∀ q ∈ t, 0 ≤ q.2 := fun q hq => (o.r q hq).2.1
    have he := miles_eq (t := t) (p := p) (b := 0) (tons := tons) (l := ((z + mo : Int) : Rat)) hup hp0 o.p0.1 ht0 hc'
    rw [show (((0 : Int) : Int) : Rat) = 0 from rfl] at he
    rw [he] at e2
    have hg := fun y h => miles_ge (t := t) (p := p) (b := 0) (tons := tons) (l := ((z + mo : Int) : Rat)) (x := 0) (y := y) hup hp0 o.p0.1 ht0 hc' rfl h
    have e3 := l_so (rn := rn) (n := n + 5) (k := k) (fz_optQ (milesA (bnds 0 t p) tons ((z + mo : Int) : Rat) 0))
    generalize hM : milesA (bnds 0 t p) tons ((z + mo : Int) : Rat) 0 = M at *
    cases M with
    | none =>
      simp [-Rat.intCast_add, b_law_borders_rest_2, d1, hc, e1, e2, e3]
      exact hQ _ _
    | some y =>
      obtain ⟨hy0, hy1⟩ := hg y rfl
      have hy2 := hy1 0
      rw [show (((0 : Int) : Int) : Rat) = 0 from rfl] at hy0
      rw [Rat.zero_add] at hy2
      have hn0 : 0 ≤ y.num := Rat.num_nonneg.mpr hy0
      have h10 : boSem .pow (.int 10) (.int 6) = some (.int 1000000) := rfl
      by_cases hmx : (if y.num < y.den then (y.den : Int) else y.num) ≤ 1000000
      · have e4 := r_due (rn := rn) (n := n + 1) (k := k) o hk (tons := tons) (by omega) (show tons ≤ 1000 by omega) hn0 (by split at hmx <;> omega) (by split at hmx <;> omega)
        rw [hy2] at e4
        have fz := fr1 (z + mo)
        simp [-Rat.intCast_add, b_law_borders_rest_2, d1, hc, e1, e2, e3]
        simp [-Rat.intCast_add, -bo_pow, optQ, bi_maxR, h10, hmx, e4, fz, eqD_ofR]
        exact hQ _ _
      · simp [-Rat.intCast_add, b_law_borders_rest_2, d1, hc, e1, e2, e3]
        simp [-bo_pow, optQ, bi_maxR, h10, hmx]
        exact hQ _ _
  · simp [b_law_borders_rest_2, d1, hc]
    exact hQ _ _
end
end K73
namespace K73
open PySem Mini Mini.Win
open L2 (atI ixN)
section
variable {rn : Rn} [Runs rn ds] {n : Nat} {row : List Int} {m : Int} {k : Ky}
/-- an odd number of halves -/
def half (z : Int) (h : z % 2 = 1) : Rat := ⟨z, 2, by decide, by
  have : z.natAbs % 2 = 1 := by omega
  unfold Nat.Coprime
  rw [Nat.gcd_comm, Nat.gcd_rec, this]; rfl⟩
theorem half_due {t : List (Int × Int)} {p : Int} (o : Toll t p) (hk : KOk k) {tons : Int} (ht0 : 1 ≤ tons) (ht1 : tons ≤ 9) {z : Int} (hz : z % 2 = 1) (h0 : 0 ≤ z) (h1 : z ≤ 3000) : ∃ x : Rat, rn.go (n + 7) 54 [tollD t p, .int tons, .tup [.int z, .int 2]] k = some (ofR x, k) ∧ rn.go (n + 7) 91 [tollD t p, .int tons, .tup [.int z, .int 2]] k = some (ofR x, k) := by
  have e1 := r_due (rn := rn) (n := n + 1) (k := k) o hk (tons := tons) (by omega) (show tons ≤ 1000 by omega) (x := half z hz) (by show 0 ≤ z; omega) (by show z ≤ 1000000; omega) (by show 2 ≤ 1000000; omega)
  have e2 := l_due (rn := rn) (n := n + 3) (k := k) o (tons := tons) (by omega) (show tons ≤ 1000 by omega) (x := half z hz) ⟨by show z.natAbs < 2 ^ 31; omega, by show 2 < 2 ^ 31; omega⟩
  have hx : (0 : Rat) ≤ half z hz := Rat.num_nonneg.mp h0
  rw [ldue_eq (b := 0) (toll_up o) (by rw [if_neg (by rw [show (((0 : Int) : Int) : Rat) = 0 from rfl]; grind)]; rfl)] at e2
  exact ⟨_, e1, e2⟩
theorem rest3 {t : List (Int × Int)} {p : Int} (o : Toll t p) (h6 : ∀ q ∈ t, q.1 ≤ 600) (hk : KOk k) {tons : Int} (ht0 : 1 ≤ tons) (ht1 : tons ≤ 9) {q : Option Int × Int} (hq : q ∈ tollL t p) {A0 A1 A2 A3 A4 A5 A6 A7 x11 x12 x13 x14 : Option D} {Q : O → Prop}
    (hQ : ∀ x11 x12 x13 x14, Q (.nx ⟨[A0, A1, A2, A3, A4, A5, A6, A7, some (tollD t p), some (.int tons), some (tD q), x11, x12, x13, x14], [], k⟩)) :
    WP (rn.go (n + 7)) WF b_law_borders_rest_3 ⟨[A0, A1, A2, A3, A4, A5, A6, A7, some (tollD t p), some (.int tons), some (tD q), x11, x12, x13, x14], [], k⟩ Q := by
  rcases List.mem_append.mp hq with hq | hq
  · obtain ⟨⟨e, pr⟩, hm, rfl⟩ := List.mem_map.mp hq
    have hr := o.r _ hm
    have h600 := h6 _ hm
    simp only at hr h600
    have e1 := r_due (rn := rn) (n := n + 1) (k := k) o hk (tons := tons) (by omega) (show tons ≤ 1000 by omega) (x := ((e : Int) : Rat)) (by simp; omega) (by simp; omega) (by simp)
    obtain ⟨z, z0, z1, hz⟩ := due_int (tons := tons) (e := e) (by omega) ht1 (by omega) (by omega) (l := bnds 0 t p) (a := 0) (bnds_ok o.r o.p0 (by omega)) (by omega)
    have hlen : (bnds 0 t p).length ≤ 4 := by rw [bnds_len]; have := o.len; omega
    rw [show (((0 : Int) : Int) : Rat) = 0 from rfl] at hz
    rw [hz] at e1
    obtain ⟨x, a1, a2⟩ := half_due (rn := rn) (n := n) (k := k) o hk ht0 ht1 (z := 2 * e + 1) (by omega) (by omega) (by omega)
    obtain ⟨y, b1, b2⟩ := half_due (rn := rn) (n := n) (k := k) o hk ht0 ht1 (z := 2 * e - 1) (by omega) (by omega) (by omega)
    have fe := fr1 e
    have tg : tD (some e, pr) = D.tup [.int e, .int pr] := rfl
    simp [b_law_borders_rest_3, tg, fe, e1]
    refine fp_list [12, 13, 14] D.int (fun r vs mu k' => k' = k ∧ mu = [] ∧ (∀ mo ∈ r, -1 ≤ mo ∧ mo ≤ 1) ∧ ∃ y12 y13 y14 : Option D, vs = [y12, y13, y14]) _ [-1, 0, 1] _ ⟨rfl, rfl, by simp, x12, x13, x14, rfl⟩ ?_ ?_
    · rintro mo r vs mu k' ⟨rfl, rfl, hmo, y12, y13, y14, rfl⟩
      have := hmo mo (by simp)
      simp
      refine rest2 o hk ht0 ht1 z0 (by omega) this.1 this.2 fun y13 y14 => ?_
      simp
      exact ⟨rfl, rfl, rfl, fun mo hm => hmo mo (by simp [hm]), _, _, _, rfl⟩
    · rintro vs mu k' ⟨rfl, rfl, hmo, y12, y13, y14, rfl⟩
      simp [a1, a2, b1, b2, eqD_ofR]
      exact hQ _ _ _ _
  · simp only [List.mem_singleton] at hq
    subst hq
    simp [b_law_borders_rest_3, tD]
    exact hQ _ _ _ _
theorem days_ok (hr : row ≠ []) (hm : 0 ≤ m) {N : Nat} (hN : N ≤ 24) {A2 A3 A4 A5 A6 A7 A8 A9 A10 A11 A12 A13 A14 : Option D} {Q : List D → Ky → Prop}
    (hQ : ∀ (l : List Int) (m' : Int), 0 ≤ m' → Dry l → l.length = N → Q (l.map .int) (sp m')) : CM (rn.go (n + 7)) none e_law_borders_rest_0 (.name 3) (rngL 0 1 N) [some (.lst (row.map .int)), some (.ref 0), A2, A3, A4, A5, A6, A7, A8, A9, A10, A11, A12, A13, A14] (sp m) Q := by
  refine cm_inv (fun t : Nat => D.int (0 + (t : Int) * 1)) (fun r done k => ∃ (l : List Int) (m' : Int), done = l.map .int ∧ k = sp m' ∧ 0 ≤ m' ∧ (∀ d ∈ l, -10 ≤ d ∧ d ≤ 40) ∧ l.length + r.length = N) (List.range N) (sp m) [] Q ⟨[], m, rfl, rfl, hm, fun _ h => (by cases h), by simp⟩ ?_ ?_
  · rintro a r done k ⟨l, m', rfl, rfl, hm', ho, hl⟩
    simp only [List.length_cons] at hl
    simp [e_law_borders_rest_0]
    refine take hr hm' (by decide) fun v a0 a1 => ?_
    simp
    refine ⟨l ++ [v - 5], m' + 1, by simp, rfl, by omega, fun d hd => ?_, by simp; omega⟩
    rcases List.mem_append.mp hd with hd | hd
    · exact ho d hd
    · simp only [List.mem_singleton] at hd
      subst hd
      omega
  · rintro made k ⟨l, m', h, rfl, hm', ho, hl⟩
    rw [List.nil_append] at h
    subst h
    simp at hl
    exact hQ l m' hm' ⟨by omega, ho⟩ hl
theorem r_rest (hr : row ≠ []) (hm : 0 ≤ m) : OPQ (rn.go (n + 8) 93 [.lst (row.map .int), .ref 0] (sp m)) fun p => p.1 = .bl true := by
  refine opq_monoL (run_wpE (P := fun x k => x = .bl true) rfl rfl ?_) fun x h => h
  simp [b_law_borders_rest]
  refine take hr hm (by decide) fun cnt a0 a1 => ?_
  have h62 : rng62 (1 + cnt) = true := rng62_of (by omega) (by omega)
  simp [h62]
  refine ⟨lineOk_of (by simp [rngL]; omega), days_ok (N := (1 + cnt).toNat) hr (by omega) (by omega) fun l m1 hm1 o hl => ?_⟩
  have hn : noLs (l.map D.int) = true := noLs_mapI l
  have h5 : l.length ≤ 5 := by omega
  have hne : l ≠ [] := fun h => by rw [h] at hl; simp at hl; omega
  have e1 := r_left (rn := rn) (n := n + 2) (k := sp m1) o (w := 1) (by omega) (by omega)
  have e2 := r_left (rn := rn) (n := n + 2) (k := sp (m1 + 1)) o (w := 200) (by omega) (by omega)
  have p1 := pb_left o (v := 1) (by omega) (by omega)
  have e3 := l_mul (rn := rn) (n := n + 4) (k := sp (m1 + 1)) _ ((200 : Int) : Rat) (p1.sm (by omega)) ((pb_i31 (i := 200) (by omega) (by omega)).sm (by omega))
  have hq : ((1 * tops l : Int) : Rat) / ((200 ^ l.length : Int) : Rat) * ((200 : Int) : Rat) = ((200 * tops l : Int) : Rat) / ((200 ^ l.length : Int) : Rat) := by
    rw [Rat.intCast_mul, Rat.intCast_mul, Rat.div_def, Rat.div_def]
    have : ((1 : Int) : Rat) = 1 := rfl
    rw [this]
    grind
  rw [hq, show ((200 : Int) : Rat) = 200 from rfl] at e3
  generalize ((1 * tops l : Int) : Rat) / ((200 ^ l.length : Int) : Rat) = X1 at *
  generalize ((200 * tops l : Int) : Rat) / ((200 ^ l.length : Int) : Rat) = X2 at *
  simp [-Rat.intCast_mul, keepM, hn, e1]
  refine take hr hm1 (by decide) fun w b0 b1 => ?_
  simp [-Rat.intCast_mul]
  refine fp_list [5, 6] D.int (fun r vs mu k' => k' = sp (m1 + 1) ∧ mu = [] ∧ (∀ w ∈ r, 0 ≤ w ∧ w ≤ 997) ∧ ∃ y5 y6 : Option D, vs = [y5, y6]) _ [1, w, 997] _ ⟨rfl, rfl, by simp; omega, none, none, rfl⟩ ?_ ?_
  · rintro a r vs mu k' ⟨rfl, rfl, ha, y5, y6, rfl⟩
    have h1 := ha a (by simp)
    simp [-Rat.intCast_mul]
    refine rest1 (rn := rn) (n := n + 1) o h5 hne h1.1 h1.2 fun y6 => ?_
    simp
    exact ⟨rfl, rfl, rfl, fun w hw => ha w (by simp [hw]), _, _, rfl⟩
  rintro vs mu k' ⟨rfl, rfl, ha, y5, y6, rfl⟩
  have f200 : D.tup [.int 200, .int 1] = ofR 200 := rfl
  simp [-Rat.intCast_mul, e2, f200, e3, eqD_ofR]
  refine l_toll (rn := rn) (n := n + 2) hr (by omega) fun t p m2 hm2 ot h6 => ?_
  simp [keepM]
  refine take hr hm2 (by decide) fun tn c0 c1 => ?_
  simp [tollD]
  refine fp_list [10, 11, 12, 13, 14] tD (fun r vs mu k' => k' = sp (m2 + 1) ∧ mu = [] ∧ (∀ q ∈ r, q ∈ tollL t p) ∧ ∃ y10 y11 y12 y13 y14 : Option D, vs = [y10, y11, y12, y13, y14]) _ (tollL t p) _ ⟨rfl, rfl, fun q h => h, none, none, none, none, none, rfl⟩ ?_ ?_
  · rintro a r vs mu k' ⟨rfl, rfl, ha, y10, y11, y12, y13, y14, rfl⟩
    simp
    refine rest3 (rn := rn) (n := n) (k := sp (m2 + 1)) ot h6 rfl (by omega) (by omega) (ha a (by simp)) fun y11 y12 y13 y14 => ?_
    simp
    exact ⟨rfl, rfl, rfl, fun q hq => ha q (by simp [hq]), _, _, _, _, _, rfl⟩
  · rintro vs mu k' ⟨rfl, rfl, ha, y10, y11, y12, y13, y14, rfl⟩
    simp
end
end K73
namespace K73
open PySem Mini Mini.Win
open L2 (atI ixN)
section
variable {rn : Rn} [Runs rn ds] {n : Nat} {k : Ky}
/-! ### all choices -/
def chF (many : Nat) : Nat → List (List Int)
  | 0 => [[]]
  | i + 1 => [] :: ((chF many i).map (((many - 1 - i : Nat) : Int) :: ·) ++ (chF many i).tail)
theorem chF_len (many : Nat) : ∀ i, 1 ≤ (chF many i).length ∧ (chF many i).length ≤ 2 ^ i
  | 0 => by simp [chF]
  | i + 1 => by
    have := chF_len many i
    simp only [chF, List.length_cons, List.length_append, List.length_map, List.length_tail, Nat.pow_succ]
    omega
def tupI (l : List Int) : D := .tup (l.map .int)
theorem chF_short (many : Nat) : ∀ i, ∀ c ∈ chF many i, c.length ≤ i
  | 0 => by simp [chF]
  | i + 1 => by
    have ih := chF_short many i
    intro c hc
    simp only [chF, List.mem_cons, List.mem_append, List.mem_map] at hc
    rcases hc with rfl | ⟨c', hc', rfl⟩ | hc
    · simp
    · have := ih c' hc'; simp; omega
    · have := ih c (List.mem_of_mem_tail hc); omega
theorem r_choices {N : Nat} (hN : N ≤ 8) : rn.go (n + 1) 18 [.int N] k = some (.lst ((chF N N).map tupI), k) := by
  refine run_wp rfl rfl ?_
  have h62 : rng62 (N : Int) = true := rng62_of (by omega) (by omega)
  have hrev : (rngL 0 1 N) = (List.range N).map fun t : Nat => D.int t := by
    unfold rngL
    exact List.map_congr_left fun t _ => by simp
  simp [ball_choices, newS, revrD, h62, hrev]
  rw [← List.map_reverse]
  refine fp_at [1, 2, 3] (fun t : Nat => D.int t) (fun i vs mu k' => k' = k ∧ ∃ x2 x3 : Option D, vs = [some (.lst ((chF N i).map tupI)), x2, x3]) _ (List.range N).reverse _ ⟨rfl, none, none, rfl⟩ ?_ ?_
  · rintro i hi vs mu k' ⟨rfl, x2, x3, rfl⟩
    simp only [List.length_reverse, List.length_range] at hi
    have hL := chF_len N i
    have hp : 2 ^ i ≤ 2 ^ 8 := Nat.pow_le_pow_right (by omega) (by omega)
    simp at hp
    have l1 : lineOk (chF N i).length = true := lineOk_of (by omega)
    have l2 : lineOk (1 + (chF N i).length) = true := lineOk_of (by omega)
    have hg : (List.range N).reverse[i]'(by simpa using hi) = N - 1 - i := by simp
    rw [hg]
    simp [ball_choices_1, l1]
    refine cm_map tupI (fun c => tupI (((N - 1 - i : Nat) : Int) :: c)) (chF N i) (fun c hc => ?_) ?_
    · have := chF_short N i c hc
      simp [eall_choices_0, tupI, lineOk_of (show 1 + c.length ≤ 16777216 by omega)]
    · have l3 : lineOk (1 + (List.map (fun c => tupI (((N - 1 - i : Nat) : Int) :: c)) (chF N i)).length) = true := by rw [List.length_map]; exact l2
      have l4 : lineOk ((chF N i).length + 1 + ((chF N i).length - 1)) = true := lineOk_of (by omega)
      simp [l2, sliSem, cutD_1, l4]
      exact ⟨rfl, rfl, _, _, by simp [chF, pick, tupI, Function.comp_def]; exact ⟨rfl, rfl⟩⟩
  · rintro vs mu k' ⟨rfl, x2, x3, rfl⟩
    simp
end
section
variable {rn : Rn} [Runs rn ds] {n : Nat} {row : List Int} {m : Int} {k : Ky}
/-! ### the gauge -/
def gg : List Kn := [(3, 2), (10, 9), (30, 12)]
def gt' : List Kn := [(2, 3), (9, 10), (12, 30)]
theorem tab_gg : Tab gg := ⟨by decide, by decide, by decide, fun i hi => by
  simp only [gg, List.length_cons, List.length_nil] at hi
  rcases (show i = 0 ∨ i = 1 by omega) with rfl | rfl <;> decide⟩
theorem tab_gt : Tab gt' := ⟨by decide, by decide, by decide, fun i hi => by
  simp only [gt', List.length_cons, List.length_nil] at hi
  rcases (show i = 0 ∨ i = 1 by omega) with rfl | rfl <;> decide⟩
theorem r_gauge : rn.go (n + 5) 33 [tabD gg] k = some (.bl true, k) := by
  have e1 : rn.go (n + 4) 27 [tabD gg, .int 2, .int 8, .tup [.tup [.int 0, .int 10000], .tup [.int 0, .int 10000]]] k = some (.bl true, k) :=
    r_rows (fun x : Kn => [x.1, x.2]) gg 2 8 [(0, 10000), (0, 10000)] (by simp) (fun x _ => rfl) (by decide) (by decide) (by decide) (by decide)
  have e2 : rn.go (n + 4) 28 [.lst (([3, 10, 30] : List Int).map .int)] k = some (.bl true, k) := r_rising _ (by decide) (fun i hi => by
    simp only [List.length_cons, List.length_nil] at hi
    rcases (show i = 0 ∨ i = 1 by omega) with rfl | rfl <;> simp)
  have e3 : rn.go (n + 4) 28 [.lst (([2, 9, 12] : List Int).map .int)] k = some (.bl true, k) := r_rising _ (by decide) (fun i hi => by
    simp only [List.length_cons, List.length_nil] at hi
    rcases (show i = 0 ∨ i = 1 by omega) with rfl | rfl <;> simp)
  refine run_wp rfl rfl ?_
  simp [bis_gauge, e1]
  simp [tabD, gg, -List.map_cons]
  refine cm_map pairD (fun p => .int p.1) gg (fun p hp => ?_) ?_
  · simp [eis_gauge_0]
  simp [gg]
  simp at e2 e3
  simp [e2]
  refine cm_map pairD (fun p => .int p.2) gg (fun p hp => ?_) ?_
  · simp [eis_gauge_1]
  simp [gg, e3]
theorem fz_gg : FZ 3 (tabD gg) := fz_tab tab_gg
theorem r_turned : rn.go (n + 1) 12 [tabD gg] k = some (tabD gt', k) := by
  refine run_wp rfl rfl ?_
  simp [bturned, tabD, gg]
  refine cm_map pairD (fun p => pairD (p.2, p.1)) gg (fun p hp => ?_) ?_
  · simp [eturned_0, pairD]
  simp [gg, gt']
def depR (x : Rat) : Option Rat := if (3 : Rat) ≤ x ∧ x ≤ 30 then some (if x ≤ 10 then hgt (3, 2) (10, 9) x else hgt (10, 9) (30, 12) x) else none
def litR (x : Rat) : Option Rat := if (2 : Rat) ≤ x ∧ x ≤ 12 then some (if x ≤ 9 then hgt (2, 3) (9, 10) x else hgt (9, 10) (12, 30) x) else none
theorem at_gg {x : Rat} (h0 : (3 : Rat) ≤ x) (h1 : x ≤ 30) : At gg x (if x ≤ 10 then 0 else 1) := by
  have z : ((10 : Int) : Rat) = 10 := rfl
  split
  · rename_i h
    exact ⟨by decide, h0, fun i h1 h2 => by omega, h⟩
  · rename_i h
    refine ⟨by decide, ?_, fun i a b => ?_, h1⟩
    · show ((10 : Int) : Rat) ≤ x; rw [z]; grind
    · have : i = 1 := by omega
      subst this
      show ((10 : Int) : Rat) < x; rw [z]; grind
theorem at_gt {x : Rat} (h0 : (2 : Rat) ≤ x) (h1 : x ≤ 12) : At gt' x (if x ≤ 9 then 0 else 1) := by
  have z : ((9 : Int) : Rat) = 9 := rfl
  split
  · rename_i h
    exact ⟨by decide, h0, fun i h1 h2 => by omega, h⟩
  · rename_i h
    refine ⟨by decide, ?_, fun i a b => ?_, h1⟩
    · show ((9 : Int) : Rat) ≤ x; rw [z]; grind
    · have : i = 1 := by omega
      subst this
      show ((9 : Int) : Rat) < x; rw [z]; grind
theorem r_read_gg {x : Rat} (hx : pb 300 x) : rn.go (n + 5) 34 [tabD gg, ofR x] k = some (optR (depR x), k) := by
  refine run_wp rfl rfl ?_
  have e1 := r_covers (rn := rn) (n := n + 2) (k := k) tab_gg (x := x) (hx.sm (by omega))
  have c1 : ((kn gg 0).1 : Rat) = 3 := rfl
  have c2 : ((kn gg (gg.length - 1)).1 : Rat) = 30 := rfl
  rw [c1, c2] at e1
  unfold depR
  by_cases h : (3 : Rat) ≤ x ∧ x ≤ 30
  · have e2 := r_height (rn := rn) (n := n) (k := k) tab_gg hx (by omega) (at_gg h.1 h.2)
    rw [if_pos h]
    by_cases h10 : x ≤ 10
    · rw [if_pos h10] at e2 ⊢
      simp [bread_off, e1, h, e2, optR]; rfl
    · rw [if_neg h10] at e2 ⊢
      simp [bread_off, e1, h, e2, optR]; rfl
  · rw [if_neg h]
    have : (decide ((3 : Rat) ≤ x) && decide (x ≤ 30)) = false := by simpa using h
    rw [this] at e1
    simp [bread_off, e1, optR]
theorem r_read_gt {x : Rat} (hx : pb 300 x) : rn.go (n + 5) 34 [tabD gt', ofR x] k = some (optR (litR x), k) := by
  refine run_wp rfl rfl ?_
  have e1 := r_covers (rn := rn) (n := n + 2) (k := k) tab_gt (x := x) (hx.sm (by omega))
  have c1 : ((kn gt' 0).1 : Rat) = 2 := rfl
  have c2 : ((kn gt' (gt'.length - 1)).1 : Rat) = 12 := rfl
  rw [c1, c2] at e1
  unfold litR
  by_cases h : (2 : Rat) ≤ x ∧ x ≤ 12
  · have e2 := r_height (rn := rn) (n := n) (k := k) tab_gt hx (by omega) (at_gt h.1 h.2)
    rw [if_pos h]
    by_cases h10 : x ≤ 9
    · rw [if_pos h10] at e2 ⊢
      simp [bread_off, e1, h, e2, optR]; rfl
    · rw [if_neg h10] at e2 ⊢
      simp [bread_off, e1, h, e2, optR]; rfl
  · rw [if_neg h]
    have : (decide ((2 : Rat) ≤ x) && decide (x ≤ 12)) = false := by simpa using h
    rw [this] at e1
    simp [bread_off, e1, optR]
theorem r_depth {x : Rat} (h1 : -1000000 ≤ x.num) (h2 : x.num ≤ 1000000) (h3 : x.den ≤ 1000000) : rn.go (n + 6) 35 [tabD gg, ofR x] k = some (optR (depR x), k) := by
  refine run_wp rfl rfl ?_
  have hx : pb 300 x := (show pb 31 x from ⟨by omega, by omega⟩).mono (by omega)
  simp [bdepth_of, r_gauge, r_need, r_frac x h1 h2 h3, r_frozen (rn := rn) (n := n + 2) fz_gg, r_frozen (rn := rn) (n := n + 3) (FZ.fr (m := 0) x), r_read_gg hx]
theorem r_litres {x : Rat} (h1 : -1000000 ≤ x.num) (h2 : x.num ≤ 1000000) (h3 : x.den ≤ 1000000) : rn.go (n + 6) 36 [tabD gg, ofR x] k = some (optR (litR x), k) := by
  refine run_wp rfl rfl ?_
  have hx : pb 300 x := (show pb 31 x from ⟨by omega, by omega⟩).mono (by omega)
  simp [blitres_at, r_gauge, r_need, r_frac x h1 h2 h3, r_frozen (rn := rn) (n := n + 2) fz_gg, r_frozen (rn := rn) (n := n + 3) (FZ.fr (m := 0) x), r_turned, r_read_gt hx]
def roomI (d : Int) : Option Int := if 2 > d then none else if d ≥ 12 then some 27 else if d ≤ 9 then some (d - 2) else if d = 10 then some 13 else some 20
theorem hgt_gt {d : Int} (h0 : 2 ≤ d) (h1 : d < 12) : ∃ x : Rat, litR ((d : Int) : Rat) = some x ∧ x.num / x.den = (if d ≤ 9 then d + 1 else if d = 10 then 16 else 23) ∧ 0 < x.den ∧ x.den < 100 := by
  rcases (show d = 2 ∨ d = 3 ∨ d = 4 ∨ d = 5 ∨ d = 6 ∨ d = 7 ∨ d = 8 ∨ d = 9 ∨ d = 10 ∨ d = 11 by omega) with rfl | rfl | rfl | rfl | rfl | rfl | rfl | rfl | rfl | rfl <;> exact ⟨_, rfl, by decide +kernel, by decide +kernel, by decide +kernel⟩
theorem r_room {d : Int} (h0 : 0 ≤ d) (h1 : d ≤ 100) : rn.go (n + 5) 37 [tabD gg, .int d] k = some (optI (roomI d), k) := by
  refine run_wp rfl rfl ?_
  have i0 : ∀ k : Ky, idxSem k (tabD gg) (.int 0) = some (.tup [.int 3, .int 2]) := fun k => rfl
  have i2 : ∀ k : Ky, idxSem k (tabD gg) (.int (-1)) = some (.tup [.int 30, .int 12]) := fun k => rfl
  by_cases a : 2 > d
  · simp [broom_above, i0, roomI, a, optI]
  · by_cases b : d ≥ 12
    · simp [broom_above, i0, i2, roomI, a, b, optI]
    · obtain ⟨x, e1, e2, e3, e4⟩ := hgt_gt (d := d) (by omega) (by omega)
      have hd : pb 300 ((d : Int) : Rat) := (pb_i31 (by omega) (by omega)).mono (by omega)
      have hdR : (2 : Rat) ≤ ((d : Int) : Rat) := cast_le (i := 2) (by omega)
      have hdR2 : ((d : Int) : Rat) ≤ 12 := cast_le (j := 12) (by omega)
      have e5 := r_height (rn := rn) (n := n) (k := k) tab_gt hd (by omega) (at_gt hdR hdR2)
      have e6 : ofR (hgt (kn gt' (if ((d : Int) : Rat) ≤ 9 then 0 else 1)) (kn gt' ((if ((d : Int) : Rat) ≤ 9 then 0 else 1) + 1)) ((d : Int) : Rat)) = ofR x := by
        unfold litR at e1
        rw [if_pos ⟨hdR, hdR2⟩] at e1
        simp only [Option.some.injEq] at e1
        rw [← e1]
        split <;> rfl
      rw [e6] at e5
      have ef : rn.go (n + 4) 10 [ofR x] k = some (.int (x.num / x.den), k) := by
        refine run_wp (n := n + 3) rfl rfl ?_
        simp [bf_floor, divOk_of (show (0 : Int) < (x.den : Int) by omega) (show (x.den : Int) < 18446744073709551616 by omega)]
      rw [e2] at ef
      have h2' : ¬ d < 2 := by omega
      have h12 : ¬ 12 ≤ d := by omega
      by_cases h9 : d ≤ 9
      · rw [if_pos h9] at ef
        simp [broom_above, i0, i2, roomI, h2', h12, optI, r_fwhole, r_turned, e5, ef, h9]
        omega
      · rw [if_neg h9] at ef
        by_cases h10 : d = 10
        · rw [if_pos h10] at ef
          simp [broom_above, i0, i2, roomI, h2', h12, optI, r_fwhole, r_turned, e5, ef, h9]
          simp [h10]
        · rw [if_neg h10] at ef
          simp [broom_above, i0, i2, roomI, h2', h12, optI, r_fwhole, r_turned, e5, ef, h9, h10]
end
end K73
namespace K73
open PySem Mini Mini.Win
open L2 (atI ixN)
section
variable {rn : Rn} [Runs rn ds] {n : Nat} {row : List Int} {m : Int} {k : Ky}
/-! ### cans -/
def canV (cs : List Int) (j : Int) : Int := cs.getD j.toNat 0
def canS (cs : List Int) (s : List Int) : Int := (s.map (canV cs)).sum
def mpA (cs : List Int) (room : Int) : List (List Int) → Int × List Int → Int × List Int
  | [], st => st
  | c :: r, st => mpA cs room r (if canS cs c > room then st else if canS cs c > st.1 ∨ (canS cs c = st.1 ∧ c.length < st.2.length) then (canS cs c, c) else st)
def mpD (o : Option (Int × List Int)) : D := match o with | none => .non | some p => .tup [.int p.1, tupI p.2]
def inR (N : Nat) (c : List Int) : Prop := ∀ j ∈ c, 0 ≤ j ∧ j < N
theorem chF_in (N : Nat) : ∀ i, i ≤ N → ∀ c ∈ chF N i, inR N c
  | 0, _ => by simp [chF, inR]
  | i + 1, hi => by
    have ih := chF_in N i (by omega)
    intro c hc
    simp only [chF, List.mem_cons, List.mem_append, List.mem_map] at hc
    rcases hc with rfl | ⟨c', hc', rfl⟩ | hc
    · intro j hj; cases hj
    · intro j hj
      rcases List.mem_cons.mp hj with rfl | hj
      · omega
      · exact ih c' hc' j hj
    · exact ih c (List.mem_of_mem_tail hc)
theorem can_at {cs : List Int} {j : Int} (h0 : 0 ≤ j) (h1 : j < cs.length) : atI (cs.map D.int) j = some (.int (canV cs j)) := by
  unfold canV
  obtain ⟨i, rfl⟩ : ∃ i : Nat, j = i := ⟨j.toNat, by omega⟩
  rw [atI_nat]
  have : i < cs.length := by omega
  simp [List.getElem?_eq_getElem this]
theorem r_loads {l : List Int} (h1 : 1 ≤ l.length) (h2 : l.length ≤ 6) (hr : ∀ x ∈ l, 1 ≤ x ∧ x ≤ 1000) : rn.go (n + 4) 32 [.tup (l.map .int)] k = some (.bl true, k) := by
  refine run_wp rfl rfl ?_
  have h := x_wholes (rn := rn) (n := n) (f := 25) (q := 23) (i := 21) (j := 20) (k := k) rfl rfl rfl rfl l 1 6 1 1000 (by omega) (by omega) (by omega) hr
  simp [bare_loads, h]
theorem tr_opt (o : Option Int) : isNonD (optI o) = decide (o = none) := by cases o <;> simp [optI]
theorem r_poured {cs : List Int} (h1 : 1 ≤ cs.length) (h2 : cs.length ≤ 6) (hr : ∀ x ∈ cs, 1 ≤ x ∧ x ≤ 1000) {d : Int} (d0 : 0 ≤ d) (d1 : d ≤ 100) : rn.go (n + 6) 38 [tabD gg, .tup (cs.map .int), .int d] k = some (mpD ((roomI d).map fun r => mpA cs r (chF cs.length cs.length) (0, [])), k) := by
  refine run_wp rfl rfl ?_
  have e1 := r_loads (rn := rn) (n := n + 1) (k := k) h1 h2 hr
  have e2 := r_room (rn := rn) (n := n) (k := k) d0 d1
  have hl : cs.length ≤ 8 := by omega
  have e3 := r_choices (rn := rn) (n := n + 4) (k := k) hl
  cases ho : roomI d with
  | none =>
    rw [ho] at e2
    simp [bmost_poured, r_gauge, r_need, e1, r_whole, d0, show d ≤ 10000 by omega, r_frozen (rn := rn) (n := n + 2) fz_gg, e2, optI, mpD]
  | some room =>
    rw [ho] at e2
    simp [bmost_poured, r_gauge, r_need, e1, r_whole, d0, show d ≤ 10000 by omega, r_frozen (rn := rn) (n := n + 2) fz_gg, e2, optI, e3]
    refine fp_list [4, 5, 6, 7, 8] tupI (fun r vs mu k' => k' = k ∧ mu = [] ∧ (∀ c ∈ r, inR cs.length c ∧ c.length ≤ 6) ∧ ∃ (st : Int × List Int) (x6 x7 x8 : Option D), mpA cs room r st = mpA cs room (chF cs.length cs.length) (0, []) ∧ vs = [some (.int st.1), some (tupI st.2), x6, x7, x8]) _ _ _ ⟨rfl, rfl, fun c hc => ⟨chF_in _ _ (Nat.le_refl _) c hc, by have := chF_short _ _ c hc; omega⟩, (0, []), none, none, none, rfl, rfl⟩ ?_ ?_
    · rintro c r vs mu k' ⟨rfl, rfl, hc, st, x6, x7, x8, hm, rfl⟩
      obtain ⟨hin, hlen⟩ := hc c (by simp)
      have hrest : ∀ c' ∈ r, inR cs.length c' ∧ c'.length ≤ 6 := fun c' h => hc c' (by simp [h])
      simp only [mpA] at hm
      simp [bmost_poured_1, tupI, lineOk_of (show c.length ≤ 16777216 by omega)]
      refine cm_map D.int (fun j => .int (canV cs j)) c (fun j hj => ?_) ?_
      · simp [emost_poured_0, can_at (hin j hj).1 (hin j hj).2]
      have hs : (c.map (canV cs)).sum = canS cs c := rfl
      by_cases g1 : canS cs c > room
      · rw [if_pos g1] at hm
        simp [hs, g1]
        exact ⟨rfl, rfl, rfl, hrest, st, _, _, _, hm, rfl⟩
      · rw [if_neg g1] at hm
        have g1' : ¬ room < canS cs c := g1
        by_cases g2 : canS cs c > st.1
        · rw [if_pos (.inl g2)] at hm
          have g2' : st.1 < canS cs c := g2
          simp [hs, g1', g2']
          exact ⟨rfl, rfl, rfl, hrest, (canS cs c, c), _, _, _, hm, rfl⟩
        · have g2' : ¬ st.1 < canS cs c := g2
          by_cases g3 : canS cs c = st.1 ∧ c.length < st.2.length
          · rw [if_pos (.inr g3)] at hm
            simp [hs, g3.1, tupI, g3.2, show ¬ room < st.1 by omega]
            exact ⟨rfl, rfl, rfl, hrest, (canS cs c, c), _, _, _, hm, by rw [← g3.1]; rfl⟩
          · rw [if_neg (by intro h; rcases h with h | h; exact g2 h; exact g3 h)] at hm
            by_cases g4 : canS cs c = st.1
            · have g5 : ¬ c.length < st.2.length := fun h => g3 ⟨g4, h⟩
              simp [hs, g4, tupI, g5, show ¬ room < st.1 by omega]
              exact ⟨rfl, rfl, rfl, hrest, st, _, _, _, hm, rfl⟩
            · simp [hs, g1', g2', g4]
              exact ⟨rfl, rfl, rfl, hrest, st, _, _, _, hm, rfl⟩
    · rintro vs mu k' ⟨rfl, rfl, hc, st, x6, x7, x8, hm, rfl⟩
      simp only [mpA] at hm
      simp [← hm, mpD]
/-! ### the law's sets -/
def setsA : List Int → List (List Int) → List (List Int)
  | [], a => a
  | x :: r, a => setsA r (a ++ a.map (· ++ [x]))
def lstI (l : List Int) : D := .lst (l.map .int)
theorem l_sets {l : List Int} (hl : l.length ≤ 12) : rn.go (n + 1) 79 [.lst (l.map .int)] k = some (.lst ((setsA l [[]]).map lstI), k) := by
  refine run_wp rfl rfl ?_
  simp [b_law_sets, newS]
  refine fp_list [1, 2, 3] D.int (fun r vs mu k' => k' = k ∧ ∃ (a : List (List Int)) (x2 x3 : Option D), setsA r a = setsA l [[]] ∧ a.length = 2 ^ (l.length - r.length) ∧ r.length ≤ l.length ∧ (∀ s ∈ a, s.length ≤ l.length - r.length) ∧ vs = [some (.lst (a.map lstI)), x2, x3]) _ _ _ ⟨rfl, [[]], none, none, rfl, by simp, Nat.le_refl _, by simp, rfl⟩ ?_ ?_
  · rintro x r vs mu k' ⟨rfl, a, x2, x3, hs, ha, hr, hsl, rfl⟩
    simp only [List.length_cons] at ha hr hsl
    have hp : 2 ^ (l.length - (r.length + 1)) ≤ 2 ^ 12 := Nat.pow_le_pow_right (by omega) (by omega)
    simp at hp
    simp [b_law_sets_1, lineOk_of (show a.length ≤ 16777216 by omega)]
    refine cm_map lstI (fun s => lstI (s ++ [x])) a (fun s hs' => ?_) ?_
    · have := hsl s hs'
      simp [e_law_sets_0, lstI, lineOk_of (show s.length + 1 ≤ 16777216 by omega)]
    · simp [lineOk_of (show a.length + a.length ≤ 16777216 by omega)]
      refine ⟨rfl, rfl, a ++ a.map (· ++ [x]), _, _, hs, ?_, by omega, fun s hs' => ?_, by simp [pick, lstI, Function.comp_def]; exact ⟨rfl, rfl⟩⟩
      · have : l.length - r.length = (l.length - (r.length + 1)) + 1 := by omega
        rw [this, Nat.pow_succ, List.length_append, List.length_map]; omega
      · rcases List.mem_append.mp hs' with h | h
        · have := hsl s h; omega
        · obtain ⟨t, ht, rfl⟩ := List.mem_map.mp h
          have := hsl t ht
          simp; omega
  · rintro vs mu k' ⟨rfl, a, x2, x3, hs, ha, hr, hsl, rfl⟩
    simp only [setsA] at hs
    subst hs
    simp
end
end K73
namespace K73
open PySem Mini Mini.Win
open L2 (atI ixN)
def okI (d L : Int) : Bool := decide (3 ≤ L) && decide (L ≤ 30) && (if L ≤ 10 then decide (L - 1 ≤ d) else decide (150 + 3 * L ≤ 20 * d))
theorem dep_none {L : Int} (h : ¬ (3 ≤ L ∧ L ≤ 30)) : depR ((L : Int) : Rat) = none := by
  unfold depR
  rw [if_neg]
  intro h2
  have a : ((3 : Int) : Rat) ≤ L := h2.1
  have b : (L : Rat) ≤ ((30 : Int) : Rat) := h2.2
  exact h ⟨Rat.intCast_le_intCast.mp a, Rat.intCast_le_intCast.mp b⟩
theorem dep_some {L : Int} (h : 3 ≤ L ∧ L ≤ 30) : ∃ y, depR ((L : Int) : Rat) = some y ∧ pb 200 y ∧ ∀ d : Int, (((d : Int) : Rat) < y ↔ okI d L = false) := by
  have a : (3 : Rat) ≤ L := cast_le (i := 3) h.1
  have b : (L : Rat) ≤ 30 := cast_le (j := 30) h.2
  by_cases h10 : L ≤ 10
  · have c : (L : Rat) ≤ 10 := cast_le (j := 10) h10
    refine ⟨hgt (3, 2) (10, 9) L, by unfold depR; rw [if_pos ⟨a, b⟩, if_pos c], ?_⟩
    have e : hgt (3, 2) (10, 9) L = ((L - 1 : Int) : Rat) := by
      show (2 : Rat) + ((L : Rat) - 3) * (((7 : Int) : Rat) / ((7 : Int) : Rat)) = _
      have : ((7 : Int) : Rat) / ((7 : Int) : Rat) = 1 := by decide +kernel
      rw [this, Rat.intCast_sub]
      have : ((1 : Int) : Rat) = 1 := rfl
      rw [this]; grind
    rw [e]
    refine ⟨(pb_i31 (by omega) (by omega)).mono (by omega), fun d => ?_⟩
    rw [Rat.intCast_lt_intCast]
    simp only [okI, h.1, h.2, decide_true, Bool.and_self, Bool.true_and, h10, if_true, decide_eq_false_iff_not]
    omega
  · have c : ¬ (L : Rat) ≤ 10 := fun h' => h10 ((Rat.intCast_le_intCast (a := L) (b := 10)).mp h')
    refine ⟨hgt (10, 9) (30, 12) L, by unfold depR; rw [if_pos ⟨a, b⟩, if_neg c], ?_⟩
    have e : hgt (10, 9) (30, 12) L = (9 : Rat) + ((L : Rat) - 10) * (3 / 20) := rfl
    refine ⟨?_, fun d => ?_⟩
    · have p31 : pb 31 ((L : Int) : Rat) := pb_i31 (by omega) (by omega)
      have g1 : pb 31 ((9 : Int) : Rat) := pb_i31 (by omega) (by omega)
      have g2 : pb 31 ((10 : Int) : Rat) := pb_i31 (by omega) (by omega)
      have g3 : pb 31 (((3 : Int) : Rat) / ((20 : Int) : Rat)) := pb.div (by decide) (by decide) (by decide)
      exact (g1.add ((p31.sub g2).mul g3)).mono (by omega)
    have e2 : ((d : Int) : Rat) < hgt (10, 9) (30, 12) L ↔ ((20 * d : Int) : Rat) < ((150 + 3 * L : Int) : Rat) := by
      rw [e, Rat.intCast_mul, Rat.intCast_add, Rat.intCast_mul]
      have q1 : ((20 : Int) : Rat) = 20 := rfl
      have q2 : ((150 : Int) : Rat) = 150 := rfl
      have q3 : ((3 : Int) : Rat) = 3 := rfl
      rw [q1, q2, q3]
      constructor <;> intro h <;> grind
    rw [e2, Rat.intCast_lt_intCast]
    simp only [okI, h.1, h.2, decide_true, Bool.and_self, Bool.true_and, h10, if_false, decide_eq_false_iff_not]
    omega
def keyD (cs : List Int) (s : List Int) : D := .tup [.int (3 - (3 + canS cs s)), .int s.length, .tup (s.map .int)]
def ltK (cs : List Int) (a b : List Int) : Bool :=
  if decide (3 - (3 + canS cs a) = 3 - (3 + canS cs b)) = true then (if decide ((a.length : Int) = b.length) = true then (if decide (a = b) = true then false else ltLs (fun a b : Int => decide (a < b)) (fun a b : Int => decide (a = b)) a b) else decide ((a.length : Int) < b.length)) else decide (3 - (3 + canS cs a) < 3 - (3 + canS cs b))
theorem kKey (cs : List Int) : Kd 2 (keyD cs) (ltK cs) (fun a b => decide (3 - (3 + canS cs a) = 3 - (3 + canS cs b)) && (decide ((a.length : Int) = b.length) && (decide (a = b) && true))) :=
  kTup (kCons (kInt.comp fun s => 3 - (3 + canS cs s)) (kCons (kInt.comp fun s : List Int => (s.length : Int)) (kCons kInts kNil)))
def stepB (cs : List Int) (d : Int) (s : List Int) (best : Option (List Int)) : Option (List Int) :=
  if okI d (3 + canS cs s) = true then (match best with | none => some s | some b => if ltK cs s b = true then some s else some b) else best
def bestA (cs : List Int) (d : Int) : List (List Int) → Option (List Int) → Option (List Int)
  | [], b => b
  | s :: r, b => bestA cs d r (stepB cs d s b)
def bestD (cs : List Int) : Option (List Int) → D | none => .non | some s => keyD cs s
section
variable {rn : Rn} [Runs rn ds] {n : Nat} {row : List Int} {m : Int} {k : Ky}
theorem cans9 {cs : List Int} (hcs : cs.length ≤ 6) (hr : ∀ x ∈ cs, 1 ≤ x ∧ x ≤ 1000) {d : Int} (d0 : 0 ≤ d) (d1 : d ≤ 100) {s : List Int} (hs : inR cs.length s) (hsl : s.length ≤ 6) {b : Option (List Int)} {A0 A1 A2 A3 A4 A5 A6 A7 A8 A9 A10 A11 A12 A13 A14 A15 A16 A17 A18 A19 A25 A26 A27 A28 : Option D} {Q : O → Prop}
    (hQ : ∀ A25 A26 A27 A28, Q (.nx ⟨[A0, A1, A2, A3, A4, A5, A6, A7, A8, A9, A10, A11, A12, A13, A14, A15, A16, A17, A18, A19, some (tabD gg), some (.tup (cs.map .int)), some (.int d), some (bestD cs (stepB cs d s b)), some (lstI s), A25, A26, A27, A28], [], k⟩)) :
    WP (rn.go (n + 6)) WF blaw_9 ⟨[A0, A1, A2, A3, A4, A5, A6, A7, A8, A9, A10, A11, A12, A13, A14, A15, A16, A17, A18, A19, some (tabD gg), some (.tup (cs.map .int)), some (.int d), some (bestD cs b), some (lstI s), A25, A26, A27, A28], [], k⟩ Q := by
  have hS : 0 ≤ canS cs s ∧ canS cs s ≤ 6 * 1000 := by
    have key : ∀ s : List Int, inR cs.length s → 0 ≤ canS cs s ∧ canS cs s ≤ s.length * 1000 := by
      intro s
      induction s with
      | nil => intro _; simp [canS]
      | cons j r ih =>
        intro h
        have h1 := ih fun j hj => h j (by simp [hj])
        have hj := h j (by simp)
        have h2 : 1 ≤ canV cs j ∧ canV cs j ≤ 1000 := by
          unfold canV
          have hlt : j.toNat < cs.length := by omega
          rw [List.getD_eq_getElem?_getD, List.getElem?_eq_getElem hlt]
          exact hr _ (List.getElem_mem hlt)
        simp only [canS, List.map_cons, List.sum_cons, List.length_cons] at h1 ⊢
        omega
    have := key s hs
    omega
  have e1 := r_depth (rn := rn) (n := n) (k := k) (x := ((3 + canS cs s : Int) : Rat)) (by simp [-Rat.intCast_add]; omega) (by simp [-Rat.intCast_add]; omega) (by simp [-Rat.intCast_add])
  have f1 := fr1 (3 + canS cs s)
  have fd := fr1 d
  have hsum : (s.map (canV cs)).sum = canS cs s := rfl
  simp [blaw_9, lstI, lineOk_of (show s.length ≤ 16777216 by omega)]
  refine cm_map D.int (fun j => .int (canV cs j)) s (fun j hj => ?_) ?_
  · simp [elaw_8, can_at (hs j hj).1 (hs j hj).2]
  by_cases hL : 3 ≤ 3 + canS cs s ∧ 3 + canS cs s ≤ 30
  · obtain ⟨y, hy, hyp, hd⟩ := dep_some hL
    rw [hy] at e1
    have el := l_less (rn := rn) (n := n + 5) (k := k) ((d : Int) : Rat) y ((pb_i31 (i := d) (by omega) (by omega)).sm (by omega)) (hyp.sm (by omega))
    have hdd := hd d
    by_cases ho : okI d (3 + canS cs s) = true
    · have hlt : ¬ ((d : Int) : Rat) < y := fun h => by rw [hdd.mp h] at ho; cases ho
      simp only [stepB, ho, if_true] at hQ
      cases b with
      | none =>
        simp only [bestD, keyD] at hQ
        simp [-Rat.intCast_add, hsum, f1, e1, optR, fd, el, hlt, bestD, lineOk_of (show s.length ≤ 16777216 by omega)]
        exact hQ _ _ _ _
      | some b =>
        have ek := co_ltT (kKey cs) (by omega) (a := s) (b := b) rfl rfl
        simp only [bestD] at hQ
        simp [-Rat.intCast_add, hsum, f1, e1, optR, fd, el, hlt, bestD, keyD, lineOk_of (show s.length ≤ 16777216 by omega), ek]
        by_cases hk : ltK cs s b = true
        · simp only [hk, if_true, keyD] at hQ
          simp [hk]
          exact hQ _ _ _ _
        · simp only [hk, keyD] at hQ
          simp [hk]
          exact hQ _ _ _ _
    · have ho' : okI d (3 + canS cs s) = false := by simpa using ho
      have hlt : ((d : Int) : Rat) < y := hdd.mpr ho'
      simp only [stepB, ho'] at hQ
      simp [-Rat.intCast_add, hsum, f1, e1, optR, fd, el, hlt]
      exact hQ _ _ _ _
  · have hno := dep_none hL
    rw [hno] at e1
    have ho : okI d (3 + canS cs s) = false := by
      unfold okI
      rcases Classical.not_and_iff_not_or_not.mp hL with h | h
      · simp [h]
      · simp [h]
    simp only [stepB, ho] at hQ
    simp [-Rat.intCast_add, hsum, f1, e1, optR]
    exact hQ _ _ _ _
end
end K73
namespace K73
open PySem Mini Mini.Win
open L2 (atI ixN)
def resD (cs : List Int) : Option (List Int) → D | none => .non | some s => .tup [.int (-(3 - (3 + canS cs s))), .tup (s.map .int)]
theorem bestA_in (cs : List Int) (d : Int) {P : List Int → Prop} : ∀ (l : List (List Int)) (b : Option (List Int)), (∀ s ∈ l, P s) → (∀ s, b = some s → P s) → ∀ s, bestA cs d l b = some s → P s
  | [], b, _, hb, s, h => hb s h
  | x :: r, b, hl, hb, s, h => by
    refine bestA_in cs d r _ (fun s hs => hl s (by simp [hs])) (fun s hs => ?_) s h
    unfold stepB at hs
    split at hs
    · cases b with
      | none => cases hs; exact hl _ (by simp)
      | some b =>
        simp only at hs
        split at hs
        · cases hs; exact hl _ (by simp)
        · cases hs; exact hb _ rfl
    · exact hb s hs
def rngI (N : Nat) : List Int := (List.range N).map fun i : Nat => (i : Int)
/-- what is to be shown of the cans -/
def canOk (cs : List Int) (d : Int) : Bool := decide (((roomI d).map fun r => mpA cs r (chF cs.length cs.length) (0, [])) = (bestA cs d (setsA (rngI cs.length) [[]]) none).map fun s => (canS cs s, s))
theorem can_one : ∀ d : Fin 14, canOk [7, 20, 27] d = true := by decide +kernel
theorem can_two : ∀ v : Fin 30, ∀ d : Fin 14, canOk [1 + (v : Int), 7] d = true := by decide +kernel
theorem sets_in : ∀ (l : List Int) (a : List (List Int)) (P : Int → Prop), (∀ x ∈ l, P x) → (∀ s ∈ a, ∀ j ∈ s, P j) → ∀ s ∈ setsA l a, ∀ j ∈ s, P j
  | [], _, _, _, ha => ha
  | x :: r, a, P, hl, ha => by
    refine sets_in r _ P (fun y hy => hl y (by simp [hy])) fun s hs j hj => ?_
    rcases List.mem_append.mp hs with h | h
    · exact ha s h j hj
    · obtain ⟨t, ht, rfl⟩ := List.mem_map.mp h
      rcases List.mem_append.mp hj with h | h
      · exact ha t ht j h
      · simp only [List.mem_singleton] at h
        subst h
        exact hl _ (by simp)
theorem sets_len : ∀ (l : List Int) (a : List (List Int)) (N : Nat), (∀ s ∈ a, s.length + l.length ≤ N) → ∀ s ∈ setsA l a, s.length ≤ N
  | [], _, _, ha => fun s hs => by have := ha s hs; simpa using this
  | x :: r, a, N, ha => by
    refine sets_len r _ N fun s hs => ?_
    rcases List.mem_append.mp hs with h | h
    · have := ha s h; simp at this; omega
    · obtain ⟨t, ht, rfl⟩ := List.mem_map.mp h
      have := ha t ht
      simp at this ⊢
      omega
section
variable {rn : Rn} [Runs rn ds] {n : Nat} {row : List Int} {m : Int} {k : Ky}
theorem cans11 {cs : List Int} (hcs1 : 1 ≤ cs.length) (hcs : cs.length ≤ 6) (hr : ∀ x ∈ cs, 1 ≤ x ∧ x ≤ 1000) {d : Int} (d0 : 0 ≤ d) (d1 : d ≤ 100) (hok : canOk cs d = true) {A0 A1 A2 A3 A4 A5 A6 A7 A8 A9 A10 A11 A12 A13 A14 A15 A16 A17 A18 A19 A23 A24 A25 A26 A27 A28 : Option D} {Q : O → Prop}
    (hQ : ∀ A23 A24 A25 A26 A27 A28, Q (.nx ⟨[A0, A1, A2, A3, A4, A5, A6, A7, A8, A9, A10, A11, A12, A13, A14, A15, A16, A17, A18, A19, some (tabD gg), some (.tup (cs.map .int)), some (.int d), A23, A24, A25, A26, A27, A28], [], k⟩)) :
    WP (rn.go (n + 6)) WF blaw_11 ⟨[A0, A1, A2, A3, A4, A5, A6, A7, A8, A9, A10, A11, A12, A13, A14, A15, A16, A17, A18, A19, some (tabD gg), some (.tup (cs.map .int)), some (.int d), A23, A24, A25, A26, A27, A28], [], k⟩ Q := by
  have h62 : rng62 (cs.length : Int) = true := rng62_of (by omega) (by omega)
  simp [blaw_11, h62]
  refine ⟨lineOk_of (by simp [rngL]; omega), cm_rng 0 cs.length D.int (fun i hi => ?_) ?_⟩
  · simp [elaw_10]
  have hrg : ((List.range cs.length).map fun i : Nat => D.int (0 + (i : Int))) = (rngI cs.length).map .int := by simp [rngI, Function.comp_def]
  have hlen : (rngI cs.length).length = cs.length := by simp [rngI]
  rw [hrg]
  have es := l_sets (rn := rn) (n := n + 5) (k := k) (l := rngI cs.length) (by omega)
  have hS1 := sets_in (rngI cs.length) [[]] (fun j => 0 ≤ j ∧ j < cs.length) (fun x hx => by
    obtain ⟨i, hi, rfl⟩ := List.mem_map.mp hx
    simp at hi
    omega) (by simp)
  have hS2 := sets_len (rngI cs.length) [[]] 6 (by simp; omega)
  have hbin := bestA_in cs d (P := fun s => s.length ≤ 6 ∧ inR cs.length s) (setsA (rngI cs.length) [[]]) none (fun s hs => ⟨hS2 s hs, hS1 s hs⟩) (fun s h => by cases h)
  unfold canOk at hok
  have hok2 := of_decide_eq_true hok
  generalize setsA (rngI cs.length) [[]] = SS at *
  simp [es]
  have hSD : List.map lstI SS = SS.map lstI := rfl
  refine fp_list [23, 24, 25, 26, 27, 28] lstI (fun r vs mu k' => k' = k ∧ mu = [] ∧ (∀ s ∈ r, inR cs.length s ∧ s.length ≤ 6) ∧ ∃ (b : Option (List Int)) (y24 y25 y26 y27 y28 : Option D), bestA cs d r b = bestA cs d SS none ∧ vs = [some (bestD cs b), y24, y25, y26, y27, y28]) _ _ _ ⟨rfl, rfl, fun s hs => ⟨hS1 s hs, hS2 s hs⟩, none, _, _, _, _, _, rfl, rfl⟩ ?_ ?_
  · rintro s r vs mu k' ⟨rfl, rfl, hs, b, y24, y25, y26, y27, y28, hb, rfl⟩
    have h1 := hs s (by simp)
    simp
    refine cans9 hcs hr d0 d1 h1.1 h1.2 fun A25 A26 A27 A28 => ?_
    simp
    exact ⟨rfl, rfl, rfl, fun s h => hs s (by simp [h]), _, _, _, _, _, _, hb, rfl⟩
  · rintro vs mu k' ⟨rfl, rfl, hs, b, y24, y25, y26, y27, y28, hb, rfl⟩
    simp only [bestA] at hb
    have ep := r_poured (rn := rn) (n := n) (k := k') hcs1 hcs hr d0 d1
    have hD : mpD ((roomI d).map fun r => mpA cs r (chF cs.length cs.length) (0, [])) = resD cs b := by
      rw [hok2, ← hb]
      cases b with
      | none => rfl
      | some s => simp [mpD, tupI, resD]; omega
    rw [hD] at ep
    cases b with
    | none =>
      have eso := l_so (rn := rn) (n := n + 4) (k := k') (m := 2) (d := .non) .non
      simp only [resD] at ep
      simp [bestD, ep, eso]
      exact hQ _ _ _ _ _ _
    | some s =>
      have hsl := (hbin s hb.symm).1
      have eso := l_so (rn := rn) (n := n + 3) (k := k') (m := 3) (d := .tup [.int (-(3 - (3 + canS cs s))), .tup (s.map .int)]) (.tup (by simp) (by
        intro x hx
        simp only [List.mem_cons, List.mem_nil_iff, or_false] at hx
        rcases hx with rfl | rfl
        · constructor
        · exact FZ.map (by omega) fun a _ => by constructor))
      simp only [resD] at ep
      simp [bestD, keyD, ep, eso]
      exact hQ _ _ _ _ _ _
theorem cans12 {cs : List Int} (hcs1 : 1 ≤ cs.length) (hcs : cs.length ≤ 6) (hr : ∀ x ∈ cs, 1 ≤ x ∧ x ≤ 1000) (hok : ∀ d : Fin 14, canOk cs d = true) {A0 A1 A2 A3 A4 A5 A6 A7 A8 A9 A10 A11 A12 A13 A14 A15 A16 A17 A18 A19 A22 A23 A24 A25 A26 A27 A28 : Option D} {Q : O → Prop}
    (hQ : ∀ A22 A23 A24 A25 A26 A27 A28, Q (.nx ⟨[A0, A1, A2, A3, A4, A5, A6, A7, A8, A9, A10, A11, A12, A13, A14, A15, A16, A17, A18, A19, some (tabD gg), some (.tup (cs.map .int)), A22, A23, A24, A25, A26, A27, A28], [], k⟩)) :
    WP (rn.go (n + 6)) WF blaw_12 ⟨[A0, A1, A2, A3, A4, A5, A6, A7, A8, A9, A10, A11, A12, A13, A14, A15, A16, A17, A18, A19, some (tabD gg), some (.tup (cs.map .int)), A22, A23, A24, A25, A26, A27, A28], [], k⟩ Q := by
  simp [blaw_12, show rng62 0 = true from rfl, show rng62 14 = true from rfl]
  refine fp_rng [22, 23, 24, 25, 26, 27, 28] (fun i vs mu k' => k' = k ∧ mu = [] ∧ ∃ y22 y23 y24 y25 y26 y27 y28 : Option D, vs = [y22, y23, y24, y25, y26, y27, y28]) _ 0 14 _ ⟨rfl, rfl, _, _, _, _, _, _, _, rfl⟩ ?_ ?_
  · rintro i vs mu k' hi ⟨rfl, rfl, y22, y23, y24, y25, y26, y27, y28, rfl⟩
    have h := hok ⟨i, hi⟩
    simp
    refine cans11 hcs1 hcs hr (by omega) (by omega) h fun A23 A24 A25 A26 A27 A28 => ?_
    simp
    exact ⟨rfl, rfl, rfl, _, _, _, _, _, _, _, rfl⟩
  · rintro vs mu k' ⟨rfl, rfl, y22, y23, y24, y25, y26, y27, y28, rfl⟩
    simp
    exact hQ _ _ _ _ _ _ _
/-! ### litres there and back -/
theorem lit_ok : ∀ L : Int, L = 2 ∨ L = 3 ∨ L = 10 ∨ L = 30 ∨ L = 31 → ((L = 2 ∨ L = 31) ∧ depR ((L : Int) : Rat) = none) ∨ ((L = 3 ∨ L = 10 ∨ L = 30) ∧ ∃ y, depR ((L : Int) : Rat) = some y ∧ litR y = some ((L : Int) : Rat) ∧ -1000000 ≤ y.num ∧ y.num ≤ 1000000 ∧ y.den ≤ 1000000) := by
  rintro L (rfl | rfl | rfl | rfl | rfl)
  · exact .inl ⟨.inl rfl, by decide +kernel⟩
  · exact .inr ⟨.inl rfl, 2, by decide +kernel, by decide +kernel, by decide +kernel⟩
  · exact .inr ⟨.inr (.inl rfl), 9, by decide +kernel, by decide +kernel, by decide +kernel⟩
  · exact .inr ⟨.inr (.inr rfl), 12, by decide +kernel, by decide +kernel, by decide +kernel⟩
  · exact .inl ⟨.inr rfl, by decide +kernel⟩
theorem lit13 {L : Int} (hL : L = 2 ∨ L = 3 ∨ L = 10 ∨ L = 30 ∨ L = 31) {A0 A1 A2 A3 A4 A5 A6 A7 A8 A9 A10 A11 A12 A13 A14 A15 A16 A17 A18 A19 A21 A22 A23 A24 A25 A27 A28 : Option D} {Q : O → Prop}
    (hQ : ∀ A27, Q (.nx ⟨[A0, A1, A2, A3, A4, A5, A6, A7, A8, A9, A10, A11, A12, A13, A14, A15, A16, A17, A18, A19, some (tabD gg), A21, A22, A23, A24, A25, some (.int L), A27, A28], [], k⟩)) :
    WP (rn.go (n + 6)) WF blaw_13 ⟨[A0, A1, A2, A3, A4, A5, A6, A7, A8, A9, A10, A11, A12, A13, A14, A15, A16, A17, A18, A19, some (tabD gg), A21, A22, A23, A24, A25, some (.int L), A27, A28], [], k⟩ Q := by
  have e1 := r_depth (rn := rn) (n := n) (k := k) (x := ((L : Int) : Rat)) (by simp; omega) (by simp; omega) (by simp)
  have f1 := fr1 L
  rcases lit_ok L hL with ⟨h, hd⟩ | ⟨h, y, hd, hy, y1, y2, y3⟩
  · rw [hd] at e1
    have ha : anyEq (.int L) [.int 2, .int 31] = some true := by rcases h with rfl | rfl <;> rfl
    simp [blaw_13, f1, e1, optR, ha, D.fine]
    exact hQ _
  · rw [hd] at e1
    have e2 := r_litres (rn := rn) (n := n) (k := k) y1 y2 y3
    rw [hy] at e2
    have e3 := l_so (rn := rn) (n := n + 4) (k := k) (fz_fr ((L : Int) : Rat))
    have l2 : ¬ L = 2 := by omega
    have l31 : ¬ L = 31 := by omega
    have l2' : ¬ 2 = L := by omega
    have l31' : ¬ 31 = L := by omega
    simp [blaw_13, f1, e1, optR, anyEq, D.fine, l2, l31, l2', l31', e2, e3]
    exact hQ _
end
end K73
namespace K73
open PySem Mini Mini.Win
open L2 (atI ixN)
theorem push_all {P : Rat → Prop} {S : List Sp} {o : Option Sp} (h : ∀ s ∈ S, P s.1 ∧ P s.2) (ho : ∀ p, o = some p → P p.1 ∧ P p.2) : ∀ s ∈ push S o, P s.1 ∧ P s.2 := by
  cases o with
  | none => exact h
  | some p =>
    rcases List.eq_nil_or_concat S with rfl | ⟨S0, q, rfl⟩
    · rw [push_nil]
      intro s hs
      simp only [List.mem_singleton] at hs
      subst hs
      exact ho _ rfl
    · rw [List.concat_eq_append] at *
      rw [push_cat]
      split
      · intro s hs
        rcases List.mem_append.mp hs with hs | hs
        · exact h s (by simp [hs])
        · simp only [List.mem_singleton] at hs
          subst hs
          exact ⟨(h q (by simp)).1, (ho _ rfl).2⟩
      · intro s hs
        rcases List.mem_append.mp hs with hs | hs
        · exact h s hs
        · simp only [List.mem_singleton] at hs
          subst hs
          exact ho _ rfl
theorem spans_all {P : Rat → Prop} {f : Nat → Kn} {c : Int} : ∀ i, (∀ j, j < i → ∀ p, partOf (f j) (f (j + 1)) c = some p → P p.1 ∧ P p.2) → ∀ s ∈ spansTo f c i, P s.1 ∧ P s.2
  | 0, _ => fun s hs => by cases hs
  | i + 1, h => push_all (spans_all i fun j hj => h j (by omega)) (h i (by omega))
theorem cross_den {a b : Kn} {c : Int} (h : a.2 ≠ b.2) (h1 : a.2 - b.2 < 997) (h2 : b.2 - a.2 < 997) : (crossR a b c).den ≤ 996 := by
  unfold crossR
  have e1 := add_den_dvd ((a.1 : Int) : Rat) ((((c - a.2) * (b.1 - a.1) : Int) : Rat) / ((b.2 - a.2 : Int) : Rat))
  rw [Rat.den_intCast, Nat.one_mul] at e1
  have e2 := div_den_dvd ((c - a.2) * (b.1 - a.1)) (b.2 - a.2) (by omega)
  have e3 := Nat.dvd_trans e1 e2
  have e4 := Nat.le_of_dvd (by omega) e3
  omega
theorem den_spans {l : List Kn} (t : TabS l) {c : Int} : ∀ s ∈ spansOf l c, s.1.den ≤ 996 ∧ s.2.den ≤ 996 := by
  have h2 := t.t.len2
  obtain ⟨lo, _, hlo⟩ := t.w
  refine spans_all (P := fun x => x.den ≤ 996) _ fun j hj p hp => ?_
  have h0 := hlo _ (kn_mem (l := l) (i := j) (by omega))
  have h1 := hlo _ (kn_mem (l := l) (i := j + 1) (by omega))
  unfold partOf at hp
  split at hp
  · cases hp
  · rename_i hn
    simp only [Option.some.injEq] at hp
    subst hp
    refine ⟨?_, ?_⟩
    · show (if (kn l j).2 < c then crossR (kn l j) (kn l (j + 1)) c else ((kn l j).1 : Rat)).den ≤ 996
      split
      · exact cross_den (by omega) (by omega) (by omega)
      · simp
    · show (if (kn l (j + 1)).2 < c then crossR (kn l j) (kn l (j + 1)) c else ((kn l (j + 1)).1 : Rat)).den ≤ 996
      split
      · exact cross_den (by omega) (by omega) (by omega)
      · simp
theorem num_le {x : Rat} {M : Int} (h : x ≤ ((M : Int) : Rat)) : x.num ≤ M * x.den := by
  have hp : (0 : Rat) < ((x.den : Int) : Rat) := cast_pos (by have := x.den_pos; omega)
  have e : x = (x.num : Rat) / ((x.den : Int) : Rat) := by rw [← Rat.divInt_eq_div, Rat.num_divInt_den]
  have h' : (x.num : Rat) / ((x.den : Int) : Rat) ≤ ((M : Int) : Rat) := by rw [← e]; exact h
  rw [le_div hp, ← Rat.intCast_mul, Rat.intCast_le_intCast] at h'
  exact h'
theorem ok_small {l : List Kn} (t : Tab l) {x : Rat} (h0 : ((kn l 0).1 : Rat) ≤ x) (h1 : x ≤ ((kn l (l.length - 1)).1 : Rat)) (hn : x.num ≤ 1000000) (hd : x.den ≤ 1000000) : Ok l x := by
  have r0 := t.r (i := 0) (by have := t.len2; omega)
  have hx : 0 ≤ x := Rat.le_trans (cast_le (i := 0) r0.1) h0
  have := Rat.num_nonneg.mpr hx
  exact ⟨t, ⟨by omega, by omega⟩, by omega, h0, h1⟩
theorem ok_den {l : List Kn} (t : TabS l) {x : Rat} (h0 : ((kn l 0).1 : Rat) ≤ x) (h1 : x ≤ ((kn l (l.length - 1)).1 : Rat)) (hd : x.den ≤ 996) : Ok l x := by
  have h2 := t.t.len2
  have hm := t.m _ (kn_mem (l := l) (i := l.length - 1) (by omega))
  have h3 := num_le (Rat.le_trans h1 (cast_le hm))
  have h4 : (869 : Int) * x.den ≤ 869 * 996 := Int.mul_le_mul_of_nonneg_left (by omega) (by omega)
  exact ok_small t.t h0 h1 (by omega) (by omega)
@[simp] theorem isNon_optR (o : Option Rat) : isNonD (optR o) = decide (o = none) := by cases o <;> simp [optR]
theorem ff_from : ∀ {S : List Sp} {x y : Rat}, firstFrom S x = some y → y = x ∨ ∃ s ∈ S, y = s.1
  | [], x, y, h => by cases h
  | s :: r, x, y, h => by
    simp only [firstFrom] at h
    split at h
    · simp only [Option.some.injEq] at h
      split at h
      · exact .inl h.symm
      · exact .inr ⟨s, List.mem_cons_self, h.symm⟩
    · rcases ff_from h with h | ⟨t, ht, h⟩
      · exact .inl h
      · exact .inr ⟨t, List.mem_cons_of_mem _ ht, h⟩
theorem lt_from : ∀ {S : List Sp} {x y : Rat} {f : Option Rat}, lastTill S x f = some y → f = some y ∨ y = x ∨ ∃ s ∈ S, y = s.2
  | [], x, y, f, h => .inl h
  | s :: r, x, y, f, h => by
    simp only [lastTill] at h
    rcases lt_from h with h | h | ⟨t, ht, h⟩
    · split at h
      · simp only [Option.some.injEq] at h
        split at h
        · exact .inr (.inl h.symm)
        · exact .inr (.inr ⟨s, List.mem_cons_self, h.symm⟩)
      · exact .inl h
    · exact .inr (.inl h)
    · exact .inr (.inr ⟨t, List.mem_cons_of_mem _ ht, h⟩)
section
variable {rn : Rn} [Runs rn ds] {n : Nat} {row : List Int} {m : Int} {k : Ky}
theorem ix_spR0 (p : Rat × Rat) : idxSem k (spR p) (.int 0) = some (ofR p.1) := rfl
theorem ninth : D.tup [.int 1, .int 9] = ofR (((1 : Int) : Rat) / ((9 : Int) : Rat)) := ofR_mk 1 9 (by decide) (by decide)
def nth : Rat := ((1 : Int) : Rat) / ((9 : Int) : Rat)
theorem pb_nth : pb 31 nth := pb.div (by decide) (by decide) (by decide)
theorem nth_pos : (0 : Rat) < nth := by decide +kernel
theorem win0 {l : List Kn} (t : TabS l) {c : Int} (hc : -500 ≤ c ∧ c ≤ 1500) {s : Sp} (hs : s ∈ spansOf l c) {A0 A1 A2 A7 A8 A10 A11 A12 A13 A14 A15 A16 A17 A18 A19 A20 A21 A22 A23 A24 A25 A26 A27 A28 : Option D} {mu : List Nat} {Q : O → Prop}
    (hQ : ∀ A10 A11 A12, Q (.nx ⟨[A0, A1, A2, some (tabD l), some (ofR ((kn l 0).1 : Rat)), some (ofR ((kn l (l.length - 1)).1 : Rat)), some (.int c), A7, A8, some (spR s), A10, A11, A12, A13, A14, A15, A16, A17, A18, A19, A20, A21, A22, A23, A24, A25, A26, A27, A28], [], k⟩)) :
    WP (rn.go (n + 8)) WF blaw_0 ⟨[A0, A1, A2, some (tabD l), some (ofR ((kn l 0).1 : Rat)), some (ofR ((kn l (l.length - 1)).1 : Rat)), some (.int c), A7, A8, some (spR s), A10, A11, A12, A13, A14, A15, A16, A17, A18, A19, A20, A21, A22, A23, A24, A25, A26, A27, A28], [], k⟩ Q := by
  have tt := t.t
  have h2 := tt.len2
  have hl := tt.len
  have I := inv_all (kn := kn l) (n := l.length - 1) (c := c) (fun j hj => tt.inc j (by omega)) (l.length - 1) (Nat.le_refl _)
  have hS : spansTo (kn l) c (l.length - 1) = spansOf l c := rfl
  rw [hS] at I
  obtain ⟨g1, g2, g3⟩ := I.rng s hs
  obtain ⟨d1, d2⟩ := den_spans t s hs
  have o1 := ok_den t g2 (Rat.le_trans g1 g3) d1
  have o2 := ok_den t (Rat.le_trans g2 g1) g3 d2
  have e1 := r_first (rn := rn) (n := n + 1) (k := k) o1 (c := c) hc
  have e2 := r_last (rn := rn) (n := n + 1) (k := k) o2 (c := c) hc
  rw [ff_in I.dis ⟨s, hs, Rat.le_refl, g1⟩] at e1
  rw [lt_in I.dis ⟨s, hs, g1, Rat.le_refl⟩] at e2
  have so1 := l_so (rn := rn) (n := n + 6) (k := k) (fz_fr s.1)
  have so2 := l_so (rn := rn) (n := n + 6) (k := k) (fz_fr s.2)
  obtain ⟨p1, p2⟩ := pb_of tt hc s hs
  have ea := l_sub (rn := rn) (n := n + 5) (k := k) s.1 nth (p1.sm (by omega)) (pb_nth.sm (by omega))
  have eb := l_add (rn := rn) (n := n + 5) (k := k) s.2 nth (p2.sm (by omega)) (pb_nth.sm (by omega))
  have pa := p1.sub pb_nth
  have pz := p2.add pb_nth
  have pf : pb 31 ((kn l 0).1 : Rat) := pb_i31 (by have := tt.r (i := 0) (by omega); omega) (by have := tt.r (i := 0) (by omega); omega)
  have pl : pb 31 ((kn l (l.length - 1)).1 : Rat) := pb_i31 (by have := tt.r (i := l.length - 1) (by omega); omega) (by have := tt.r (i := l.length - 1) (by omega); omega)
  have pc : pb 31 ((c : Int) : Rat) := pb_i31 (by omega) (by omega)
  have c1 := l_less (rn := rn) (n := n + 7) (k := k) (s.1 - nth) ((kn l 0).1 : Rat) (pa.sm (by omega)) (pf.sm (by omega))
  have c2 := l_less (rn := rn) (n := n + 7) (k := k) ((kn l (l.length - 1)).1 : Rat) (s.2 + nth) (pl.sm (by omega)) (pz.sm (by omega))
  have hn : D.tup [.int 1, .int 9] = ofR nth := ninth
  have h10 : boSem .pow (.int 10) (.int 6) = some (.int 1000000) := rfl
  have fc := fr1 c
  -- a moment within the table
  have mom : ∀ x : Rat, ((kn l 0).1 : Rat) ≤ x → x ≤ ((kn l (l.length - 1)).1 : Rat) → x.num ≤ 1000000 → x.den ≤ 1000000 → pb 100 x → ∃ y, rn.go (n + 8) 68 [tabD l, ofR x] k = some (ofR y, k) ∧ rn.go (n + 8) 84 [ofR y, ofR ((c : Int) : Rat)] k = some (.bl (decide (y < ((c : Int) : Rat))), k) ∧ rn.go (n + 8) 71 [tabD l, .int c, ofR x] k = some (optR (lastTill (spansOf l c) x none), k) ∧ rn.go (n + 8) 70 [tabD l, .int c, ofR x] k = some (optR (firstFrom (spansOf l c) x), k) ∧ (¬ y < ((c : Int) : Rat) → lastTill (spansOf l c) x none = some x ∧ firstFrom (spansOf l c) x = some x) := by
    intro x x0 x1 xn xd px
    have ox := ok_small tt x0 x1 xn xd
    obtain ⟨j, hj⟩ := at_ex tt x0 x1
    have hcov := I.cov j (by have := hj.lt; omega) x hj.lo hj.hi
    have es := r_sour (rn := rn) (n := n + 2) (k := k) ox hj
    have r0 := tt.r (i := j) (by have := hj.lt; omega)
    have r1 := tt.r (i := j + 1) (by have := hj.lt; omega)
    have inc := tt.inc j (by have := hj.lt; omega)
    have ph : pb 300 (hgt (kn l j) (kn l (j + 1)) x) := by
      have q1 : pb 31 ((kn l j).1 : Rat) := pb_i31 (by omega) (by omega)
      have q2 : pb 31 ((kn l j).2 : Rat) := pb_i31 (by omega) (by omega)
      have q3 : pb 31 ((((kn l (j + 1)).2 - (kn l j).2 : Int) : Rat) / (((kn l (j + 1)).1 - (kn l j).1 : Int) : Rat)) := pb.div (by omega) (by omega) (by omega)
      exact (q2.add ((px.sub q1).mul q3)).mono (by omega)
    refine ⟨_, es, l_less _ _ (ph.sm (by omega)) (pc.sm (by omega)), r_last (n := n + 1) ox hc, r_first (n := n + 1) ox hc, fun hy => ?_⟩
    have := hcov.mp (Rat.not_lt.mp hy)
    exact ⟨lt_in I.dis this, ff_in I.dis this⟩
  have ptold : ∀ x y : Rat, pb 100 x → (lastTill (spansOf l c) x none = some y ∨ firstFrom (spansOf l c) x = some y) → pb 100 y := by
    intro x y px h
    rcases h with h | h
    · rcases lt_from h with h | rfl | ⟨s, hs, rfl⟩
      · cases h
      · exact px
      · exact (pb_of tt hc s hs).2.mono (by omega)
    · rcases ff_from h with rfl | ⟨s, hs, rfl⟩
      · exact px
      · exact (pb_of tt hc s hs).1.mono (by omega)
  -- behind the span
  have part2 : ∀ A12, WP (rn.go (n + 8)) WF (.cons (.ite (.and (.not (.val (.call 84 (.cons (.var 5) (.cons (.var 11) .nil))))) (.val (.cmp .le (.bi .max (.cons (.var 11) .nil)) (.bin .pow (.cst (.int 10)) (.cst (.int 6)))))) (.cons (.set 12 (.call 70 (.cons (.var 3) (.cons (.var 6) (.cons (.var 11) .nil))))) (.cons (.ite (.or (.and (.not (.val (.call 84 (.cons (.call 68 (.cons (.var 3) (.cons (.var 11) .nil))) (.cons (.tup (.cons (.var 6) (.cons (.cst (.int 1)) .nil))) .nil))))) (.val (.cmp .ne (.var 12) (.var 11)))) (.and (.val (.notN (.var 12))) (.val (.call 84 (.cons (.var 12) (.cons (.var 11) .nil)))))) (.cons (.ret (.cst (.bl false))) .nil) .nil) .nil)) .nil) .nil) ⟨[A0, A1, A2, some (tabD l), some (ofR ((kn l 0).1 : Rat)), some (ofR ((kn l (l.length - 1)).1 : Rat)), some (.int c), A7, A8, some (spR s), some (ofR (s.1 - nth)), some (ofR (s.2 + nth)), A12, A13, A14, A15, A16, A17, A18, A19, A20, A21, A22, A23, A24, A25, A26, A27, A28], [], k⟩ Q := by
    intro A12
    by_cases hb : ((kn l (l.length - 1)).1 : Rat) < s.2 + nth
    · simp [c2, hb]
      exact hQ _ _ _
    · have hb' := Rat.not_lt.mp hb
      by_cases hmx : (if (s.2 + nth).num < (s.2 + nth).den then ((s.2 + nth).den : Int) else (s.2 + nth).num) ≤ 1000000
      · obtain ⟨y, es, el, _, ef, hy⟩ := mom (s.2 + nth) (by have := nth_pos; have := Rat.le_trans g2 g1; grind) hb' (by split at hmx <;> omega) (by split at hmx <;> omega) (pz.mono (by omega))
        by_cases hyc : y < ((c : Int) : Rat)
        · cases hf : firstFrom (spansOf l c) (s.2 + nth) with
          | none =>
            rw [hf] at ef
            simp [-bo_pow, c2, hb, bi_maxR, h10, hmx, ef, es, fc, el, hyc, optR]
            exact hQ _ _ _
          | some z =>
            rw [hf] at ef
            have hz := ff_ge hf
            have hz' : ¬ z < s.2 + nth := Rat.not_lt.mpr hz
            have ez := l_less (rn := rn) (n := n + 7) (k := k) z (s.2 + nth) ((ptold _ _ (pz.mono (by omega)) (.inr hf)).sm (by omega)) (pz.sm (by omega))
            simp [-bo_pow, c2, hb, bi_maxR, h10, hmx, ef, es, fc, el, hyc, optR, ez, hz']
            exact hQ _ _ _
        · rw [(hy hyc).2] at ef
          have ez := l_less (rn := rn) (n := n + 7) (k := k) (s.2 + nth) (s.2 + nth) (pz.sm (by omega)) (pz.sm (by omega))
          have hz' : ¬ s.2 + nth < s.2 + nth := Rat.lt_irrefl
          simp [-bo_pow, c2, hb, bi_maxR, h10, hmx, ef, es, fc, el, hyc, optR, ez, hz', eqD_ofR]
          exact hQ _ _ _
      · simp [-bo_pow, c2, hb, bi_maxR, h10, hmx]
        exact hQ _ _ _
  by_cases hb : s.1 - nth < ((kn l 0).1 : Rat)
  · simp [blaw_0, e1, e2, so1, so2, optR, hn, ea, eb, c1, hb]
    simpa using part2 _
  · have hb' := Rat.not_lt.mp hb
    by_cases hmx : (if (s.1 - nth).num < (s.1 - nth).den then ((s.1 - nth).den : Int) else (s.1 - nth).num) ≤ 1000000
    · obtain ⟨y, es, el, ef, _, hy⟩ := mom (s.1 - nth) hb' (by have := nth_pos; have := Rat.le_trans g1 g3; grind) (by split at hmx <;> omega) (by split at hmx <;> omega) (pa.mono (by omega))
      by_cases hyc : y < ((c : Int) : Rat)
      · cases hf : lastTill (spansOf l c) (s.1 - nth) none with
        | none =>
          rw [hf] at ef
          simp [-bo_pow, blaw_0, e1, e2, so1, so2, optR, hn, ea, eb, c1, hb, bi_maxR, h10, hmx, ef, es, fc, el, hyc]
          simpa [-bo_pow] using part2 _
        | some z =>
          rw [hf] at ef
          have hz := lt_le (fun z h => by cases h) hf
          have hz' : ¬ s.1 - nth < z := Rat.not_lt.mpr hz
          have ez := l_less (rn := rn) (n := n + 7) (k := k) (s.1 - nth) z (pa.sm (by omega)) ((ptold _ _ (pa.mono (by omega)) (.inl hf)).sm (by omega))
          simp [-bo_pow, blaw_0, e1, e2, so1, so2, optR, hn, ea, eb, c1, hb, bi_maxR, h10, hmx, ef, es, fc, el, hyc, ez, hz']
          simpa [-bo_pow] using part2 _
      · rw [(hy hyc).1] at ef
        have ez := l_less (rn := rn) (n := n + 7) (k := k) (s.1 - nth) (s.1 - nth) (pa.sm (by omega)) (pa.sm (by omega))
        have hz' : ¬ s.1 - nth < s.1 - nth := Rat.lt_irrefl
        simp [-bo_pow, blaw_0, e1, e2, so1, so2, optR, hn, ea, eb, c1, hb, bi_maxR, h10, hmx, ef, es, fc, el, hyc, ez, hz', eqD_ofR]
        simpa [-bo_pow] using part2 _
    · simp [-bo_pow, blaw_0, e1, e2, so1, so2, optR, hn, ea, eb, c1, hb, bi_maxR, h10, hmx]
      simpa [-bo_pow] using part2 _
end
end K73
namespace K73
open PySem Mini Mini.Win
open L2 (atI ixN)
theorem arr_le : ∀ {ls : List Leg} {s a : Int}, (∀ l ∈ ls, LegOk l) → arr ls s = some a → a ≤ (if s < 300 then 300 else s) + 100 * (ls.length : Int)
  | [], s, a, _, h => by
    simp only [arr, Option.some.injEq] at h
    subst h
    simp; split <;> omega
  | l :: r, s, a, ho, h => by
    have ol := ho l (by simp)
    simp only [arr] at h
    cases hf : from' l.2 s with
    | none => rw [hf] at h; simp at h
    | some b =>
      rw [hf] at h
      simp only [Option.bind_some] at h
      have ih := arr_le (ls := r) (fun x hx => ho x (by simp [hx])) h
      have hb : b ≤ (if s < 300 then 300 else s) := by
        unfold from' at hf
        cases hl : l.2 with
        | none => rw [hl] at hf; simp only [Option.some.injEq] at hf; subst hf; split <;> omega
        | some sp =>
          rw [hl] at hf
          have := (bf_some (ol.sp sp hl) hf).2.1
          split <;> omega
      have := ol.m1
      simp only [List.length_cons]
      split at ih <;> split at hb <;> split <;> omega
section
variable {rn : Rn} [Runs rn ds] {n : Nat} {row : List Int} {m : Int} {k : Ky}
theorem win1 {l : List Kn} (t : TabS l) {c : Int} (hc : -500 ≤ c ∧ c ≤ 1500) {A0 A1 A2 A7 A8 A9 A10 A11 A12 A13 A14 A15 A16 A17 A18 A19 A20 A21 A22 A23 A24 A25 A26 A27 A28 : Option D} {Q : O → Prop}
    (hQ : ∀ A8 A9 A10 A11 A12, Q (.nx ⟨[A0, A1, A2, some (tabD l), some (ofR ((kn l 0).1 : Rat)), some (ofR ((kn l (l.length - 1)).1 : Rat)), some (.int c), A7, A8, A9, A10, A11, A12, A13, A14, A15, A16, A17, A18, A19, A20, A21, A22, A23, A24, A25, A26, A27, A28], [], k⟩)) :
    WP (rn.go (n + 8)) WF blaw_1 ⟨[A0, A1, A2, some (tabD l), some (ofR ((kn l 0).1 : Rat)), some (ofR ((kn l (l.length - 1)).1 : Rat)), some (.int c), A7, A8, A9, A10, A11, A12, A13, A14, A15, A16, A17, A18, A19, A20, A21, A22, A23, A24, A25, A26, A27, A28], [], k⟩ Q := by
  have e1 := r_windows (rn := rn) (n := n + 2) (k := k) t.t hc
  have e2 := l_windows (rn := rn) (n := n + 3) (k := k) t.t (c := c) (by omega)
  have hlen : (spansOf l c).length ≤ 12 := by
    have := spans_len (kn l) c (l.length - 1)
    have := t.t.len
    unfold spansOf; omega
  have hfz : FZ 4 (winD (spansOf l c)) := FZ.map (by omega) fun s _ => .tup (by simp) (by
    intro d hd
    simp only [List.mem_cons, List.mem_nil_iff, or_false] at hd
    rcases hd with rfl | rfl <;> exact FZ.fr _)
  have e3 := l_so (rn := rn) (n := n + 4) (k := k) hfz
  simp only [winD] at e1 e3
  simp [blaw_1, e1, e2, e3]
  refine fp_list [9, 10, 11, 12] spR (fun r vs mu k' => k' = k ∧ mu = [] ∧ (∀ s ∈ r, s ∈ spansOf l c) ∧ ∃ y9 y10 y11 y12 : Option D, vs = [y9, y10, y11, y12]) _ _ _ ⟨rfl, rfl, fun s h => h, _, _, _, _, rfl⟩ ?_ ?_
  · rintro s r vs mu k' ⟨rfl, rfl, hs, y9, y10, y11, y12, rfl⟩
    simp
    refine win0 t hc (hs s (by simp)) (mu := []) fun A10 A11 A12 => ?_
    simp
    exact ⟨rfl, rfl, rfl, fun s h => hs s (by simp [h]), _, _, _, _, rfl⟩
  · rintro vs mu k' ⟨rfl, rfl, hs, y9, y10, y11, y12, rfl⟩
    simp
    exact hQ _ _ _ _ _
theorem leg6 {ls : List Leg} (o : ∀ l ∈ ls, LegOk l) (hl : ls.length ≤ 10) {mn t g : Int} {ws : List Int} (h0 : 0 ≤ mn) (ht : travel ls mn [] = some (t, ws)) (hg0 : 0 ≤ g) (hg1 : g ≤ 10000) {A0 A1 A2 A3 A4 A5 A6 A7 A8 A9 A10 A11 A14 A15 A18 A19 A20 A21 A22 A23 A24 A25 A26 A27 A28 : Option D} {Q : O → Prop}
    (hQ : ∀ A18 A19, Q (.nx ⟨[A0, A1, A2, A3, A4, A5, A6, A7, A8, A9, A10, A11, some (tripD (some (t, ws))), some (legsD ls), A14, A15, some (.int mn), some (.int g), A18, A19, A20, A21, A22, A23, A24, A25, A26, A27, A28], [], k⟩)) :
    WP (rn.go (n + 8)) WF blaw_6 ⟨[A0, A1, A2, A3, A4, A5, A6, A7, A8, A9, A10, A11, some (tripD (some (t, ws))), some (legsD ls), A14, A15, some (.int mn), some (.int g), A18, A19, A20, A21, A22, A23, A24, A25, A26, A27, A28], [], k⟩ Q := by
  have hlen := legs_len o
  have e1 := r_leaves (rn := rn) (n := n) (k := k) o hl g hg0 hg1
  have harr : arr ls mn = some t := by rw [← travel_arr ls mn [], ht]; rfl
  have G := fun s hs => arr_lv o (s := s) (g := g) hs
  have it : ∀ k : Ky, idxSem k (tripD (some (t, ws))) (.int 0) = some (.int t) := fun k => rfl
  cases hlv : lv ls g with
  | none =>
    rw [hlv] at e1
    have c1 : ¬ t ≤ g := fun h => by
      obtain ⟨r, hr, _⟩ := (G mn h0).mp ⟨t, harr, h⟩
      rw [hlv] at hr; cases hr
    simp [blaw_6, e1, optI, it, c1]
    exact hQ _ _
  | some r =>
    rw [hlv] at e1
    have hr := lv_le o hg0 hlv
    obtain ⟨a, ha, hag⟩ := (G r hr.1).mpr ⟨r, hlv, Int.le_refl _⟩
    have e2 := l_arrives (rn := rn) (n := n + 7) (k := k) (by omega) hlen r
    have e3 := l_arrives (rn := rn) (n := n + 7) (k := k) (by omega) hlen (r + 1)
    have ta := travel_arr ls r []
    rw [ha] at ta
    obtain ⟨⟨t2, w2⟩, h2, h3⟩ : ∃ p, travel ls r [] = some p ∧ p.1 = a := by
      cases hh : travel ls r [] with
      | none => rw [hh] at ta; cases ta
      | some p => rw [hh] at ta; simp at ta; exact ⟨p, rfl, ta⟩
    simp only at h3
    subst h3
    rw [h2] at e2
    have it2 : ∀ k : Ky, idxSem k (tripD (some (t2, w2))) (.int 0) = some (.int t2) := fun k => rfl
    have nn : isNonD (tripD (some (t2, w2))) = false := rfl
    have c1 : t ≤ g → ¬ r < mn := fun h => by
      obtain ⟨r', hr', h'⟩ := (G mn h0).mp ⟨t, harr, h⟩
      rw [hlv] at hr'; cases hr'; omega
    have c2 : ¬ g < t2 := by omega
    have tb := travel_arr ls (r + 1) []
    have fin' : ∀ A18 : Option D, Q (.nx ⟨[A0, A1, A2, A3, A4, A5, A6, A7, A8, A9, A10, A11, some (tripD (some (t, ws))), some (legsD ls), A14, A15, some (.int mn), some (.int g), some (.int r), some (tripD (travel ls (r + 1) [])), A20, A21, A22, A23, A24, A25, A26, A27, A28], [], k⟩) := fun _ => hQ _ _
    have nt : ∀ o, noL (tripD o) = true := fun o => by
      cases o with
      | none => rfl
      | some p => show (noL (D.int p.1) && noLs [D.tup (p.2.map D.int)]) = true; simp
    cases hh : travel ls (r + 1) [] with
    | none =>
      rw [hh] at e3 fin'
      have nn3 : isNonD (tripD none) = true := rfl
      by_cases hc : t ≤ g
      · simp [blaw_6, e1, optI, it, hc, c1 hc, e2, nn, it2, c2, e3, nn3, keepM, nt]
        exact fin' none
      · simp [blaw_6, e1, optI, it, hc, e2, nn, it2, c2, e3, nn3, keepM, nt]
        exact fin' none
    | some p =>
      obtain ⟨t3, w3⟩ := p
      rw [hh] at e3 tb fin'
      have ha3 : arr ls (r + 1) = some t3 := by rw [← tb]; rfl
      have c3 : ¬ t3 ≤ g := fun h => by
        obtain ⟨r', hr', h'⟩ := (G (r + 1) (by omega)).mp ⟨t3, ha3, h⟩
        rw [hlv] at hr'; cases hr'; omega
      have nn3 : isNonD (tripD (some (t3, w3))) = false := rfl
      have it3 : ∀ k : Ky, idxSem k (tripD (some (t3, w3))) (.int 0) = some (.int t3) := fun k => rfl
      by_cases hc : t ≤ g
      · simp [blaw_6, e1, optI, it, hc, c1 hc, e2, nn, it2, c2, e3, nn3, it3, c3, keepM, nt]
        exact fin' none
      · simp [blaw_6, e1, optI, it, hc, e2, nn, it2, c2, e3, nn3, it3, c3, keepM, nt]
        exact fin' none
theorem leg7 {ls : List Leg} (o : ∀ l ∈ ls, LegOk l) (hl : ls.length ≤ 10) {mn : Int} (h0 : 0 ≤ mn) (h1 : mn ≤ 400) {A0 A1 A2 A3 A4 A5 A6 A7 A8 A9 A10 A11 A12 A14 A15 A17 A18 A19 A20 A21 A22 A23 A24 A25 A26 A27 A28 : Option D} {Q : O → Prop}
    (hQ : ∀ A12 A17 A18 A19, Q (.nx ⟨[A0, A1, A2, A3, A4, A5, A6, A7, A8, A9, A10, A11, A12, some (legsD ls), A14, A15, some (.int mn), A17, A18, A19, A20, A21, A22, A23, A24, A25, A26, A27, A28], [], k⟩)) :
    WP (rn.go (n + 8)) WF blaw_7 ⟨[A0, A1, A2, A3, A4, A5, A6, A7, A8, A9, A10, A11, A12, some (legsD ls), A14, A15, some (.int mn), A17, A18, A19, A20, A21, A22, A23, A24, A25, A26, A27, A28], [], k⟩ Q := by
  have hlen := legs_len o
  have e1 := r_arrives (rn := rn) (n := n) (k := k) o hl mn h0 (by omega)
  have e2 := r_waits (rn := rn) (n := n) (k := k) o hl mn h0 (by omega)
  have e3 := l_arrives (rn := rn) (n := n + 7) (k := k) (by omega) hlen mn
  have ta := travel_arr ls mn []
  cases hh : travel ls mn [] with
  | none =>
    rw [hh] at e2 e3 ta
    have harr : arr ls mn = none := by rw [← ta]; rfl
    rw [harr] at e1
    have eso := l_so (rn := rn) (n := n + 6) (k := k) (m := 2) (d := .non) .non
    simp [blaw_7, e1, e2, e3, tripD, waitsD, optI, eso]
    exact hQ _ _ _ _
  | some p =>
    obtain ⟨t, ws⟩ := p
    rw [hh] at e2 e3 ta
    have harr : arr ls mn = some t := by rw [← ta]; rfl
    rw [harr] at e1
    have hle := arr_le o harr
    have hge : 0 ≤ t := by
      have : ∀ {ls : List Leg} {s a : Int}, (∀ l ∈ ls, LegOk l) → 0 ≤ s → arr ls s = some a → 0 ≤ a := by
        intro ls
        induction ls with
        | nil => intro s a _ h0 h; simp only [arr, Option.some.injEq] at h; omega
        | cons l r ih =>
          intro s a ho h0 h
          have ol := ho l (by simp)
          simp only [arr] at h
          cases hf : from' l.2 s with
          | none => rw [hf] at h; simp at h
          | some b =>
            rw [hf] at h
            simp only [Option.bind_some] at h
            have := from_ge ol hf
            have := ol.m0
            exact ih (fun x hx => ho x (by simp [hx])) (by omega) h
      exact this o h0 harr
    have s1 := l_so (rn := rn) (n := n + 6) (k := k) (m := 2) (d := .int t) (.int t)
    have hwl : ws.length ≤ 1000 := by
      have : ∀ (ls : List Leg) (s : Int) (a : List Int) (p : Int × List Int), travel ls s a = some p → p.2.length = a.length + ls.length := by
        intro ls
        induction ls with
        | nil => intro s a p h; simp only [travel, Option.some.injEq] at h; subst h; simp
        | cons l r ih =>
          intro s a p h
          simp only [travel] at h
          cases hf : from' l.2 s with
          | none => rw [hf] at h; cases h
          | some b =>
            rw [hf] at h
            have := ih _ _ _ h
            simp at this ⊢
            omega
      have := this ls mn [] _ hh
      simp at this
      omega
    have s2 := l_so (rn := rn) (n := n + 6) (k := k) (m := 2) (d := .tup (ws.map .int)) (FZ.map (by omega) fun a _ => by constructor)
    have it0 : ∀ k : Ky, idxSem k (tripD (some (t, ws))) (.int 0) = some (.int t) := fun k => rfl
    have it1 : ∀ k : Ky, idxSem k (tripD (some (t, ws))) (.int 1) = some (.tup (ws.map .int)) := fun k => rfl
    have nn : isNonD (tripD (some (t, ws))) = false := rfl
    have nt : noL (tripD (some (t, ws))) = true := by show (noL (D.int t) && noLs [D.tup (ws.map D.int)]) = true; simp
    have dt : ∀ k : Ky, deref k (tripD (some (t, ws))) = tripD (some (t, ws)) := fun k => rfl
    simp [blaw_7, e1, e2, e3, nn, it0, it1, waitsD, optI, s1, s2]
    refine fp_list [17, 18, 19] D.int (fun r vs mu k' => k' = k ∧ mu = [] ∧ (∀ g ∈ r, 0 ≤ g ∧ g ≤ 10000) ∧ ∃ y17 y18 y19 : Option D, vs = [y17, y18, y19]) _ [t, if 1 < t then t - 1 else 0, t + 1] _ ⟨rfl, rfl, ?_, _, _, _, rfl⟩ ?_ ?_
    · intro g hg
      simp only [List.mem_cons, List.mem_nil_iff, or_false] at hg
      have : t ≤ 9000 := by split at hle <;> omega
      rcases hg with rfl | rfl | rfl
      · omega
      · split <;> omega
      · omega
    · rintro g r vs mu k' ⟨rfl, rfl, hg, y17, y18, y19, rfl⟩
      have hg' := hg g (by simp)
      simp
      refine leg6 o hl h0 hh hg'.1 hg'.2 fun A18 A19 => ?_
      simp
      exact ⟨rfl, rfl, rfl, fun g h => hg g (by simp [h]), _, _, _, rfl⟩
    · rintro vs mu k' ⟨rfl, rfl, hg, y17, y18, y19, rfl⟩
      simp
      exact hQ _ _ _ _
end
end K73
namespace K73
open PySem Mini Mini.Win
open L2 (atI ixN)
section
variable {rn : Rn} [Runs rn ds] {n : Nat} {row : List Int} {m : Int} {k : Ky}
theorem noL_legsD (ls : List Leg) : noL (legsD ls) = true := noLs_map (fun l => by
  obtain ⟨a, o⟩ := l
  cases o with
  | none => rfl
  | some s => show (noL (D.int a) && noLs [spansD s]) = true; simp [spansD]; exact noLs_map (fun _ => rfl) s) ls
theorem noL_tabD (l : List Kn) : noL (tabD l) = true := noLs_map (fun p => rfl) l
/-- marks: the legs' borders -/
theorem legs5 {a : Leg} (o : LegOk a) {mk : List Int} (hmk : ∀ x ∈ mk, 0 ≤ x ∧ x ≤ 400) (hml : mk.length ≤ 1000) {A0 A1 A2 A3 A4 A5 A6 A7 A8 A9 A10 A11 A12 A13 A16 A17 A18 A19 A20 A21 A22 A23 A24 A25 A26 A27 A28 : Option D} {mu : List Nat} {Q : O → Prop}
    (hQ : ∀ (mk' : List Int) (A9 : Option D) (mu' : List Nat), (∀ x ∈ mk', 0 ≤ x ∧ x ≤ 400) → mk'.length ≤ mk.length + 16 → (∀ i ∈ mu', i ∈ mu) → Q (.nx ⟨[A0, A1, A2, A3, A4, A5, A6, A7, A8, A9, A10, A11, A12, A13, some (.lst (mk'.map .int)), some (legD a), A16, A17, A18, A19, A20, A21, A22, A23, A24, A25, A26, A27, A28], mu', k⟩)) :
    WP (rn.go (n + 8)) WF blaw_5 ⟨[A0, A1, A2, A3, A4, A5, A6, A7, A8, A9, A10, A11, A12, A13, some (.lst (mk.map .int)), some (legD a), A16, A17, A18, A19, A20, A21, A22, A23, A24, A25, A26, A27, A28], mu, k⟩ Q := by
  obtain ⟨d, oe⟩ := a
  cases oe with
  | none =>
    simp [blaw_5, legD, spsD]
    refine fp_D [9, 14] (fun r vs mu' k' => k' = k ∧ (∀ i ∈ mu', i ∈ mu) ∧ r = [] ∧ ∃ y9 : Option D, vs = [y9, some (.lst (mk.map .int))]) _ [] _ ⟨rfl, fun i h => (by simp at h; exact h.1), rfl, _, rfl⟩ ?_ ?_
    · rintro a r vs mu k' ⟨_, _, h, _⟩; cases h
    · rintro vs mu' k' ⟨rfl, hm, _, y9, rfl⟩
      simp
      exact hQ mk y9 mu' hmk (by omega) hm
  | some sp =>
    have os := o.sp sp rfl
    have hl4 := os.len
    simp [blaw_5, legD, spsD, spansD, show ∀ l, isNonD (spansD l) = false from fun _ => rfl]
    refine fp_list [9, 14] spanD (fun r vs mu' k' => k' = k ∧ (∀ i ∈ mu', i ∈ mu) ∧ (∀ p ∈ r, p ∈ sp) ∧ r.length ≤ 4 ∧ ∃ (y9 : Option D) (mk' : List Int), (∀ x ∈ mk', 0 ≤ x ∧ x ≤ 400) ∧ mk'.length + 4 * r.length ≤ mk.length + 16 ∧ vs = [y9, some (.lst (mk'.map .int))]) _ sp _ ⟨rfl, fun i h => (by simp at h; exact h.1), fun p h => h, hl4, _, mk, hmk, by omega, rfl⟩ ?_ ?_
    · rintro p r vs mu' k' ⟨rfl, hm, hp, hr, y9, mk', hk', hlen, rfl⟩
      have hpr := os.rng p (hp p (by simp))
      simp only [List.length_cons] at hr hlen
      simp [blaw_4, spanD, lineOk_of (show mk'.length + 4 ≤ 16777216 by omega)]
      refine ⟨rfl, rfl, fun i hi => ?_, fun p h => hp p (by simp [h]), by omega, some (spanD p), mk' ++ [if 1 < p.1 then p.1 - 1 else 0, p.1, p.2, p.2 + 1], fun x hx => ?_, by simp; omega, by rw [List.map_append]; rfl⟩
      · simp [keepM] at hi
        exact hm i hi.1
      · simp only [List.mem_append, List.mem_cons, List.mem_nil_iff, or_false] at hx
        rcases hx with hx | rfl | rfl | rfl | rfl
        · exact hk' x hx
        · split <;> omega
        · omega
        · omega
        · omega
    · rintro vs mu' k' ⟨rfl, hm, hp, hr, y9, mk', hk', hlen, rfl⟩
      simp
      exact hQ mk' y9 mu' hk' (by simpa using hlen) hm
theorem law_wp (ns : List Int) (hr : row ≠ []) (hrow : rn.go (n + 9) 74 [.scr (ns.map .int)] [] = some (.lst (row.map .int), [])) : rn.go (n + 10) 94 [.scr (ns.map .int)] [] = some (.bl true, []) := by
  refine run_wp rfl rfl ?_
  simp [blaw, hrow, keepM]
  refine l_table (n := n + 4) hr (by decide) fun l m1 hm1 t => ?_
  have tt := t.t
  have h2 := tt.len2
  have hl := tt.len
  have hnt := noL_tabD l
  have k0 := kn_at (l := l) (i := 0) (by omega)
  rw [show ((0 : Nat) : Int) = 0 from rfl] at k0
  have k1 := kn_at (l := l) (i := l.length - 1) (by omega)
  rw [show ((l.length - 1 : Nat) : Int) = (l.length : Int) - 1 by omega] at k1
  have it0 : ∀ k : Ky, idxSem k (tabD l) (.int 0) = some (pairD (kn l 0)) := fun k => k0
  have it1 : ∀ k : Ky, idxSem k (tabD l) (.int ((l.length : Int) - 1)) = some (pairD (kn l (l.length - 1))) := fun k => k1
  have ln : biSem .len [tabD l] = some (.int l.length) := by simp [tabD]
  have dt : ∀ k : Ky, deref k (tabD l) = tabD l := fun k => rfl
  have c4 : sliSem (tabD l) none (some 4) = some (.tup ((l.take 4).map pairD)) := by
    show some (D.tup (cutD (l.map pairD) none (some ((4 : Nat) : Int)))) = _
    rw [cutD_to, List.map_take]
  have c3 : sliSem (tabD l) none (some 3) = some (.tup ((l.take 3).map pairD)) := by
    show some (D.tup (cutD (l.map pairD) none (some ((3 : Nat) : Int)))) = _
    rw [cutD_to, List.map_take]
  have m4 : ∀ p ∈ l.take 4, p ∈ l := fun p => List.mem_of_mem_take
  have m3 : ∀ p ∈ l.take 3, p ∈ l := fun p => List.mem_of_mem_take
  have q4 : (l.take 4).length ≤ 4 := List.length_take_le _ _
  have q3 : (l.take 3).length ≤ 3 := List.length_take_le _ _
  generalize l.take 4 = l4 at *
  generalize l.take 3 = l3 at *
  simp [keepM, hnt, it0, it1, ln, dt, fr1, c4, c3]
  have hH : ∀ p ∈ l, -500 ≤ p.2 ∧ p.2 ≤ 1499 := by
    obtain ⟨lo, h0, hlo⟩ := t.w
    intro p hp
    have := hlo p hp
    have := tt.rng p hp
    omega
  refine ⟨lineOk_of (by omega), cm_map pairD (fun p => .int p.2) l4 (fun p hp => ?_) ?_⟩
  · simp [elaw_2]
  simp [dt, c3]
  refine ⟨lineOk_of (by omega), cm_map pairD (fun p => .int (p.2 + 1)) l3 (fun p hp => ?_) ?_⟩
  · simp [elaw_3]
  have e7 : (List.map (fun p : Kn => D.int p.2) l4 ++ List.map (fun p : Kn => D.int (p.2 + 1)) l3) = (l4.map (fun p : Kn => p.2) ++ l3.map fun p : Kn => p.2 + 1).map D.int := by simp [Function.comp_def]
  have l7 : lineOk (l4.length + l3.length) = true := lineOk_of (by omega)
  have r7 : ∀ c ∈ (l4.map (fun p : Kn => p.2) ++ l3.map fun p : Kn => p.2 + 1), -500 ≤ c ∧ c ≤ 1500 := by
    intro c hc
    rcases List.mem_append.mp hc with hc | hc
    · obtain ⟨p, hp, rfl⟩ := List.mem_map.mp hc
      have := hH p (m4 p hp)
      omega
    · obtain ⟨p, hp, rfl⟩ := List.mem_map.mp hc
      have := hH p (m3 p hp)
      omega
  simp [l7]
  rw [e7]
  refine fp_list [6, 8, 9, 10, 11, 12] D.int (fun r vs mu k' => k' = sp m1 ∧ mu = [] ∧ (∀ c ∈ r, -500 ≤ c ∧ c ≤ 1500) ∧ ∃ y6 y8 y9 y10 y11 y12 : Option D, vs = [y6, y8, y9, y10, y11, y12]) _ _ _ ⟨rfl, rfl, r7, _, _, _, _, _, _, rfl⟩ ?_ ?_
  · rintro c r vs mu k' ⟨rfl, rfl, hc, y6, y8, y9, y10, y11, y12, rfl⟩
    simp
    refine win1 (rn := rn) (n := n + 1) t (hc c (by simp)) fun A8 A9 A10 A11 A12 => ?_
    simp
    exact ⟨rfl, rfl, rfl, fun c h => hc c (by simp [h]), _, _, _, _, _, _, rfl⟩
  rintro vs mu k' ⟨rfl, rfl, hc, y6, y8, y9, y10, y11, y12, rfl⟩
  simp
  refine l_legs (rn := rn) (n := n + 4) hr hm1 fun ls m2 hm2 ho hl5 => ?_
  simp [keepM, noL_legsD, newS]
  simp only [legsD]
  simp
  refine fp_list [9, 14, 15] legD (fun r vs mu k' => k' = sp m2 ∧ (∀ i ∈ mu, i = 14) ∧ (∀ a ∈ r, LegOk a) ∧ r.length ≤ 5 ∧ ∃ (y9 y15 : Option D) (mk : List Int), (∀ x ∈ mk, 0 ≤ x ∧ x ≤ 400) ∧ mk.length + 16 * r.length ≤ 100 ∧ vs = [y9, some (.lst (mk.map .int)), y15]) _ ls _ ⟨rfl, by simp, ho, hl5, _, _, [0], by simp, by simp; omega, rfl⟩ ?_ ?_
  · rintro a r vs mu k' ⟨rfl, hmu, ha, hr5, y9, y15, mk, hmk, hml, rfl⟩
    simp only [List.length_cons] at hr5 hml
    simp
    refine legs5 (rn := rn) (n := n + 1) (ha a (by simp)) hmk (by omega) fun mk' A9 mu' h1 h2 h3 => ?_
    simp
    refine ⟨rfl, rfl, fun i hi => ?_, fun a h => ha a (by simp [h]), by omega, A9, _, mk', h1, by omega, rfl⟩
    have := h3 i hi
    simp at this
    exact hmu i this.1
  rintro vs mu k' ⟨rfl, hmu, ha, hr5, y9, y15, mk, hmk, hml, rfl⟩
  have c20 : sliSem (.lst (mk.map .int)) none (some 20) = some (.lst ((mk.take 20).map .int)) := by
    show some (D.lst (cutD (mk.map D.int) none (some ((20 : Nat) : Int)))) = _
    rw [cutD_to, List.map_take]
  have hmu0 : ∀ p : Nat → Bool, p 14 = false → mu.filter p = [] := by
    intro p hp
    rw [List.filter_eq_nil_iff]
    intro i hi
    rw [hmu i hi, hp]; simp
  have hm20 : ∀ x ∈ mk.take 20, 0 ≤ x ∧ x ≤ 400 := fun x hx => hmk x (List.mem_of_mem_take hx)
  generalize mk.take 20 = mk20 at *
  have hls : D.tup (ls.map legD) = legsD ls := rfl
  rw [hls]
  simp [c20]
  rw [hmu0 _ (by simp)]
  refine fp_list [12, 16, 17, 18, 19] D.int (fun r vs mu k' => k' = sp m2 ∧ mu = [] ∧ (∀ x ∈ r, 0 ≤ x ∧ x ≤ 400) ∧ ∃ y12 y16 y17 y18 y19 : Option D, vs = [y12, y16, y17, y18, y19]) _ mk20 _ ⟨rfl, rfl, hm20, _, _, _, _, _, rfl⟩ ?_ ?_
  · rintro x r vs mu k' ⟨rfl, rfl, hx, y12, y16, y17, y18, y19, rfl⟩
    have := hx x (by simp)
    simp
    refine leg7 (rn := rn) (n := n + 1) ho (by omega) this.1 this.2 fun A12 A17 A18 A19 => ?_
    simp
    exact ⟨rfl, rfl, rfl, fun x h => hx x (by simp [h]), _, _, _, _, _, rfl⟩
  rintro vs mu k' ⟨rfl, rfl, hx, y12, y16, y17, y18, y19, rfl⟩
  simp
  refine take hr hm2 (by decide) fun v v0 v1 => ?_
  have hgg : D.tup [D.tup [D.int 3, D.int 2], D.tup [D.int 10, D.int 9], D.tup [D.int 30, D.int 12]] = tabD gg := rfl
  rw [hgg]
  simp
  refine fp_list [21, 22, 23, 24, 25, 26, 27, 28] (fun cs : List Int => D.tup (cs.map .int)) (fun r vs mu k' => k' = sp (m2 + 1) ∧ mu = [] ∧ (∀ cs ∈ r, 1 ≤ cs.length ∧ cs.length ≤ 6 ∧ (∀ x ∈ cs, 1 ≤ x ∧ x ≤ 1000) ∧ ∀ d : Fin 14, canOk cs d = true) ∧ ∃ y21 y22 y23 y24 y25 y26 y27 y28 : Option D, vs = [y21, y22, y23, y24, y25, y26, y27, y28]) _ [[7, 20, 27], [1 + v, 7]] _ ⟨rfl, rfl, ?_, _, _, _, _, _, _, _, _, rfl⟩ ?_ ?_
  · intro cs hcs
    simp only [List.mem_cons, List.mem_nil_iff, or_false] at hcs
    rcases hcs with rfl | rfl
    · exact ⟨by decide, by decide, by decide, can_one⟩
    · refine ⟨by simp, by simp, ?_, ?_⟩
      · intro x hx
        simp only [List.mem_cons, List.mem_nil_iff, or_false] at hx
        rcases hx with rfl | rfl <;> omega
      · have := can_two ⟨v.toNat, by omega⟩
        simp only [show ((v.toNat : Nat) : Int) = v by omega] at this
        exact this
  · rintro cs r vs mu k' ⟨rfl, rfl, hc, y21, y22, y23, y24, y25, y26, y27, y28, rfl⟩
    obtain ⟨h1, h6, hr', hok⟩ := hc cs (by simp)
    simp
    refine cans12 (rn := rn) (n := n + 3) h1 h6 hr' hok fun A22 A23 A24 A25 A26 A27 A28 => ?_
    simp
    exact ⟨rfl, rfl, rfl, fun cs h => hc cs (by simp [h]), _, _, _, _, _, _, _, _, rfl⟩
  rintro vs mu k' ⟨rfl, rfl, hc, y21, y22, y23, y24, y25, y26, y27, y28, rfl⟩
  simp
  refine fp_list [26, 27] D.int (fun r vs mu k' => k' = sp (m2 + 1) ∧ mu = [] ∧ (∀ x ∈ r, x = 2 ∨ x = 3 ∨ x = 10 ∨ x = 30 ∨ x = 31) ∧ ∃ y26 y27 : Option D, vs = [y26, y27]) _ [2, 3, 10, 30, 31] _ ⟨rfl, rfl, by simp, _, _, rfl⟩ ?_ ?_
  · rintro x r vs mu k' ⟨rfl, rfl, hx, y26, y27, rfl⟩
    have := hx x (by simp)
    simp
    refine lit13 (rn := rn) (n := n + 3) this fun A27 => ?_
    simp
    exact ⟨rfl, rfl, rfl, fun x h => hx x (by simp [h]), _, _, rfl⟩
  rintro vs mu k' ⟨rfl, rfl, hx, y26, y27, rfl⟩
  simp
  refine opq_monoL (r_rest (rn := rn) (n := n + 1) (m := m2 + 1) hr (by omega)) fun p hp => ?_
  obtain ⟨d, k'⟩ := p
  simp only at hp
  subst hp
  simp
end
/-- the law's end -/
theorem holds : ∀ ns : List Int, ns.length ≤ 63 → ∃ k, run WF ds 10 94 [.scr (ns.map .int)] [] = some (.bl true, k) := by
  intro ns _
  obtain ⟨row, hr, hrow⟩ := numbers_ok (rn := ⟨run WF ds⟩) (n := 8) (f := 74) (k := []) rfl ns
  exact ⟨[], law_wp (rn := ⟨run WF ds⟩) (n := 0) ns hr hrow⟩
end K73
namespace K73
open PySem PySem.Spec PyProof.Rows L2 Mini
def fnD0 : List He.DefD := [⟨("reduced", none), "reduced", "reduced", defArgs streduced, defBody streduced, defScope streduced, [], []⟩, ⟨("f_whole", none), "f_whole", "f_whole", defArgs stf_whole, defBody stf_whole, defScope stf_whole, [], []⟩, ⟨("f_add", none), "f_add", "f_add", defArgs stf_add, defBody stf_add, defScope stf_add, [], []⟩, ⟨("f_sub", none), "f_sub", "f_sub", defArgs stf_sub, defBody stf_sub, defScope stf_sub, [], []⟩, ⟨("f_mul", none), "f_mul", "f_mul", defArgs stf_mul, defBody stf_mul, defScope stf_mul, [], []⟩, ⟨("f_div", none), "f_div", "f_div", defArgs stf_div, defBody stf_div, defScope stf_div, [], []⟩, ⟨("f_less", none), "f_less", "f_less", defArgs stf_less, defBody stf_less, defScope stf_less, [], []⟩, ⟨("f_at_most", none), "f_at_most", "f_at_most", defArgs stf_at_most, defBody stf_at_most, defScope stf_at_most, [], []⟩, ⟨("f_min", none), "f_min", "f_min", defArgs stf_min, defBody stf_min, defScope stf_min, [], []⟩, ⟨("f_max", none), "f_max", "f_max", defArgs stf_max, defBody stf_max, defScope stf_max, [], []⟩, ⟨("f_floor", none), "f_floor", "f_floor", defArgs stf_floor, defBody stf_floor, defScope stf_floor, [], []⟩, ⟨("covers", none), "covers", "covers", defArgs stcovers, defBody stcovers, defScope stcovers, [], []⟩, ⟨("turned", none), "turned", "turned", defArgs stturned, defBody stturned, defScope stturned, [], []⟩, ⟨("height_at", none), "height_at", "height_at", defArgs stheight_at, defBody stheight_at, defScope stheight_at, [], []⟩, ⟨("height_between", none), "height_between", "height_between", defArgs stheight_between, defBody stheight_between, defScope stheight_between, [], []⟩, ⟨("place_between", none), "place_between", "place_between", defArgs stplace_between, defBody stplace_between, defScope stplace_between, [], []⟩, ⟨("high_part", none), "high_part", "high_part", defArgs sthigh_part, defBody sthigh_part, defScope sthigh_part, [], []⟩, ⟨("high_spans", none), "high_spans", "high_spans", defArgs sthigh_spans, defBody sthigh_spans, defScope sthigh_spans, [], []⟩, ⟨("all_choices", none), "all_choices", "all_choices", defArgs stall_choices, defBody stall_choices, defScope stall_choices, [], []⟩, ⟨("need", none), "need", "need", defArgs stneed, defBody stneed, defScope stneed, [], []⟩]
def fnD1 : List He.DefD := [⟨("is_integer", none), "is_integer", "is_integer", defArgs stis_integer, defBody stis_integer, defScope stis_integer, [], []⟩, ⟨("is_whole", none), "is_whole", "is_whole", defArgs stis_whole, defBody stis_whole, defScope stis_whole, [], []⟩, ⟨("is_whole_from", none), "is_whole_from", "is_whole_from", defArgs stis_whole_from, defBody stis_whole_from, defScope stis_whole_from, [], []⟩, ⟨("is_sequence", none), "is_sequence", "is_sequence", defArgs stis_sequence, defBody stis_sequence, defScope stis_sequence, [], []⟩, ⟨("is_pair", none), "is_pair", "is_pair", defArgs stis_pair, defBody stis_pair, defScope stis_pair, [], []⟩, ⟨("is_wholes", none), "is_wholes", "is_wholes", defArgs stis_wholes, defBody stis_wholes, defScope stis_wholes, [], []⟩, ⟨("is_row", none), "is_row", "is_row", defArgs stis_row, defBody stis_row, defScope stis_row, [], []⟩, ⟨("is_rows", none), "is_rows", "is_rows", defArgs stis_rows, defBody stis_rows, defScope stis_rows, [], []⟩, ⟨("is_rising", none), "is_rising", "is_rising", defArgs stis_rising, defBody stis_rising, defScope stis_rising, [], []⟩, ⟨("is_any_fraction", none), "is_any_fraction", "is_any_fraction", defArgs stis_any_fraction, defBody stis_any_fraction, defScope stis_any_fraction, [], []⟩, ⟨("is_fraction", none), "is_fraction", "is_fraction", defArgs stis_fraction, defBody stis_fraction, defScope stis_fraction, [], []⟩, ⟨("frozen", none), "frozen", "frozen", defArgs stfrozen, defBody stfrozen, defScope stfrozen, [], []⟩, ⟨("are_loads", none), "are_loads", "are_loads", defArgs stare_loads, defBody stare_loads, defScope stare_loads, [], []⟩, ⟨("is_gauge", none), "is_gauge", "is_gauge", defArgs stis_gauge, defBody stis_gauge, defScope stis_gauge, [], []⟩, ⟨("read_off", none), "read_off", "read_off", defArgs stread_off, defBody stread_off, defScope stread_off, [], []⟩, ⟨("depth_of", none), "depth_of", "depth_of", defArgs stdepth_of, defBody stdepth_of, defScope stdepth_of, [], []⟩, ⟨("litres_at", none), "litres_at", "litres_at", defArgs stlitres_at, defBody stlitres_at, defScope stlitres_at, [], []⟩, ⟨("room_above", none), "room_above", "room_above", defArgs stroom_above, defBody stroom_above, defScope stroom_above, [], []⟩, ⟨("most_poured", none), "most_poured", "most_poured", defArgs stmost_poured, defBody stmost_poured, defScope stmost_poured, [], []⟩, ⟨("is_draughts", none), "is_draughts", "is_draughts", defArgs stis_draughts, defBody stis_draughts, defScope stis_draughts, [], []⟩]
def fnD2 : List He.DefD := [⟨("is_weight", none), "is_weight", "is_weight", defArgs stis_weight, defBody stis_weight, defScope stis_weight, [], []⟩, ⟨("parts_left", none), "parts_left", "parts_left", defArgs stparts_left, defBody stparts_left, defScope stparts_left, [], []⟩, ⟨("share_left", none), "share_left", "share_left", defArgs stshare_left, defBody stshare_left, defScope stshare_left, [], []⟩, ⟨("left_over", none), "left_over", "left_over", defArgs stleft_over, defBody stleft_over, defScope stleft_over, [], []⟩, ⟨("weight_needed", none), "weight_needed", "weight_needed", defArgs stweight_needed, defBody stweight_needed, defScope stweight_needed, [], []⟩, ⟨("lasts", none), "lasts", "lasts", defArgs stlasts, defBody stlasts, defScope stlasts, [], []⟩, ⟨("bands_of", none), "bands_of", "bands_of", defArgs stbands_of, defBody stbands_of, defScope stbands_of, [], []⟩, ⟨("within", none), "within", "within", defArgs stwithin, defBody stwithin, defScope stwithin, [], []⟩, ⟨("toll_due", none), "toll_due", "toll_due", defArgs sttoll_due, defBody sttoll_due, defScope sttoll_due, [], []⟩, ⟨("last_mile", none), "last_mile", "last_mile", defArgs stlast_mile, defBody stlast_mile, defScope stlast_mile, [], []⟩, ⟨("miles_within", none), "miles_within", "miles_within", defArgs stmiles_within, defBody stmiles_within, defScope stmiles_within, [], []⟩, ⟨("is_band", none), "is_band", "is_band", defArgs stis_band, defBody stis_band, defScope stis_band, [], []⟩, ⟨("is_toll", none), "is_toll", "is_toll", defArgs stis_toll, defBody stis_toll, defScope stis_toll, [], []⟩, ⟨("is_miles", none), "is_miles", "is_miles", defArgs stis_miles, defBody stis_miles, defScope stis_miles, [], []⟩, ⟨("due", none), "due", "due", defArgs stdue, defBody stdue, defScope stdue, [], []⟩, ⟨("miles_for", none), "miles_for", "miles_for", defArgs stmiles_for, defBody stmiles_for, defScope stmiles_for, [], []⟩, ⟨("is_span", none), "is_span", "is_span", defArgs stis_span, defBody stis_span, defScope stis_span, [], []⟩, ⟨("are_spans", none), "are_spans", "are_spans", defArgs stare_spans, defBody stare_spans, defScope stare_spans, [], []⟩, ⟨("is_leg", none), "is_leg", "is_leg", defArgs stis_leg, defBody stis_leg, defScope stis_leg, [], []⟩, ⟨("are_legs", none), "are_legs", "are_legs", defArgs stare_legs, defBody stare_legs, defScope stare_legs, [], []⟩]
def fnD3 : List He.DefD := [⟨("checked", none), "checked", "checked", defArgs stchecked, defBody stchecked, defScope stchecked, [], []⟩, ⟨("begin_from", none), "begin_from", "begin_from", defArgs stbegin_from, defBody stbegin_from, defScope stbegin_from, [], []⟩, ⟨("begin_till", none), "begin_till", "begin_till", defArgs stbegin_till, defBody stbegin_till, defScope stbegin_till, [], []⟩, ⟨("travelled", none), "travelled", "travelled", defArgs sttravelled, defBody sttravelled, defScope sttravelled, [], []⟩, ⟨("arrives", none), "arrives", "arrives", defArgs starrives, defBody starrives, defScope starrives, [], []⟩, ⟨("waits", none), "waits", "waits", defArgs stwaits, defBody stwaits, defScope stwaits, [], []⟩, ⟨("leaves", none), "leaves", "leaves", defArgs stleaves, defBody stleaves, defScope stleaves, [], []⟩, ⟨("is_table", none), "is_table", "is_table", defArgs stis_table, defBody stis_table, defScope stis_table, [], []⟩, ⟨("sour_at", none), "sour_at", "sour_at", defArgs stsour_at, defBody stsour_at, defScope stsour_at, [], []⟩, ⟨("windows", none), "windows", "windows", defArgs stwindows, defBody stwindows, defScope stwindows, [], []⟩, ⟨("first_from", none), "first_from", "first_from", defArgs stfirst_from, defBody stfirst_from, defScope stfirst_from, [], []⟩, ⟨("last_till", none), "last_till", "last_till", defArgs stlast_till, defBody stlast_till, defScope stlast_till, [], []⟩, ⟨("asked", none), "asked", "asked", defArgs stasked, defBody stasked, defScope stasked, [], []⟩, ⟨("_law_so", none), "_law_so", "_law_so", defArgs st_law_so, defBody st_law_so, defScope st_law_so, [], []⟩, ⟨("_law_numbers", none), "_law_numbers", "_law_numbers", defArgs st_law_numbers, defBody st_law_numbers, defScope st_law_numbers, [], []⟩, ⟨("_law_draw", none), "_law_draw", "_law_draw", defArgs st_law_draw, defBody st_law_draw, defScope st_law_draw, [], []⟩, ⟨("_law_take", none), "_law_take", "_law_take", defArgs st_law_take, defBody st_law_take, defScope st_law_take, [], []⟩, ⟨("_law_pick", none), "_law_pick", "_law_pick", defArgs st_law_pick, defBody st_law_pick, defScope st_law_pick, [], []⟩, ⟨("_law_gcd", none), "_law_gcd", "_law_gcd", defArgs st_law_gcd, defBody st_law_gcd, defScope st_law_gcd, [], []⟩, ⟨("_law_sets", none), "_law_sets", "_law_sets", defArgs st_law_sets, defBody st_law_sets, defScope st_law_sets, [], []⟩]
def fnD4 : List He.DefD := [⟨("_law_red", none), "_law_red", "_law_red", defArgs st_law_red, defBody st_law_red, defScope st_law_red, [], []⟩, ⟨("_law_add", none), "_law_add", "_law_add", defArgs st_law_add, defBody st_law_add, defScope st_law_add, [], []⟩, ⟨("_law_sub", none), "_law_sub", "_law_sub", defArgs st_law_sub, defBody st_law_sub, defScope st_law_sub, [], []⟩, ⟨("_law_mul", none), "_law_mul", "_law_mul", defArgs st_law_mul, defBody st_law_mul, defScope st_law_mul, [], []⟩, ⟨("_law_less", none), "_law_less", "_law_less", defArgs st_law_less, defBody st_law_less, defScope st_law_less, [], []⟩, ⟨("_law_table", none), "_law_table", "_law_table", defArgs st_law_table, defBody st_law_table, defScope st_law_table, [], []⟩, ⟨("_law_cross", none), "_law_cross", "_law_cross", defArgs st_law_cross, defBody st_law_cross, defScope st_law_cross, [], []⟩, ⟨("_law_windows", none), "_law_windows", "_law_windows", defArgs st_law_windows, defBody st_law_windows, defScope st_law_windows, [], []⟩, ⟨("_law_legs", none), "_law_legs", "_law_legs", defArgs st_law_legs, defBody st_law_legs, defScope st_law_legs, [], []⟩, ⟨("_law_arrives", none), "_law_arrives", "_law_arrives", defArgs st_law_arrives, defBody st_law_arrives, defScope st_law_arrives, [], []⟩, ⟨("_law_toll", none), "_law_toll", "_law_toll", defArgs st_law_toll, defBody st_law_toll, defScope st_law_toll, [], []⟩, ⟨("_law_due", none), "_law_due", "_law_due", defArgs st_law_due, defBody st_law_due, defScope st_law_due, [], []⟩, ⟨("_law_miles", none), "_law_miles", "_law_miles", defArgs st_law_miles, defBody st_law_miles, defScope st_law_miles, [], []⟩, ⟨("_law_borders_rest", none), "_law_borders_rest", "_law_borders_rest", defArgs st_law_borders_rest, defBody st_law_borders_rest, defScope st_law_borders_rest, [], []⟩, ⟨("law", none), "law", "law", defArgs stlaw, defBody stlaw, defScope stlaw, [], []⟩]
def fnD : List He.DefD := fnD0 ++ (fnD1 ++ (fnD2 ++ (fnD3 ++ (fnD4))))
def faD0 : List He.Fa := [.glo "reduced", .glo "f_whole", .glo "f_add", .glo "f_sub", .glo "f_mul", .glo "f_div", .glo "f_less", .glo "f_at_most", .glo "f_min", .glo "f_max", .glo "f_floor", .glo "covers", .glo "turned", .glo "height_at", .glo "height_between", .glo "place_between", .glo "high_part", .glo "high_spans", .glo "all_choices", .glo "need"]
def faD1 : List He.Fa := [.glo "is_integer", .glo "is_whole", .glo "is_whole_from", .glo "is_sequence", .glo "is_pair", .glo "is_wholes", .glo "is_row", .glo "is_rows", .glo "is_rising", .glo "is_any_fraction", .glo "is_fraction", .glo "frozen", .glo "are_loads", .glo "is_gauge", .glo "read_off", .glo "depth_of", .glo "litres_at", .glo "room_above", .glo "most_poured", .glo "is_draughts"]
def faD2 : List He.Fa := [.glo "is_weight", .glo "parts_left", .glo "share_left", .glo "left_over", .glo "weight_needed", .glo "lasts", .glo "bands_of", .glo "within", .glo "toll_due", .glo "last_mile", .glo "miles_within", .glo "is_band", .glo "is_toll", .glo "is_miles", .glo "due", .glo "miles_for", .glo "is_span", .glo "are_spans", .glo "is_leg", .glo "are_legs"]
def faD3 : List He.Fa := [.glo "checked", .glo "begin_from", .glo "begin_till", .glo "travelled", .glo "arrives", .glo "waits", .glo "leaves", .glo "is_table", .glo "sour_at", .glo "windows", .glo "first_from", .glo "last_till", .glo "asked", .glo "_law_so", .glo "_law_numbers", .glo "_law_draw", .glo "_law_take", .glo "_law_pick", .glo "_law_gcd", .glo "_law_sets"]
def faD4 : List He.Fa := [.glo "_law_red", .glo "_law_add", .glo "_law_sub", .glo "_law_mul", .glo "_law_less", .glo "_law_table", .glo "_law_cross", .glo "_law_windows", .glo "_law_legs", .glo "_law_arrives", .glo "_law_toll", .glo "_law_due", .glo "_law_miles", .glo "_law_borders_rest", .glo "law", .int "MOST_PARTS" (1000000), .int "MOST_LOADS" (6), .int "HEAVIEST" (1000), .int "MOST_KNOTS" (8), .int "DEEPEST" (10000)]
def faD5 : List He.Fa := [.int "MOST_DRAUGHTS" (24), .int "PARTS" (200), .int "MOST_BANDS" (4), .int "FARTHEST" (1000), .int "DEAREST" (1000), .int "MOST_TONS" (1000), .int "MOST_PENCE" (1000000000), .int "MOST_LEGS" (10), .int "MOST_SPANS" (4), .int "LONGEST" (1000), .int "LATEST" (10000), .int "LEAST_SOUR" ((-500)), .int "MOST_SOUR" (1500), .int "LAST_MINUTE" (1440), .free "isinstance", .free "len", .free "int", .free "sum", .free "max", .free "min"]
def faD6 : List He.Fa := [.free "abs", .free "all", .free "any", .free "tuple", .free "list", .free "sorted", .free "bool", .free "str", .free "range", .free "enumerate", .free "zip", .free "reversed", .free "divmod", .free "set", .free "ord"]
def faD : List He.Fa := faD0 ++ (faD1 ++ (faD2 ++ (faD3 ++ (faD4 ++ (faD5 ++ (faD6))))))
def bsD : List (Str × String) := [("gcd", "math.gcd")]
theorem df_reduced {K : PySem.W.Frag} {h : Heap} {mg : Str → Option Value} (X : K.In h) (G : h.Ns mainGlobals mg) (c : He.SaysD faD fnD K) : DefFact ct K mg ds "reduced" 0 := def_fact (st := streduced) (m := 60) (c.def_ 0 rfl) (He.glo_ok X G (c.fact 0 (f := .glo "reduced") rfl)) sreduced creduced rfl fun _ _ _ _ _ _ us hl => match us, hl with | [_, _], _ => rfl
theorem df_f_whole {K : PySem.W.Frag} {h : Heap} {mg : Str → Option Value} (X : K.In h) (G : h.Ns mainGlobals mg) (c : He.SaysD faD fnD K) : DefFact ct K mg ds "f_whole" 1 := def_fact (st := stf_whole) (m := 60) (c.def_ 1 rfl) (He.glo_ok X G (c.fact 1 (f := .glo "f_whole") rfl)) sf_whole cf_whole rfl fun _ _ _ _ _ _ us hl => match us, hl with | [_], _ => rfl
theorem df_f_add {K : PySem.W.Frag} {h : Heap} {mg : Str → Option Value} (X : K.In h) (G : h.Ns mainGlobals mg) (c : He.SaysD faD fnD K) : DefFact ct K mg ds "f_add" 2 := def_fact (st := stf_add) (m := 60) (c.def_ 2 rfl) (He.glo_ok X G (c.fact 2 (f := .glo "f_add") rfl)) sf_add cf_add rfl fun _ _ _ _ _ _ us hl => match us, hl with | [_, _], _ => rfl
theorem df_f_sub {K : PySem.W.Frag} {h : Heap} {mg : Str → Option Value} (X : K.In h) (G : h.Ns mainGlobals mg) (c : He.SaysD faD fnD K) : DefFact ct K mg ds "f_sub" 3 := def_fact (st := stf_sub) (m := 60) (c.def_ 3 rfl) (He.glo_ok X G (c.fact 3 (f := .glo "f_sub") rfl)) sf_sub cf_sub rfl fun _ _ _ _ _ _ us hl => match us, hl with | [_, _], _ => rfl
theorem df_f_mul {K : PySem.W.Frag} {h : Heap} {mg : Str → Option Value} (X : K.In h) (G : h.Ns mainGlobals mg) (c : He.SaysD faD fnD K) : DefFact ct K mg ds "f_mul" 4 := def_fact (st := stf_mul) (m := 60) (c.def_ 4 rfl) (He.glo_ok X G (c.fact 4 (f := .glo "f_mul") rfl)) sf_mul cf_mul rfl fun _ _ _ _ _ _ us hl => match us, hl with | [_, _], _ => rfl
theorem df_f_div {K : PySem.W.Frag} {h : Heap} {mg : Str → Option Value} (X : K.In h) (G : h.Ns mainGlobals mg) (c : He.SaysD faD fnD K) : DefFact ct K mg ds "f_div" 5 := def_fact (st := stf_div) (m := 60) (c.def_ 5 rfl) (He.glo_ok X G (c.fact 5 (f := .glo "f_div") rfl)) sf_div cf_div rfl fun _ _ _ _ _ _ us hl => match us, hl with | [_, _], _ => rfl
theorem df_f_less {K : PySem.W.Frag} {h : Heap} {mg : Str → Option Value} (X : K.In h) (G : h.Ns mainGlobals mg) (c : He.SaysD faD fnD K) : DefFact ct K mg ds "f_less" 6 := def_fact (st := stf_less) (m := 60) (c.def_ 6 rfl) (He.glo_ok X G (c.fact 6 (f := .glo "f_less") rfl)) sf_less cf_less rfl fun _ _ _ _ _ _ us hl => match us, hl with | [_, _], _ => rfl
theorem df_f_at_most {K : PySem.W.Frag} {h : Heap} {mg : Str → Option Value} (X : K.In h) (G : h.Ns mainGlobals mg) (c : He.SaysD faD fnD K) : DefFact ct K mg ds "f_at_most" 7 := def_fact (st := stf_at_most) (m := 60) (c.def_ 7 rfl) (He.glo_ok X G (c.fact 7 (f := .glo "f_at_most") rfl)) sf_at_most cf_at_most rfl fun _ _ _ _ _ _ us hl => match us, hl with | [_, _], _ => rfl
theorem df_f_min {K : PySem.W.Frag} {h : Heap} {mg : Str → Option Value} (X : K.In h) (G : h.Ns mainGlobals mg) (c : He.SaysD faD fnD K) : DefFact ct K mg ds "f_min" 8 := def_fact (st := stf_min) (m := 60) (c.def_ 8 rfl) (He.glo_ok X G (c.fact 8 (f := .glo "f_min") rfl)) sf_min cf_min rfl fun _ _ _ _ _ _ us hl => match us, hl with | [_, _], _ => rfl
theorem df_f_max {K : PySem.W.Frag} {h : Heap} {mg : Str → Option Value} (X : K.In h) (G : h.Ns mainGlobals mg) (c : He.SaysD faD fnD K) : DefFact ct K mg ds "f_max" 9 := def_fact (st := stf_max) (m := 60) (c.def_ 9 rfl) (He.glo_ok X G (c.fact 9 (f := .glo "f_max") rfl)) sf_max cf_max rfl fun _ _ _ _ _ _ us hl => match us, hl with | [_, _], _ => rfl
theorem df_f_floor {K : PySem.W.Frag} {h : Heap} {mg : Str → Option Value} (X : K.In h) (G : h.Ns mainGlobals mg) (c : He.SaysD faD fnD K) : DefFact ct K mg ds "f_floor" 10 := def_fact (st := stf_floor) (m := 60) (c.def_ 10 rfl) (He.glo_ok X G (c.fact 10 (f := .glo "f_floor") rfl)) sf_floor cf_floor rfl fun _ _ _ _ _ _ us hl => match us, hl with | [_], _ => rfl
theorem df_covers {K : PySem.W.Frag} {h : Heap} {mg : Str → Option Value} (X : K.In h) (G : h.Ns mainGlobals mg) (c : He.SaysD faD fnD K) : DefFact ct K mg ds "covers" 11 := def_fact (st := stcovers) (m := 60) (c.def_ 11 rfl) (He.glo_ok X G (c.fact 11 (f := .glo "covers") rfl)) scovers ccovers rfl fun _ _ _ _ _ _ us hl => match us, hl with | [_, _], _ => rfl
theorem df_turned {K : PySem.W.Frag} {h : Heap} {mg : Str → Option Value} (X : K.In h) (G : h.Ns mainGlobals mg) (c : He.SaysD faD fnD K) : DefFact ct K mg ds "turned" 12 := def_fact (st := stturned) (m := 60) (c.def_ 12 rfl) (He.glo_ok X G (c.fact 12 (f := .glo "turned") rfl)) sturned cturned rfl fun _ _ _ _ _ _ us hl => match us, hl with | [_], _ => rfl
theorem df_height_at {K : PySem.W.Frag} {h : Heap} {mg : Str → Option Value} (X : K.In h) (G : h.Ns mainGlobals mg) (c : He.SaysD faD fnD K) : DefFact ct K mg ds "height_at" 13 := def_fact (st := stheight_at) (m := 60) (c.def_ 13 rfl) (He.glo_ok X G (c.fact 13 (f := .glo "height_at") rfl)) sheight_at cheight_at rfl fun _ _ _ _ _ _ us hl => match us, hl with | [_, _], _ => rfl
theorem df_height_between {K : PySem.W.Frag} {h : Heap} {mg : Str → Option Value} (X : K.In h) (G : h.Ns mainGlobals mg) (c : He.SaysD faD fnD K) : DefFact ct K mg ds "height_between" 14 := def_fact (st := stheight_between) (m := 60) (c.def_ 14 rfl) (He.glo_ok X G (c.fact 14 (f := .glo "height_between") rfl)) sheight_between cheight_between rfl fun _ _ _ _ _ _ us hl => match us, hl with | [_, _, _], _ => rfl
theorem df_place_between {K : PySem.W.Frag} {h : Heap} {mg : Str → Option Value} (X : K.In h) (G : h.Ns mainGlobals mg) (c : He.SaysD faD fnD K) : DefFact ct K mg ds "place_between" 15 := def_fact (st := stplace_between) (m := 60) (c.def_ 15 rfl) (He.glo_ok X G (c.fact 15 (f := .glo "place_between") rfl)) splace_between cplace_between rfl fun _ _ _ _ _ _ us hl => match us, hl with | [_, _, _], _ => rfl
theorem df_high_part {K : PySem.W.Frag} {h : Heap} {mg : Str → Option Value} (X : K.In h) (G : h.Ns mainGlobals mg) (c : He.SaysD faD fnD K) : DefFact ct K mg ds "high_part" 16 := def_fact (st := sthigh_part) (m := 60) (c.def_ 16 rfl) (He.glo_ok X G (c.fact 16 (f := .glo "high_part") rfl)) shigh_part chigh_part rfl fun _ _ _ _ _ _ us hl => match us, hl with | [_, _, _], _ => rfl
theorem df_high_spans {K : PySem.W.Frag} {h : Heap} {mg : Str → Option Value} (X : K.In h) (G : h.Ns mainGlobals mg) (c : He.SaysD faD fnD K) : DefFact ct K mg ds "high_spans" 17 := def_fact (st := sthigh_spans) (m := 60) (c.def_ 17 rfl) (He.glo_ok X G (c.fact 17 (f := .glo "high_spans") rfl)) shigh_spans chigh_spans rfl fun _ _ _ _ _ _ us hl => match us, hl with | [_, _], _ => rfl
theorem df_all_choices {K : PySem.W.Frag} {h : Heap} {mg : Str → Option Value} (X : K.In h) (G : h.Ns mainGlobals mg) (c : He.SaysD faD fnD K) : DefFact ct K mg ds "all_choices" 18 := def_fact (st := stall_choices) (m := 60) (c.def_ 18 rfl) (He.glo_ok X G (c.fact 18 (f := .glo "all_choices") rfl)) sall_choices call_choices rfl fun _ _ _ _ _ _ us hl => match us, hl with | [_], _ => rfl
theorem df_need {K : PySem.W.Frag} {h : Heap} {mg : Str → Option Value} (X : K.In h) (G : h.Ns mainGlobals mg) (c : He.SaysD faD fnD K) : DefFact ct K mg ds "need" 19 := def_fact (st := stneed) (m := 60) (c.def_ 19 rfl) (He.glo_ok X G (c.fact 19 (f := .glo "need") rfl)) sneed cneed rfl fun _ _ _ _ _ _ us hl => match us, hl with | [_, _], _ => rfl
theorem df_is_integer {K : PySem.W.Frag} {h : Heap} {mg : Str → Option Value} (X : K.In h) (G : h.Ns mainGlobals mg) (c : He.SaysD faD fnD K) : DefFact ct K mg ds "is_integer" 20 := def_fact (st := stis_integer) (m := 60) (c.def_ 20 rfl) (He.glo_ok X G (c.fact 20 (f := .glo "is_integer") rfl)) sis_integer cis_integer rfl fun _ _ _ _ _ _ us hl => match us, hl with | [_], _ => rfl
theorem df_is_whole {K : PySem.W.Frag} {h : Heap} {mg : Str → Option Value} (X : K.In h) (G : h.Ns mainGlobals mg) (c : He.SaysD faD fnD K) : DefFact ct K mg ds "is_whole" 21 := def_fact (st := stis_whole) (m := 60) (c.def_ 21 rfl) (He.glo_ok X G (c.fact 21 (f := .glo "is_whole") rfl)) sis_whole cis_whole rfl fun _ _ _ _ _ _ us hl => match us, hl with | [_, _, _], _ => rfl
theorem df_is_whole_from {K : PySem.W.Frag} {h : Heap} {mg : Str → Option Value} (X : K.In h) (G : h.Ns mainGlobals mg) (c : He.SaysD faD fnD K) : DefFact ct K mg ds "is_whole_from" 22 := def_fact (st := stis_whole_from) (m := 60) (c.def_ 22 rfl) (He.glo_ok X G (c.fact 22 (f := .glo "is_whole_from") rfl)) sis_whole_from cis_whole_from rfl fun _ _ _ _ _ _ us hl => match us, hl with | [_, _], _ => rfl
theorem df_is_sequence {K : PySem.W.Frag} {h : Heap} {mg : Str → Option Value} (X : K.In h) (G : h.Ns mainGlobals mg) (c : He.SaysD faD fnD K) : DefFact ct K mg ds "is_sequence" 23 := def_fact (st := stis_sequence) (m := 60) (c.def_ 23 rfl) (He.glo_ok X G (c.fact 23 (f := .glo "is_sequence") rfl)) sis_sequence cis_sequence rfl fun _ _ _ _ _ _ us hl => match us, hl with | [_, _, _], _ => rfl
theorem df_is_pair {K : PySem.W.Frag} {h : Heap} {mg : Str → Option Value} (X : K.In h) (G : h.Ns mainGlobals mg) (c : He.SaysD faD fnD K) : DefFact ct K mg ds "is_pair" 24 := def_fact (st := stis_pair) (m := 60) (c.def_ 24 rfl) (He.glo_ok X G (c.fact 24 (f := .glo "is_pair") rfl)) sis_pair cis_pair rfl fun _ _ _ _ _ _ us hl => match us, hl with | [_], _ => rfl
theorem df_is_wholes {K : PySem.W.Frag} {h : Heap} {mg : Str → Option Value} (X : K.In h) (G : h.Ns mainGlobals mg) (c : He.SaysD faD fnD K) : DefFact ct K mg ds "is_wholes" 25 := def_fact (st := stis_wholes) (m := 60) (c.def_ 25 rfl) (He.glo_ok X G (c.fact 25 (f := .glo "is_wholes") rfl)) sis_wholes cis_wholes rfl fun _ _ _ _ _ _ us hl => match us, hl with | [_, _, _, _, _], _ => rfl
theorem df_is_row {K : PySem.W.Frag} {h : Heap} {mg : Str → Option Value} (X : K.In h) (G : h.Ns mainGlobals mg) (c : He.SaysD faD fnD K) : DefFact ct K mg ds "is_row" 26 := def_fact (st := stis_row) (m := 60) (c.def_ 26 rfl) (He.glo_ok X G (c.fact 26 (f := .glo "is_row") rfl)) sis_row cis_row rfl fun _ _ _ _ _ _ us hl => match us, hl with | [_, _], _ => rfl
theorem df_is_rows {K : PySem.W.Frag} {h : Heap} {mg : Str → Option Value} (X : K.In h) (G : h.Ns mainGlobals mg) (c : He.SaysD faD fnD K) : DefFact ct K mg ds "is_rows" 27 := def_fact (st := stis_rows) (m := 60) (c.def_ 27 rfl) (He.glo_ok X G (c.fact 27 (f := .glo "is_rows") rfl)) sis_rows cis_rows rfl fun _ _ _ _ _ _ us hl => match us, hl with | [_, _, _, _], _ => rfl
theorem df_is_rising {K : PySem.W.Frag} {h : Heap} {mg : Str → Option Value} (X : K.In h) (G : h.Ns mainGlobals mg) (c : He.SaysD faD fnD K) : DefFact ct K mg ds "is_rising" 28 := def_fact (st := stis_rising) (m := 60) (c.def_ 28 rfl) (He.glo_ok X G (c.fact 28 (f := .glo "is_rising") rfl)) sis_rising cis_rising rfl fun _ _ _ _ _ _ us hl => match us, hl with | [_], _ => rfl
theorem df_is_any_fraction {K : PySem.W.Frag} {h : Heap} {mg : Str → Option Value} (X : K.In h) (G : h.Ns mainGlobals mg) (c : He.SaysD faD fnD K) : DefFact ct K mg ds "is_any_fraction" 29 := def_fact (st := stis_any_fraction) (m := 60) (c.def_ 29 rfl) (He.glo_ok X G (c.fact 29 (f := .glo "is_any_fraction") rfl)) sis_any_fraction cis_any_fraction rfl fun _ _ _ _ _ _ us hl => match us, hl with | [_], _ => rfl
theorem df_is_fraction {K : PySem.W.Frag} {h : Heap} {mg : Str → Option Value} (X : K.In h) (G : h.Ns mainGlobals mg) (c : He.SaysD faD fnD K) : DefFact ct K mg ds "is_fraction" 30 := def_fact (st := stis_fraction) (m := 60) (c.def_ 30 rfl) (He.glo_ok X G (c.fact 30 (f := .glo "is_fraction") rfl)) sis_fraction cis_fraction rfl fun _ _ _ _ _ _ us hl => match us, hl with | [_], _ => rfl
theorem df_frozen {K : PySem.W.Frag} {h : Heap} {mg : Str → Option Value} (X : K.In h) (G : h.Ns mainGlobals mg) (c : He.SaysD faD fnD K) : DefFact ct K mg ds "frozen" 31 := def_fact (st := stfrozen) (m := 60) (c.def_ 31 rfl) (He.glo_ok X G (c.fact 31 (f := .glo "frozen") rfl)) sfrozen cfrozen rfl fun _ _ _ _ _ _ us hl => match us, hl with | [_], _ => rfl
theorem df_are_loads {K : PySem.W.Frag} {h : Heap} {mg : Str → Option Value} (X : K.In h) (G : h.Ns mainGlobals mg) (c : He.SaysD faD fnD K) : DefFact ct K mg ds "are_loads" 32 := def_fact (st := stare_loads) (m := 60) (c.def_ 32 rfl) (He.glo_ok X G (c.fact 32 (f := .glo "are_loads") rfl)) sare_loads care_loads rfl fun _ _ _ _ _ _ us hl => match us, hl with | [_], _ => rfl
theorem df_is_gauge {K : PySem.W.Frag} {h : Heap} {mg : Str → Option Value} (X : K.In h) (G : h.Ns mainGlobals mg) (c : He.SaysD faD fnD K) : DefFact ct K mg ds "is_gauge" 33 := def_fact (st := stis_gauge) (m := 60) (c.def_ 33 rfl) (He.glo_ok X G (c.fact 33 (f := .glo "is_gauge") rfl)) sis_gauge cis_gauge rfl fun _ _ _ _ _ _ us hl => match us, hl with | [_], _ => rfl
theorem df_read_off {K : PySem.W.Frag} {h : Heap} {mg : Str → Option Value} (X : K.In h) (G : h.Ns mainGlobals mg) (c : He.SaysD faD fnD K) : DefFact ct K mg ds "read_off" 34 := def_fact (st := stread_off) (m := 60) (c.def_ 34 rfl) (He.glo_ok X G (c.fact 34 (f := .glo "read_off") rfl)) sread_off cread_off rfl fun _ _ _ _ _ _ us hl => match us, hl with | [_, _], _ => rfl
theorem df_depth_of {K : PySem.W.Frag} {h : Heap} {mg : Str → Option Value} (X : K.In h) (G : h.Ns mainGlobals mg) (c : He.SaysD faD fnD K) : DefFact ct K mg ds "depth_of" 35 := def_fact (st := stdepth_of) (m := 60) (c.def_ 35 rfl) (He.glo_ok X G (c.fact 35 (f := .glo "depth_of") rfl)) sdepth_of cdepth_of rfl fun _ _ _ _ _ _ us hl => match us, hl with | [_, _], _ => rfl
theorem df_litres_at {K : PySem.W.Frag} {h : Heap} {mg : Str → Option Value} (X : K.In h) (G : h.Ns mainGlobals mg) (c : He.SaysD faD fnD K) : DefFact ct K mg ds "litres_at" 36 := def_fact (st := stlitres_at) (m := 60) (c.def_ 36 rfl) (He.glo_ok X G (c.fact 36 (f := .glo "litres_at") rfl)) slitres_at clitres_at rfl fun _ _ _ _ _ _ us hl => match us, hl with | [_, _], _ => rfl
theorem df_room_above {K : PySem.W.Frag} {h : Heap} {mg : Str → Option Value} (X : K.In h) (G : h.Ns mainGlobals mg) (c : He.SaysD faD fnD K) : DefFact ct K mg ds "room_above" 37 := def_fact (st := stroom_above) (m := 60) (c.def_ 37 rfl) (He.glo_ok X G (c.fact 37 (f := .glo "room_above") rfl)) sroom_above croom_above rfl fun _ _ _ _ _ _ us hl => match us, hl with | [_, _], _ => rfl
theorem df_most_poured {K : PySem.W.Frag} {h : Heap} {mg : Str → Option Value} (X : K.In h) (G : h.Ns mainGlobals mg) (c : He.SaysD faD fnD K) : DefFact ct K mg ds "most_poured" 38 := def_fact (st := stmost_poured) (m := 60) (c.def_ 38 rfl) (He.glo_ok X G (c.fact 38 (f := .glo "most_poured") rfl)) smost_poured cmost_poured rfl fun _ _ _ _ _ _ us hl => match us, hl with | [_, _, _], _ => rfl
theorem df_is_draughts {K : PySem.W.Frag} {h : Heap} {mg : Str → Option Value} (X : K.In h) (G : h.Ns mainGlobals mg) (c : He.SaysD faD fnD K) : DefFact ct K mg ds "is_draughts" 39 := def_fact (st := stis_draughts) (m := 60) (c.def_ 39 rfl) (He.glo_ok X G (c.fact 39 (f := .glo "is_draughts") rfl)) sis_draughts cis_draughts rfl fun _ _ _ _ _ _ us hl => match us, hl with | [_], _ => rfl
theorem df_is_weight {K : PySem.W.Frag} {h : Heap} {mg : Str → Option Value} (X : K.In h) (G : h.Ns mainGlobals mg) (c : He.SaysD faD fnD K) : DefFact ct K mg ds "is_weight" 40 := def_fact (st := stis_weight) (m := 60) (c.def_ 40 rfl) (He.glo_ok X G (c.fact 40 (f := .glo "is_weight") rfl)) sis_weight cis_weight rfl fun _ _ _ _ _ _ us hl => match us, hl with | [_], _ => rfl
theorem df_parts_left {K : PySem.W.Frag} {h : Heap} {mg : Str → Option Value} (X : K.In h) (G : h.Ns mainGlobals mg) (c : He.SaysD faD fnD K) : DefFact ct K mg ds "parts_left" 41 := def_fact (st := stparts_left) (m := 60) (c.def_ 41 rfl) (He.glo_ok X G (c.fact 41 (f := .glo "parts_left") rfl)) sparts_left cparts_left rfl fun _ _ _ _ _ _ us hl => match us, hl with | [_], _ => rfl
theorem df_share_left {K : PySem.W.Frag} {h : Heap} {mg : Str → Option Value} (X : K.In h) (G : h.Ns mainGlobals mg) (c : He.SaysD faD fnD K) : DefFact ct K mg ds "share_left" 42 := def_fact (st := stshare_left) (m := 60) (c.def_ 42 rfl) (He.glo_ok X G (c.fact 42 (f := .glo "share_left") rfl)) sshare_left cshare_left rfl fun _ _ _ _ _ _ us hl => match us, hl with | [_], _ => rfl
theorem df_left_over {K : PySem.W.Frag} {h : Heap} {mg : Str → Option Value} (X : K.In h) (G : h.Ns mainGlobals mg) (c : He.SaysD faD fnD K) : DefFact ct K mg ds "left_over" 43 := def_fact (st := stleft_over) (m := 60) (c.def_ 43 rfl) (He.glo_ok X G (c.fact 43 (f := .glo "left_over") rfl)) sleft_over cleft_over rfl fun _ _ _ _ _ _ us hl => match us, hl with | [_, _], _ => rfl
theorem df_weight_needed {K : PySem.W.Frag} {h : Heap} {mg : Str → Option Value} (X : K.In h) (G : h.Ns mainGlobals mg) (c : He.SaysD faD fnD K) : DefFact ct K mg ds "weight_needed" 44 := def_fact (st := stweight_needed) (m := 60) (c.def_ 44 rfl) (He.glo_ok X G (c.fact 44 (f := .glo "weight_needed") rfl)) sweight_needed cweight_needed rfl fun _ _ _ _ _ _ us hl => match us, hl with | [_, _], _ => rfl
theorem df_lasts {K : PySem.W.Frag} {h : Heap} {mg : Str → Option Value} (X : K.In h) (G : h.Ns mainGlobals mg) (c : He.SaysD faD fnD K) : DefFact ct K mg ds "lasts" 45 := def_fact (st := stlasts) (m := 60) (c.def_ 45 rfl) (He.glo_ok X G (c.fact 45 (f := .glo "lasts") rfl)) slasts clasts rfl fun _ _ _ _ _ _ us hl => match us, hl with | [_, _, _], _ => rfl
theorem df_bands_of {K : PySem.W.Frag} {h : Heap} {mg : Str → Option Value} (X : K.In h) (G : h.Ns mainGlobals mg) (c : He.SaysD faD fnD K) : DefFact ct K mg ds "bands_of" 46 := def_fact (st := stbands_of) (m := 60) (c.def_ 46 rfl) (He.glo_ok X G (c.fact 46 (f := .glo "bands_of") rfl)) sbands_of cbands_of rfl fun _ _ _ _ _ _ us hl => match us, hl with | [_], _ => rfl
theorem df_within {K : PySem.W.Frag} {h : Heap} {mg : Str → Option Value} (X : K.In h) (G : h.Ns mainGlobals mg) (c : He.SaysD faD fnD K) : DefFact ct K mg ds "within" 47 := def_fact (st := stwithin) (m := 60) (c.def_ 47 rfl) (He.glo_ok X G (c.fact 47 (f := .glo "within") rfl)) swithin cwithin rfl fun _ _ _ _ _ _ us hl => match us, hl with | [_, _], _ => rfl
theorem df_toll_due {K : PySem.W.Frag} {h : Heap} {mg : Str → Option Value} (X : K.In h) (G : h.Ns mainGlobals mg) (c : He.SaysD faD fnD K) : DefFact ct K mg ds "toll_due" 48 := def_fact (st := sttoll_due) (m := 60) (c.def_ 48 rfl) (He.glo_ok X G (c.fact 48 (f := .glo "toll_due") rfl)) stoll_due ctoll_due rfl fun _ _ _ _ _ _ us hl => match us, hl with | [_, _, _], _ => rfl
theorem df_last_mile {K : PySem.W.Frag} {h : Heap} {mg : Str → Option Value} (X : K.In h) (G : h.Ns mainGlobals mg) (c : He.SaysD faD fnD K) : DefFact ct K mg ds "last_mile" 49 := def_fact (st := stlast_mile) (m := 60) (c.def_ 49 rfl) (He.glo_ok X G (c.fact 49 (f := .glo "last_mile") rfl)) slast_mile clast_mile rfl fun _ _ _ _ _ _ us hl => match us, hl with | [_, _, _], _ => rfl
theorem df_miles_within {K : PySem.W.Frag} {h : Heap} {mg : Str → Option Value} (X : K.In h) (G : h.Ns mainGlobals mg) (c : He.SaysD faD fnD K) : DefFact ct K mg ds "miles_within" 50 := def_fact (st := stmiles_within) (m := 60) (c.def_ 50 rfl) (He.glo_ok X G (c.fact 50 (f := .glo "miles_within") rfl)) smiles_within cmiles_within rfl fun _ _ _ _ _ _ us hl => match us, hl with | [_, _, _], _ => rfl
theorem df_is_band {K : PySem.W.Frag} {h : Heap} {mg : Str → Option Value} (X : K.In h) (G : h.Ns mainGlobals mg) (c : He.SaysD faD fnD K) : DefFact ct K mg ds "is_band" 51 := def_fact (st := stis_band) (m := 60) (c.def_ 51 rfl) (He.glo_ok X G (c.fact 51 (f := .glo "is_band") rfl)) sis_band cis_band rfl fun _ _ _ _ _ _ us hl => match us, hl with | [_], _ => rfl
theorem df_is_toll {K : PySem.W.Frag} {h : Heap} {mg : Str → Option Value} (X : K.In h) (G : h.Ns mainGlobals mg) (c : He.SaysD faD fnD K) : DefFact ct K mg ds "is_toll" 52 := def_fact (st := stis_toll) (m := 60) (c.def_ 52 rfl) (He.glo_ok X G (c.fact 52 (f := .glo "is_toll") rfl)) sis_toll cis_toll rfl fun _ _ _ _ _ _ us hl => match us, hl with | [_], _ => rfl
theorem df_is_miles {K : PySem.W.Frag} {h : Heap} {mg : Str → Option Value} (X : K.In h) (G : h.Ns mainGlobals mg) (c : He.SaysD faD fnD K) : DefFact ct K mg ds "is_miles" 53 := def_fact (st := stis_miles) (m := 60) (c.def_ 53 rfl) (He.glo_ok X G (c.fact 53 (f := .glo "is_miles") rfl)) sis_miles cis_miles rfl fun _ _ _ _ _ _ us hl => match us, hl with | [_], _ => rfl
theorem df_due {K : PySem.W.Frag} {h : Heap} {mg : Str → Option Value} (X : K.In h) (G : h.Ns mainGlobals mg) (c : He.SaysD faD fnD K) : DefFact ct K mg ds "due" 54 := def_fact (st := stdue) (m := 60) (c.def_ 54 rfl) (He.glo_ok X G (c.fact 54 (f := .glo "due") rfl)) sdue cdue rfl fun _ _ _ _ _ _ us hl => match us, hl with | [_, _, _], _ => rfl
theorem df_miles_for {K : PySem.W.Frag} {h : Heap} {mg : Str → Option Value} (X : K.In h) (G : h.Ns mainGlobals mg) (c : He.SaysD faD fnD K) : DefFact ct K mg ds "miles_for" 55 := def_fact (st := stmiles_for) (m := 60) (c.def_ 55 rfl) (He.glo_ok X G (c.fact 55 (f := .glo "miles_for") rfl)) smiles_for cmiles_for rfl fun _ _ _ _ _ _ us hl => match us, hl with | [_, _, _], _ => rfl
theorem df_is_span {K : PySem.W.Frag} {h : Heap} {mg : Str → Option Value} (X : K.In h) (G : h.Ns mainGlobals mg) (c : He.SaysD faD fnD K) : DefFact ct K mg ds "is_span" 56 := def_fact (st := stis_span) (m := 60) (c.def_ 56 rfl) (He.glo_ok X G (c.fact 56 (f := .glo "is_span") rfl)) sis_span cis_span rfl fun _ _ _ _ _ _ us hl => match us, hl with | [_], _ => rfl
theorem df_are_spans {K : PySem.W.Frag} {h : Heap} {mg : Str → Option Value} (X : K.In h) (G : h.Ns mainGlobals mg) (c : He.SaysD faD fnD K) : DefFact ct K mg ds "are_spans" 57 := def_fact (st := stare_spans) (m := 60) (c.def_ 57 rfl) (He.glo_ok X G (c.fact 57 (f := .glo "are_spans") rfl)) sare_spans care_spans rfl fun _ _ _ _ _ _ us hl => match us, hl with | [_], _ => rfl
theorem df_is_leg {K : PySem.W.Frag} {h : Heap} {mg : Str → Option Value} (X : K.In h) (G : h.Ns mainGlobals mg) (c : He.SaysD faD fnD K) : DefFact ct K mg ds "is_leg" 58 := def_fact (st := stis_leg) (m := 60) (c.def_ 58 rfl) (He.glo_ok X G (c.fact 58 (f := .glo "is_leg") rfl)) sis_leg cis_leg rfl fun _ _ _ _ _ _ us hl => match us, hl with | [_], _ => rfl
theorem df_are_legs {K : PySem.W.Frag} {h : Heap} {mg : Str → Option Value} (X : K.In h) (G : h.Ns mainGlobals mg) (c : He.SaysD faD fnD K) : DefFact ct K mg ds "are_legs" 59 := def_fact (st := stare_legs) (m := 60) (c.def_ 59 rfl) (He.glo_ok X G (c.fact 59 (f := .glo "are_legs") rfl)) sare_legs care_legs rfl fun _ _ _ _ _ _ us hl => match us, hl with | [_], _ => rfl
theorem df_checked {K : PySem.W.Frag} {h : Heap} {mg : Str → Option Value} (X : K.In h) (G : h.Ns mainGlobals mg) (c : He.SaysD faD fnD K) : DefFact ct K mg ds "checked" 60 := def_fact (st := stchecked) (m := 60) (c.def_ 60 rfl) (He.glo_ok X G (c.fact 60 (f := .glo "checked") rfl)) schecked cchecked rfl fun _ _ _ _ _ _ us hl => match us, hl with | [_, _], _ => rfl
theorem df_begin_from {K : PySem.W.Frag} {h : Heap} {mg : Str → Option Value} (X : K.In h) (G : h.Ns mainGlobals mg) (c : He.SaysD faD fnD K) : DefFact ct K mg ds "begin_from" 61 := def_fact (st := stbegin_from) (m := 60) (c.def_ 61 rfl) (He.glo_ok X G (c.fact 61 (f := .glo "begin_from") rfl)) sbegin_from cbegin_from rfl fun _ _ _ _ _ _ us hl => match us, hl with | [_, _], _ => rfl
theorem df_begin_till {K : PySem.W.Frag} {h : Heap} {mg : Str → Option Value} (X : K.In h) (G : h.Ns mainGlobals mg) (c : He.SaysD faD fnD K) : DefFact ct K mg ds "begin_till" 62 := def_fact (st := stbegin_till) (m := 60) (c.def_ 62 rfl) (He.glo_ok X G (c.fact 62 (f := .glo "begin_till") rfl)) sbegin_till cbegin_till rfl fun _ _ _ _ _ _ us hl => match us, hl with | [_, _], _ => rfl
theorem df_travelled {K : PySem.W.Frag} {h : Heap} {mg : Str → Option Value} (X : K.In h) (G : h.Ns mainGlobals mg) (c : He.SaysD faD fnD K) : DefFact ct K mg ds "travelled" 63 := def_fact (st := sttravelled) (m := 60) (c.def_ 63 rfl) (He.glo_ok X G (c.fact 63 (f := .glo "travelled") rfl)) stravelled ctravelled rfl fun _ _ _ _ _ _ us hl => match us, hl with | [_, _], _ => rfl
theorem df_arrives {K : PySem.W.Frag} {h : Heap} {mg : Str → Option Value} (X : K.In h) (G : h.Ns mainGlobals mg) (c : He.SaysD faD fnD K) : DefFact ct K mg ds "arrives" 64 := def_fact (st := starrives) (m := 60) (c.def_ 64 rfl) (He.glo_ok X G (c.fact 64 (f := .glo "arrives") rfl)) sarrives carrives rfl fun _ _ _ _ _ _ us hl => match us, hl with | [_, _], _ => rfl
theorem df_waits {K : PySem.W.Frag} {h : Heap} {mg : Str → Option Value} (X : K.In h) (G : h.Ns mainGlobals mg) (c : He.SaysD faD fnD K) : DefFact ct K mg ds "waits" 65 := def_fact (st := stwaits) (m := 60) (c.def_ 65 rfl) (He.glo_ok X G (c.fact 65 (f := .glo "waits") rfl)) swaits cwaits rfl fun _ _ _ _ _ _ us hl => match us, hl with | [_, _], _ => rfl
theorem df_leaves {K : PySem.W.Frag} {h : Heap} {mg : Str → Option Value} (X : K.In h) (G : h.Ns mainGlobals mg) (c : He.SaysD faD fnD K) : DefFact ct K mg ds "leaves" 66 := def_fact (st := stleaves) (m := 60) (c.def_ 66 rfl) (He.glo_ok X G (c.fact 66 (f := .glo "leaves") rfl)) sleaves cleaves rfl fun _ _ _ _ _ _ us hl => match us, hl with | [_, _], _ => rfl
theorem df_is_table {K : PySem.W.Frag} {h : Heap} {mg : Str → Option Value} (X : K.In h) (G : h.Ns mainGlobals mg) (c : He.SaysD faD fnD K) : DefFact ct K mg ds "is_table" 67 := def_fact (st := stis_table) (m := 60) (c.def_ 67 rfl) (He.glo_ok X G (c.fact 67 (f := .glo "is_table") rfl)) sis_table cis_table rfl fun _ _ _ _ _ _ us hl => match us, hl with | [_], _ => rfl
theorem df_sour_at {K : PySem.W.Frag} {h : Heap} {mg : Str → Option Value} (X : K.In h) (G : h.Ns mainGlobals mg) (c : He.SaysD faD fnD K) : DefFact ct K mg ds "sour_at" 68 := def_fact (st := stsour_at) (m := 60) (c.def_ 68 rfl) (He.glo_ok X G (c.fact 68 (f := .glo "sour_at") rfl)) ssour_at csour_at rfl fun _ _ _ _ _ _ us hl => match us, hl with | [_, _], _ => rfl
theorem df_windows {K : PySem.W.Frag} {h : Heap} {mg : Str → Option Value} (X : K.In h) (G : h.Ns mainGlobals mg) (c : He.SaysD faD fnD K) : DefFact ct K mg ds "windows" 69 := def_fact (st := stwindows) (m := 60) (c.def_ 69 rfl) (He.glo_ok X G (c.fact 69 (f := .glo "windows") rfl)) swindows cwindows rfl fun _ _ _ _ _ _ us hl => match us, hl with | [_, _], _ => rfl
theorem df_first_from {K : PySem.W.Frag} {h : Heap} {mg : Str → Option Value} (X : K.In h) (G : h.Ns mainGlobals mg) (c : He.SaysD faD fnD K) : DefFact ct K mg ds "first_from" 70 := def_fact (st := stfirst_from) (m := 60) (c.def_ 70 rfl) (He.glo_ok X G (c.fact 70 (f := .glo "first_from") rfl)) sfirst_from cfirst_from rfl fun _ _ _ _ _ _ us hl => match us, hl with | [_, _, _], _ => rfl
theorem df_last_till {K : PySem.W.Frag} {h : Heap} {mg : Str → Option Value} (X : K.In h) (G : h.Ns mainGlobals mg) (c : He.SaysD faD fnD K) : DefFact ct K mg ds "last_till" 71 := def_fact (st := stlast_till) (m := 60) (c.def_ 71 rfl) (He.glo_ok X G (c.fact 71 (f := .glo "last_till") rfl)) slast_till clast_till rfl fun _ _ _ _ _ _ us hl => match us, hl with | [_, _, _], _ => rfl
theorem df_asked {K : PySem.W.Frag} {h : Heap} {mg : Str → Option Value} (X : K.In h) (G : h.Ns mainGlobals mg) (c : He.SaysD faD fnD K) : DefFact ct K mg ds "asked" 72 := def_fact (st := stasked) (m := 60) (c.def_ 72 rfl) (He.glo_ok X G (c.fact 72 (f := .glo "asked") rfl)) sasked casked rfl fun _ _ _ _ _ _ us hl => match us, hl with | [_, _, _], _ => rfl
theorem df__law_so {K : PySem.W.Frag} {h : Heap} {mg : Str → Option Value} (X : K.In h) (G : h.Ns mainGlobals mg) (c : He.SaysD faD fnD K) : DefFact ct K mg ds "_law_so" 73 := def_fact (st := st_law_so) (m := 60) (c.def_ 73 rfl) (He.glo_ok X G (c.fact 73 (f := .glo "_law_so") rfl)) s_law_so c_law_so rfl fun _ _ _ _ _ _ us hl => match us, hl with | [_, _], _ => rfl
theorem df__law_numbers {K : PySem.W.Frag} {h : Heap} {mg : Str → Option Value} (X : K.In h) (G : h.Ns mainGlobals mg) (c : He.SaysD faD fnD K) : DefFact ct K mg ds "_law_numbers" 74 := def_fact (st := st_law_numbers) (m := 60) (c.def_ 74 rfl) (He.glo_ok X G (c.fact 74 (f := .glo "_law_numbers") rfl)) s_law_numbers c_law_numbers rfl fun _ _ _ _ _ _ us hl => match us, hl with | [_], _ => rfl
theorem df__law_draw {K : PySem.W.Frag} {h : Heap} {mg : Str → Option Value} (X : K.In h) (G : h.Ns mainGlobals mg) (c : He.SaysD faD fnD K) : DefFact ct K mg ds "_law_draw" 75 := def_fact (st := st_law_draw) (m := 60) (c.def_ 75 rfl) (He.glo_ok X G (c.fact 75 (f := .glo "_law_draw") rfl)) s_law_draw c_law_draw rfl fun _ _ _ _ _ _ us hl => match us, hl with | [_, _, _], _ => rfl
theorem df__law_take {K : PySem.W.Frag} {h : Heap} {mg : Str → Option Value} (X : K.In h) (G : h.Ns mainGlobals mg) (c : He.SaysD faD fnD K) : DefFact ct K mg ds "_law_take" 76 := def_fact (st := st_law_take) (m := 60) (c.def_ 76 rfl) (He.glo_ok X G (c.fact 76 (f := .glo "_law_take") rfl)) s_law_take c_law_take rfl fun _ _ _ _ _ _ us hl => match us, hl with | [_, _, _], _ => rfl
theorem df__law_pick {K : PySem.W.Frag} {h : Heap} {mg : Str → Option Value} (X : K.In h) (G : h.Ns mainGlobals mg) (c : He.SaysD faD fnD K) : DefFact ct K mg ds "_law_pick" 77 := def_fact (st := st_law_pick) (m := 60) (c.def_ 77 rfl) (He.glo_ok X G (c.fact 77 (f := .glo "_law_pick") rfl)) s_law_pick c_law_pick rfl fun _ _ _ _ _ _ us hl => match us, hl with | [_, _, _], _ => rfl
theorem df__law_gcd {K : PySem.W.Frag} {h : Heap} {mg : Str → Option Value} (X : K.In h) (G : h.Ns mainGlobals mg) (c : He.SaysD faD fnD K) : DefFact ct K mg ds "_law_gcd" 78 := def_fact (st := st_law_gcd) (m := 60) (c.def_ 78 rfl) (He.glo_ok X G (c.fact 78 (f := .glo "_law_gcd") rfl)) s_law_gcd c_law_gcd rfl fun _ _ _ _ _ _ us hl => match us, hl with | [_, _], _ => rfl
theorem df__law_sets {K : PySem.W.Frag} {h : Heap} {mg : Str → Option Value} (X : K.In h) (G : h.Ns mainGlobals mg) (c : He.SaysD faD fnD K) : DefFact ct K mg ds "_law_sets" 79 := def_fact (st := st_law_sets) (m := 60) (c.def_ 79 rfl) (He.glo_ok X G (c.fact 79 (f := .glo "_law_sets") rfl)) s_law_sets c_law_sets rfl fun _ _ _ _ _ _ us hl => match us, hl with | [_], _ => rfl
theorem df__law_red {K : PySem.W.Frag} {h : Heap} {mg : Str → Option Value} (X : K.In h) (G : h.Ns mainGlobals mg) (c : He.SaysD faD fnD K) : DefFact ct K mg ds "_law_red" 80 := def_fact (st := st_law_red) (m := 60) (c.def_ 80 rfl) (He.glo_ok X G (c.fact 80 (f := .glo "_law_red") rfl)) s_law_red c_law_red rfl fun _ _ _ _ _ _ us hl => match us, hl with | [_, _], _ => rfl
theorem df__law_add {K : PySem.W.Frag} {h : Heap} {mg : Str → Option Value} (X : K.In h) (G : h.Ns mainGlobals mg) (c : He.SaysD faD fnD K) : DefFact ct K mg ds "_law_add" 81 := def_fact (st := st_law_add) (m := 60) (c.def_ 81 rfl) (He.glo_ok X G (c.fact 81 (f := .glo "_law_add") rfl)) s_law_add c_law_add rfl fun _ _ _ _ _ _ us hl => match us, hl with | [_, _], _ => rfl
theorem df__law_sub {K : PySem.W.Frag} {h : Heap} {mg : Str → Option Value} (X : K.In h) (G : h.Ns mainGlobals mg) (c : He.SaysD faD fnD K) : DefFact ct K mg ds "_law_sub" 82 := def_fact (st := st_law_sub) (m := 60) (c.def_ 82 rfl) (He.glo_ok X G (c.fact 82 (f := .glo "_law_sub") rfl)) s_law_sub c_law_sub rfl fun _ _ _ _ _ _ us hl => match us, hl with | [_, _], _ => rfl
theorem df__law_mul {K : PySem.W.Frag} {h : Heap} {mg : Str → Option Value} (X : K.In h) (G : h.Ns mainGlobals mg) (c : He.SaysD faD fnD K) : DefFact ct K mg ds "_law_mul" 83 := def_fact (st := st_law_mul) (m := 60) (c.def_ 83 rfl) (He.glo_ok X G (c.fact 83 (f := .glo "_law_mul") rfl)) s_law_mul c_law_mul rfl fun _ _ _ _ _ _ us hl => match us, hl with | [_, _], _ => rfl
theorem df__law_less {K : PySem.W.Frag} {h : Heap} {mg : Str → Option Value} (X : K.In h) (G : h.Ns mainGlobals mg) (c : He.SaysD faD fnD K) : DefFact ct K mg ds "_law_less" 84 := def_fact (st := st_law_less) (m := 60) (c.def_ 84 rfl) (He.glo_ok X G (c.fact 84 (f := .glo "_law_less") rfl)) s_law_less c_law_less rfl fun _ _ _ _ _ _ us hl => match us, hl with | [_, _], _ => rfl
theorem df__law_table {K : PySem.W.Frag} {h : Heap} {mg : Str → Option Value} (X : K.In h) (G : h.Ns mainGlobals mg) (c : He.SaysD faD fnD K) : DefFact ct K mg ds "_law_table" 85 := def_fact (st := st_law_table) (m := 60) (c.def_ 85 rfl) (He.glo_ok X G (c.fact 85 (f := .glo "_law_table") rfl)) s_law_table c_law_table rfl fun _ _ _ _ _ _ us hl => match us, hl with | [_, _], _ => rfl
theorem df__law_cross {K : PySem.W.Frag} {h : Heap} {mg : Str → Option Value} (X : K.In h) (G : h.Ns mainGlobals mg) (c : He.SaysD faD fnD K) : DefFact ct K mg ds "_law_cross" 86 := def_fact (st := st_law_cross) (m := 60) (c.def_ 86 rfl) (He.glo_ok X G (c.fact 86 (f := .glo "_law_cross") rfl)) s_law_cross c_law_cross rfl fun _ _ _ _ _ _ us hl => match us, hl with | [_, _, _], _ => rfl
theorem df__law_windows {K : PySem.W.Frag} {h : Heap} {mg : Str → Option Value} (X : K.In h) (G : h.Ns mainGlobals mg) (c : He.SaysD faD fnD K) : DefFact ct K mg ds "_law_windows" 87 := def_fact (st := st_law_windows) (m := 60) (c.def_ 87 rfl) (He.glo_ok X G (c.fact 87 (f := .glo "_law_windows") rfl)) s_law_windows c_law_windows rfl fun _ _ _ _ _ _ us hl => match us, hl with | [_, _], _ => rfl
theorem df__law_legs {K : PySem.W.Frag} {h : Heap} {mg : Str → Option Value} (X : K.In h) (G : h.Ns mainGlobals mg) (c : He.SaysD faD fnD K) : DefFact ct K mg ds "_law_legs" 88 := def_fact (st := st_law_legs) (m := 60) (c.def_ 88 rfl) (He.glo_ok X G (c.fact 88 (f := .glo "_law_legs") rfl)) s_law_legs c_law_legs rfl fun _ _ _ _ _ _ us hl => match us, hl with | [_, _], _ => rfl
theorem df__law_arrives {K : PySem.W.Frag} {h : Heap} {mg : Str → Option Value} (X : K.In h) (G : h.Ns mainGlobals mg) (c : He.SaysD faD fnD K) : DefFact ct K mg ds "_law_arrives" 89 := def_fact (st := st_law_arrives) (m := 60) (c.def_ 89 rfl) (He.glo_ok X G (c.fact 89 (f := .glo "_law_arrives") rfl)) s_law_arrives c_law_arrives rfl fun _ _ _ _ _ _ us hl => match us, hl with | [_, _], _ => rfl
theorem df__law_toll {K : PySem.W.Frag} {h : Heap} {mg : Str → Option Value} (X : K.In h) (G : h.Ns mainGlobals mg) (c : He.SaysD faD fnD K) : DefFact ct K mg ds "_law_toll" 90 := def_fact (st := st_law_toll) (m := 60) (c.def_ 90 rfl) (He.glo_ok X G (c.fact 90 (f := .glo "_law_toll") rfl)) s_law_toll c_law_toll rfl fun _ _ _ _ _ _ us hl => match us, hl with | [_, _], _ => rfl
theorem df__law_due {K : PySem.W.Frag} {h : Heap} {mg : Str → Option Value} (X : K.In h) (G : h.Ns mainGlobals mg) (c : He.SaysD faD fnD K) : DefFact ct K mg ds "_law_due" 91 := def_fact (st := st_law_due) (m := 60) (c.def_ 91 rfl) (He.glo_ok X G (c.fact 91 (f := .glo "_law_due") rfl)) s_law_due c_law_due rfl fun _ _ _ _ _ _ us hl => match us, hl with | [_, _, _], _ => rfl
theorem df__law_miles {K : PySem.W.Frag} {h : Heap} {mg : Str → Option Value} (X : K.In h) (G : h.Ns mainGlobals mg) (c : He.SaysD faD fnD K) : DefFact ct K mg ds "_law_miles" 92 := def_fact (st := st_law_miles) (m := 60) (c.def_ 92 rfl) (He.glo_ok X G (c.fact 92 (f := .glo "_law_miles") rfl)) s_law_miles c_law_miles rfl fun _ _ _ _ _ _ us hl => match us, hl with | [_, _, _], _ => rfl
theorem df__law_borders_rest {K : PySem.W.Frag} {h : Heap} {mg : Str → Option Value} (X : K.In h) (G : h.Ns mainGlobals mg) (c : He.SaysD faD fnD K) : DefFact ct K mg ds "_law_borders_rest" 93 := def_fact (st := st_law_borders_rest) (m := 60) (c.def_ 93 rfl) (He.glo_ok X G (c.fact 93 (f := .glo "_law_borders_rest") rfl)) s_law_borders_rest c_law_borders_rest rfl fun _ _ _ _ _ _ us hl => match us, hl with | [_, _], _ => rfl
theorem df_law {K : PySem.W.Frag} {h : Heap} {mg : Str → Option Value} (X : K.In h) (G : h.Ns mainGlobals mg) (c : He.SaysD faD fnD K) : DefFact ct K mg ds "law" 94 := def_fact (st := stlaw) (m := 60) (c.def_ 94 rfl) (He.glo_ok X G (c.fact 94 (f := .glo "law") rfl)) slaw claw rfl fun _ _ _ _ _ _ us hl => match us, hl with | [_], _ => rfl
theorem fa_cons {α : Type} {P : α → Prop} {x : α} {l : List α} (h : P x) (t : ∀ p ∈ l, P p) : ∀ p ∈ x :: l, P p := fun p hp => by
  rcases List.mem_cons.mp hp with rfl | hp
  · exact h
  · exact t p hp
theorem fa_nil {α : Type} {P : α → Prop} : ∀ p ∈ ([] : List α), P p := fun p hp => by cases hp
theorem base {K : PySem.W.Frag} {h : Heap} {mg : Str → Option Value} (X : K.In h) (G : h.Ns mainGlobals mg) (z : obsM bsD faD fnD K = (true, He.valD fnD)) : Base ct K mg ds := by
  have c := obsM_says z
  obtain ⟨t0, m0⟩ := He.int_ok X G (c.fact 95 (f := .int "MOST_PARTS" (1000000)) rfl)
  obtain ⟨t1, m1⟩ := He.int_ok X G (c.fact 96 (f := .int "MOST_LOADS" (6)) rfl)
  obtain ⟨t2, m2⟩ := He.int_ok X G (c.fact 97 (f := .int "HEAVIEST" (1000)) rfl)
  obtain ⟨t3, m3⟩ := He.int_ok X G (c.fact 98 (f := .int "MOST_KNOTS" (8)) rfl)
  obtain ⟨t4, m4⟩ := He.int_ok X G (c.fact 99 (f := .int "DEEPEST" (10000)) rfl)
  obtain ⟨t5, m5⟩ := He.int_ok X G (c.fact 100 (f := .int "MOST_DRAUGHTS" (24)) rfl)
  obtain ⟨t6, m6⟩ := He.int_ok X G (c.fact 101 (f := .int "PARTS" (200)) rfl)
  obtain ⟨t7, m7⟩ := He.int_ok X G (c.fact 102 (f := .int "MOST_BANDS" (4)) rfl)
  obtain ⟨t8, m8⟩ := He.int_ok X G (c.fact 103 (f := .int "FARTHEST" (1000)) rfl)
  obtain ⟨t9, m9⟩ := He.int_ok X G (c.fact 104 (f := .int "DEAREST" (1000)) rfl)
  obtain ⟨t10, m10⟩ := He.int_ok X G (c.fact 105 (f := .int "MOST_TONS" (1000)) rfl)
  obtain ⟨t11, m11⟩ := He.int_ok X G (c.fact 106 (f := .int "MOST_PENCE" (1000000000)) rfl)
  obtain ⟨t12, m12⟩ := He.int_ok X G (c.fact 107 (f := .int "MOST_LEGS" (10)) rfl)
  obtain ⟨t13, m13⟩ := He.int_ok X G (c.fact 108 (f := .int "MOST_SPANS" (4)) rfl)
  obtain ⟨t14, m14⟩ := He.int_ok X G (c.fact 109 (f := .int "LONGEST" (1000)) rfl)
  obtain ⟨t15, m15⟩ := He.int_ok X G (c.fact 110 (f := .int "LATEST" (10000)) rfl)
  obtain ⟨t16, m16⟩ := He.int_ok X G (c.fact 111 (f := .int "LEAST_SOUR" ((-500))) rfl)
  obtain ⟨t17, m17⟩ := He.int_ok X G (c.fact 112 (f := .int "MOST_SOUR" (1500)) rfl)
  obtain ⟨t18, m18⟩ := He.int_ok X G (c.fact 113 (f := .int "LAST_MINUTE" (1440)) rfl)
  exact ⟨fa_cons (df_reduced X G c) (fa_cons (df_f_whole X G c) (fa_cons (df_f_add X G c) (fa_cons (df_f_sub X G c) (fa_cons (df_f_mul X G c) (fa_cons (df_f_div X G c) (fa_cons (df_f_less X G c) (fa_cons (df_f_at_most X G c) (fa_cons (df_f_min X G c) (fa_cons (df_f_max X G c) (fa_cons (df_f_floor X G c) (fa_cons (df_covers X G c) (fa_cons (df_turned X G c) (fa_cons (df_height_at X G c) (fa_cons (df_height_between X G c) (fa_cons (df_place_between X G c) (fa_cons (df_high_part X G c) (fa_cons (df_high_spans X G c) (fa_cons (df_all_choices X G c) (fa_cons (df_need X G c) (fa_cons (df_is_integer X G c) (fa_cons (df_is_whole X G c) (fa_cons (df_is_whole_from X G c) (fa_cons (df_is_sequence X G c) (fa_cons (df_is_pair X G c) (fa_cons (df_is_wholes X G c) (fa_cons (df_is_row X G c) (fa_cons (df_is_rows X G c) (fa_cons (df_is_rising X G c) (fa_cons (df_is_any_fraction X G c) (fa_cons (df_is_fraction X G c) (fa_cons (df_frozen X G c) (fa_cons (df_are_loads X G c) (fa_cons (df_is_gauge X G c) (fa_cons (df_read_off X G c) (fa_cons (df_depth_of X G c) (fa_cons (df_litres_at X G c) (fa_cons (df_room_above X G c) (fa_cons (df_most_poured X G c) (fa_cons (df_is_draughts X G c) (fa_cons (df_is_weight X G c) (fa_cons (df_parts_left X G c) (fa_cons (df_share_left X G c) (fa_cons (df_left_over X G c) (fa_cons (df_weight_needed X G c) (fa_cons (df_lasts X G c) (fa_cons (df_bands_of X G c) (fa_cons (df_within X G c) (fa_cons (df_toll_due X G c) (fa_cons (df_last_mile X G c) (fa_cons (df_miles_within X G c) (fa_cons (df_is_band X G c) (fa_cons (df_is_toll X G c) (fa_cons (df_is_miles X G c) (fa_cons (df_due X G c) (fa_cons (df_miles_for X G c) (fa_cons (df_is_span X G c) (fa_cons (df_are_spans X G c) (fa_cons (df_is_leg X G c) (fa_cons (df_are_legs X G c) (fa_cons (df_checked X G c) (fa_cons (df_begin_from X G c) (fa_cons (df_begin_till X G c) (fa_cons (df_travelled X G c) (fa_cons (df_arrives X G c) (fa_cons (df_waits X G c) (fa_cons (df_leaves X G c) (fa_cons (df_is_table X G c) (fa_cons (df_sour_at X G c) (fa_cons (df_windows X G c) (fa_cons (df_first_from X G c) (fa_cons (df_last_till X G c) (fa_cons (df_asked X G c) (fa_cons (df__law_so X G c) (fa_cons (df__law_numbers X G c) (fa_cons (df__law_draw X G c) (fa_cons (df__law_take X G c) (fa_cons (df__law_pick X G c) (fa_cons (df__law_gcd X G c) (fa_cons (df__law_sets X G c) (fa_cons (df__law_red X G c) (fa_cons (df__law_add X G c) (fa_cons (df__law_sub X G c) (fa_cons (df__law_mul X G c) (fa_cons (df__law_less X G c) (fa_cons (df__law_table X G c) (fa_cons (df__law_cross X G c) (fa_cons (df__law_windows X G c) (fa_cons (df__law_legs X G c) (fa_cons (df__law_arrives X G c) (fa_cons (df__law_toll X G c) (fa_cons (df__law_due X G c) (fa_cons (df__law_miles X G c) (fa_cons (df__law_borders_rest X G c) (fa_cons (df_law X G c) (fa_nil))))))))))))))))))))))))))))))))))))))))))))))))))))))))))))))))))))))))))))))))))))))))))))))), fa_cons (⟨.int (1000000) , _, m0, ⟨_, rfl⟩, fun _ => .int _⟩) (fa_cons (⟨.int (6) , _, m1, ⟨_, rfl⟩, fun _ => .int _⟩) (fa_cons (⟨.int (1000) , _, m2, ⟨_, rfl⟩, fun _ => .int _⟩) (fa_cons (⟨.int (8) , _, m3, ⟨_, rfl⟩, fun _ => .int _⟩) (fa_cons (⟨.int (10000) , _, m4, ⟨_, rfl⟩, fun _ => .int _⟩) (fa_cons (⟨.int (24) , _, m5, ⟨_, rfl⟩, fun _ => .int _⟩) (fa_cons (⟨.int (200) , _, m6, ⟨_, rfl⟩, fun _ => .int _⟩) (fa_cons (⟨.int (4) , _, m7, ⟨_, rfl⟩, fun _ => .int _⟩) (fa_cons (⟨.int (1000) , _, m8, ⟨_, rfl⟩, fun _ => .int _⟩) (fa_cons (⟨.int (1000) , _, m9, ⟨_, rfl⟩, fun _ => .int _⟩) (fa_cons (⟨.int (1000) , _, m10, ⟨_, rfl⟩, fun _ => .int _⟩) (fa_cons (⟨.int (1000000000) , _, m11, ⟨_, rfl⟩, fun _ => .int _⟩) (fa_cons (⟨.int (10) , _, m12, ⟨_, rfl⟩, fun _ => .int _⟩) (fa_cons (⟨.int (4) , _, m13, ⟨_, rfl⟩, fun _ => .int _⟩) (fa_cons (⟨.int (1000) , _, m14, ⟨_, rfl⟩, fun _ => .int _⟩) (fa_cons (⟨.int (10000) , _, m15, ⟨_, rfl⟩, fun _ => .int _⟩) (fa_cons (⟨.int ((-500)) , _, m16, ⟨_, rfl⟩, fun _ => .int _⟩) (fa_cons (⟨.int (1500) , _, m17, ⟨_, rfl⟩, fun _ => .int _⟩) (fa_cons (⟨.int (1440) , _, m18, ⟨_, rfl⟩, fun _ => .int _⟩) (fa_nil))))))))))))))))))), fa_cons (PySem.W.mg_of X G (obsM_bs z ("gcd", "math.gcd") (by simp [bsD]))) (fa_nil), fa_cons (He.free_ok X G (c.fact 114 (f := .free "isinstance") rfl)) (fa_cons (He.free_ok X G (c.fact 115 (f := .free "len") rfl)) (fa_cons (He.free_ok X G (c.fact 116 (f := .free "int") rfl)) (fa_cons (He.free_ok X G (c.fact 117 (f := .free "sum") rfl)) (fa_cons (He.free_ok X G (c.fact 118 (f := .free "max") rfl)) (fa_cons (He.free_ok X G (c.fact 119 (f := .free "min") rfl)) (fa_cons (He.free_ok X G (c.fact 120 (f := .free "abs") rfl)) (fa_cons (He.free_ok X G (c.fact 121 (f := .free "all") rfl)) (fa_cons (He.free_ok X G (c.fact 122 (f := .free "any") rfl)) (fa_cons (He.free_ok X G (c.fact 123 (f := .free "tuple") rfl)) (fa_cons (He.free_ok X G (c.fact 124 (f := .free "list") rfl)) (fa_cons (He.free_ok X G (c.fact 125 (f := .free "sorted") rfl)) (fa_cons (He.free_ok X G (c.fact 126 (f := .free "bool") rfl)) (fa_cons (He.free_ok X G (c.fact 127 (f := .free "str") rfl)) (fa_cons (He.free_ok X G (c.fact 128 (f := .free "range") rfl)) (fa_cons (He.free_ok X G (c.fact 129 (f := .free "enumerate") rfl)) (fa_cons (He.free_ok X G (c.fact 130 (f := .free "zip") rfl)) (fa_cons (He.free_ok X G (c.fact 131 (f := .free "reversed") rfl)) (fa_cons (He.free_ok X G (c.fact 132 (f := .free "divmod") rfl)) (fa_cons (He.free_ok X G (c.fact 133 (f := .free "set") rfl)) (fa_cons (He.free_ok X G (c.fact 134 (f := .free "ord") rfl)) (fa_nil)))))))))))))))))))))⟩
theorem law_mk2 {P : Program} {w : World} {fa : Addr} {K : PySem.W.Frag} {h : Heap} {mg : Str → Option Value} (X : K.In h) (G : h.Ns mainGlobals mg) (hfa : mg "law" = some (.ref fa)) (z : obsM bsD faD fnD K = (true, He.valD fnD)) (w0 n : Nat) :
    ∃ fd : FuncData, (∀ (s : Shared) (v : Value), BindsTo s fd ⟨[v], []⟩ [("script", v)]) ∧ ∀ base : Heap, K.In base → base.Ns mainGlobals mg → FnOk P w K mg base CX0 (n + 1) fa fd ["script"] (spLaw w0 ds (n + 1) 94 K) := by
  have c := obsM_says z
  have e := hfa.symm.trans (He.glo_ok X G (c.fact 94 (f := .glo "law") rfl))
  cases e
  exact law_fact (st := stlaw) (m := 60) (c.def_ 94 rfl) slaw claw rfl (fun _ _ _ _ _ _ _ _ => .of_eq rfl) (base X G z) w0 n
abbrev R : PySem.W.OpenRow := PySem.W.OpenLaw.row PySem.Challenge.rw_cheesestead_k73_borders_of_windows
abbrev hk : PySem.W.Hook := hookM bsD faD fnD
def ob (s : PySem.W.SharedT) : Bool × He.AlD := obsMG bsD faD fnD (HandSHeadRun.getT s)
theorem ob_eq (s : PySem.W.SharedT) : ob s = hk.obs s.abs := obsMG_eq (HandSHeadRun.getT_eq s)
def looseD0 : List Str := [("gcd" : Str), ("__name__" : Str), ("reduced" : Str), ("f_whole" : Str), ("f_add" : Str), ("f_sub" : Str), ("f_mul" : Str), ("f_div" : Str), ("f_less" : Str), ("f_at_most" : Str), ("f_min" : Str), ("f_max" : Str), ("f_floor" : Str), ("covers" : Str), ("turned" : Str), ("height_at" : Str), ("height_between" : Str), ("place_between" : Str), ("high_part" : Str), ("high_spans" : Str)]
def looseD1 : List Str := [("all_choices" : Str), ("CheeseError" : Str), ("BadValue" : Str), ("MOST_PARTS" : Str), ("need" : Str), ("is_integer" : Str), ("is_whole" : Str), ("is_whole_from" : Str), ("is_sequence" : Str), ("is_pair" : Str), ("is_wholes" : Str), ("is_row" : Str), ("is_rows" : Str), ("is_rising" : Str), ("is_any_fraction" : Str), ("is_fraction" : Str), ("frozen" : Str), ("MOST_LOADS" : Str), ("HEAVIEST" : Str), ("MOST_KNOTS" : Str)]
def looseD2 : List Str := [("DEEPEST" : Str), ("are_loads" : Str), ("is_gauge" : Str), ("read_off" : Str), ("depth_of" : Str), ("litres_at" : Str), ("room_above" : Str), ("most_poured" : Str), ("MOST_DRAUGHTS" : Str), ("is_draughts" : Str), ("is_weight" : Str), ("PARTS" : Str), ("parts_left" : Str), ("share_left" : Str), ("left_over" : Str), ("weight_needed" : Str), ("lasts" : Str), ("bands_of" : Str), ("within" : Str), ("toll_due" : Str)]
def looseD3 : List Str := [("last_mile" : Str), ("miles_within" : Str), ("MOST_BANDS" : Str), ("FARTHEST" : Str), ("DEAREST" : Str), ("is_band" : Str), ("is_toll" : Str), ("is_miles" : Str), ("MOST_TONS" : Str), ("MOST_PENCE" : Str), ("due" : Str), ("miles_for" : Str), ("MOST_LEGS" : Str), ("MOST_SPANS" : Str), ("LONGEST" : Str), ("LATEST" : Str), ("is_span" : Str), ("are_spans" : Str), ("is_leg" : Str), ("are_legs" : Str)]
def looseD4 : List Str := [("checked" : Str), ("begin_from" : Str), ("begin_till" : Str), ("travelled" : Str), ("arrives" : Str), ("waits" : Str), ("leaves" : Str), ("LEAST_SOUR" : Str), ("MOST_SOUR" : Str), ("LAST_MINUTE" : Str), ("is_table" : Str), ("sour_at" : Str), ("windows" : Str), ("first_from" : Str), ("last_till" : Str), ("asked" : Str), ("_law_so" : Str), ("_law_numbers" : Str), ("_law_draw" : Str), ("_law_take" : Str)]
def looseD5 : List Str := [("_law_pick" : Str), ("_law_gcd" : Str), ("_law_sets" : Str), ("_law_red" : Str), ("_law_add" : Str), ("_law_sub" : Str), ("_law_mul" : Str), ("_law_less" : Str), ("_law_table" : Str), ("_law_cross" : Str), ("_law_windows" : Str), ("_law_legs" : Str), ("_law_arrives" : Str), ("_law_toll" : Str), ("_law_due" : Str), ("_law_miles" : Str), ("_law_borders_rest" : Str)]
def looseD : List Str := looseD0 ++ (looseD1 ++ (looseD2 ++ (looseD3 ++ (looseD4 ++ (looseD5)))))
set_option maxHeartbeats 0 in
theorem run (w : World) : Mini.RunI R (PySem.W.view R.prog [130]) hk ob 100000 looseD w := by
  unfold Mini.RunI
  kernel_rfl
end K73
open PySem PySem.W PySem.Calls PyProof.Rows
set_option maxHeartbeats 0 in
theorem PySem.Challenge.cw_cheesestead_k73_borders_of_windows_holds : PySem.Challenge.rw_cheesestead_k73_borders_of_windows.Holds := by
  w_on; o_law
  refine Mini.head_imp (r := OpenLaw.row PySem.Challenge.rw_cheesestead_k73_borders_of_windows) (q := view (OpenLaw.row PySem.Challenge.rw_cheesestead_k73_borders_of_windows).prog [130]) (H := K73.hk) (ob := K73.ob) (M := 100000) (loose := K73.looseD) (d := HandSHeadRun.topDef (OpenLaw.row PySem.Challenge.rw_cheesestead_k73_borders_of_windows).prog 130) (kwd := []) K73.ob_eq
    K73.run (by kernel_rfl) (by kernel_rfl) (by kernel_rfl) (by rfl) (by first | assumption | decide +kernel) (by decide +kernel) ⟨rfl, rfl, rfl, rfl, rfl, by decide +kernel⟩ ?hw ?hc
  case hw => w_witness2
  case hc =>
    refine L2.walk_ofE (l := PySem.Challenge.rw_cheesestead_k73_borders_of_windows) (n := 63) (k := 9 + 1) (x := "script") (CX := L2.CX0) rfl (by decide) (by kernel_rfl) ⟨rfl, by decide, by decide⟩ ?F (fun _ _ _ _ z => z)
    intro w mg fa h Y G hmg0
    obtain ⟨K, KX, z⟩ := Y
    have hmg : mg ("law" : PySem.Str) = some (.ref fa) := by
      have e : (HandSHeadRun.topDef (OpenLaw.row PySem.Challenge.rw_cheesestead_k73_borders_of_windows).prog 130).name = ("law" : PySem.Str) := by kernel_rfl
      rw [← e]
      exact hmg0
    have c := Mini.obsM_says z
    obtain ⟨fd, hb, hF⟩ := Mini.law_fact (P := (PySem.Challenge.rw_cheesestead_k73_borders_of_windows).prog) (w := w) (st := K73.stlaw) (m := 60) (i := 94) (c.def_ 94 rfl) K73.slaw K73.claw rfl (fun _ _ _ _ _ _ _ _ => .of_eq rfl) (K73.base KX G z) Mini.WF 9
    have e := hmg.symm.trans (He.glo_ok KX G (c.fact 94 (f := .glo "law") rfl))
    cases e
    exact ⟨K, fd, Mini.spLaw Mini.WF K73.ds (9 + 1) 94 K, KX, hb, fun H a ns hl hO hS => Mini.law_end (m := 63) K73.holds _ H a ns hl hO hS, hF⟩
