import PyProof.Rows.All
import Wide.All
import OpenK.AllK
import Wide.FinOn
import HandS.ForMost
import HandS.Evl
import HandS.Walk
import HandS.SortInts
import HandS.Wide
import HandS.IsInst
import HandS.Style
import HandS.Defaults
import HandS.Deep
import HandS.Conv
import HandS.NoneIn
import HandS.More
import HandS.Head0
import HandS.Head1
import HandS.Head2
import HandS.HeadEnd
import HandS.HeadHook1
import HandS.HeadHook2
import HandS.Steps
import HandS.SortRule
import HandS.SetFor
import HandS.TupSets
import HandS.Exc
import HandS.ExcOwn
import HandS.ExcIs
import HandS.ExcValue
import HandS.WordsExc
import PyProof.Rows.CountFlat
import HandS.Strs
import HandS.Iter
import KE.KDictZip
import HandS.Dict
import KE.DatumOrd
import HandS.List
import HandS.TupMul
import KE.KStateDown
import Lean
import PySem.Challenge.RW_boundstats_k07_whole_orders
set_option Elab.async false
set_option linter.all false
set_option maxRecDepth 100000
set_option maxHeartbeats 2000000
/-! typed readings: values as plain data, lists locked once made -/
namespace BL
open PySem PySem.Spec PyProof.Rows L2
abbrev Fg := PySem.W.Frag
/-! ### what stays: tuples, locked things -/
inductive Sta : HO → Prop
  | tup (xs : List V) : Sta (.tup xs)
  | frz (o : Obj) (u : HO) : Sta (.frz o u)
  | ext (φ : Heap → Prop) : Sta (.ext φ)
theorem sta_lst {xs : List V} : ¬ Sta (.lst xs) := fun h => nomatch h
def SF (H H' : Hp) : Prop := ∀ a o, Sta o → H a = some o → H' a = some o
section
variable {H H1 H2 H' : Hp} {p a : Addr} {o u : HO} {xs ys : List V} {K : Fg}
theorem SF.refl (H : Hp) : SF H H := fun _ _ _ h => h
theorem SF.trans (a : SF H H1) (b : SF H1 H2) : SF H H2 := fun x o s h => b x o s (a x o s h)
theorem SF.of (e : Same H H') : SF H H' := fun a o _ h => e a o h
theorem SF.new (h : H p = none) : SF H (upd H p o) := fun a u _ e => by
  rw [upd_ne (ne_of_none e h)]; exact e
theorem SF.chg (h : H p = some u) (n : ¬ Sta u) : SF H (upd H p o) := fun a w s e => by
  by_cases q : a = p
  · subst q; rw [h] at e; cases e; exact absurd s n
  · rw [upd_ne q]; exact e
theorem SF.lst (h : H p = some (.lst xs)) : SF H (upd H p o) := SF.chg h sta_lst
theorem same_new (h : H p = none) : Same H (upd H p o) := fun a u e => by
  rw [upd_ne (ne_of_none e h)]; exact e
/-- what H does not know may change -/
theorem same_mut (e : Same H H') (h : H p = none) : Same H (upd H' p o) := fun a u ha => by
  rw [upd_ne (ne_of_none ha h)]; exact e a u ha
theorem sf_mut (e : SF H H') (h : H p = none) : SF H (upd H' p o) := fun a u s ha => by
  rw [upd_ne (ne_of_none ha h)]; exact e a u s ha
theorem none_back (e : Same H H') (h : H' p = none) : H p = none := e.free h
theorem upd_get (h : H a = some u) (n : a ≠ p) : upd H p o a = some u := by rw [upd_ne n]; exact h
def Fz (H : Hp) (a : Addr) (xs : List V) : Prop := ∃ o, H a = some (.frz o (.lst xs))
theorem Fz.seq (h : Fz H a xs) : SqL K H a xs := by
  obtain ⟨o, h⟩ := h; exact .inl (.inr ⟨o, h⟩)
theorem Fz.sf (e : SF H H') (h : Fz H a xs) : Fz H' a xs := by
  obtain ⟨o, h⟩ := h; exact ⟨o, e _ _ (.frz _ _) h⟩
theorem sqt_sf (e : SF H H') (h : SqT K H a xs) : SqT K H' a xs := by
  rcases h with (h | ⟨o, h⟩) | h
  · exact .inl (.inl (e _ _ (.tup _) h))
  · exact .inl (.inr ⟨o, e _ _ (.frz _ _) h⟩)
  · exact .inr h
theorem sq_lst (h : H a = some (.lst xs)) : SqL K H a xs := .inl (.inl h)
theorem sq_tup (h : H a = some (.tup xs)) : SqT K H a xs := .inl (.inl h)
end
theorem paired_mono {α β : Type} {F G : α → β → Prop} (h : ∀ a b, F a b → G a b) : ∀ {l : List α} {r : List β}, Paired F l r → Paired G l r
  | _, _, .nil => .nil
  | _, _, .cons a b => .cons (h _ _ a) (paired_mono h b)
theorem paired_len {α β : Type} {F : α → β → Prop} {l : List α} {r : List β} (h : Paired F l r) : l.length = r.length := Paired.length h
theorem paired_app {α β : Type} {F : α → β → Prop} : ∀ {l l' : List α} {r r' : List β}, Paired F l r → Paired F l' r' → Paired F (l ++ l') (r ++ r')
  | _, _, _, _, .nil, h => h
  | _, _, _, _, .cons a b, h => .cons a (paired_app b h)
theorem paired_get {α β : Type} {F : α → β → Prop} : ∀ {l : List α} {r : List β} {i : Nat} {y : β}, Paired F l r → r[i]? = some y → ∃ x, l[i]? = some x ∧ F x y
  | _, _, i, _, .nil, e => by simp at e
  | _, _, 0, _, .cons a _, e => by simp at e; subst e; exact ⟨_, rfl, a⟩
  | _, _, i + 1, y, .cons _ b, e => by
    obtain ⟨x, h1, h2⟩ := paired_get (i := i) (y := y) b (by simpa using e)
    exact ⟨x, by simpa using h1, h2⟩
theorem paired_get2 {α β : Type} {F : α → β → Prop} : ∀ {l : List α} {r : List β} {i : Nat} {x : α}, Paired F l r → l[i]? = some x → ∃ y, r[i]? = some y ∧ F x y
  | _, _, i, _, .nil, e => by simp at e
  | _, _, 0, _, .cons a _, e => by simp at e; subst e; exact ⟨_, rfl, a⟩
  | _, _, i + 1, y, .cons _ b, e => by
    obtain ⟨x, h1, h2⟩ := paired_get2 (i := i) (x := y) b (by simpa using e)
    exact ⟨x, by simpa using h1, h2⟩
theorem paired_set {α β : Type} {F : α → β → Prop} {x : α} {y : β} (f : F x y) : ∀ {l : List α} {r : List β} (i : Nat), Paired F l r → Paired F (l.set i x) (r.set i y)
  | _, _, _, .nil => .nil
  | _, _, 0, .cons _ b => .cons f b
  | _, _, i + 1, .cons a b => .cons a (paired_set f i b)
theorem paired_take {α β : Type} {F : α → β → Prop} : ∀ {l : List α} {r : List β} (n : Nat), Paired F l r → Paired F (l.take n) (r.take n)
  | _, _, 0, _ => .nil
  | _, _, _ + 1, .nil => .nil
  | _, _, n + 1, .cons a b => .cons a (paired_take n b)
theorem paired_drop {α β : Type} {F : α → β → Prop} : ∀ {l : List α} {r : List β} (n : Nat), Paired F l r → Paired F (l.drop n) (r.drop n)
  | _, _, 0, h => h
  | _, _, _ + 1, .nil => .nil
  | _, _, n + 1, .cons a b => paired_drop n b

/-! ### data -/
class Rp (α : Type) where
  rep : Fg → Hp → V → α → Prop
  mono : ∀ {K : Fg} {H H' : Hp} {v : V} {x : α}, SF H H' → rep K H v x → rep K H' v x
/-- a triple -/
structure T3 (α β γ : Type) where
  a : α
  b : β
  c : γ
  deriving DecidableEq
instance : Rp Int := ⟨fun _ _ v i => v = .int i, fun _ h => h⟩
instance : Rp Nat := ⟨fun _ _ v i => v = .int (i : Int), fun _ h => h⟩
instance : Rp Bool := ⟨fun _ _ v b => v = .bl b, fun _ h => h⟩
instance : Rp Str := ⟨fun _ _ v b => v = .str b, fun _ h => h⟩
instance : Rp Unit := ⟨fun _ _ v _ => v = .non, fun _ h => h⟩
instance {α β : Type} [Rp α] [Rp β] : Rp (α × β) := ⟨fun K H v p => ∃ a v1 v2, v = .ref a ∧ SqT K H a [v1, v2] ∧ Rp.rep K H v1 p.1 ∧ Rp.rep K H v2 p.2,
  fun e h => by obtain ⟨a, v1, v2, h1, h2, h3, h4⟩ := h; exact ⟨a, v1, v2, h1, sqt_sf e h2, Rp.mono e h3, Rp.mono e h4⟩⟩
instance {α β γ : Type} [Rp α] [Rp β] [Rp γ] : Rp (T3 α β γ) := ⟨fun K H v p => ∃ a v1 v2 v3, v = .ref a ∧ SqT K H a [v1, v2, v3] ∧ Rp.rep K H v1 p.a ∧ Rp.rep K H v2 p.b ∧ Rp.rep K H v3 p.c,
  fun e h => by obtain ⟨a, v1, v2, v3, h1, h2, h3, h4, h5⟩ := h; exact ⟨a, v1, v2, v3, h1, sqt_sf e h2, Rp.mono e h3, Rp.mono e h4, Rp.mono e h5⟩⟩
abbrev RL {α : Type} [Rp α] (K : Fg) (H : Hp) (vs : List V) (l : List α) : Prop := Paired (Rp.rep K H) vs l
theorem RL.mono {α : Type} [Rp α] {K : Fg} {H H' : Hp} {vs : List V} {l : List α} (e : SF H H') (h : RL K H vs l) : RL K H' vs l := paired_mono (fun _ _ => Rp.mono e) h
instance {α : Type} [Rp α] : Rp (List α) := ⟨fun K H v l => ∃ a vs, v = .ref a ∧ Fz H a vs ∧ RL K H vs l,
  fun e h => by obtain ⟨a, vs, h1, h2, h3⟩ := h; exact ⟨a, vs, h1, h2.sf e, h3.mono e⟩⟩
/-- None, or a thing that is not None -/
instance {α : Type} [Rp α] : Rp (Option α) := ⟨fun K H v o => match o with
  | none => v = .non
  | some x => v ≠ .non ∧ Rp.rep K H v x, fun {K H H' v o} e h => by
    cases o with
    | none => exact h
    | some x => exact ⟨h.1, Rp.mono e h.2⟩⟩
instance {α β : Type} [Rp α] [Rp β] : Rp (Sum α β) := ⟨fun K H v o => match o with
  | .inl x => Rp.rep K H v x
  | .inr x => Rp.rep K H v x, fun {K H H' v o} e h => by
    cases o with
    | inl x => exact Rp.mono e h
    | inr x => exact Rp.mono e h⟩
/-- a tuple of any length -/
structure Tp (α : Type) where
  l : List α
  deriving DecidableEq
instance {α : Type} [Rp α] : Rp (Tp α) := ⟨fun K H v t => ∃ a vs, v = .ref a ∧ SqT K H a vs ∧ RL K H vs t.l,
  fun e h => by obtain ⟨a, vs, h1, h2, h3⟩ := h; exact ⟨a, vs, h1, sqt_sf e h2, h3.mono e⟩⟩
section
variable {K : Fg} {H H' : Hp}
theorem rep_int {v : V} {i : Int} : Rp.rep K H v i ↔ v = .int i := Iff.rfl
theorem rl_ints : ∀ {vs : List V} {l : List Int}, RL K H vs l → vs = l.map V.int
  | _, _, .nil => rfl
  | _, _, .cons a b => by rw [List.map_cons, ← rl_ints b, rep_int.mp a]
theorem rl_nats : ∀ {vs : List V} {l : List Nat}, RL K H vs l → vs = (l.map fun n : Nat => (n : Int)).map V.int
  | _, _, .nil => rfl
  | _, _, .cons a b => by
    have e : _ = V.int _ := a
    rw [List.map_cons, List.map_cons, ← rl_nats b, e]
theorem rl_bools : ∀ {vs : List V} {l : List Bool}, RL K H vs l → vs = l.map V.bl
  | _, _, .nil => rfl
  | _, _, .cons a b => by
    have e : _ = V.bl _ := a
    rw [List.map_cons, ← rl_bools b, e]
theorem rl_strs : ∀ {vs : List V} {l : List Str}, RL K H vs l → vs = l.map V.str
  | _, _, .nil => rfl
  | _, _, .cons a b => by
    have e : _ = V.str _ := a
    rw [List.map_cons, ← rl_strs b, e]
theorem rl_of_ints : ∀ (l : List Int), RL K H (l.map V.int) l
  | [] => .nil
  | _ :: r => .cons rfl (rl_of_ints r)
theorem rl_of_nats : ∀ (l : List Nat), RL K H ((l.map fun n : Nat => (n : Int)).map V.int) l
  | [] => .nil
  | _ :: r => .cons rfl (rl_of_nats r)
theorem rl_of_bools : ∀ (l : List Bool), RL K H (l.map V.bl) l
  | [] => .nil
  | _ :: r => .cons rfl (rl_of_bools r)
theorem rl_of_strs : ∀ (l : List Str), RL K H (l.map V.str) l
  | [] => .nil
  | _ :: r => .cons rfl (rl_of_strs r)
end

/-! ### data compared: == of any depth -/
class Rq (α : Type) [Rp α] where
  toD : α → PyData
  dp : ∀ {K : Fg} {H : Hp} {v : V} {x : α}, Rp.rep K H v x → Dp K H v (toD x)
  ok : α → Prop
  dep : Nat
  lay : ∀ x, ok x → (toD x).canLay0 = true
  deep : ∀ x, (toD x).depth ≤ dep
  eqv : ∀ x y : α, PyData.eqv (toD x) (toD y) = true ↔ x = y
class Rt (α : Type) [Rp α] [Rq α] where
  all : ∀ x : α, Rq.ok x
theorem dp_all {α : Type} [Rp α] [Rq α] {K : Fg} {H : Hp} : ∀ {vs : List V} {l : List α}, RL K H vs l → DpAll K H vs (l.map Rq.toD)
  | _, _, .nil => .nil
  | _, _, .cons a b => .cons (Rq.dp a) (dp_all b)
theorem lay_all {α : Type} [Rp α] [Rq α] : ∀ {l : List α}, (∀ x ∈ l, Rq.ok x) → PyData.canLayAll0 (l.map Rq.toD) = true
  | [], _ => rfl
  | x :: r, h => by
    show (PyData.canLay0 (Rq.toD x) && PyData.canLayAll0 (r.map Rq.toD)) = true
    rw [Rq.lay x (h x (List.mem_cons_self ..)), lay_all (l := r) fun y hy => h y (List.mem_cons_of_mem _ hy)]; rfl
theorem deep_all {α : Type} [Rp α] [Rq α] : ∀ {l : List α}, PyData.depthAll (l.map Rq.toD) ≤ Rq.dep α
  | [] => Nat.zero_le _
  | x :: r => by
    show max (PyData.depth (Rq.toD x)) (PyData.depthAll (r.map Rq.toD)) ≤ _
    exact Nat.max_le.mpr ⟨Rq.deep x, deep_all⟩
theorem eqv_all {α : Type} [Rp α] [Rq α] : ∀ {l r : List α}, PyData.eqvAll (l.map Rq.toD) (r.map Rq.toD) = true ↔ l = r
  | [], [] => by simp [PyData.eqvAll]
  | [], _ :: _ => by simp [PyData.eqvAll]
  | _ :: _, [] => by simp [PyData.eqvAll]
  | x :: l, y :: r => by
    show (PyData.eqv (Rq.toD x) (Rq.toD y) && PyData.eqvAll (l.map Rq.toD) (r.map Rq.toD)) = true ↔ _
    rw [Bool.and_eq_true, Rq.eqv, eqv_all, List.cons.injEq]
instance : Rq Int := ⟨.int, fun {K H v x} h => by cases (show v = .int x from h); exact .int _, fun _ => True, 1, fun _ _ => rfl, fun _ => by show PyData.depth _ ≤ 1; simp [PyData.depth], fun x y => by simp [PyData.eqv]⟩
instance : Rq Nat := ⟨fun n => .int (n : Int), fun {K H v x} h => by cases (show v = .int (x : Int) from h); exact .int _, fun _ => True, 1, fun _ _ => rfl, fun _ => by show PyData.depth _ ≤ 1; simp [PyData.depth], fun x y => by simp [PyData.eqv]; omega⟩
instance : Rq Bool := ⟨.bool, fun {K H v x} h => by cases (show v = .bl x from h); exact .bl _, fun _ => True, 1, fun _ _ => rfl, fun _ => by show PyData.depth _ ≤ 1; simp [PyData.depth], fun x y => by simp [PyData.eqv]⟩
instance : Rq Str := ⟨.str, fun {K H v x} h => by cases (show v = .str x from h); exact .str _, fun x => (PyData.str x).canLay0 = true, 1, fun _ h => h, fun _ => by show PyData.depth _ ≤ 1; simp [PyData.depth], fun x y => by simp [PyData.eqv]⟩
instance {α β : Type} [Rp α] [Rp β] [Rq α] [Rq β] : Rq (α × β) := ⟨fun p => .tuple [Rq.toD p.1, Rq.toD p.2], fun {K H v x} h => by
    obtain ⟨a, v1, v2, rfl, h2, h3, h4⟩ := h; exact .tup h2 (.cons (Rq.dp h3) (.cons (Rq.dp h4) .nil)), fun p => Rq.ok p.1 ∧ Rq.ok p.2, max (Rq.dep α) (Rq.dep β) + 1,
  fun p h => by simp [PyData.canLay0, PyData.canLayAll0, Rq.lay p.1 h.1, Rq.lay p.2 h.2],
  fun p => by have := Rq.deep p.1; have := Rq.deep p.2; simp only [PyData.depth, PyData.depthAll]; omega,
  fun p q => by obtain ⟨p1, p2⟩ := p; obtain ⟨q1, q2⟩ := q; simp [PyData.eqv, PyData.eqvAll, Rq.eqv]⟩
instance {α β γ : Type} [Rp α] [Rp β] [Rp γ] [Rq α] [Rq β] [Rq γ] : Rq (T3 α β γ) := ⟨fun p => .tuple [Rq.toD p.a, Rq.toD p.b, Rq.toD p.c], fun {K H v x} h => by
    obtain ⟨a, v1, v2, v3, rfl, h2, h3, h4, h5⟩ := h; exact .tup h2 (.cons (Rq.dp h3) (.cons (Rq.dp h4) (.cons (Rq.dp h5) .nil))), fun p => Rq.ok p.a ∧ Rq.ok p.b ∧ Rq.ok p.c, max (Rq.dep α) (max (Rq.dep β) (Rq.dep γ)) + 1,
  fun p h => by simp [PyData.canLay0, PyData.canLayAll0, Rq.lay p.a h.1, Rq.lay p.b h.2.1, Rq.lay p.c h.2.2],
  fun p => by have := Rq.deep p.a; have := Rq.deep p.b; have := Rq.deep p.c; simp only [PyData.depth, PyData.depthAll]; omega,
  fun p q => by obtain ⟨p1, p2, p3⟩ := p; obtain ⟨q1, q2, q3⟩ := q; simp [PyData.eqv, PyData.eqvAll, Rq.eqv]⟩
instance {α : Type} [Rp α] [Rq α] : Rq (List α) := ⟨fun l => .list (l.map Rq.toD), fun {K H v x} h => by
    obtain ⟨a, vs, rfl, h2, h3⟩ := h; exact .lst h2.seq (dp_all h3), fun l => ∀ x ∈ l, Rq.ok x, Rq.dep α + 1,
  fun p h => by simp only [PyData.canLay0]; exact lay_all h,
  fun p => by have := deep_all (l := p); simp only [PyData.depth]; omega,
  fun p q => by simp only [PyData.eqv]; exact eqv_all⟩
instance {α : Type} [Rp α] [Rq α] : Rq (Tp α) := ⟨fun l => .tuple (l.l.map Rq.toD), fun {K H v x} h => by
    obtain ⟨a, vs, rfl, h2, h3⟩ := h; exact .tup h2 (dp_all h3), fun l => ∀ x ∈ l.l, Rq.ok x, Rq.dep α + 1,
  fun p h => by simp only [PyData.canLay0]; exact lay_all h,
  fun p => by have := deep_all (l := p.l); simp only [PyData.depth]; omega,
  fun p q => by obtain ⟨p⟩ := p; obtain ⟨q⟩ := q; simp only [PyData.eqv, Tp.mk.injEq]; exact eqv_all⟩
instance : Rt Int := ⟨fun _ => trivial⟩
instance : Rt Nat := ⟨fun _ => trivial⟩
instance : Rt Bool := ⟨fun _ => trivial⟩
instance {α β : Type} [Rp α] [Rp β] [Rq α] [Rq β] [Rt α] [Rt β] : Rt (α × β) := ⟨fun p => ⟨Rt.all p.1, Rt.all p.2⟩⟩
instance {α β γ : Type} [Rp α] [Rp β] [Rp γ] [Rq α] [Rq β] [Rq γ] [Rt α] [Rt β] [Rt γ] : Rt (T3 α β γ) := ⟨fun p => ⟨Rt.all p.a, Rt.all p.b, Rt.all p.c⟩⟩
instance {α : Type} [Rp α] [Rq α] [Rt α] : Rt (List α) := ⟨fun _ x _ => Rt.all x⟩
instance {α : Type} [Rp α] [Rq α] [Rt α] : Rt (Tp α) := ⟨fun _ x _ => Rt.all x⟩
theorem shaped_of {α : Type} [Rp α] [Rq α] {x : α} (h : Rq.ok x) (hd : Rq.dep α ≤ 64) : SeqAt.shaped (Rq.toD x) = true := by
  show (PyData.canLay0 (Rq.toD x) && decide (PyData.depth (Rq.toD x) ≤ 64)) = true
  rw [Rq.lay x h, decide_eq_true (Nat.le_trans (Rq.deep x) hd)]; rfl
end BL

set_option Elab.async false
set_option linter.all false
set_option maxRecDepth 100000
set_option maxHeartbeats 2000000
namespace BL
open PySem PySem.Spec PyProof.Rows L2
/-! lists, locked or not, joined and repeated -/
def rCatR : R2 := fun x y H Q => ∃ l b xs zs, x = .ref l ∧ y = .ref b ∧ L2.Rd H l (.lst xs) ∧ L2.Rd H b (.lst zs) ∧ xs.length + zs.length ≤ sizeLine ∧ ∀ p, H p = none → Q (.ref p) (upd H p (.lst (xs ++ zs)))
theorem rd_lst {X : Cx} {pins : List (Addr × Obj)} {σ : L2.St} {H : Hp} {s : Shared} {a : Addr} {xs : List V} (I : Inv X pins σ H s) (h : L2.Rd H a (.lst xs)) :
    xs.length ≤ sizeLine ∧ ∃ (its : List Value) (n : Nat), Vals xs its ∧ xs.length = its.length ∧ s.heap.get? a = some { cls := .type "list", data := .seq its.toArray n } := by
  obtain ⟨z, its, n, r, e⟩ := h.ok I.hok
  exact ⟨z, its, n, r, r.length, e⟩
theorem op_catR {X : Cx} : OpR X (binaryOp .Add) rCatR := by
  intro pins s σ H x y v u Q I rx ry h
  obtain ⟨l, b, xs, zs, rfl, rfl, hH, hB, hz, q⟩ := h
  cases rx
  cases ry
  obtain ⟨z, its, n, r, hl, e⟩ := rd_lst I hH
  obtain ⟨z2, its2, n2, r2, hl2, e2⟩ := rd_lst I hB
  refine PySem.P.add_list e e2 ?_ (by rw [List.size_toArray, List.size_toArray]; omega)
  have ea : its.toArray ++ its2.toArray = (its ++ its2).toArray := by simp
  rw [ea]
  exact ⟨.ref _, _, I.lnew (t' := s.toks) (r.append r2) (by rw [List.length_append]; omega), rfl, q _ I.fresh⟩
/-! ### readings: what an expression gives, all that was tracked kept -/
def Er (K : Fg) (te : TE) (σ : L2.St) (H : Hp) {α : Type} [Rp α] (x : α) : Prop := ∀ H1, Same H H1 → ∀ Q : VK, (∀ v H2, Same H1 H2 → Rp.rep K H2 v x → Q v H2) → te σ H1 Q
/-- a new list, not yet locked -/
def ErL (K : Fg) (te : TE) (σ : L2.St) (H : Hp) {α : Type} [Rp α] (l : List α) : Prop := ∀ H1, Same H H1 → ∀ Q : VK, (∀ p vs H2, Same H1 H2 → H1 p = none → H2 p = some (.lst vs) → RL K H2 vs l → Q (.ref p) H2) → te σ H1 Q
def Et (K : Fg) (tt : TT) (σ : L2.St) (H : Hp) (b : Bool) : Prop := ∀ H1, Same H H1 → ∀ Q : Bool → Hp → Prop, (∀ H2, Same H1 H2 → Q b H2) → tt σ H1 Q
def Ea (K : Fg) (ta : TA) (σ : L2.St) (H : Hp) {α : Type} [Rp α] (l : List α) : Prop := ∀ H1, Same H H1 → ∀ Q : List V → Hp → Prop, (∀ vs H2, Same H1 H2 → RL K H2 vs l → Q vs H2) → ta σ H1 Q
def tFrz (t : TE) : TE := fun σ H Q => t σ H fun v H1 => ∃ a xs, v = .ref a ∧ H1 a = some (.lst xs) ∧ ∀ od, Q v (upd H1 a (.frz od (.lst xs)))
theorem pe_frz {X : Cx} {e : Expr} {t : TE} (h : PE X e t) : PE X e (tFrz t) := ⟨fun pins s σ H Q I q => thn (h.run pins s σ H _ I q) fun u s1 hh => by
  obtain ⟨v, H1, I1, r, a, xs, ev, ha, q⟩ := hh
  obtain ⟨od, I2⟩ := I1.lock ha trivial
  exact ⟨v, _, I2, r, q od⟩⟩
section
variable {K : Fg} {σ : L2.St} {H H' H1 : Hp} {ta tb tc te : TE} {tt uu : TT} {α β γ δ : Type} [Rp α] [Rp β] [Rp γ] [Rp δ] {x : α} {y : β} {z : γ} {v u : V} {r r' : R2} {b c : Bool} {i j : Int}
theorem Er.mono (e : Same H H') (h : Er K te σ H x) : Er K te σ H' x := fun H1 a Q q => h H1 (e.trans a) Q q
theorem Et.mono (e : Same H H') (h : Et K tt σ H b) : Et K tt σ H' b := fun H1 a Q q => h H1 (e.trans a) Q q
theorem Er.to {x' : α} (h : Er K te σ H x) (e : x = x') : Er K te σ H x' := e ▸ h
theorem ErL.to {l l' : List α} (h : ErL K te σ H l) (e : l = l') : ErL K te σ H l' := e ▸ h
theorem Et.to {b' : Bool} (h : Et K tt σ H b) (e : b = b') : Et K tt σ H b' := e ▸ h
theorem er_var {k : Nat} (hv : σ[k]? = some (some v)) (h : Rp.rep K H v x) : Er K (tVar k) σ H x := fun H1 e Q q => ⟨v, hv, q v H1 (Same.refl _) (Rp.mono (SF.of e) h)⟩
/-- a constant -/
theorem er_c (h : ∀ H, Rp.rep K H v x) : Er K (tC v) σ H x := fun H1 _ Q q => q v H1 (Same.refl _) (h H1)
theorem er_int : Er K (tC (.int i)) σ H i := er_c fun _ => rfl
theorem er_str {s : Str} : Er K (tC (.str s)) σ H s := er_c fun _ => rfl
theorem er_bl : Er K (tC (.bl b)) σ H b := er_c fun _ => rfl
theorem er_non : Er K (tC .non) σ H () := er_c fun _ => rfl
/-- a place as a number -/
theorem er_up {n : Nat} (h : Er K te σ H n) : Er K te σ H (n : Int) := h
theorem er_dn {n : Nat} (h : Er K te σ H i) (e : i = (n : Int)) : Er K te σ H n := by subst e; exact h
theorem er_frz {l : List α} (h : ErL K te σ H l) : Er K (tFrz te) σ H l := fun H1 e Q q => h H1 e _ fun p vs H2 e2 hp h2 r =>
  ⟨p, vs, rfl, h2, fun od => q (.ref p) _ (same_mut e2 hp) ⟨p, vs, rfl, ⟨od, upd_same⟩, r.mono (SF.lst h2)⟩⟩
/-! operators by values -/
def R2r (K : Fg) (r : R2) (x : α) (y : β) (z : γ) : Prop := ∀ H v u, Rp.rep K H v x → Rp.rep K H u y → ∀ Q : VK, (∀ w H', Same H H' → Rp.rep K H' w z → Q w H') → r v u H Q
theorem er_op (ha : Er K ta σ H x) (hb : Er K tb σ H y) (hr : R2r K r x y z) : Er K (tOp r ta tb) σ H z := fun H1 e Q q =>
  ha H1 e _ fun v H2 e2 r2 => hb H2 (e.trans e2) _ fun u H3 e3 r3 => hr H3 v u (Rp.mono (SF.of e3) r2) r3 Q fun w H4 e4 r4 => q w H4 ((e2.trans e3).trans e4) r4
theorem rr_add : R2r K (rI0 fun i j => .int (i + j)) i j (i + j) := fun H v u e1 e2 Q q => ⟨i, j, e1, e2, q _ H (Same.refl _) rfl⟩
theorem rr_sub : R2r K (rI0 fun i j => .int (i - j)) i j (i - j) := fun H v u e1 e2 Q q => ⟨i, j, e1, e2, q _ H (Same.refl _) rfl⟩
theorem rr_mul (h : CMul i j) : R2r K (rI CMul fun i j => .int (i * j)) i j (i * j) := fun H v u e1 e2 Q q => ⟨i, j, e1, e2, h, q _ H (Same.refl _) rfl⟩
theorem rr_mulW (h : CMulW i j) : R2r K (rI CMulW fun i j => .int (i * j)) i j (i * j) := fun H v u e1 e2 Q q => ⟨i, j, e1, e2, h, q _ H (Same.refl _) rfl⟩
theorem rr_mod (h : 0 < j) : R2r K (rI (fun _ j => 0 < j) fun i j => .int (i % j)) i j (i % j) := fun H v u e1 e2 Q q => ⟨i, j, e1, e2, h, q _ H (Same.refl _) rfl⟩
theorem rr_div (h : CDiv i j) : R2r K (rI CDiv fun i j => .int (i / j)) i j (i / j) := fun H v u e1 e2 Q q => ⟨i, j, e1, e2, h, q _ H (Same.refl _) rfl⟩
theorem rr_divW (h : CDivW i j) : R2r K (rI CDivW fun i j => .int (i / j)) i j (i / j) := fun H v u e1 e2 Q q => ⟨i, j, e1, e2, h, q _ H (Same.refl _) rfl⟩
theorem rr_pow (h : CPow i j) : R2r K (rI CPow fun i j => .int (i ^ j.toNat)) i j (i ^ j.toNat) := fun H v u e1 e2 Q q => ⟨i, j, e1, e2, h, q _ H (Same.refl _) rfl⟩
theorem rr_lt : R2r K (rI0 fun i j => .bl (decide (i < j))) i j (decide (i < j)) := fun H v u e1 e2 Q q => ⟨i, j, e1, e2, q _ H (Same.refl _) rfl⟩
theorem rr_le : R2r K (rI0 fun i j => .bl (decide (i ≤ j))) i j (decide (i ≤ j)) := fun H v u e1 e2 Q q => ⟨i, j, e1, e2, q _ H (Same.refl _) rfl⟩
theorem rr_gt : R2r K (rI0 fun i j => .bl (decide (j < i))) i j (decide (j < i)) := fun H v u e1 e2 Q q => ⟨i, j, e1, e2, q _ H (Same.refl _) rfl⟩
theorem rr_ge : R2r K (rI0 fun i j => .bl (decide (j ≤ i))) i j (decide (j ≤ i)) := fun H v u e1 e2 Q q => ⟨i, j, e1, e2, q _ H (Same.refl _) rfl⟩
theorem rr_eqI : R2r K rEq i j (decide (i = j)) := fun H v u e1 e2 Q q => by
  cases (show v = .int i from e1); cases (show u = .int j from e2)
  exact ⟨rfl, q _ H (Same.refl _) (by show V.bl _ = V.bl _; simp)⟩
theorem rr_neI : R2r K rNe i j (!decide (i = j)) := fun H v u e1 e2 Q q => by
  cases (show v = .int i from e1); cases (show u = .int j from e2)
  exact ⟨rfl, q _ H (Same.refl _) (by show V.bl _ = V.bl _; simp)⟩
theorem rr_eqB : R2r K rEq b c (decide (b = c)) := fun H v u e1 e2 Q q => by
  cases (show v = .bl b from e1); cases (show u = .bl c from e2)
  exact ⟨rfl, q _ H (Same.refl _) (by show V.bl _ = V.bl _; simp)⟩
theorem rr_neB : R2r K rNe b c (!decide (b = c)) := fun H v u e1 e2 Q q => by
  cases (show v = .bl b from e1); cases (show u = .bl c from e2)
  exact ⟨rfl, q _ H (Same.refl _) (by show V.bl _ = V.bl _; simp)⟩
theorem rr_eqS {s t : Str} : R2r K rEq s t (decide (s = t)) := fun H v u e1 e2 Q q => by
  cases (show v = .str s from e1); cases (show u = .str t from e2)
  exact ⟨rfl, q _ H (Same.refl _) (by show V.bl _ = V.bl _; simp)⟩
theorem rr_neS {s t : Str} : R2r K rNe s t (!decide (s = t)) := fun H v u e1 e2 Q q => by
  cases (show v = .str s from e1); cases (show u = .str t from e2)
  exact ⟨rfl, q _ H (Same.refl _) (by show V.bl _ = V.bl _; simp)⟩
theorem eqv_dec [Rq α] [DecidableEq α] (x y : α) : PyData.eqv (Rq.toD x) (Rq.toD y) = decide (x = y) := by
  by_cases h : x = y
  · rw [(Rq.eqv x y).mpr h, decide_eq_true h]
  · rw [decide_eq_false h]
    cases e : PyData.eqv (Rq.toD x) (Rq.toD y) with
    | false => rfl
    | true => exact absurd ((Rq.eqv x y).mp e) h
theorem rr_eqD [Rq α] [DecidableEq α] {x y : α} (hx : Rq.ok x) (hy : Rq.ok y) (hd : Rq.dep α ≤ 64 := by decide) : R2r K (rEqD K) x y (decide (x = y)) := fun H v u e1 e2 Q q =>
  ⟨_, _, Rq.dp e1, Rq.dp e2, shaped_of hx hd, shaped_of hy hd, by rw [eqv_dec]; exact q _ H (Same.refl _) rfl⟩
theorem rr_neD [Rq α] [DecidableEq α] {x y : α} (hx : Rq.ok x) (hy : Rq.ok y) (hd : Rq.dep α ≤ 64 := by decide) : R2r K (rNeD K) x y (!decide (x = y)) := fun H v u e1 e2 Q q =>
  ⟨_, _, Rq.dp e1, Rq.dp e2, shaped_of hx hd, shaped_of hy hd, by rw [eqv_dec]; exact q _ H (Same.refl _) rfl⟩
theorem rr_eqT [Rq α] [Rt α] [DecidableEq α] {x y : α} (hd : Rq.dep α ≤ 64 := by decide) : R2r K (rEqD K) x y (decide (x = y)) := rr_eqD (Rt.all x) (Rt.all y) hd
theorem rr_neT [Rq α] [Rt α] [DecidableEq α] {x y : α} (hd : Rq.dep α ≤ 64 := by decide) : R2r K (rNeD K) x y (!decide (x = y)) := rr_neD (Rt.all x) (Rt.all y) hd
theorem rr_isB : R2r K (fun x y H Q => ∃ a b : Bool, x = .bl a ∧ y = .bl b ∧ Q (.bl (decide (a = b))) H) b c (decide (b = c)) := fun H v u e1 e2 Q q => ⟨b, c, e1, e2, q _ H (Same.refl _) rfl⟩
theorem rr_notB : R2r K (fun x y H Q => ∃ a b : Bool, x = .bl a ∧ y = .bl b ∧ Q (.bl (!decide (a = b))) H) b c (!decide (b = c)) := fun H v u e1 e2 Q q => ⟨b, c, e1, e2, q _ H (Same.refl _) rfl⟩
/-! items -/
theorem rr_ixL {l : List α} {n : Nat} {x : α} (hx : l[n]? = some x) : R2r K (rIxL K) l (n : Int) x := fun H v u e1 e2 Q q => by
  obtain ⟨a, vs, rfl, h2, h3⟩ := e1
  cases (show u = .int (n : Int) from e2)
  obtain ⟨w, hw, rw⟩ := paired_get h3 hx
  exact ⟨a, vs, n, w, rfl, rfl, h2.seq, atI_nat hw, q w H (Same.refl _) rw⟩
theorem rr_ixI {l : List α} {n : Nat} {x : α} (hi : i = (n : Int)) (hx : l[n]? = some x) : R2r K (rIxL K) l i x := by subst hi; exact rr_ixL hx
theorem rr_ixLast {l : List α} {x : α} (hx : l.getLast? = some x) : R2r K (rIxL K) l (-1 : Int) x := fun H v u e1 e2 Q q => by
  obtain ⟨a, vs, rfl, h2, h3⟩ := e1
  cases (show u = .int (-1) from e2)
  have hn : 0 < l.length := by cases l with
    | nil => cases hx
    | cons _ _ => exact Nat.succ_pos _
  rw [List.getLast?_eq_getElem?] at hx
  obtain ⟨w, hw, rw'⟩ := paired_get h3 hx
  have hl := paired_len h3
  refine ⟨a, vs, -1, w, rfl, rfl, h2.seq, ?_, q w H (Same.refl _) rw'⟩
  rw [← hl] at hw
  unfold atI ixN
  rw [if_neg (by omega), if_pos (by omega)]
  have e : ((-1 : Int) + (vs.length : Int)).toNat = vs.length - 1 := by omega
  rw [e]
  exact hw
theorem rr_ixP0 {p : α × β} : R2r K (rIxT K) p (0 : Int) p.1 := fun H v u e1 e2 Q q => by
  obtain ⟨a, v1, v2, rfl, h2, h3, h4⟩ := e1
  cases (show u = .int 0 from e2)
  exact ⟨a, _, 0, v1, rfl, rfl, h2, atI_nat (j := 0) rfl, q _ H (Same.refl _) h3⟩
theorem rr_ixP1 {p : α × β} : R2r K (rIxT K) p (1 : Int) p.2 := fun H v u e1 e2 Q q => by
  obtain ⟨a, v1, v2, rfl, h2, h3, h4⟩ := e1
  cases (show u = .int 1 from e2)
  exact ⟨a, _, 1, v2, rfl, rfl, h2, atI_nat (j := 1) rfl, q _ H (Same.refl _) h4⟩
theorem rr_ixA {p : T3 α β γ} : R2r K (rIxT K) p (0 : Int) p.a := fun H v u e1 e2 Q q => by
  obtain ⟨a, v1, v2, v3, rfl, h2, h3, h4, h5⟩ := e1
  cases (show u = .int 0 from e2)
  exact ⟨a, _, 0, v1, rfl, rfl, h2, atI_nat (j := 0) rfl, q _ H (Same.refl _) h3⟩
theorem rr_ixB {p : T3 α β γ} : R2r K (rIxT K) p (1 : Int) p.b := fun H v u e1 e2 Q q => by
  obtain ⟨a, v1, v2, v3, rfl, h2, h3, h4, h5⟩ := e1
  cases (show u = .int 1 from e2)
  exact ⟨a, _, 1, v2, rfl, rfl, h2, atI_nat (j := 1) rfl, q _ H (Same.refl _) h4⟩
theorem rr_ixC {p : T3 α β γ} : R2r K (rIxT K) p (2 : Int) p.c := fun H v u e1 e2 Q q => by
  obtain ⟨a, v1, v2, v3, rfl, h2, h3, h4, h5⟩ := e1
  cases (show u = .int 2 from e2)
  exact ⟨a, _, 2, v3, rfl, rfl, h2, atI_nat (j := 2) rfl, q _ H (Same.refl _) h5⟩
/-! one operand -/
theorem er_neg (h : Er K te σ H i) : Er K (tUn (rU fun i => .int (-i)) te) σ H (-i) := fun H1 e Q q => h H1 e _ fun v H2 e2 r => ⟨i, r, q _ H2 e2 rfl⟩
/-! chains, tests -/
theorem er_chain {b b' : Bool} (ha : Er K ta σ H x) (hb : Er K tb σ H y) (hc : Er K tc σ H z) (h1 : R2r K r x y b) (h2 : R2r K r' y z b') : Er K (tChain r r' ta tb tc) σ H (b && b') := fun H1 e Q q =>
  ha H1 e _ fun v H2 e2 r2 => hb H2 (e.trans e2) _ fun u H3 e3 r3 => h1 H3 v u (Rp.mono (SF.of e3) r2) r3 _ fun w H4 e4 r4 => ⟨b, r4, by
    cases b with
    | true =>
      refine iteT ?_
      exact hc H4 (((e.trans e2).trans e3).trans e4) _ fun w' H5 e5 r5 => h2 H5 u w' (Rp.mono (SF.of (e4.trans e5)) r3) r5 Q fun w2 H6 e6 r6 => q w2 H6 ((((e2.trans e3).trans e4).trans e5).trans e6) r6
    | false =>
      refine iteF ?_
      exact q _ H4 ((e2.trans e3).trans e4) rfl⟩
theorem et_test (h : Er K te σ H b) : Et K (tTest te) σ H b := fun H1 e _ q => h H1 e _ fun v H2 e2 r => ⟨b, r, q H2 e2⟩
theorem et_B (h : Er K te σ H b) : Et K (tB te) σ H b := fun H1 e _ q => h H1 e _ fun v H2 e2 r => ⟨b, r, q H2 e2⟩
theorem et_and (h1 : Et K tt σ H b) (h2 : b = true → Et K uu σ H c) : Et K (tAnd tt uu) σ H (b && c) := fun H1 e Q q => h1 H1 e _ fun H2 e2 => by
  cases b with
  | true => exact iteT (h2 rfl H2 (e.trans e2) Q fun H3 e3 => q H3 (e2.trans e3))
  | false => exact iteF (q H2 e2)
theorem et_or (h1 : Et K tt σ H b) (h2 : b = false → Et K uu σ H c) : Et K (tOr tt uu) σ H (b || c) := fun H1 e Q q => h1 H1 e _ fun H2 e2 => by
  cases b with
  | true => exact iteT (q H2 e2)
  | false => exact iteF (h2 rfl H2 (e.trans e2) Q fun H3 e3 => q H3 (e2.trans e3))
theorem et_not (h1 : Et K tt σ H b) : Et K (tNot tt) σ H (!b) := fun H1 e _ q => h1 H1 e _ fun H2 e2 => q H2 e2
theorem et_yes : Et K tYes σ H true := fun H1 e _ q => q H1 (Same.refl _)
theorem er_andV (h1 : Er K ta σ H b) (h2 : b = true → Er K tb σ H c) : Er K (tAndV ta tb) σ H (b && c) := fun H1 e Q q => h1 H1 e _ fun v H2 e2 r => ⟨b, r, by
  cases b with
  | true => exact iteT (h2 rfl H2 (e.trans e2) Q fun v H3 e3 r3 => q v H3 (e2.trans e3) r3)
  | false => exact iteF (q _ H2 e2 rfl)⟩
theorem er_orV (h1 : Er K ta σ H b) (h2 : b = false → Er K tb σ H c) : Er K (tOrV ta tb) σ H (b || c) := fun H1 e Q q => h1 H1 e _ fun v H2 e2 r => ⟨b, r, by
  cases b with
  | true => exact iteT (q _ H2 e2 rfl)
  | false => exact iteF (h2 rfl H2 (e.trans e2) Q fun v H3 e3 r3 => q v H3 (e2.trans e3) r3)⟩
theorem er_notV (h1 : Er K ta σ H b) : Er K (tNotV ta) σ H (!b) := fun H1 e Q q => h1 H1 e _ fun v H2 e2 r => ⟨b, r, q _ H2 e2 rfl⟩
theorem er_if {x' : α} (h : Et K tt σ H b) (h1 : b = true → Er K ta σ H x) (h2 : b = false → Er K tb σ H x') : Er K (tIf tt ta tb) σ H (if b = true then x else x') := fun H1 e Q q => h H1 e _ fun H2 e2 => by
  cases b with
  | true => exact iteT (h1 rfl H2 (e.trans e2) Q fun v H3 e3 r3 => q v H3 (e2.trans e3) (by rw [if_pos rfl]; exact r3))
  | false => exact iteF (h2 rfl H2 (e.trans e2) Q fun v H3 e3 r3 => q v H3 (e2.trans e3) (by rw [if_neg Bool.false_ne_true]; exact r3))
theorem erl_if {l l' : List α} (h : Et K tt σ H b) (h1 : b = true → ErL K ta σ H l) (h2 : b = false → ErL K tb σ H l') : ErL K (tIf tt ta tb) σ H (if b = true then l else l') := fun H1 e Q q => h H1 e _ fun H2 e2 => by
  cases b with
  | true => exact iteT (h1 rfl H2 (e.trans e2) Q fun p vs H3 e3 hp h3 r3 => q p vs H3 (e2.trans e3) (e2.free hp) h3 (by rw [if_pos rfl]; exact r3))
  | false => exact iteF (h2 rfl H2 (e.trans e2) Q fun p vs H3 e3 hp h3 r3 => q p vs H3 (e2.trans e3) (e2.free hp) h3 (by rw [if_neg Bool.false_ne_true]; exact r3))
/-! displays -/
theorem er_pair (h1 : Er K ta σ H x) (h2 : Er K tb σ H y) : Er K (tTup (tCons ta (tCons tb tNil))) σ H (x, y) := fun H1 e Q q =>
  h1 H1 e _ fun v H2 e2 r2 => h2 H2 (e.trans e2) _ fun u H3 e3 r3 => ⟨by show 2 ≤ sizeLine; decide, fun p hp =>
    q (.ref p) _ ((e2.trans e3).trans (same_new hp)) ⟨p, v, u, rfl, sq_tup upd_same, Rp.mono (SF.of (e3.trans (same_new hp))) r2, Rp.mono (SF.new hp) r3⟩⟩
theorem er_three (h1 : Er K ta σ H x) (h2 : Er K tb σ H y) (h3 : Er K tc σ H z) : Er K (tTup (tCons ta (tCons tb (tCons tc tNil)))) σ H (T3.mk x y z) := fun H1 e Q q =>
  h1 H1 e _ fun v H2 e2 r2 => h2 H2 (e.trans e2) _ fun u H3 e3 r3 => h3 H3 ((e.trans e2).trans e3) _ fun w H4 e4 r4 => ⟨by show 3 ≤ sizeLine; decide, fun p hp =>
    q (.ref p) _ (((e2.trans e3).trans e4).trans (same_new hp)) ⟨p, v, u, w, rfl, sq_tup upd_same, Rp.mono (SF.of ((e3.trans e4).trans (same_new hp))) r2, Rp.mono (SF.of (e4.trans (same_new hp))) r3, Rp.mono (SF.new hp) r4⟩⟩
theorem ea_nil : Ea K tNil σ H ([] : List α) := fun H1 _ _ q => q [] H1 (Same.refl _) .nil
theorem ea_cons {tr : TA} {l : List α} (h : Er K ta σ H x) (hr : Ea K tr σ H l) : Ea K (tCons ta tr) σ H (x :: l) := fun H1 e _ q =>
  h H1 e _ fun v H2 e2 r2 => hr H2 (e.trans e2) _ fun vs H3 e3 r3 => q _ H3 (e2.trans e3) (.cons (Rp.mono (SF.of e3) r2) r3)
theorem sz1000 {n : Nat} (h : n ≤ 1000000) : n ≤ sizeLine := Nat.le_trans h (by decide)
theorem erl_lst {t : TA} {l : List α} (h : Ea K t σ H l) (hz : l.length ≤ 1000000 := by first | decide | simp) : ErL K (tLst t) σ H l := fun H1 e Q q =>
  h H1 e _ fun vs H2 e2 r2 => ⟨by rw [paired_len r2]; exact sz1000 hz, fun p hp => q p vs _ (e2.trans (same_new hp)) (e2.free hp) upd_same (r2.mono (SF.new hp))⟩
theorem er_tuple {t : TA} {l : List α} (h : Ea K t σ H l) (hz : l.length ≤ 1000000 := by first | decide | simp) : Er K (tTup t) σ H (Tp.mk l) := fun H1 e Q q =>
  h H1 e _ fun vs H2 e2 r2 => ⟨by rw [paired_len r2]; exact sz1000 hz, fun p hp => q (.ref p) _ (e2.trans (same_new hp)) ⟨p, vs, rfl, sq_tup upd_same, r2.mono (SF.new hp)⟩⟩
theorem erl_cat {l l' : List α} (h1 : Er K ta σ H l) (h2 : Er K tb σ H l') (hz : l.length + l'.length ≤ 1000000) : ErL K (tOp rCatR ta tb) σ H (l ++ l') := fun H1 e Q q =>
  h1 H1 e _ fun v H2 e2 r2 => h2 H2 (e.trans e2) _ fun u H3 e3 r3 => by
    obtain ⟨a, vs, rfl, f1, p1⟩ := Rp.mono (SF.of e3) r2
    obtain ⟨b, us, rfl, f2, p2⟩ := r3
    refine ⟨a, b, vs, us, rfl, rfl, .inr f1, .inr f2, ?_, fun p hp => q p _ _ ((e2.trans e3).trans (same_new hp)) ((e2.trans e3).free hp) upd_same (RL.mono (SF.new hp) (paired_app p1 p2))⟩
    rw [paired_len p1, paired_len p2]; exact sz1000 hz
theorem paired_rep {F : V → α → Prop} {vs : List V} {l : List α} (h : Paired F vs l) : ∀ n : Nat, Paired F (List.replicate n vs).flatten (List.replicate n l).flatten
  | 0 => .nil
  | n + 1 => by
    rw [List.replicate_succ, List.replicate_succ, List.flatten_cons, List.flatten_cons]
    exact paired_app h (paired_rep h n)
theorem erl_rep {l : List α} {k : Int} (h1 : ErL K ta σ H l) (h2 : ∀ H', Same H H' → Er K tb σ H' k) (hk : -1000000 ≤ k ∧ k ≤ 1000000) (hz : l.length * k.toNat ≤ 1000000) : ErL K (tOp rRep ta tb) σ H (List.replicate k.toNat l).flatten := fun H1 e Q q =>
  h1 H1 e _ fun a vs H2 e2 hp h2' p1 => h2 H2 (e.trans e2) H2 (Same.refl _) _ fun u H3 e3 r3 => by
    cases (show u = .int k from r3)
    refine ⟨a, k, vs, rfl, rfl, e3 _ _ h2', by omega, by omega, ?_, fun p hp => q p _ _ ((e2.trans e3).trans (same_new hp)) ((e2.trans e3).free hp) upd_same (RL.mono ((SF.of e3).trans (SF.new hp)) (paired_rep p1 k.toNat))⟩
    rw [paired_len p1]; exact sz1000 hz
end
end BL

set_option Elab.async false
set_option linter.all false
set_option maxRecDepth 100000
set_option maxHeartbeats 2000000
namespace BL
open PySem PySem.Spec PyProof.Rows L2
/-! ### plain functions that the built-ins answer by -/
def mxl : List Int → Int
  | [] => 0
  | [x] => x
  | x :: y :: r => max x (mxl (y :: r))
def mnl : List Int → Int
  | [] => 0
  | [x] => x
  | x :: y :: r => min x (mnl (y :: r))
theorem mxl_mem : ∀ {l : List Int}, l ≠ [] → mxl l ∈ l
  | [x], _ => List.mem_singleton.mpr rfl
  | x :: y :: r, _ => by
    have ih := mxl_mem (l := y :: r) (by simp)
    show max x (mxl (y :: r)) ∈ _
    rcases Int.le_total x (mxl (y :: r)) with h | h
    · rw [Int.max_eq_right h]; exact List.mem_cons_of_mem _ ih
    · rw [Int.max_eq_left h]; exact List.mem_cons_self ..
theorem mxl_le : ∀ {l : List Int} {x : Int}, x ∈ l → x ≤ mxl l
  | [y], x, h => by rw [List.mem_singleton.mp h]; exact Int.le_refl _
  | y :: z :: r, x, h => by
    show x ≤ max y (mxl (z :: r))
    rcases List.mem_cons.mp h with h | h
    · subst h; exact Int.le_max_left ..
    · exact Int.le_trans (mxl_le h) (Int.le_max_right ..)
theorem mnl_mem : ∀ {l : List Int}, l ≠ [] → mnl l ∈ l
  | [x], _ => List.mem_singleton.mpr rfl
  | x :: y :: r, _ => by
    have ih := mnl_mem (l := y :: r) (by simp)
    show min x (mnl (y :: r)) ∈ _
    rcases Int.le_total x (mnl (y :: r)) with h | h
    · rw [Int.min_eq_left h]; exact List.mem_cons_self ..
    · rw [Int.min_eq_right h]; exact List.mem_cons_of_mem _ ih
theorem mnl_le : ∀ {l : List Int} {x : Int}, x ∈ l → mnl l ≤ x
  | [y], x, h => by rw [List.mem_singleton.mp h]; exact Int.le_refl _
  | y :: z :: r, x, h => by
    show min y (mnl (z :: r)) ≤ x
    rcases List.mem_cons.mp h with h | h
    · subst h; exact Int.min_le_left ..
    · exact Int.le_trans (Int.min_le_right ..) (mnl_le h)
theorem mxl_eq {l : List Int} {m : Int} (h1 : m ∈ l) (h2 : ∀ y ∈ l, y ≤ m) : m = mxl l := by
  have h3 := h2 _ (mxl_mem (l := l) (by rintro rfl; cases h1))
  have h4 := mxl_le h1
  omega
theorem mnl_eq {l : List Int} {m : Int} (h1 : m ∈ l) (h2 : ∀ y ∈ l, m ≤ y) : m = mnl l := by
  have h3 := h2 _ (mnl_mem (l := l) (by rintro rfl; cases h1))
  have h4 := mnl_le h1
  omega
/-- sorted, ascending -/
def ins (x : Int) : List Int → List Int
  | [] => [x]
  | y :: r => if x ≤ y then x :: y :: r else y :: ins x r
def srt : List Int → List Int
  | [] => []
  | x :: r => ins x (srt r)
theorem ins_perm (x : Int) : ∀ l : List Int, (ins x l).Perm (x :: l)
  | [] => .refl _
  | y :: r => by
    unfold ins
    split
    · exact .refl _
    · exact ((ins_perm x r).cons y).trans (.swap ..)
theorem srt_perm : ∀ l : List Int, (srt l).Perm l
  | [] => .refl _
  | x :: r => (ins_perm x (srt r)).trans ((srt_perm r).cons x)
theorem ins_sorted (x : Int) : ∀ {l : List Int}, l.Pairwise (· ≤ ·) → (ins x l).Pairwise (· ≤ ·)
  | [], _ => by simp [ins]
  | y :: r, h => by
    obtain ⟨h1, h2⟩ := List.pairwise_cons.mp h
    unfold ins
    split
    · rename_i hxy
      refine List.pairwise_cons.mpr ⟨fun z hz => ?_, h⟩
      rcases List.mem_cons.mp hz with hz | hz
      · subst hz; exact hxy
      · exact Int.le_trans hxy (h1 z hz)
    · rename_i hxy
      refine List.pairwise_cons.mpr ⟨fun z hz => ?_, ins_sorted x h2⟩
      rcases List.mem_cons.mp ((ins_perm x r).mem_iff.mp hz) with hz | hz
      · subst hz; omega
      · exact h1 z hz
theorem srt_sorted : ∀ l : List Int, (srt l).Pairwise (· ≤ ·)
  | [] => .nil
  | x :: r => ins_sorted x (srt_sorted r)
theorem srt_uniq : ∀ {l r : List Int}, l.Perm r → l.Pairwise (· ≤ ·) → r.Pairwise (· ≤ ·) → l = r
  | [], r, h, _, _ => (List.Perm.nil_eq h)
  | x :: l, [], h, _, _ => absurd h.length_eq (by simp)
  | x :: l, y :: r, h, h1, h2 => by
    obtain ⟨a1, a2⟩ := List.pairwise_cons.mp h1
    obtain ⟨b1, b2⟩ := List.pairwise_cons.mp h2
    have e : x = y := by
      have m1 : x ∈ y :: r := h.mem_iff.mp (List.mem_cons_self ..)
      have m2 : y ∈ x :: l := h.mem_iff.mpr (List.mem_cons_self ..)
      have q1 : y ≤ x := by
        rcases List.mem_cons.mp m1 with m | m
        · omega
        · exact b1 x m
      have q2 : x ≤ y := by
        rcases List.mem_cons.mp m2 with m | m
        · omega
        · exact a1 y m
      omega
    subst e
    rw [srt_uniq (List.Perm.cons_inv h) a2 b2]
theorem srt_eq {l r : List Int} (h : l.Perm r) (hs : l.Pairwise (· ≤ ·)) : l = srt r := srt_uniq (h.trans (srt_perm r).symm) hs (srt_sorted r)
theorem srt_len (l : List Int) : (srt l).length = l.length := (srt_perm l).length_eq
def iabs (i : Int) : Int := if i < 0 then -i else i
section
variable {K : Fg} {σ : L2.St} {H H' H1 : Hp} {ta tb tc td te : TE} {tt uu : TT} {α β γ δ : Type} [Rp α] [Rp β] [Rp γ] [Rp δ] {x : α} {y : β} {z : γ} {v u : V} {i j : Int} {b c : Bool}
/-! ### built-ins -/
theorem er_cb1 {r : List V → Hp → VK → Prop} (h : Er K ta σ H x) (hr : ∀ H v, Rp.rep K H v x → ∀ Q : VK, (∀ w H', Same H H' → Rp.rep K H' w y → Q w H') → r [v] H Q) : Er K (tCB r (tCons ta tNil)) σ H y := fun H1 e Q q =>
  h H1 e _ fun v H2 e2 r2 => hr H2 v r2 Q fun w H3 e3 r3 => q w H3 (e2.trans e3) r3
theorem er_cb2 {r : List V → Hp → VK → Prop} (h : Er K ta σ H x) (h' : Er K tb σ H y) (hr : ∀ H v u, Rp.rep K H v x → Rp.rep K H u y → ∀ Q : VK, (∀ w H', Same H H' → Rp.rep K H' w z → Q w H') → r [v, u] H Q) : Er K (tCB r (tCons ta (tCons tb tNil))) σ H z := fun H1 e Q q =>
  h H1 e _ fun v H2 e2 r2 => h' H2 (e.trans e2) _ fun u H3 e3 r3 => hr H3 v u (Rp.mono (SF.of e3) r2) r3 Q fun w H4 e4 r4 => q w H4 ((e2.trans e3).trans e4) r4
theorem erl_cb1 {r : List V → Hp → VK → Prop} {l : List β} (h : Er K ta σ H x) (hr : ∀ H v, Rp.rep K H v x → ∀ Q : VK, (∀ p vs H', Same H H' → H p = none → H' p = some (.lst vs) → RL K H' vs l → Q (.ref p) H') → r [v] H Q) : ErL K (tCB r (tCons ta tNil)) σ H l := fun H1 e Q q =>
  h H1 e _ fun v H2 e2 r2 => hr H2 v r2 Q fun p vs H3 e3 hp h3 r3 => q p vs H3 (e2.trans e3) (e2.free hp) h3 r3
theorem er_sum {l : List Int} (h : Er K ta σ H l) : Er K (tCB (rSum K) (tCons ta tNil)) σ H l.sum := er_cb1 h fun H v r Q q => by
  obtain ⟨a, vs, rfl, h2, h3⟩ := r
  exact ⟨a, l, rfl, by rw [← rl_ints h3]; exact h2.seq, q _ H (Same.refl _) rfl⟩
abbrev rLenC (K : Fg) : List V → Hp → VK → Prop := fun xs H Q => ∃ p ys, xs = [.ref p] ∧ (SqL K H p ys ∨ SqT K H p ys) ∧ Q (.int (ys.length : Int)) H
theorem er_len {l : List α} (h : Er K ta σ H l) : Er K (tCB (rLenC K) (tCons ta tNil)) σ H l.length := er_cb1 h fun H v r Q q => by
  obtain ⟨a, vs, rfl, h2, h3⟩ := r
  exact ⟨a, vs, rfl, .inl h2.seq, by rw [paired_len h3]; exact q _ H (Same.refl _) rfl⟩
theorem er_lenP {p : α × β} (h : Er K ta σ H p) : Er K (tCB (rLenC K) (tCons ta tNil)) σ H (2 : Int) := er_cb1 h fun H v r Q q => by
  obtain ⟨a, v1, v2, rfl, h2, _⟩ := r
  exact ⟨a, _, rfl, .inr h2, q _ H (Same.refl _) rfl⟩
theorem er_lenT {t : Tp α} (h : Er K ta σ H t) : Er K (tCB (rLenC K) (tCons ta tNil)) σ H t.l.length := er_cb1 h fun H v r Q q => by
  obtain ⟨a, vs, rfl, h2, h3⟩ := r
  exact ⟨a, vs, rfl, .inr h2, by rw [paired_len h3]; exact q _ H (Same.refl _) rfl⟩
theorem er_max {l : List Int} (h : Er K ta σ H l) (hn : l ≠ []) : Er K (tCB (rMax K) (tCons ta tNil)) σ H (mxl l) := er_cb1 h fun H v r Q q => by
  obtain ⟨a, vs, rfl, h2, h3⟩ := r
  exact ⟨a, l, rfl, by rw [← rl_ints h3]; exact h2.seq, List.length_pos_iff.mpr hn, fun m h1 h2 => q _ H (Same.refl _) (by rw [← mxl_eq h1 h2]; rfl)⟩
theorem er_min {l : List Int} (h : Er K ta σ H l) (hn : l ≠ []) : Er K (tCB (rMin K) (tCons ta tNil)) σ H (mnl l) := er_cb1 h fun H v r Q q => by
  obtain ⟨a, vs, rfl, h2, h3⟩ := r
  exact ⟨a, l, rfl, by rw [← rl_ints h3]; exact h2.seq, List.length_pos_iff.mpr hn, fun m h1 h2 => q _ H (Same.refl _) (by rw [← mnl_eq h1 h2]; rfl)⟩
abbrev rMax2C : List V → Hp → VK → Prop := fun xs H Q => ∃ i j, xs = [.int i, .int j] ∧ Q (.int (if j > i then j else i)) H
abbrev rMin2C : List V → Hp → VK → Prop := fun xs H Q => ∃ i j, xs = [.int i, .int j] ∧ Q (.int (if j < i then j else i)) H
abbrev rAbsC : List V → Hp → VK → Prop := fun xs H Q => ∃ i, xs = [.int i] ∧ Q (.int (if i < 0 then -i else i)) H
theorem er_max2 (h : Er K ta σ H i) (h' : Er K tb σ H j) : Er K (tCB rMax2C (tCons ta (tCons tb tNil))) σ H (max i j) := er_cb2 h h' fun H v u e1 e2 Q q => by
  cases (show v = .int i from e1); cases (show u = .int j from e2)
  refine ⟨i, j, rfl, q _ H (Same.refl _) (congrArg V.int ?_)⟩
  split <;> omega
theorem er_min2 (h : Er K ta σ H i) (h' : Er K tb σ H j) : Er K (tCB rMin2C (tCons ta (tCons tb tNil))) σ H (min i j) := er_cb2 h h' fun H v u e1 e2 Q q => by
  cases (show v = .int i from e1); cases (show u = .int j from e2)
  refine ⟨i, j, rfl, q _ H (Same.refl _) (congrArg V.int ?_)⟩
  split <;> omega
theorem er_abs (h : Er K ta σ H i) : Er K (tCB rAbsC (tCons ta tNil)) σ H (iabs i) := er_cb1 h fun H v e1 Q q => by
  cases (show v = .int i from e1)
  exact ⟨i, rfl, q _ H (Same.refl _) rfl⟩
theorem erl_sorted {l : List Int} (h : Er K ta σ H l) : ErL K (tCB (rSortedI K) (tCons ta tNil)) σ H (srt l) := erl_cb1 h fun H v r Q q => by
  obtain ⟨a, vs, rfl, h2, h3⟩ := r
  refine ⟨a, l, rfl, by rw [← rl_ints h3]; exact h2.seq, fun ns' p hp hs hn => q p _ _ (same_new hn) hn upd_same ?_⟩
  rw [srt_eq hp hs]; exact rl_of_ints _
theorem er_all {l : List Bool} (h : Er K ta σ H l) : Er K (tCB (rAll K) (tCons ta tNil)) σ H (l.all id) := er_cb1 h fun H v r Q q => by
  obtain ⟨a, vs, rfl, h2, h3⟩ := r
  exact ⟨a, l, rfl, by rw [← rl_bools h3]; exact h2.seq, q _ H (Same.refl _) rfl⟩
theorem er_any {l : List Bool} (h : Er K ta σ H l) : Er K (tCB (rAny K) (tCons ta tNil)) σ H (l.any id) := er_cb1 h fun H v r Q q => by
  obtain ⟨a, vs, rfl, h2, h3⟩ := r
  exact ⟨a, l, rfl, by rw [← rl_bools h3]; exact h2.seq, q _ H (Same.refl _) rfl⟩
abbrev rListC (K : Fg) : List V → Hp → VK → Prop := fun xs H Q => ∃ p ys, xs = [.ref p] ∧ (SqL K H p ys ∨ SqT K H p ys) ∧ ∀ l, H l = none → Q (.ref l) (upd H l (.lst ys))
theorem erl_list {l : List α} (h : Er K ta σ H l) : ErL K (tCB (rListC K) (tCons ta tNil)) σ H l := erl_cb1 h fun H v r Q q => by
  obtain ⟨a, vs, rfl, h2, h3⟩ := r
  exact ⟨a, vs, rfl, .inl h2.seq, fun p hp => q p vs _ (same_new hp) hp upd_same (h3.mono (SF.new hp))⟩
theorem erl_listT {t : Tp α} (h : Er K ta σ H t) : ErL K (tCB (rListC K) (tCons ta tNil)) σ H t.l := erl_cb1 h fun H v r Q q => by
  obtain ⟨a, vs, rfl, h2, h3⟩ := r
  exact ⟨a, vs, rfl, .inr h2, fun p hp => q p vs _ (same_new hp) hp upd_same (h3.mono (SF.new hp))⟩
/-! ### isinstance -/
class Ty (α : Type) [Rp α] where
  n : α → String
  ty : ∀ {K : Fg} {H : Hp} {v : V} {x : α}, Rp.rep K H v x → TyX K H v (.type (n x))
instance : Ty Int := ⟨fun _ => "int", fun {K H v x} h => by cases (show v = .int x from h); exact .base (.int _)⟩
instance : Ty Nat := ⟨fun _ => "int", fun {K H v x} h => by cases (show v = .int (x : Int) from h); exact .base (.int _)⟩
instance : Ty Bool := ⟨fun _ => "bool", fun {K H v x} h => by cases (show v = .bl x from h); exact .base (.bl _)⟩
instance : Ty Str := ⟨fun _ => "str", fun {K H v x} h => by cases (show v = .str x from h); exact .base (.str _)⟩
instance : Ty Unit := ⟨fun _ => "NoneType", fun {K H v x} h => by cases (show v = .non from h); exact .base .non⟩
theorem ty_tup {a : Addr} {vs : List V} (h : SqT K H a vs) : TyX K H (.ref a) (.type "tuple") := by
  rcases h with (h | ⟨o, h⟩) | ⟨o, its, n, h, hc, _⟩
  · exact .base (.tup h)
  · exact .fTuple h
  · exact .kTuple h hc
instance {α : Type} [Rp α] : Ty (List α) := ⟨fun _ => "list", fun {K H v x} h => by obtain ⟨a, vs, rfl, ⟨o, h2⟩, _⟩ := h; exact .base (.frz h2)⟩
instance {α β : Type} [Rp α] [Rp β] : Ty (α × β) := ⟨fun _ => "tuple", fun {K H v x} h => by obtain ⟨a, v1, v2, rfl, h2, _⟩ := h; exact ty_tup h2⟩
instance {α β γ : Type} [Rp α] [Rp β] [Rp γ] : Ty (T3 α β γ) := ⟨fun _ => "tuple", fun {K H v x} h => by obtain ⟨a, v1, v2, v3, rfl, h2, _⟩ := h; exact ty_tup h2⟩
instance {α : Type} [Rp α] : Ty (Tp α) := ⟨fun _ => "tuple", fun {K H v x} h => by obtain ⟨a, vs, rfl, h2, _⟩ := h; exact ty_tup h2⟩
theorem er_isi [Ty α] {s : String} {b : Bool} (h : Er K ta σ H x) (hb : kitB (Ty.n x) s = some b) : Er K (tCB (rIsi K) (tCons ta (tCons (tC (.ty s)) tNil))) σ H b := fun H1 e Q q =>
  h H1 e _ fun v H2 e2 r2 => ⟨v, .ty s, .type (Ty.n x), .type s, b, rfl, .ty s, Ty.ty r2, kit_ty hb, q _ H2 e2 rfl⟩
/-! ### slices -/
theorem paired_cut {F : V → α → Prop} {vs : List V} {l : List α} (h : Paired F vs l) (n m : Nat) : Paired F ((vs.drop n).take m) ((l.drop n).take m) := paired_take m (paired_drop n h)
def Eo (K : Fg) (to : TO) (σ : L2.St) (H : Hp) (o : Option Int) : Prop := ∀ H1, Same H H1 → ∀ Q : Option Int → Hp → Prop, (∀ H2, Same H1 H2 → Q o H2) → to σ H1 Q
theorem eo_none : Eo K tNoPart σ H none := fun H1 _ _ q => q H1 (Same.refl _)
theorem eo_some (h : Er K te σ H i) : Eo K (tPart te) σ H (some i) := fun H1 e _ q => h H1 e _ fun v H2 e2 r => ⟨i, r, q H2 e2⟩
def cutL (l : List α) (lo hi : Option Int) : List α := (l.drop (HT.sIx l.length 0 lo)).take (HT.sIx l.length l.length hi - HT.sIx l.length 0 lo)
theorem erl_sl {tl th : TO} {l : List α} {lo hi : Option Int} (h : Er K te σ H l) (h1 : Eo K tl σ H lo) (h2 : Eo K th σ H hi) : ErL K (tSl (rSlL K) te tl th) σ H (cutL l lo hi) := fun H1 e Q q =>
  h H1 e _ fun v H2 e2 r2 => h1 H2 (e.trans e2) _ fun H3 e3 => h2 H3 ((e.trans e2).trans e3) _ fun H4 e4 => by
    obtain ⟨a, vs, rfl, f, p⟩ := r2
    have f4 : Fz H4 a vs := f.sf (SF.of (e3.trans e4))
    have p4 : RL K H4 vs l := p.mono (SF.of (e3.trans e4))
    refine ⟨a, vs, rfl, f4.seq, fun n hn => q n _ _ (((e2.trans e3).trans e4).trans (same_new hn)) (((e2.trans e3).trans e4).free hn) upd_same ?_⟩
    have hc : RL K H4 (cutV vs lo hi) (cutL l lo hi) := by
      unfold cutV cutL
      rw [paired_len p4]
      exact paired_cut p4 _ _
    exact hc.mono (SF.new hn)
theorem cutL_from (l : List α) (n : Nat) : cutL l (some (n : Int)) none = l.drop n := by
  unfold cutL
  rw [HT.sIx_nat, HT.sIx_none]
  by_cases h : n ≤ l.length
  · rw [Nat.min_eq_left h, List.take_of_length_le (by rw [List.length_drop]; omega)]
  · rw [Nat.min_eq_right (by omega), List.drop_of_length_le (Nat.le_refl _), List.drop_of_length_le (by omega)]; simp
theorem cutL_to (l : List α) (n : Nat) : cutL l none (some (n : Int)) = l.take n := by
  unfold cutL
  rw [HT.sIx_nat, HT.sIx_none, List.drop_zero, Nat.sub_zero]
  by_cases h : n ≤ l.length
  · rw [Nat.min_eq_left h]
  · rw [Nat.min_eq_right (by omega), List.take_of_length_le (Nat.le_refl _), List.take_of_length_le (by omega)]
/-! ### promises: n arguments that stand for data, an answer, all that was tracked kept -/
def ansV (K : Fg) (y : β) (H : Hp) (Q : VK) : Prop := ∀ u H', Same H H' → Rp.rep K H' u y → Q u H'
def ansL (K : Fg) (l : List β) (H : Hp) (Q : VK) : Prop := ∀ p us H', Same H H' → H p = none → H' p = some (.lst us) → RL K H' us l → Q (.ref p) H'
def sp1 (K : Fg) (pre : α → Prop) (f : α → β) : Sp := fun vs H Q _ => ∃ v x, vs = [v] ∧ Rp.rep K H v x ∧ pre x ∧ ansV K (f x) H Q
def sp2 (K : Fg) (pre : α → β → Prop) (f : α → β → γ) : Sp := fun vs H Q _ => ∃ v u x y, vs = [v, u] ∧ Rp.rep K H v x ∧ Rp.rep K H u y ∧ pre x y ∧ ansV K (f x y) H Q
def sp3 (K : Fg) (pre : α → β → γ → Prop) (f : α → β → γ → δ) : Sp := fun vs H Q _ => ∃ v u w x y z, vs = [v, u, w] ∧ Rp.rep K H v x ∧ Rp.rep K H u y ∧ Rp.rep K H w z ∧ pre x y z ∧ ansV K (f x y z) H Q
def sl1 (K : Fg) (pre : α → Prop) (f : α → List β) : Sp := fun vs H Q _ => ∃ v x, vs = [v] ∧ Rp.rep K H v x ∧ pre x ∧ ansL K (f x) H Q
def sl2 (K : Fg) (pre : α → β → Prop) (f : α → β → List γ) : Sp := fun vs H Q _ => ∃ v u x y, vs = [v, u] ∧ Rp.rep K H v x ∧ Rp.rep K H u y ∧ pre x y ∧ ansL K (f x y) H Q
def sl3 (K : Fg) (pre : α → β → γ → Prop) (f : α → β → γ → List δ) : Sp := fun vs H Q _ => ∃ v u w x y z, vs = [v, u, w] ∧ Rp.rep K H v x ∧ Rp.rep K H u y ∧ Rp.rep K H w z ∧ pre x y z ∧ ansL K (f x y z) H Q
theorem er_call1 {pre : α → Prop} {f : α → β} {E : XK} (h : Er K ta σ H x) (hp : pre x) : Er K (tCall (sp1 K pre f) [] E (tCons ta tNil)) σ H (f x) := fun H1 e Q q =>
  h H1 e _ fun v H2 e2 r2 => ⟨v, x, rfl, r2, hp, fun u H3 e3 r3 => q u H3 (e2.trans e3) r3⟩
theorem er_call2 {pre : α → β → Prop} {f : α → β → γ} {E : XK} (h : Er K ta σ H x) (h' : Er K tb σ H y) (hp : pre x y) : Er K (tCall (sp2 K pre f) [] E (tCons ta (tCons tb tNil))) σ H (f x y) := fun H1 e Q q =>
  h H1 e _ fun v H2 e2 r2 => h' H2 (e.trans e2) _ fun u H3 e3 r3 => ⟨v, u, x, y, rfl, Rp.mono (SF.of e3) r2, r3, hp, fun u H4 e4 r4 => q u H4 ((e2.trans e3).trans e4) r4⟩
theorem er_call3 {pre : α → β → γ → Prop} {f : α → β → γ → δ} {E : XK} (h : Er K ta σ H x) (h' : Er K tb σ H y) (h'' : Er K tc σ H z) (hp : pre x y z) : Er K (tCall (sp3 K pre f) [] E (tCons ta (tCons tb (tCons tc tNil)))) σ H (f x y z) := fun H1 e Q q =>
  h H1 e _ fun v H2 e2 r2 => h' H2 (e.trans e2) _ fun u H3 e3 r3 => h'' H3 ((e.trans e2).trans e3) _ fun w H4 e4 r4 =>
    ⟨v, u, w, x, y, z, rfl, Rp.mono (SF.of (e3.trans e4)) r2, Rp.mono (SF.of e4) r3, r4, hp, fun u H5 e5 r5 => q u H5 (((e2.trans e3).trans e4).trans e5) r5⟩
theorem erl_call1 {pre : α → Prop} {f : α → List β} {E : XK} (h : Er K ta σ H x) (hp : pre x) : ErL K (tCall (sl1 K pre f) [] E (tCons ta tNil)) σ H (f x) := fun H1 e Q q =>
  h H1 e _ fun v H2 e2 r2 => ⟨v, x, rfl, r2, hp, fun p us H3 e3 hn h3 r3 => q p us H3 (e2.trans e3) (e2.free hn) h3 r3⟩
theorem erl_call2 {pre : α → β → Prop} {f : α → β → List γ} {E : XK} (h : Er K ta σ H x) (h' : Er K tb σ H y) (hp : pre x y) : ErL K (tCall (sl2 K pre f) [] E (tCons ta (tCons tb tNil))) σ H (f x y) := fun H1 e Q q =>
  h H1 e _ fun v H2 e2 r2 => h' H2 (e.trans e2) _ fun u H3 e3 r3 => ⟨v, u, x, y, rfl, Rp.mono (SF.of e3) r2, r3, hp, fun p us H4 e4 hn h4 r4 => q p us H4 ((e2.trans e3).trans e4) ((e2.trans e3).free hn) h4 r4⟩
theorem erl_call3 {pre : α → β → γ → Prop} {f : α → β → γ → List δ} {E : XK} (h : Er K ta σ H x) (h' : Er K tb σ H y) (h'' : Er K tc σ H z) (hp : pre x y z) : ErL K (tCall (sl3 K pre f) [] E (tCons ta (tCons tb (tCons tc tNil)))) σ H (f x y z) := fun H1 e Q q =>
  h H1 e _ fun v H2 e2 r2 => h' H2 (e.trans e2) _ fun u H3 e3 r3 => h'' H3 ((e.trans e2).trans e3) _ fun w H4 e4 r4 =>
    ⟨v, u, w, x, y, z, rfl, Rp.mono (SF.of (e3.trans e4)) r2, Rp.mono (SF.of e4) r3, r4, hp, fun p us H5 e5 hn h5 r5 => q p us H5 (((e2.trans e3).trans e4).trans e5) (((e2.trans e3).trans e4).free hn) h5 r5⟩
/-! ### statements -/
variable {D : Ends} {tu tw tz : TS} {g : TG}
theorem s_set {k : Nat} (h : Er K te σ H x) (q : ∀ v H1, Same H H1 → Rp.rep K H1 v x → D.nx (σ.set k (some v)) H1) : tAsg te (gName k) D σ H := h H (Same.refl _) _ q
theorem s_setL {k : Nat} {l : List α} (h : ErL K te σ H l) (q : ∀ p vs H1, Same H H1 → H p = none → H1 p = some (.lst vs) → RL K H1 vs l → D.nx (σ.set k (some (.ref p))) H1) : tAsg te (gName k) D σ H := h H (Same.refl _) _ q
theorem q_set {k : Nat} (h : Er K te σ H x) (q : ∀ v H1, Same H H1 → Rp.rep K H1 v x → tz D (σ.set k (some v)) H1) : tSeq (tAsg te (gName k)) tz D σ H := h H (Same.refl _) _ q
theorem q_setL {k : Nat} {l : List α} (h : ErL K te σ H l) (q : ∀ p vs H1, Same H H1 → H p = none → H1 p = some (.lst vs) → RL K H1 vs l → tz D (σ.set k (some (.ref p))) H1) : tSeq (tAsg te (gName k)) tz D σ H := h H (Same.refl _) _ q
theorem s_drop (h : Er K te σ H x) (q : ∀ H1, Same H H1 → D.nx σ H1) : tDrop te D σ H := h H (Same.refl _) _ fun _ H1 e _ => q H1 e
theorem q_drop (h : Er K te σ H x) (q : ∀ H1, Same H H1 → tz D σ H1) : tSeq (tDrop te) tz D σ H := h H (Same.refl _) _ fun _ H1 e _ => q H1 e
theorem s_par {k m : Nat} (h : Er K ta σ H x) (h' : Er K tb σ H y) (q : ∀ v u H1, Same H H1 → Rp.rep K H1 v x → Rp.rep K H1 u y → D.nx ((σ.set k (some v)).set m (some u)) H1) : tPar k m (tCons ta (tCons tb tNil)) D σ H :=
  h H (Same.refl _) _ fun v H1 e r => h' H1 e _ fun u H2 e2 r2 => ⟨v, u, rfl, q v u H2 (e.trans e2) (Rp.mono (SF.of e2) r) r2⟩
theorem q_par {k m : Nat} (h : Er K ta σ H x) (h' : Er K tb σ H y) (q : ∀ v u H1, Same H H1 → Rp.rep K H1 v x → Rp.rep K H1 u y → tz D ((σ.set k (some v)).set m (some u)) H1) : tSeq (tPar k m (tCons ta (tCons tb tNil))) tz D σ H :=
  s_par (D := { D with nx := tz D }) h h' q
theorem tg_pair {p : α × β} {k m : Nat} (h : Rp.rep K H v p) : ∃ v1 v2, Rp.rep K H v1 p.1 ∧ Rp.rep K H v2 p.2 ∧ ∀ Q : L2.St → Hp → Prop, Q ((σ.set k (some v1)).set m (some v2)) H → gTup K 2 (gCons (gName k) (gCons (gName m) gNil)) v σ H Q := by
  obtain ⟨a, v1, v2, rfl, h2, h3, h4⟩ := h
  exact ⟨v1, v2, h3, h4, fun Q q => ⟨a, _, rfl, h2, rfl, v1, _, rfl, v2, _, rfl, rfl, q⟩⟩
theorem tg_three {p : T3 α β γ} {k m n : Nat} (h : Rp.rep K H v p) : ∃ v1 v2 v3, Rp.rep K H v1 p.a ∧ Rp.rep K H v2 p.b ∧ Rp.rep K H v3 p.c ∧ ∀ Q : L2.St → Hp → Prop, Q (((σ.set k (some v1)).set m (some v2)).set n (some v3)) H → gTup K 3 (gCons (gName k) (gCons (gName m) (gCons (gName n) gNil))) v σ H Q := by
  obtain ⟨a, v1, v2, v3, rfl, h2, h3, h4, h5⟩ := h
  exact ⟨v1, v2, v3, h3, h4, h5, fun Q q => ⟨a, _, rfl, h2, rfl, v1, _, rfl, v2, _, rfl, v3, _, rfl, rfl, q⟩⟩
theorem s_unp {p : α × β} {k m : Nat} (h : Er K te σ H p) (q : ∀ v u H1, Same H H1 → Rp.rep K H1 v p.1 → Rp.rep K H1 u p.2 → D.nx ((σ.set k (some v)).set m (some u)) H1) : tAsg te (gTup K 2 (gCons (gName k) (gCons (gName m) gNil))) D σ H :=
  h H (Same.refl _) _ fun v H1 e r => by
    obtain ⟨v1, v2, r1, r2, f⟩ := tg_pair (σ := σ) (k := k) (m := m) r
    exact f _ (q v1 v2 H1 e r1 r2)
theorem q_unp {p : α × β} {k m : Nat} (h : Er K te σ H p) (q : ∀ v u H1, Same H H1 → Rp.rep K H1 v p.1 → Rp.rep K H1 u p.2 → tz D ((σ.set k (some v)).set m (some u)) H1) : tSeq (tAsg te (gTup K 2 (gCons (gName k) (gCons (gName m) gNil)))) tz D σ H :=
  s_unp (D := { D with nx := tz D }) h q
theorem s_ret (h : Er K te σ H x) (q : ∀ v H1, Same H H1 → Rp.rep K H1 v x → D.rt v H1) : tRet te D σ H := h H (Same.refl _) _ q
theorem s_retL {l : List α} (h : ErL K te σ H l) (q : ∀ p vs H1, Same H H1 → H p = none → H1 p = some (.lst vs) → RL K H1 vs l → D.rt (.ref p) H1) : tRet te D σ H := h H (Same.refl _) _ q
theorem s_if (h : Et K tt σ H b) (h1 : b = true → ∀ H1, Same H H1 → tu D σ H1) (h2 : b = false → ∀ H1, Same H H1 → tw D σ H1) : tIfS tt tu tw D σ H := h H (Same.refl _) _ fun H1 e => by
  cases b with
  | true => exact iteT (h1 rfl H1 e)
  | false => exact iteF (h2 rfl H1 e)
theorem q_if (h : Et K tt σ H b) (h1 : b = true → ∀ H1, Same H H1 → tu { D with nx := tz D } σ H1) (h2 : b = false → ∀ H1, Same H H1 → tw { D with nx := tz D } σ H1) : tSeq (tIfS tt tu tw) tz D σ H := s_if (D := { D with nx := tz D }) h h1 h2
theorem q_when (h : Et K tt σ H b) (h1 : b = true → ∀ H1, Same H H1 → tu { D with nx := tz D } σ H1) (h2 : b = false → ∀ H1, Same H H1 → tz D σ H1) : tSeq (tIfS tt tu tNext) tz D σ H := s_if (D := { D with nx := tz D }) h h1 h2
/-- the test is known not to hold -/
theorem q_not (h : Et K tt σ H b) (hb : b = false) (q : ∀ H1, Same H H1 → tz D σ H1) : tSeq (tIfS tt tu tNext) tz D σ H := q_when h (fun e => by rw [hb] at e; cases e) fun _ => q
theorem s_not (h : Et K tt σ H b) (hb : b = false) (q : ∀ H1, Same H H1 → D.nx σ H1) : tIfS tt tu tNext D σ H := s_if h (fun e => by rw [hb] at e; cases e) fun _ => q
/-! lists not locked yet -/
def Un (K : Fg) (H : Hp) (p : Addr) (l : List α) : Prop := ∃ vs, H p = some (.lst vs) ∧ RL K H vs l
theorem Un.of {p : Addr} {vs : List V} {l : List α} (h : H p = some (.lst vs)) (r : RL K H vs l) : Un K H p l := ⟨vs, h, r⟩
theorem Un.mono {p : Addr} {l : List α} (e : Same H H') (h : Un K H p l) : Un K H' p l := by
  obtain ⟨vs, h, r⟩ := h; exact ⟨vs, e _ _ h, r.mono (SF.of e)⟩
/-- from H to H' the list at p alone has changed, new things are there -/
structure Mu (p : Addr) (H H' : Hp) : Prop where
  sf : SF H H'
  ne : ∀ q o, q ≠ p → H q = some o → H' q = some o
theorem Mu.base {p : Addr} {H0 : Hp} (m : Mu p H H') (e : Same H0 H) (h : H0 p = none) : Same H0 H' := fun a o ha => m.ne a o (ne_of_none ha h) (e a o ha)
theorem Mu.trans {p : Addr} {H2 : Hp} (m : Mu p H H') (n : Mu p H' H2) : Mu p H H2 := ⟨m.sf.trans n.sf, fun q o h e => n.ne q o h (m.ne q o h e)⟩
theorem Mu.of {p : Addr} (e : Same H H') : Mu p H H' := ⟨SF.of e, fun q o _ h => e q o h⟩
theorem mu_upd {p : Addr} {vs : List V} {o : HO} (e : Same H H1) (h : H p = some (.lst vs)) : Mu p H (upd H1 p o) := ⟨(SF.of e).trans (SF.lst (e _ _ h)), fun q u n hq => by rw [upd_ne n]; exact e _ _ hq⟩
theorem Un.ne {p q : Addr} {l : List α} (m : Mu p H H') (n : q ≠ p) (h : Un K H q l) : Un K H' q l := by
  obtain ⟨vs, h, r⟩ := h; exact ⟨vs, m.ne _ _ n h, r.mono m.sf⟩
theorem s_app {k : Nat} {p : Addr} {l : List α} (hσ : σ[k]? = some (some (.ref p))) (hu : Un K H p l) (h : Er K te σ H x) (hz : l.length < 1000000) (q : ∀ H2, Mu p H H2 → Un K H2 p (l ++ [x]) → D.nx σ H2) :
    tDrop (tBM K "list" rAppend (tVar k) (tCons te tNil)) D σ H := by
  obtain ⟨vs, hp, r⟩ := hu
  refine ⟨.ref p, hσ, Or.inl ⟨rfl, vs, sq_lst hp⟩, ?_⟩
  refine h H (Same.refl _) _ fun v H2 e2 r2 => ⟨p, vs, v, rfl, rfl, e2 _ _ hp, ?_, q _ (mu_upd e2 hp) ⟨_, upd_same, RL.mono (SF.lst (e2 _ _ hp)) (paired_app (r.mono (SF.of e2)) (.cons r2 .nil))⟩⟩
  rw [paired_len r]; exact Nat.lt_of_lt_of_le hz (by decide)
theorem q_app {k : Nat} {p : Addr} {l : List α} (hσ : σ[k]? = some (some (.ref p))) (hu : Un K H p l) (h : Er K te σ H x) (hz : l.length < 1000000) (q : ∀ H2, Mu p H H2 → Un K H2 p (l ++ [x]) → tz D σ H2) :
    tSeq (tDrop (tBM K "list" rAppend (tVar k) (tCons te tNil))) tz D σ H := s_app (D := { D with nx := tz D }) hσ hu h hz q
theorem s_setI {k : Nat} {p : Addr} {l : List α} {n : Nat} (hσ : σ[k]? = some (some (.ref p))) (hu : Un K H p l) (h : Er K te σ H x) (hi : Er K tb σ H n) (hn : n < l.length) (q : ∀ H2, Mu p H H2 → Un K H2 p (l.set n x) → D.nx σ H2) :
    tAsg te (gSub (tVar k) tb rSetL) D σ H := by
  obtain ⟨vs, hp, r⟩ := hu
  refine h H (Same.refl _) _ fun v H2 e2 r2 => ⟨.ref p, hσ, hi H2 e2 _ fun u H3 e3 r3 => ?_⟩
  cases (show u = .int (n : Int) from r3)
  refine ⟨p, vs, (n : Int), n, rfl, rfl, (e2.trans e3) _ _ hp, ?_, q _ (mu_upd (e2.trans e3) hp) ⟨_, upd_same, RL.mono (SF.lst ((e2.trans e3) _ _ hp)) (paired_set (Rp.mono (SF.of e3) r2) n (r.mono (SF.of (e2.trans e3))))⟩⟩
  rw [paired_len r]
  unfold ixN
  rw [if_pos (by omega), if_pos (by omega)]; simp
theorem q_setI {k : Nat} {p : Addr} {l : List α} {n : Nat} (hσ : σ[k]? = some (some (.ref p))) (hu : Un K H p l) (h : Er K te σ H x) (hi : Er K tb σ H n) (hn : n < l.length) (q : ∀ H2, Mu p H H2 → Un K H2 p (l.set n x) → tz D σ H2) :
    tSeq (tAsg te (gSub (tVar k) tb rSetL)) tz D σ H := s_setI (D := { D with nx := tz D }) hσ hu h hi hn q
theorem er_ixU {k : Nat} {p : Addr} {l : List α} {n : Nat} {x : α} (hσ : σ[k]? = some (some (.ref p))) (hu : Un K H p l) (hi : Er K tb σ H (n : Int)) (hx : l[n]? = some x) : Er K (tOp (rIxL K) (tVar k) tb) σ H x := fun H1 e Q q => by
  obtain ⟨vs, hp, r⟩ := hu
  refine ⟨.ref p, hσ, hi H1 e _ fun u H2 e2 r2 => ?_⟩
  cases (show u = .int (n : Int) from r2)
  obtain ⟨w, hw, rw'⟩ := paired_get r hx
  exact ⟨p, vs, n, w, rfl, rfl, sq_lst ((e.trans e2) _ _ hp), atI_nat hw, q w H2 e2 (Rp.mono (SF.of (e.trans e2)) rw')⟩
theorem er_lenU {k : Nat} {p : Addr} {l : List α} (hσ : σ[k]? = some (some (.ref p))) (hu : Un K H p l) : Er K (tCB (rLenC K) (tCons (tVar k) tNil)) σ H l.length := fun H1 e Q q => by
  obtain ⟨vs, hp, r⟩ := hu
  exact ⟨.ref p, hσ, p, vs, rfl, .inl (sq_lst (e _ _ hp)), by rw [paired_len r]; exact q _ H1 (Same.refl _) rfl⟩
/-- the list in a slot is locked from here on -/
def tFzS (k : Nat) (t : TS) : TS := fun D σ H => ∃ p vs, σ[k]? = some (some (.ref p)) ∧ H p = some (.lst vs) ∧ ∀ od, t D σ (upd H p (.frz od (.lst vs)))
theorem pss_frz {X : Cx} {rest : List Stmt} {t : TS} (k : Nat) (h : PSs X rest t) : PSs X rest (tFzS k t) := ⟨fun pins s σ H D I q => by
  obtain ⟨p, vs, hs, hp, q⟩ := q
  obtain ⟨od, I2⟩ := I.lock hp trivial
  exact h.run pins s σ _ D I2 (q od)⟩
theorem q_frz {k : Nat} {p : Addr} {l : List α} (hσ : σ[k]? = some (some (.ref p))) (hu : Un K H p l) (q : ∀ H2, Mu p H H2 → Rp.rep K H2 (.ref p) l → tz D σ H2) : tFzS k tz D σ H := by
  obtain ⟨vs, hp, r⟩ := hu
  exact ⟨p, vs, hσ, hp, fun od => q _ (mu_upd (Same.refl _) hp) ⟨p, vs, rfl, ⟨od, upd_same⟩, r.mono (SF.lst hp)⟩⟩
theorem s_aug {k : Nat} {f : Int → Int → Int} (hσ : σ[k]? = some (some (.int i))) (h : Er K te σ H j) (q : ∀ H1, Same H H1 → D.nx (σ.set k (some (.int (f i j)))) H1) : tAug k te (ipI f) D σ H :=
  ⟨.int i, hσ, h H (Same.refl _) _ fun v H1 e r => ⟨i, j, rfl, r, q H1 e⟩⟩
theorem q_aug {k : Nat} {f : Int → Int → Int} (hσ : σ[k]? = some (some (.int i))) (h : Er K te σ H j) (q : ∀ H1, Same H H1 → tz D (σ.set k (some (.int (f i j)))) H1) : tSeq (tAug k te (ipI f)) tz D σ H := s_aug (D := { D with nx := tz D }) hσ h q
end
end BL

set_option Elab.async false
set_option linter.all false
set_option maxRecDepth 100000
set_option maxHeartbeats 2000000
namespace BL
open PySem PySem.Spec PyProof.Rows L2
/-! ### what is walked -/
def Src (K : Fg) (wi : TI) (σ : L2.St) (H : Hp) {α : Type} [Rp α] (l : List α) : Prop := ∀ H1, Same H H1 → ∀ RR : It → Hp → Prop,
  (∀ (J : It) (H2 : Hp) (G : Hp → Prop) (Y : Nat → Hp → V → Hp → Prop), Same H1 H2 → Walk J l.length G Y → (∀ H', SF H2 H' → G H') →
    (∀ i x, l[i]? = some x → ∀ H', SF H2 H' → ∀ v H'', Y i H' v H'' → Same H' H'' ∧ Rp.rep K H'' v x) → RR J H2) → wi σ H1 RR
def enumL {α : Type} (l : List α) : List (Nat × α) := (List.range l.length).zip l
def rgI (lo : Int) (n : Nat) : List Int := (List.range n).map fun k : Nat => lo + (k : Int)
section
variable {K : Fg} {σ : L2.St} {H H' H1 : Hp} {ta tb tc td te : TE} {tt uu : TT} {α β γ δ : Type} [Rp α] [Rp β] [Rp γ] [Rp δ] {x : α} {y : β} {z : γ} {v u : V} {i j : Int} {b c : Bool}
theorem src_list {l : List α} (h : Er K te σ H l) : Src K (iList K te) σ H l := fun H1 e RR k => h H1 e _ fun v H2 e2 r => by
  obtain ⟨a, vs, rfl, f, p⟩ := r
  refine ⟨a, rfl, ⟨vs, f.seq⟩, k _ H2 (fun H => SqL K H a vs) (YAt vs) e2 (by rw [← paired_len p]; exact walk_list) (fun H' s => (f.sf s).seq) fun i x hx H' s v H'' y => ?_⟩
  obtain ⟨rfl, hv⟩ := y
  obtain ⟨w, hw, r⟩ := paired_get p hx
  rw [hv] at hw; cases hw
  exact ⟨Same.refl _, Rp.mono s r⟩
theorem src_tup {t : Tp α} (h : Er K te σ H t) : Src K (iTup K te) σ H t.l := fun H1 e RR k => h H1 e _ fun v H2 e2 r => by
  obtain ⟨a, vs, rfl, f, p⟩ := r
  refine ⟨a, rfl, ⟨vs, f⟩, k _ H2 (fun H => SqT K H a vs) (YAt vs) e2 (by rw [← paired_len p]; exact walk_tup) (fun H' s => sqt_sf s f) fun i x hx H' s v H'' y => ?_⟩
  obtain ⟨rfl, hv⟩ := y
  obtain ⟨w, hw, r⟩ := paired_get p hx
  rw [hv] at hw; cases hw
  exact ⟨Same.refl _, Rp.mono s r⟩
theorem src_two {p : α × α} (h : Er K te σ H p) : Src K (iTup K te) σ H [p.1, p.2] := src_tup (t := ⟨[p.1, p.2]⟩) fun H1 e Q q => h H1 e Q fun v H2 e2 r => q v H2 e2 (by
  obtain ⟨a, v1, v2, rfl, h2, h3, h4⟩ := r
  exact ⟨a, _, rfl, h2, .cons h3 (.cons h4 .nil)⟩)
theorem src_range1 {n : Nat} (h : Er K te σ H n) (hz : n ≤ 1000000) : Src K (iRng1 (tCons te tNil)) σ H (List.range n) := fun H1 e RR k => h H1 e _ fun v H2 e2 r => by
  cases (show v = .int (n : Int) from r)
  refine ⟨(n : Int), rfl, by omega, by omega, k _ H2 (fun _ => True) (YFn fun i => .int (0 + i)) e2 ?_ (fun _ _ => trivial) fun i x hx H' s v H'' y => ?_⟩
  · rw [List.length_range, Int.toNat_natCast]; exact walk_range
  · obtain ⟨rfl, rfl⟩ := y
    have hi : i < n := by
      have := (List.getElem?_eq_some_iff.mp hx).1
      rwa [List.length_range] at this
    rw [List.getElem?_range hi] at hx
    cases hx
    exact ⟨Same.refl _, by show V.int _ = V.int _; rw [Int.zero_add]⟩
theorem src_range2 {lo hi : Int} (h : Er K ta σ H lo) (h' : Er K tb σ H hi) (h1 : -1000000 ≤ lo ∧ lo ≤ 1000000) (h2 : -1000000 ≤ hi ∧ hi ≤ 1000000) : Src K (iRng2 (tCons ta (tCons tb tNil))) σ H (rgI lo (hi - lo).toNat) := fun H1 e RR k =>
  h H1 e _ fun v H2 e2 r2 => h' H2 (e.trans e2) _ fun u H3 e3 r3 => by
  cases (show v = .int lo from r2)
  cases (show u = .int hi from r3)
  refine ⟨lo, hi, rfl, ⟨by omega, by omega, by omega, by omega⟩, k _ H3 (fun _ => True) (YFn fun i => .int (lo + i)) (e2.trans e3) ?_ (fun _ _ => trivial) fun i x hx H' s v H'' y => ?_⟩
  · unfold rgI; rw [List.length_map, List.length_range]; exact walk_range
  · obtain ⟨rfl, rfl⟩ := y
    have hi : i < (hi - lo).toNat := by
      have := (List.getElem?_eq_some_iff.mp hx).1
      unfold rgI at this
      rwa [List.length_map, List.length_range] at this
    unfold rgI at hx
    rw [List.getElem?_map, List.getElem?_range hi] at hx
    cases hx
    exact ⟨Same.refl _, rfl⟩
theorem enumL_get {l : List α} {i : Nat} {p : Nat × α} (h : (enumL l)[i]? = some p) : l[i]? = some p.2 ∧ p.1 = i := by
  unfold enumL at h
  rw [List.getElem?_zip_eq_some] at h
  obtain ⟨h1, h2⟩ := h
  have hi : i < l.length := (List.getElem?_eq_some_iff.mp h2).1
  rw [List.getElem?_range hi] at h1
  exact ⟨h2, (Option.some.inj h1).symm⟩
theorem enumL_len (l : List α) : (enumL l).length = l.length := by unfold enumL; rw [List.length_zip, List.length_range, Nat.min_self]
theorem src_enum {l : List α} (h : Er K te σ H l) : Src K (iEnum K (tCons te tNil)) σ H (enumL l) := fun H1 e RR k => h H1 e _ fun v H2 e2 r => by
  obtain ⟨a, vs, rfl, f, p⟩ := r
  refine ⟨a, vs, rfl, f.seq, k _ H2 (fun H => SqL K H a vs) _ e2 (by rw [enumL_len, ← paired_len p]; exact walk_enum) (fun H' s => (f.sf s).seq) fun i x hx H' s v H'' y => ?_⟩
  obtain ⟨T, w1, w2, rfl, hT, rfl, h1, h2⟩ := y
  obtain ⟨g1, g2⟩ := enumL_get hx
  obtain ⟨w, hw, r⟩ := paired_get p g1
  have h2' : vs[i]? = some w2 := h2
  rw [h2'] at hw; cases hw
  refine ⟨same_new hT, T, w1, w2, rfl, sq_tup upd_same, ?_, Rp.mono (s.trans (SF.new hT)) r⟩
  cases h1
  show V.int _ = V.int _
  rw [g2]
theorem src_zip {l : List α} {m : List β} (h : Er K ta σ H l) (h' : Er K tb σ H m) : Src K (iZip K (tCons ta (tCons tb tNil))) σ H (l.zip m) := fun H1 e RR k => h H1 e _ fun v H2 e2 r2 => h' H2 (e.trans e2) _ fun u H3 e3 r3 => by
  obtain ⟨a, vs, rfl, f, p⟩ := r2
  obtain ⟨b, us, rfl, f', p'⟩ := r3
  have f3 := f.sf (SF.of e3)
  have p3 := p.mono (SF.of e3)
  refine ⟨a, b, vs, us, rfl, f3.seq, f'.seq, k _ H3 (fun H => SqL K H a vs ∧ SqL K H b us) _ (e2.trans e3) (walk_zip (by rw [List.length_zip, paired_len p, paired_len p'])) (fun H' s => ⟨(f3.sf s).seq, (f'.sf s).seq⟩) fun i x hx H' s v H'' y => ?_⟩
  obtain ⟨T, w1, w2, rfl, hT, rfl, h1, h2⟩ := y
  rw [List.getElem?_zip_eq_some] at hx
  obtain ⟨w, hw, r⟩ := paired_get p3 hx.1
  obtain ⟨w', hw', r'⟩ := paired_get p' hx.2
  have h1' : vs[i]? = some w1 := h1
  have h2' : us[i]? = some w2 := h2
  rw [h1'] at hw; cases hw
  rw [h2'] at hw'; cases hw'
  exact ⟨same_new hT, T, w1, w2, rfl, sq_tup upd_same, Rp.mono (s.trans (SF.new hT)) r, Rp.mono (s.trans (SF.new hT)) r'⟩
/-! ### for -/
variable {D : Ends} {tu tw tz : TS} {g : TG} {wi : TI}
theorem s_for {l : List α} (hs : Src K wi σ H l) (Pv : Hp → Nat → L2.St → Hp → Prop) (h0 : ∀ H1, Same H H1 → Pv H1 0 σ H1) (hf : ∀ H1 k σ' H', Pv H1 k σ' H' → SF H1 H')
    (turn : ∀ H1 k x σ' H' v H'', Same H H1 → l[k]? = some x → Pv H1 k σ' H' → Same H' H'' → Rp.rep K H'' v x → g v σ' H'' fun σ2 H2 => tu { D with nx := Pv H1 (k + 1), ct := Pv H1 (k + 1), bk := D.nx } σ2 H2)
    (hd : ∀ H1 σ' H', Same H H1 → Pv H1 l.length σ' H' → D.nx σ' H') : tFor wi g tu D σ H := hs H (Same.refl _) _ fun J H2 G Y e2 w hG hY =>
  for_it w (Pv H2) (h0 H2 e2) (fun k σ' H' _ p => hG H' (hf _ _ _ _ p)) (fun k v σ' H' H'' hk p y => by
    obtain ⟨x, hx⟩ : ∃ x, l[k]? = some x := ⟨l[k], List.getElem?_eq_getElem hk⟩
    obtain ⟨s, r⟩ := hY k x hx H' (hf _ _ _ _ p) v H'' y
    exact turn H2 k x σ' H' v H'' e2 hx p s r) fun σ' H' p => hd H2 σ' H' e2 p
theorem q_for {l : List α} (hs : Src K wi σ H l) (Pv : Hp → Nat → L2.St → Hp → Prop) (h0 : ∀ H1, Same H H1 → Pv H1 0 σ H1) (hf : ∀ H1 k σ' H', Pv H1 k σ' H' → SF H1 H')
    (turn : ∀ H1 k x σ' H' v H'', Same H H1 → l[k]? = some x → Pv H1 k σ' H' → Same H' H'' → Rp.rep K H'' v x → g v σ' H'' fun σ2 H2 => tu { D with nx := Pv H1 (k + 1), ct := Pv H1 (k + 1), bk := tz D } σ2 H2)
    (hd : ∀ H1 σ' H', Same H H1 → Pv H1 l.length σ' H' → tz D σ' H') : tSeq (tFor wi g tu) tz D σ H := s_for (D := { D with nx := tz D }) hs Pv h0 hf turn hd
theorem s_while (Pv : L2.St → Hp → Prop) (μ : L2.St → Hp → Nat) (h0 : Pv σ H)
    (hs : ∀ σ' H', Pv σ' H' → ∃ b, Et K tt σ' H' b ∧ (b = true → ∀ H1, Same H' H1 → tu { D with nx := fun σ2 H2 => Pv σ2 H2 ∧ μ σ2 H2 < μ σ' H', ct := fun σ2 H2 => Pv σ2 H2 ∧ μ σ2 H2 < μ σ' H', bk := D.nx } σ' H1) ∧ (b = false → ∀ H1, Same H' H1 → D.nx σ' H1)) : tWhile tt tu D σ H := by
  refine ⟨fun m σ H => m = μ σ H ∧ Pv σ H, ⟨_, rfl, h0⟩, ?_⟩
  rintro m σ' H' ⟨rfl, p⟩
  obtain ⟨b, hb, h1, h2⟩ := hs σ' H' p
  refine hb H' (Same.refl _) _ fun H2 e => ?_
  cases b with
  | true => exact ⟨_, fun σ2 H2 ⟨p', l⟩ => ⟨_, l, rfl, p'⟩, h1 rfl H2 e⟩
  | false => exact h2 rfl H2 e
theorem q_while (Pv : L2.St → Hp → Prop) (μ : L2.St → Hp → Nat) (h0 : Pv σ H)
    (hs : ∀ σ' H', Pv σ' H' → ∃ b, Et K tt σ' H' b ∧ (b = true → ∀ H1, Same H' H1 → tu { D with nx := fun σ2 H2 => Pv σ2 H2 ∧ μ σ2 H2 < μ σ' H', ct := fun σ2 H2 => Pv σ2 H2 ∧ μ σ2 H2 < μ σ' H', bk := tz D } σ' H1) ∧ (b = false → ∀ H1, Same H' H1 → tz D σ' H1)) : tSeq (tWhile tt tu) tz D σ H :=
  s_while (D := { D with nx := tz D }) Pv μ h0 hs
/-! ### comprehensions -/
def mapIf (c : α → Bool) (f : α → β) (l : List α) : List β := (l.filter c).map f
theorem erl_lc {l : List α} {vs : List Nat} {c : α → Bool} {f : α → β} (hs : Src K wi σ H l) (hz : l.length ≤ 1000000)
    (turn : ∀ x, x ∈ l → ∀ v H1, Same H H1 → Rp.rep K H1 v x → ∃ σ2, (∀ Q : L2.St → Hp → Prop, Q σ2 H1 → g v (wipe σ vs) H1 Q) ∧ wipe σ2 vs = wipe σ vs ∧ Et K tt σ2 H1 (c x) ∧ (c x = true → Er K te σ2 H1 (f x))) :
    ErL K (tLc wi g tt te vs) σ H (mapIf c f l) := fun H1 e Q q => hs H1 e _ fun J H2 G Y e2 w hG hY D hD => by
  refine lc_it w (fun k H' => Same H2 H' ∧ ∃ us, H' D = some (.lst us) ∧ RL K H' us (mapIf c f (l.take k))) ⟨same_new hD, [], upd_same, .nil⟩ (fun k H' _ p => hG H' (SF.of p.1)) (fun k v H' H'' hk p y => ?_) fun H' p => ?_
  · obtain ⟨p1, us, p2, p3⟩ := p
    have hx : l[k]? = some l[k] := List.getElem?_eq_getElem hk
    obtain ⟨s, r⟩ := hY k _ hx H' (SF.of p1) v H'' y
    obtain ⟨σ2, hg, hw, ht, he⟩ := turn l[k] (List.mem_of_getElem? hx) v H'' ((e.trans e2).trans (p1.trans s)) r
    refine hg _ ⟨hw, ht H'' (Same.refl _) _ fun H3 e3 => ?_⟩
    have htake : l.take (k + 1) = l.take k ++ [l[k]] := by rw [List.take_add_one, hx]; rfl
    cases hc : c l[k] with
    | true =>
      refine iteT (he hc H3 e3 _ fun w' H4 e4 r4 => ?_)
      have hm : mapIf c f (l.take (k + 1)) = mapIf c f (l.take k) ++ [f l[k]] := by
        unfold mapIf
        rw [htake, List.filter_append, List.map_append]; simp [hc]
      refine ⟨us, (s.trans (e3.trans e4)) _ _ p2, ?_, same_mut (p1.trans (s.trans (e3.trans e4))) hD, us ++ [w'], upd_same, ?_⟩
      · rw [paired_len p3]
        have : (mapIf c f (l.take k)).length ≤ l.length := by
          unfold mapIf
          rw [List.length_map]
          exact Nat.le_trans (List.length_filter_le _ _) (by rw [List.length_take]; exact Nat.min_le_right _ _)
        exact Nat.lt_of_le_of_lt (Nat.le_trans this hz) (by decide)
      · rw [hm]
        exact RL.mono (SF.lst ((s.trans (e3.trans e4)) _ _ p2)) (paired_app (p3.mono (SF.of (s.trans (e3.trans e4)))) (.cons r4 .nil))
    | false =>
      refine iteF ?_
      have hm : mapIf c f (l.take (k + 1)) = mapIf c f (l.take k) := by
        unfold mapIf
        rw [htake, List.filter_append, List.map_append]; simp [hc]
      exact ⟨p1.trans (s.trans e3), us, (s.trans e3) _ _ p2, by rw [hm]; exact p3.mono (SF.of (s.trans e3))⟩
  · obtain ⟨p1, us, p2, p3⟩ := p
    rw [List.take_length] at p3
    exact q D us H' (e2.trans p1) (e2.free hD) p2 p3
/-- for x in ..: one name -/
theorem erl_lc1 {l : List α} {vs : List Nat} {k : Nat} {c : α → Bool} {f : α → β} (hs : Src K wi σ H l) (hz : l.length ≤ 1000000) (hw : ∀ v : V, wipe ((wipe σ vs).set k (some v)) vs = wipe σ vs)
    (turn : ∀ x, x ∈ l → ∀ v H1, Same H H1 → Rp.rep K H1 v x → Et K tt ((wipe σ vs).set k (some v)) H1 (c x) ∧ (c x = true → Er K te ((wipe σ vs).set k (some v)) H1 (f x))) :
    ErL K (tLc wi (gName k) tt te vs) σ H (mapIf c f l) := erl_lc hs hz fun x hx v H1 e r => ⟨_, fun Q q => q, hw v, turn x hx v H1 e r⟩
/-- for x, y in .. -/
theorem erl_lc2 {l : List (α × β)} {vs : List Nat} {k m : Nat} {c : α × β → Bool} {f : α × β → γ} (hs : Src K wi σ H l) (hz : l.length ≤ 1000000) (hw : ∀ v u : V, wipe (((wipe σ vs).set k (some v)).set m (some u)) vs = wipe σ vs)
    (turn : ∀ x, x ∈ l → ∀ v u H1, Same H H1 → Rp.rep K H1 v x.1 → Rp.rep K H1 u x.2 → Et K tt (((wipe σ vs).set k (some v)).set m (some u)) H1 (c x) ∧ (c x = true → Er K te (((wipe σ vs).set k (some v)).set m (some u)) H1 (f x))) :
    ErL K (tLc wi (gTup K 2 (gCons (gName k) (gCons (gName m) gNil))) tt te vs) σ H (mapIf c f l) := erl_lc hs hz fun x hx v H1 e r => by
  obtain ⟨v1, v2, r1, r2, f⟩ := tg_pair (σ := wipe σ vs) (k := k) (m := m) r
  exact ⟨_, f, hw v1 v2, turn x hx v1 v2 H1 e r1 r2⟩
theorem mapIf_all {f : α → β} {l : List α} : mapIf (fun _ => true) f l = l.map f := by unfold mapIf; rw [List.filter_eq_self.mpr fun _ _ => rfl]
/-- no test -/
theorem erl_lm1 {l : List α} {vs : List Nat} {k : Nat} {f : α → β} (hs : Src K wi σ H l) (hz : l.length ≤ 1000000) (hw : ∀ v : V, wipe ((wipe σ vs).set k (some v)) vs = wipe σ vs)
    (turn : ∀ x, x ∈ l → ∀ v H1, Same H H1 → Rp.rep K H1 v x → Er K te ((wipe σ vs).set k (some v)) H1 (f x)) :
    ErL K (tLc wi (gName k) tYes te vs) σ H (l.map f) := (erl_lc1 (c := fun _ => true) hs hz hw fun x hx v H1 e r => ⟨et_yes, fun _ => turn x hx v H1 e r⟩).to mapIf_all
theorem erl_lm2 {l : List (α × β)} {vs : List Nat} {k m : Nat} {f : α × β → γ} (hs : Src K wi σ H l) (hz : l.length ≤ 1000000) (hw : ∀ v u : V, wipe (((wipe σ vs).set k (some v)).set m (some u)) vs = wipe σ vs)
    (turn : ∀ x, x ∈ l → ∀ v u H1, Same H H1 → Rp.rep K H1 v x.1 → Rp.rep K H1 u x.2 → Er K te (((wipe σ vs).set k (some v)).set m (some u)) H1 (f x)) :
    ErL K (tLc wi (gTup K 2 (gCons (gName k) (gCons (gName m) gNil))) tYes te vs) σ H (l.map f) := (erl_lc2 (c := fun _ => true) hs hz hw fun x hx v u H1 e r r' => ⟨et_yes, fun _ => turn x hx v u H1 e r r'⟩).to mapIf_all
end
/-! ### the rules that name the written part, the part given by name (a comprehension's block has the same) -/
section
variable {X : Cx} (K : Fg) (h : X.K = K)
include h
theorem k_ixl : IxR X (rIxL K) := by subst h; exact ix_list
theorem k_ixt : IxR X (rIxT K) := by subst h; exact ix_tup
theorem k_sum (hc : X.calm = true) : CallR X (.builtin "sum") (rSum K) := by subst h; exact cr_sum hc
theorem k_max (hc : X.calm = true) : CallR X (.builtin "max") (rMax K) := by subst h; exact cr_max hc
theorem k_min (hc : X.calm = true) : CallR X (.builtin "min") (rMin K) := by subst h; exact cr_min hc
theorem k_all (hc : X.calm = true) : CallR X (.builtin "all") (rAll K) := by subst h; exact cr_all hc
theorem k_any (hc : X.calm = true) : CallR X (.builtin "any") (rAny K) := by subst h; exact cr_any hc
theorem k_sorted : CallR X (.builtin "sorted") (rSortedI K) := by subst h; exact cr_sortedI
theorem k_len : CallR X (.builtin "len") (rLenC K) := by subst h; exact call_len_seq
theorem k_list : CallR X (.type "list") (rListC K) := by subst h; exact call_list_of
theorem k_isi : CallR X (.builtin "isinstance") (rIsi K) := by subst h; exact call_isi
theorem k_eqD (hu : X.A.units + 64 < cLine) : OpR X (compareOp .Eq) (rEqD K) := by subst h; exact op_eqD hu
theorem k_neD (hu : X.A.units + 64 < cLine) : OpR X (compareOp .NotEq) (rNeD K) := by subst h; exact op_neD hu
theorem k_in : OpR X (compareOp .In) (rIn K false) := by subst h; exact op_in_seq
theorem k_notIn : OpR X (compareOp .NotIn) (rIn K true) := by subst h; exact op_notIn_seq
theorem k_sl : SlR X (rSlL K) := by subst h; exact sl_list
theorem k_pl {tg l : Expr} {tl : TE} (hl : PE X l tl) : PI X tg l (iList K tl) := by subst h; exact pi_list hl
theorem k_pt {tg l : Expr} {tl : TE} (hl : PE X l tl) : PI X tg l (iTup K tl) := by subst h; exact pi_tup hl
theorem k_pe {e : Expr} {ta : TA} {p pos tpos : Pos} {elts : List Expr} {kk : Nat} (hg : Gl X "enumerate") (hm : X.mg "enumerate" = none) (ha : PA X [e] ta) (hs : starEach [e] X.env = [(false, eval e X.env)] := by rfl) :
    PI X (.Tuple elts kk tpos) (.Call (.Name "enumerate" p) [e] [] pos) (iEnum K ta) := by subst h; exact pi_enum hg hm ha hs
theorem k_pz {e e2 : Expr} {ta : TA} {p pos tpos : Pos} {elts : List Expr} {kk : Nat} (hg : Gl X "zip") (hm : X.mg "zip" = none) (ha : PA X [e, e2] ta)
    (hs : starEach [e, e2] X.env = (false, eval e X.env) :: starEach [e2] X.env := by rfl) (hpl : (backTo pos (starEach [e2] X.env)).any (·.1) = false := by rfl) :
    PI X (.Tuple elts kk tpos) (.Call (.Name "zip" p) [e, e2] [] pos) (iZip K ta) := by subst h; exact pi_zip hg hm ha hs hpl
theorem k_gt (n : Nat) {es : List Expr} {k : Nat} {t : TGs} {pos : Pos} (hc : X.calm = true) (hp : PGs X es t)
    (hn : (assignEach es X.env).length = n := by rfl) (hst : (assignEach es X.env).findIdx? (·.1) = none := by rfl) : PG X (.Tuple es k pos) (gTup K n t) := by subst h; exact pg_tup hc hp hn hst
theorem k_app {o e : Expr} {to te : TE} {apos cpos : Pos} (ho : PE X o to) (he : PE X e te)
    (hbase : attributeBase o "append" X.env (eval o X.env) = eval o X.env := by rfl)
    (hfew : ((backTo cpos (starEach [e] X.env)).all (fun x => !x.1) && (backToKw cpos (keywordEach [] X.env)).all (fun x => x.1.isSome)
      && decide ([e].length + ([] : List Keyword).length + (if ([] : List Keyword).isEmpty then 0 else 1) < 30)) = true := by rfl)
    (hline : (apos.endLine == cpos.line) = true := by rfl) (hs : starEach [e] X.env = (false, eval e X.env) :: starEach [] X.env := by rfl) (hplain : (backTo cpos (starEach [] X.env)).any (·.1) = false := by rfl) :
    PE X (.Call (.Attribute o "append" apos) [e] [] cpos) (tBM K "list" rAppend to (tCons te tNil)) := by
  subst h; exact pe_bm PySem.F.plainAttrs_list PySem.F.slot_list_append PySem.F.type_list_append mt_append ho (pa_cons he pa_nil hs) hbase hfew hline hs hplain
end
/-! ### a def by its name -/
def Ok (P : Program) (w : World) (K : Fg) (mg : Str → Option Value) (base : Heap) (CX : CXT) (k : Nat) (x : Str) (ps : List Str) (sp : Sp) : Prop :=
  ∃ f fd, mg x = some (.ref f) ∧ PySem.W.keepIn K (.ref f) = true ∧ Binds K fd ps [] ∧ FnOk P w K mg base CX k f fd ps sp
section
variable {X : Cx} {CX : CXT} {k : Nat} {x : Str} {ps : List Str} {sp : Sp} {E : XK} {t : TA} {e : Expr} {es : List Expr} {p pos : Pos}
theorem pe_fn (G : Ok X.prog X.w X.K X.mg X.base CX k x ps sp) (hr : Room k X.A) (hx : Passes CX X E) (ha : PA X (e :: es) t) (hg : Gl X x := by rfl) (hdb : (x == ("__debug__" : Str)) = false := by decide)
    (he : starEach (e :: es) X.env = (false, eval e X.env) :: starEach es X.env := by rfl) (hpl : (backTo pos (starEach es X.env)).any (·.1) = false := by rfl) : PE X (.Call (.Name x p) (e :: es) [] pos) (tCall sp [] E t) := by
  obtain ⟨f, fd, h1, h2, h3, h4⟩ := G
  exact pe_call h4 hr hg h1 h2 h3 .nil hx ha hdb he hpl
theorem pe_fn0 (G : Ok X.prog X.w X.K X.mg X.base CX k x ps sp) (hr : Room k X.A) (hx : Passes CX X E) (hg : Gl X x := by rfl) (hdb : (x == ("__debug__" : Str)) = false := by decide) : PE X (.Call (.Name x p) [] [] pos) (tCall sp [] E tNil) := by
  obtain ⟨f, fd, h1, h2, h3, h4⟩ := G
  exact pe_call0 h4 hr hg h1 h2 h3 .nil hx hdb
end
theorem Ok.mono {P : Program} {w : World} {K : Fg} {mg : Str → Option Value} {base : Heap} {CX : CXT} {j k : Nat} {x : Str} {ps : List Str} {sp : Sp} (F : Ok P w K mg base CX j x ps sp) (h : j ≤ k) : Ok P w K mg base CX k x ps sp := by
  obtain ⟨f, fd, h1, h2, h3, h4⟩ := F
  exact ⟨f, fd, h1, h2, h3, h4.mono h⟩
/-- a module's number -/
theorem pe_gint {X : Cx} {x : Str} {i : Int} {pos : Pos} (h : ∃ t, X.mg x = some (.int i t)) (hg : Gl X x := by rfl) (hd : (x == ("__debug__" : Str)) = false := by decide) : PE X (.Name x pos) (tC (.int i)) := by
  obtain ⟨t, h⟩ := h
  exact pe_glob hg h ⟨t, rfl⟩ hd
/-- a def of the text: what the head tells -/
def Fd (K : Fg) (mg : Str → Option Value) (x : Str) (st : Stmt) : Prop := ∃ f fd, FunD K x x (defArgs st) (defBody st) (defScope st) [] [] f fd ∧ mg x = some (.ref f)
section
variable {P : Program} {w : World} {K : Fg} {mg : Str → Option Value} {base : Heap}
theorem fnok_of {x : Str} {st : Stmt} {N ps : List Str} {k : Nat} {sp : Sp} {f : Addr} {fd : FuncData} (F : FunD K x x (defArgs st) (defBody st) (defScope st) [] [] f fd) (S : FnScope N ps (defScope st))
    (len : ∀ vs H Q E, sp vs H Q E → vs.length = ps.length)
    (hbody : ∀ (cdv : Value) (A : Around) (outer : List Env) (s : Shared) (H : Hp) (vs : List V) (Q : VK) (E : XK), Room k (A.deeper (envOfC x (defScope st) s.heap.objs.size f cdv)) → sp vs H Q E →
      ∃ t, PSs (cxOf CX0 P w K mg base N x (defScope st) f cdv A outer s H E).nox (defBody st) t ∧ t { nx := fun _ H' => Q .non H', rt := Q } (start N vs) H) : FnOk P w K mg base CX0 (k + 1) f fd ps sp :=
  F.ok S len fun cdv A outer s H vs Q E hr h => by
    obtain ⟨t, h1, h2⟩ := hbody cdv A outer s H vs Q E hr h
    exact ⟨t, PSs.nox h1, h2⟩
/-- a def keeps its promise: its body as a term of rules, and the reading of that term; nothing it raises leaves it -/
theorem ok_of {x : Str} {st : Stmt} {N ps : List Str} {k : Nat} {sp : Sp} (F : Fd K mg x st) (S : FnScope N ps (defScope st))
    (hb : ∀ (kV doc pm : Value) (an : Option Addr) (cdv ct : Value) (us : List Value), us.length = ps.length → bindArgs (PySem.W.fnOf x x (defArgs st) (defBody st) (defScope st) .none kV doc pm an cdv ct) ⟨us, []⟩ = pure (ps.zip us))
    (len : ∀ vs H Q E, sp vs H Q E → vs.length = ps.length)
    (hbody : ∀ (f : Addr) (cdv : Value) (A : Around) (outer : List Env) (s : Shared) (H : Hp) (vs : List V) (Q : VK) (E : XK), Room k (A.deeper (envOfC x (defScope st) s.heap.objs.size f cdv)) → sp vs H Q E →
      ∃ t, PSs (cxOf CX0 P w K mg base N x (defScope st) f cdv A outer s H E).nox (defBody st) t ∧ t { nx := fun _ H' => Q .non H', rt := Q } (start N vs) H) : Ok P w K mg base CX0 (k + 1) x ps sp := by
  obtain ⟨f, fd, F, g⟩ := F
  refine ⟨f, fd, g, F.kp, ?_, F.ok S len fun cdv A outer s H vs Q E hr h => ?_⟩
  · exact F.bindsN hb
  · obtain ⟨t, h1, h2⟩ := hbody f cdv A outer s H vs Q E hr h
    exact ⟨t, PSs.nox h1, h2⟩
end
section
variable {K : Fg} {α β γ δ : Type} [Rp α] [Rp β] [Rp γ] [Rp δ]
theorem len_sp1 {pre : α → Prop} {f : α → β} : ∀ vs H Q E, sp1 K pre f vs H Q E → vs.length = 1 := fun vs H Q E h => by obtain ⟨_, _, rfl, _⟩ := h; rfl
theorem len_sp2 {pre : α → β → Prop} {f : α → β → γ} : ∀ vs H Q E, sp2 K pre f vs H Q E → vs.length = 2 := fun vs H Q E h => by obtain ⟨_, _, _, _, rfl, _⟩ := h; rfl
theorem len_sp3 {pre : α → β → γ → Prop} {f : α → β → γ → δ} : ∀ vs H Q E, sp3 K pre f vs H Q E → vs.length = 3 := fun vs H Q E h => by obtain ⟨_, _, _, _, _, _, rfl, _⟩ := h; rfl
theorem len_sl1 {pre : α → Prop} {f : α → List β} : ∀ vs H Q E, sl1 K pre f vs H Q E → vs.length = 1 := fun vs H Q E h => by obtain ⟨_, _, rfl, _⟩ := h; rfl
theorem len_sl2 {pre : α → β → Prop} {f : α → β → List γ} : ∀ vs H Q E, sl2 K pre f vs H Q E → vs.length = 2 := fun vs H Q E h => by obtain ⟨_, _, _, _, rfl, _⟩ := h; rfl
theorem len_sl3 {pre : α → β → γ → Prop} {f : α → β → γ → List δ} : ∀ vs H Q E, sl3 K pre f vs H Q E → vs.length = 3 := fun vs H Q E h => by obtain ⟨_, _, _, _, _, _, rfl, _⟩ := h; rfl
end
theorem bi1 {x : Str} {a : Arguments} {b : List Stmt} {sc : Scope} {p : Str} (h : ∀ (kV doc pm : Value) (an : Option Addr) (cdv ct u : Value), bindArgs (PySem.W.fnOf x x a b sc .none kV doc pm an cdv ct) ⟨[u], []⟩ = pure [(p, u)]) :
    ∀ (kV doc pm : Value) (an : Option Addr) (cdv ct : Value) (us : List Value), us.length = [p].length → bindArgs (PySem.W.fnOf x x a b sc .none kV doc pm an cdv ct) ⟨us, []⟩ = pure ([p].zip us)
  | kV, doc, pm, an, cdv, ct, [u], _ => h kV doc pm an cdv ct u
theorem bi2 {x : Str} {a : Arguments} {b : List Stmt} {sc : Scope} {p q : Str} (h : ∀ (kV doc pm : Value) (an : Option Addr) (cdv ct u v : Value), bindArgs (PySem.W.fnOf x x a b sc .none kV doc pm an cdv ct) ⟨[u, v], []⟩ = pure [(p, u), (q, v)]) :
    ∀ (kV doc pm : Value) (an : Option Addr) (cdv ct : Value) (us : List Value), us.length = [p, q].length → bindArgs (PySem.W.fnOf x x a b sc .none kV doc pm an cdv ct) ⟨us, []⟩ = pure ([p, q].zip us)
  | kV, doc, pm, an, cdv, ct, [u, v], _ => h kV doc pm an cdv ct u v
theorem bi3 {x : Str} {a : Arguments} {b : List Stmt} {sc : Scope} {p q r : Str} (h : ∀ (kV doc pm : Value) (an : Option Addr) (cdv ct u v w : Value), bindArgs (PySem.W.fnOf x x a b sc .none kV doc pm an cdv ct) ⟨[u, v, w], []⟩ = pure [(p, u), (q, v), (r, w)]) :
    ∀ (kV doc pm : Value) (an : Option Addr) (cdv ct : Value) (us : List Value), us.length = [p, q, r].length → bindArgs (PySem.W.fnOf x x a b sc .none kV doc pm an cdv ct) ⟨us, []⟩ = pure ([p, q, r].zip us)
  | kV, doc, pm, an, cdv, ct, [u, v, w], _ => h kV doc pm an cdv ct u v w
end BL

set_option Elab.async false
set_option linter.all false
set_option maxRecDepth 100000
set_option maxHeartbeats 2000000
namespace BL
open PySem PySem.Spec PyProof.Rows L2
/-! ### draws: the list of numbers at pn and the count, in the list at pd; nothing else changes -/
def Dr (H : Hp) (pd pn : Addr) : Prop := ∃ (ns : List Int) (k : Int), H pd = some (.lst [.ref pn, .int k]) ∧ H pn = some (.lst (ns.map V.int)) ∧ 0 < ns.length ∧ ns.length ≤ 1000 ∧ 0 ≤ k ∧ pd ≠ pn
structure DM (pd pn : Addr) (H H' : Hp) : Prop where
  sf : SF H H'
  ne : ∀ q o, q ≠ pd → q ≠ pn → H q = some o → H' q = some o
section
variable {K : Fg} {σ : L2.St} {H H' H1 : Hp} {pd pn : Addr} {ta tb tc td te : TE} {tt uu : TT} {α β γ δ : Type} [Rp α] [Rp β] [Rp γ] [Rp δ] {x : α} {y : β} {z : γ} {v u : V} {i j : Int} {b c : Bool}
theorem Dr.mono (e : Same H H') (h : Dr H pd pn) : Dr H' pd pn := by
  obtain ⟨ns, k, h1, h2, h3⟩ := h; exact ⟨ns, k, e _ _ h1, e _ _ h2, h3⟩
theorem DM.of (e : Same H H') : DM pd pn H H' := ⟨SF.of e, fun q o _ _ h => e q o h⟩
theorem DM.refl (H : Hp) : DM pd pn H H := DM.of (Same.refl H)
theorem DM.trans {H2 : Hp} (a : DM pd pn H H1) (b : DM pd pn H1 H2) : DM pd pn H H2 := ⟨a.sf.trans b.sf, fun q o n m h => b.ne q o n m (a.ne q o n m h)⟩
theorem Dr.of_mu {p : Addr} (m : Mu p H H') (h1 : pd ≠ p) (h2 : pn ≠ p) (h : Dr H pd pn) : Dr H' pd pn := by
  obtain ⟨ns, k, g1, g2, g3⟩ := h; exact ⟨ns, k, m.ne _ _ h1 g1, m.ne _ _ h2 g2, g3⟩
theorem Dr.pd_ne {p : Addr} (h : Dr H pd pn) (n : H p = none) : pd ≠ p := by obtain ⟨_, _, g1, _⟩ := h; exact ne_of_none g1 n
theorem Dr.pn_ne {p : Addr} (h : Dr H pd pn) (n : H p = none) : pn ≠ p := by obtain ⟨_, _, _, g1, _⟩ := h; exact ne_of_none g1 n
theorem Un.dm {p : Addr} {l : List α} (m : DM pd pn H H') (h1 : p ≠ pd) (h2 : p ≠ pn) (h : Un K H p l) : Un K H' p l := by
  obtain ⟨vs, g, r⟩ := h; exact ⟨vs, m.ne _ _ h1 h2 g, r.mono m.sf⟩
theorem DM.free (m : DM pd pn H H') (dr : Dr H pd pn) {p : Addr} (h : H' p = none) (dr' : Dr H' pd pn) : H p = none := by
  have h1 : p ≠ pd := (dr'.pd_ne h).symm
  have h2 : p ≠ pn := (dr'.pn_ne h).symm
  cases e : H p with
  | none => rfl
  | some o => rw [m.ne p o h1 h2 e] at h; cases h
/-! an expression that may draw: P tells what it can be -/
def Ep (K : Fg) (pd pn : Addr) (te : TE) (σ : L2.St) (H : Hp) {α : Type} [Rp α] (P : α → Prop) : Prop := ∀ H1, DM pd pn H H1 → Dr H1 pd pn → ∀ Q : VK, (∀ v H2 x, DM pd pn H1 H2 → Dr H2 pd pn → P x → Rp.rep K H2 v x → Q v H2) → te σ H1 Q
def EpL (K : Fg) (pd pn : Addr) (te : TE) (σ : L2.St) (H : Hp) {α : Type} [Rp α] (P : List α → Prop) : Prop := ∀ H1, DM pd pn H H1 → Dr H1 pd pn → ∀ Q : VK, (∀ p vs H2 l, DM pd pn H1 H2 → Dr H2 pd pn → P l → H1 p = none → H2 p = some (.lst vs) → RL K H2 vs l → Q (.ref p) H2) → te σ H1 Q
theorem ep_of (h : ∀ H1, DM pd pn H H1 → Er K te σ H1 x) : Ep K pd pn te σ H (fun y => y = x) := fun H1 m dr Q q => h H1 m H1 (Same.refl _) Q fun v H2 e r => q v H2 x (DM.of e) (dr.mono e) rfl r
theorem epl_of {l : List α} (h : ∀ H1, DM pd pn H H1 → ErL K te σ H1 l) : EpL K pd pn te σ H (fun y => y = l) := fun H1 m dr Q q => h H1 m H1 (Same.refl _) Q fun p vs H2 e hp h2 r => q p vs H2 l (DM.of e) (dr.mono e) rfl hp h2 r
theorem dm_frz {p : Addr} {vs : List V} {od : Obj} (m : DM pd pn H H') (dr : Dr H pd pn) (h : H p = none) : DM pd pn H (upd H' p (.frz od (.lst vs))) := ⟨sf_mut m.sf h, fun q o n1 n2 e => by rw [upd_ne (ne_of_none e h)]; exact m.ne q o n1 n2 e⟩
theorem ep_frz {P : List α → Prop} (h : EpL K pd pn te σ H P) : Ep K pd pn (tFrz te) σ H P := fun H1 m dr Q q => h H1 m dr _ fun p vs H2 l m2 dr2 hP hp h2 r => ⟨p, vs, rfl, h2, fun od => by
  have n1 := dr.pd_ne hp
  have n2 := dr.pn_ne hp
  refine q (.ref p) _ l (dm_frz m2 dr hp) ?_ hP ⟨p, vs, rfl, ⟨od, upd_same⟩, RL.mono (SF.lst h2) r⟩
  obtain ⟨ns, k, g1, g2, g3⟩ := dr2
  exact ⟨ns, k, upd_get g1 n1, upd_get g2 n2, g3⟩⟩
theorem ep_op {r : R2} {P : α → Prop} {P2 : α → β → Prop} {f : α → β → γ} (ha : Ep K pd pn ta σ H P) (hb : ∀ x, P x → Ep K pd pn tb σ H (P2 x)) (hr : ∀ x y, P x → P2 x y → R2r K r x y (f x y)) : Ep K pd pn (tOp r ta tb) σ H (fun z => ∃ x y, P x ∧ P2 x y ∧ z = f x y) := fun H1 m dr Q q =>
  ha H1 m dr _ fun v H2 x m2 dr2 hx r2 => hb x hx H2 (m.trans m2) dr2 _ fun u H3 y m3 dr3 hy r3 => hr x y hx hy H3 v u (Rp.mono m3.sf r2) r3 Q fun w H4 e4 r4 => q w H4 _ ((m2.trans m3).trans (DM.of e4)) (dr3.mono e4) ⟨x, y, hx, hy, rfl⟩ r4
theorem ep_pair {P : α → Prop} {P2 : α → β → Prop} (ha : Ep K pd pn ta σ H P) (hb : ∀ x, P x → Ep K pd pn tb σ H (P2 x)) : Ep K pd pn (tTup (tCons ta (tCons tb tNil))) σ H (fun z : α × β => P z.1 ∧ P2 z.1 z.2) := fun H1 m dr Q q =>
  ha H1 m dr _ fun v H2 x m2 dr2 hx r2 => hb x hx H2 (m.trans m2) dr2 _ fun u H3 y m3 dr3 hy r3 => ⟨by show 2 ≤ sizeLine; decide, fun p hp =>
    q (.ref p) _ (x, y) ((m2.trans m3).trans (DM.of (same_new hp))) (dr3.mono (same_new hp)) ⟨hx, hy⟩ ⟨p, v, u, rfl, sq_tup upd_same, Rp.mono (m3.sf.trans (SF.new hp)) r2, Rp.mono (SF.new hp) r3⟩⟩
theorem Ep.imp {P P' : α → Prop} (h : Ep K pd pn te σ H P) (hi : ∀ x, P x → P' x) : Ep K pd pn te σ H P' := fun H1 m dr Q q => h H1 m dr Q fun v H2 x m2 dr2 hx r => q v H2 x m2 dr2 (hi x hx) r
variable {D : Ends} {tu tw tz : TS} {g : TG}
theorem q_setP {k : Nat} {P : α → Prop} (dr : Dr H pd pn) (h : Ep K pd pn te σ H P) (q : ∀ v H1 x, DM pd pn H H1 → Dr H1 pd pn → P x → Rp.rep K H1 v x → tz D (σ.set k (some v)) H1) : tSeq (tAsg te (gName k)) tz D σ H := h H (DM.refl _) dr _ fun v H1 x m d p r => q v H1 x m d p r
theorem q_parP {k n : Nat} {P : α → Prop} {P2 : α → β → Prop} (dr : Dr H pd pn) (h : Ep K pd pn ta σ H P) (h' : ∀ x, P x → Ep K pd pn tb σ H (P2 x)) (q : ∀ v u H1 x y, DM pd pn H H1 → Dr H1 pd pn → P x → P2 x y → Rp.rep K H1 v x → Rp.rep K H1 u y → tz D ((σ.set k (some v)).set n (some u)) H1) :
    tSeq (tPar k n (tCons ta (tCons tb tNil))) tz D σ H := h H (DM.refl _) dr _ fun v H1 x m d p r => h' x p H1 m d _ fun u H2 y m2 d2 p2 r2 => ⟨v, u, rfl, q v u H2 x y (m.trans m2) d2 p p2 (Rp.mono m2.sf r) r2⟩
theorem s_retP {P : α → Prop} (dr : Dr H pd pn) (h : Ep K pd pn te σ H P) (q : ∀ v H1 x, DM pd pn H H1 → Dr H1 pd pn → P x → Rp.rep K H1 v x → D.rt v H1) : tRet te D σ H := h H (DM.refl _) dr _ fun v H1 x m d p r => q v H1 x m d p r
/-! the promises of the draws' defs -/
def spDraw : Sp := fun vs H Q _ => ∃ (pd pn : Addr) (lim : Int), vs = [.ref pd, .int lim] ∧ Dr H pd pn ∧ 0 < lim ∧ lim < 1000000 ∧ ∀ (d : Int) H', 0 ≤ d → d < lim → DM pd pn H H' → Dr H' pd pn → Q (.int d) H'
def spStart (K : Fg) : Sp := fun vs H Q _ => ∃ (a : Addr) (ns : List Int), vs = [.ref a] ∧ SqL K H a (ns.map V.int) ∧ ns.length ≤ 63 ∧ ∀ (pd pn : Addr) H', Same H H' → H pd = none → H pn = none → Dr H' pd pn → Q (.ref pd) H'
def spPick (K : Fg) {α : Type} [Rp α] : Sp := fun vs H Q _ => ∃ (pd pn : Addr) (v : V) (l : List α), vs = [.ref pd, v] ∧ Dr H pd pn ∧ Rp.rep K H v l ∧ 0 < l.length ∧ l.length < 1000000 ∧ ∀ (x : α) u H', x ∈ l → DM pd pn H H' → Dr H' pd pn → Rp.rep K H' u x → Q u H'
/-- a def that draws a list: P of its number tells what comes -/
def spDraws (K : Fg) {α : Type} [Rp α] (pre : Int → Prop) (P : Int → List α → Prop) : Sp := fun vs H Q _ => ∃ (pd pn : Addr) (n : Int), vs = [.ref pd, .int n] ∧ Dr H pd pn ∧ pre n ∧ ∀ p us l H', P n l → DM pd pn H H' → Dr H' pd pn → H p = none → H' p = some (.lst us) → RL K H' us l → Q (.ref p) H'
theorem ep_draw {E : XK} (h : ∀ H1, DM pd pn H H1 → Er K tb σ H1 i) (hσ : ∃ k : Nat, ta = tVar k ∧ σ[k]? = some (some (.ref pd))) (h0 : 0 < i) (h1 : i < 1000000) : Ep K pd pn (tCall spDraw [] E (tCons ta (tCons tb tNil))) σ H (fun d : Int => 0 ≤ d ∧ d < i) := fun H1 m dr Q q => by
  obtain ⟨k, rfl, hk⟩ := hσ
  refine ⟨.ref pd, hk, h H1 m H1 (Same.refl _) _ fun u H2 e r => ?_⟩
  cases (show u = .int i from r)
  exact ⟨pd, pn, i, rfl, dr.mono e, h0, h1, fun d H3 a b m3 d3 => q (.int d) H3 d ((DM.of e).trans m3) d3 ⟨a, b⟩ rfl⟩
theorem ep_pick {E : XK} {l : List α} (h : ∀ H1, DM pd pn H H1 → Er K tb σ H1 l) (hσ : ∃ k : Nat, ta = tVar k ∧ σ[k]? = some (some (.ref pd))) (h0 : 0 < l.length) (h1 : l.length < 1000000) : Ep K pd pn (tCall (spPick K (α := α)) [] E (tCons ta (tCons tb tNil))) σ H (fun x => x ∈ l) := fun H1 m dr Q q => by
  obtain ⟨k, rfl, hk⟩ := hσ
  refine ⟨.ref pd, hk, h H1 m H1 (Same.refl _) _ fun u H2 e r => ?_⟩
  exact ⟨pd, pn, u, l, rfl, dr.mono e, r, h0, h1, fun x w H3 a m3 d3 r3 => q w H3 x ((DM.of e).trans m3) d3 a r3⟩
/-- .. the list's items drawn too -/
theorem ep_pickP {E : XK} {P : List α → Prop} (h : Ep K pd pn tb σ H P) (hσ : ∃ k : Nat, ta = tVar k ∧ σ[k]? = some (some (.ref pd))) (h0 : ∀ l, P l → 0 < l.length ∧ l.length < 1000000) : Ep K pd pn (tCall (spPick K (α := α)) [] E (tCons ta (tCons tb tNil))) σ H (fun x => ∃ l, P l ∧ x ∈ l) := fun H1 m dr Q q => by
  obtain ⟨k, rfl, hk⟩ := hσ
  refine ⟨.ref pd, hk, h H1 m dr _ fun u H2 l m2 d2 hl r => ?_⟩
  exact ⟨pd, pn, u, l, rfl, d2, r, (h0 l hl).1, (h0 l hl).2, fun x w H3 a m3 d3 r3 => q w H3 x (m2.trans m3) d3 ⟨l, hl, a⟩ r3⟩
theorem epl_draws {E : XK} {pre : Int → Prop} {P : Int → List α → Prop} (h : ∀ H1, DM pd pn H H1 → Er K tb σ H1 i) (hσ : ∃ k : Nat, ta = tVar k ∧ σ[k]? = some (some (.ref pd))) (hp : pre i) : EpL K pd pn (tCall (spDraws K pre P) [] E (tCons ta (tCons tb tNil))) σ H (P i) := fun H1 m dr Q q => by
  obtain ⟨k, rfl, hk⟩ := hσ
  refine ⟨.ref pd, hk, h H1 m H1 (Same.refl _) _ fun u H2 e r => ?_⟩
  cases (show u = .int i from r)
  exact ⟨pd, pn, i, rfl, dr.mono e, hp, fun p us l H3 hl m3 d3 hn h3 r3 => q p us H3 l ((DM.of e).trans m3) d3 hl (e.free hn) h3 r3⟩
theorem s_appP {k : Nat} {p : Addr} {l : List α} {P : α → Prop} (dr : Dr H pd pn) (hσ : σ[k]? = some (some (.ref p))) (hu : Un K H p l) (n1 : p ≠ pd) (n2 : p ≠ pn) (h : Ep K pd pn te σ H P) (hz : l.length < 1000000)
    (q : ∀ H2 x, (∀ H0, DM pd pn H0 H → H0 p = none → DM pd pn H0 H2) → Dr H2 pd pn → P x → Un K H2 p (l ++ [x]) → D.nx σ H2) : tDrop (tBM K "list" rAppend (tVar k) (tCons te tNil)) D σ H := by
  obtain ⟨vs, hp, r⟩ := hu
  refine ⟨.ref p, hσ, Or.inl ⟨rfl, vs, sq_lst hp⟩, ?_⟩
  refine h H (DM.refl _) dr _ fun v H2 x m2 d2 hx r2 => ⟨p, vs, v, rfl, rfl, m2.ne _ _ n1 n2 hp, ?_, q _ x (fun H0 m0 h0 => ?_) ?_ hx ⟨_, upd_same, RL.mono (SF.lst (m2.ne _ _ n1 n2 hp)) (paired_app (r.mono m2.sf) (.cons r2 .nil))⟩⟩
  · rw [paired_len r]; exact Nat.lt_of_lt_of_le hz (by decide)
  · exact ⟨sf_mut (m0.sf.trans m2.sf) h0, fun q o a b e => by rw [upd_ne (ne_of_none e h0)]; exact (m0.trans m2).ne q o a b e⟩
  · obtain ⟨ns, k, g1, g2, g3⟩ := d2
    exact ⟨ns, k, upd_get g1 n1.symm, upd_get g2 n2.symm, g3⟩
theorem q_appP {k : Nat} {p : Addr} {l : List α} {P : α → Prop} (dr : Dr H pd pn) (hσ : σ[k]? = some (some (.ref p))) (hu : Un K H p l) (n1 : p ≠ pd) (n2 : p ≠ pn) (h : Ep K pd pn te σ H P) (hz : l.length < 1000000)
    (q : ∀ H2 x, (∀ H0, DM pd pn H0 H → H0 p = none → DM pd pn H0 H2) → Dr H2 pd pn → P x → Un K H2 p (l ++ [x]) → tz D σ H2) : tSeq (tDrop (tBM K "list" rAppend (tVar k) (tCons te tNil))) tz D σ H := s_appP (D := { D with nx := tz D }) dr hσ hu n1 n2 h hz q
/-- for k in range(e), e drawn -/
theorem s_forR {k : Nat} {P : Int → Prop} (dr : Dr H pd pn) (h : Ep K pd pn te σ H P) (hz : ∀ x, P x → -1000000 ≤ x ∧ x ≤ 1000000) (Pv : Int → Nat → L2.St → Hp → Prop) (h0 : ∀ x H1, DM pd pn H H1 → Dr H1 pd pn → P x → Pv x 0 σ H1)
    (turn : ∀ (x : Int) (i : Nat) σ' H', P x → (i : Int) < x → Pv x i σ' H' → tu { D with nx := Pv x (i + 1), ct := Pv x (i + 1), bk := D.nx } (σ'.set k (some (.int (i : Int)))) H') (hd : ∀ x σ' H', P x → Pv x x.toNat σ' H' → D.nx σ' H') : tFor (iRng1 (tCons te tNil)) (gName k) tu D σ H :=
  h H (DM.refl _) dr _ fun v H1 x m d hx r => by
    cases (show v = .int x from r)
    refine ⟨x, rfl, by have := hz x hx; omega, by have := hz x hx; omega, for_range (lo := 0) (n := x.toNat) (Pv x) (h0 x H1 m d hx) (fun i σ' H' hi p => ?_) fun σ' H' p => hd x σ' H' hx p⟩
    have e : (0 : Int) + (i : Int) = (i : Int) := Int.zero_add _
    show tu { D with nx := Pv x (i + 1), ct := Pv x (i + 1), bk := D.nx } (σ'.set k (some (.int ((0 : Int) + (i : Int))))) H'
    rw [e]
    exact turn x i σ' H' hx (by omega) p
theorem q_forR {k : Nat} {P : Int → Prop} (dr : Dr H pd pn) (h : Ep K pd pn te σ H P) (hz : ∀ x, P x → -1000000 ≤ x ∧ x ≤ 1000000) (Pv : Int → Nat → L2.St → Hp → Prop) (h0 : ∀ x H1, DM pd pn H H1 → Dr H1 pd pn → P x → Pv x 0 σ H1)
    (turn : ∀ (x : Int) (i : Nat) σ' H', P x → (i : Int) < x → Pv x i σ' H' → tu { D with nx := Pv x (i + 1), ct := Pv x (i + 1), bk := tz D } (σ'.set k (some (.int (i : Int)))) H') (hd : ∀ x σ' H', P x → Pv x x.toNat σ' H' → tz D σ' H') : tSeq (tFor (iRng1 (tCons te tNil)) (gName k) tu) tz D σ H :=
  s_forR (D := { D with nx := tz D }) dr h hz Pv h0 turn hd
theorem epl_lst2 {P : α → Prop} {P2 : α → α → Prop} (ha : Ep K pd pn ta σ H P) (hb : ∀ x, P x → Ep K pd pn tb σ H (P2 x)) : EpL K pd pn (tLst (tCons ta (tCons tb tNil))) σ H (fun l => ∃ x y, P x ∧ P2 x y ∧ l = [x, y]) := fun H1 m dr Q q =>
  ha H1 m dr _ fun v H2 x m2 dr2 hx r2 => hb x hx H2 (m.trans m2) dr2 _ fun u H3 y m3 dr3 hy r3 => ⟨by show 2 ≤ sizeLine; decide, fun p hp =>
    q p _ _ [x, y] ((m2.trans m3).trans (DM.of (same_new hp))) (dr3.mono (same_new hp)) ⟨x, y, hx, hy, rfl⟩ ((m2.trans m3).free dr hp dr3) upd_same (.cons (Rp.mono (m3.sf.trans (SF.new hp)) r2) (.cons (Rp.mono (SF.new hp) r3) .nil))⟩
/-- the law's own promise -/
def spLaw (K : Fg) : Sp := fun vs H Q _ => ∃ (a : Addr) (ns : List Int), vs = [.ref a] ∧ SqL K H a (ns.map V.int) ∧ ns.length ≤ 63 ∧ ∀ H', Q (.bl true) H'
theorem len_law : ∀ vs H Q E, spLaw K vs H Q E → vs.length = 1 := fun vs H Q E h => by obtain ⟨_, _, rfl, _⟩ := h; rfl
/-- _law_draws = _law_start(_law_script) -/
theorem q_start {k m : Nat} {E : XK} {a : Addr} {ns : List Int} (hσ : σ[m]? = some (some (.ref a))) (hs : SqL K H a (ns.map V.int)) (hz : ns.length ≤ 63) (q : ∀ pd pn H1, Same H H1 → Dr H1 pd pn → tz D (σ.set k (some (.ref pd))) H1) :
    tSeq (tAsg (tCall (spStart K) [] E (tCons (tVar m) tNil)) (gName k)) tz D σ H := ⟨.ref a, hσ, a, ns, rfl, hs, hz, fun pd pn H1 e _ _ d => q pd pn H1 e d⟩
theorem s_true {D : Ends} (h : Er K te σ H b) (hb : b = true) (hQ : ∀ H', D.rt (.bl true) H') : tRet te D σ H := h H (Same.refl _) _ fun v H1 e r => by
  cases (show v = .bl b from r); rw [hb]; exact hQ H1
theorem sub_dr {k : Nat} (h : σ[k]? = some (some (.ref pd))) : ∃ m : Nat, tVar k = tVar m ∧ σ[m]? = some (some (.ref pd)) := ⟨k, rfl, h⟩
end
end BL

set_option Elab.async false
set_option linter.all false
set_option maxRecDepth 100000
set_option maxHeartbeats 2000000
namespace BL
open PySem PySem.Spec PyProof.Rows L2
/-! ### a <= b <= c <= d -/
def tTest3 (r r' r'' : R2) (ta tb tc td : TE) : TT := fun σ H Q => ta σ H fun x H1 => tb σ H1 fun y H2 => r x y H2 fun z H3 => ∃ k, z = .bl k ∧
  (if k = true then tc σ H3 fun x' H4 => r' y x' H4 fun z' H5 => ∃ k', z' = .bl k' ∧ (if k' = true then td σ H5 fun w' H6 => r'' x' w' H6 fun z2 H7 => ∃ k2, z2 = .bl k2 ∧ Q k2 H7 else Q false H5) else Q false H3)
theorem pt_chain3 {X : Cx} {a b c d : Expr} {ta tb tc td : TE} {pos : Pos} {op op' op'' : CmpOp} {r r' r'' : R2} (ho : OpR X (compareOp op) r) (ho' : OpR X (compareOp op') r') (ho'' : OpR X (compareOp op'') r'') (ha : PE X a ta) (hb : PE X b tb) (hc : PE X c tc) (hd : PE X d td)
    (hm : lastMarks [op, op', op''] [b, c, d] = false := by with_unfolding_all rfl) : PT X (.Compare a [op, op', op''] [b, c, d] pos) (tTest3 r r' r'' ta tb tc td) := by
  refine ⟨fun pins s σ H Q I h => ?_⟩
  refine isTrue_chain (thn (ha.run pins s σ H _ I h) fun v s1 ⟨x, H1, I1, r1, q1⟩ => test_link (thn (hb.run pins s1 σ H1 _ I1 q1) fun u s2 ⟨y, H2, I2, r2, q2⟩ =>
    thn (ho pins s2 σ H2 x y v u _ I2 r1 r2 q2) fun d s3 ⟨z, H3, I3, r3, k, e, q3⟩ => ?_)) hm
  subst e
  cases r3
  refine wpAny_truthy_bool ?_
  cases k with
  | false => exact ite_ff ⟨H3, I3, q3⟩
  | true =>
    refine ite_tt (test_link (thn (hc.run pins s3 σ H3 _ I3 q3) fun w' s4 ⟨z', H4, I4, r4, q4⟩ => thn (ho' pins s4 σ H4 y z' u w' _ I4 r2 r4 q4) fun d' s5 ⟨z2, H5, I5, r5, k2, e2, q5⟩ => ?_))
    subst e2
    cases r5
    refine wpAny_truthy_bool ?_
    cases k2 with
    | false => exact ite_ff ⟨H5, I5, q5⟩
    | true =>
      refine ite_tt (test_last (thn (hd.run pins s5 σ H5 _ I5 q5) fun w2 s6 ⟨z3, H6, I6, r6, q6⟩ => thn (ho'' pins s6 σ H6 z' z3 w' w2 _ I6 r4 r6 q6) fun d2 s7 ⟨z4, H7, I7, r7, k3, e3, q7⟩ => ?_))
      subst e3
      cases r7
      exact wpAny_truthy_bool ⟨H7, I7, q7⟩
section
variable {K : Fg} {σ : L2.St} {H H' H1 : Hp} {ta tb tc td te : TE} {tt uu : TT} {α β γ δ : Type} [Rp α] [Rp β] [Rp γ] [Rp δ] {x : α} {y : β} {z : γ} {z2 : δ} {v u : V} {i j : Int} {b c : Bool} {r r' r'' : R2}
theorem et_chain3 {b b' b'' : Bool} (ha : Er K ta σ H x) (hb : Er K tb σ H y) (hc : Er K tc σ H z) (hd : Er K td σ H z2) (h1 : R2r K r x y b) (h2 : R2r K r' y z b') (h3 : R2r K r'' z z2 b'') : Et K (tTest3 r r' r'' ta tb tc td) σ H (b && (b' && b'')) := fun H1 e Q q =>
  ha H1 e _ fun v H2 e2 r2 => hb H2 (e.trans e2) _ fun u H3 e3 r3 => h1 H3 v u (Rp.mono (SF.of e3) r2) r3 _ fun w H4 e4 r4 => ⟨b, r4, by
    have c4 := ((e.trans e2).trans e3).trans e4
    cases b with
    | false => exact iteF (q H4 ((e2.trans e3).trans e4))
    | true =>
      refine iteT (hc H4 c4 _ fun w' H5 e5 r5 => h2 H5 u w' (Rp.mono (SF.of (e4.trans e5)) r3) r5 _ fun w2 H6 e6 r6 => ⟨b', r6, ?_⟩)
      cases b' with
      | false => exact iteF (q H6 (((e2.trans e3).trans e4).trans (e5.trans e6)))
      | true =>
        refine iteT (hd H6 (c4.trans (e5.trans e6)) _ fun w3 H7 e7 r7 => h3 H7 w' w3 (Rp.mono (SF.of (e6.trans e7)) r5) r7 _ fun w4 H8 e8 r8 => ⟨b'', r8, ?_⟩)
        exact q H8 ((((e2.trans e3).trans e4).trans (e5.trans e6)).trans (e7.trans e8))⟩
/-! ### in -/
theorem flat_bls (l : List Bool) : (l.map V.bl).all flatV = true := by rw [List.all_map, List.all_eq_true]; intro x _; rfl
theorem flat_ints (l : List Int) : (l.map V.int).all flatV = true := by rw [List.all_map, List.all_eq_true]; intro x _; rfl
theorem flat_strs' (l : List Str) : (l.map V.str).all flatV = true := by rw [List.all_map, List.all_eq_true]; intro x _; rfl
theorem inV_bl (b : Bool) (l : List Bool) : inV (.bl b) (l.map V.bl) = decide (b ∈ l) := by
  unfold inV
  rw [List.any_map]
  induction l with
  | nil => rfl
  | cons x r ih =>
    rw [List.any_cons, ih]
    show ((x == b) || _) = _
    by_cases e : b = x
    · subst e; simp
    · simp [e]; intro h; exact absurd h.symm e
theorem inV_int (b : Int) (l : List Int) : inV (.int b) (l.map V.int) = decide (b ∈ l) := by
  unfold inV
  rw [List.any_map]
  induction l with
  | nil => rfl
  | cons x r ih =>
    rw [List.any_cons, ih]
    show ((x == b) || _) = _
    by_cases e : b = x
    · subst e; simp
    · simp [e]; intro h; exact absurd h.symm e
theorem inV_str (b : Str) (l : List Str) : inV (.str b) (l.map V.str) = decide (b ∈ l) := by
  unfold inV
  rw [List.any_map]
  induction l with
  | nil => rfl
  | cons x r ih =>
    rw [List.any_cons, ih]
    show ((x == b) || _) = _
    by_cases e : b = x
    · subst e; simp
    · simp [e]; intro h; exact absurd h.symm e
def neg (n b : Bool) : Bool := if n then !b else b
theorem rr_inB {n : Bool} {l : List Bool} : R2r K (rIn K n) b l (neg n (decide (b ∈ l))) := fun H v u e1 e2 Q q => by
  obtain ⟨a, vs, rfl, h2, h3⟩ := e2
  cases (show v = .bl b from e1)
  rw [rl_bools h3] at h2
  exact ⟨a, _, rfl, .inl h2.seq, rfl, flat_bls l, by rw [inV_bl]; exact q _ H (Same.refl _) (by cases n <;> rfl)⟩
theorem rr_inI {n : Bool} {l : List Int} : R2r K (rIn K n) i l (neg n (decide (i ∈ l))) := fun H v u e1 e2 Q q => by
  obtain ⟨a, vs, rfl, h2, h3⟩ := e2
  cases (show v = .int i from e1)
  rw [rl_ints h3] at h2
  exact ⟨a, _, rfl, .inl h2.seq, rfl, flat_ints l, by rw [inV_int]; exact q _ H (Same.refl _) (by cases n <;> rfl)⟩
theorem rr_inS {n : Bool} {s : Str} {l : List Str} : R2r K (rIn K n) s l (neg n (decide (s ∈ l))) := fun H v u e1 e2 Q q => by
  obtain ⟨a, vs, rfl, h2, h3⟩ := e2
  cases (show v = .str s from e1)
  rw [rl_strs h3] at h2
  exact ⟨a, _, rfl, .inl h2.seq, rfl, flat_strs' l, by rw [inV_str]; exact q _ H (Same.refl _) (by cases n <;> rfl)⟩
theorem rr_inST {n : Bool} {s : Str} {t : Tp Str} : R2r K (rIn K n) s t (neg n (decide (s ∈ t.l))) := fun H v u e1 e2 Q q => by
  obtain ⟨a, vs, rfl, h2, h3⟩ := e2
  cases (show v = .str s from e1)
  rw [rl_strs h3] at h2
  exact ⟨a, _, rfl, .inr h2, rfl, flat_strs' t.l, by rw [inV_str]; exact q _ H (Same.refl _) (by cases n <;> rfl)⟩
theorem any_eqv [Rq α] [DecidableEq α] (x : α) (l : List α) : ((l.map Rq.toD).any fun w => PyData.eqv w (Rq.toD x)) = decide (x ∈ l) := by
  rw [List.any_map]
  induction l with
  | nil => rfl
  | cons y r ih =>
    rw [List.any_cons, ih]
    show (PyData.eqv (Rq.toD y) (Rq.toD x) || _) = _
    rw [eqv_dec]
    by_cases e : x = y
    · subst e; simp
    · simp [e]; intro h; exact absurd h.symm e
theorem rr_inD [Rq α] [Rt α] [DecidableEq α] {l : List α} (hd : Rq.dep α + 1 ≤ 64 := by decide) : R2r K (rInD K) x l (decide (x ∈ l)) := fun H v u e1 e2 Q q => by
  have h2 : Dp K H u (.list (l.map Rq.toD)) := Rq.dp e2
  exact ⟨_, _, Rq.dp e1, h2, shaped_of (Rt.all x) (by omega), shaped_of (α := List α) (Rt.all l) hd, by rw [any_eqv]; exact q _ H (Same.refl _) rfl⟩
theorem rr_ninD [Rq α] [Rt α] [DecidableEq α] {l : List α} (hd : Rq.dep α + 1 ≤ 64 := by decide) : R2r K (rNotInD K) x l (!decide (x ∈ l)) := fun H v u e1 e2 Q q => by
  have h2 : Dp K H u (.list (l.map Rq.toD)) := Rq.dp e2
  exact ⟨_, _, Rq.dp e1, h2, shaped_of (Rt.all x) (by omega), shaped_of (α := List α) (Rt.all l) hd, by rw [any_eqv]; exact q _ H (Same.refl _) rfl⟩
/-- a constant tuple of the module -/
theorem er_kt {t : Tp α} {a : Addr} (h : ∀ H, Rp.rep K H (.ref a) t) : Er K (tC (.ref a)) σ H t := er_c h
/-! ### the if's answer is known -/
theorem er_ifT (h : Et K tt σ H true) (ha : Er K ta σ H x) : Er K (tIf tt ta tb) σ H x := fun H1 e Q q => h H1 e _ fun H2 e2 => iteT (ha H2 (e.trans e2) Q fun v H3 e3 r => q v H3 (e2.trans e3) r)
theorem er_ifF (h : Et K tt σ H false) (hb : Er K tb σ H x) : Er K (tIf tt ta tb) σ H x := fun H1 e Q q => h H1 e _ fun H2 e2 => iteF (hb H2 (e.trans e2) Q fun v H3 e3 r => q v H3 (e2.trans e3) r)
/-! ### a list not locked, handed through a check -/
def spThru (K : Fg) (pre : List α → Prop) : Sp := fun vs H Q _ => ∃ (p : Addr) (us : List V) (l : List α), vs = [.ref p] ∧ H p = some (.lst us) ∧ RL K H us l ∧ pre l ∧ ∀ H', Same H H' → Q (.ref p) H'
theorem erl_thru {E : XK} {pre : List α → Prop} {l : List α} (h : ErL K ta σ H l) (hp : pre l) : ErL K (tCall (spThru K pre) [] E (tCons ta tNil)) σ H l := fun H1 e Q q =>
  h H1 e _ fun p vs H2 e2 hn h2 r2 => ⟨p, vs, l, rfl, h2, r2, hp, fun H3 e3 => q p vs H3 (e2.trans e3) hn (e3 _ _ h2) (r2.mono (SF.of e3))⟩
theorem s_retThru {E : XK} {pre : List α → Prop} {l : List α} {D : Ends} {k : Nat} {p : Addr} (hσ : σ[k]? = some (some (.ref p))) (hu : Un K H p l) (hp : pre l) (q : ∀ H1 us, Same H H1 → H1 p = some (.lst us) → RL K H1 us l → D.rt (.ref p) H1) :
    tRet (tCall (spThru K pre) [] E (tCons (tVar k) tNil)) D σ H := by
  obtain ⟨us, h1, r⟩ := hu
  exact ⟨.ref p, hσ, p, us, l, rfl, h1, r, hp, fun H1 e => q H1 us e (e _ _ h1) (r.mono (SF.of e))⟩
/-- a check that runs while its list is locked -/
theorem q_lockd {p : Addr} {us : List V} {l : List α} {D : Ends} {tu tz : TS} (hp : H p = some (.lst us)) (hr : RL K H us l)
    (q : ∀ (od : Obj), Rp.rep K (upd H p (.frz od (.lst us))) (.ref p) l → tu ⟨fun σ' H' => H' p = some (.frz od (.lst us)) ∧ tz D σ' (upd H' p (.lst us)), fun v H' => H' p = some (.frz od (.lst us)) ∧ D.rt v (upd H' p (.lst us)), fun σ' H' => H' p = some (.frz od (.lst us)) ∧ D.bk σ' (upd H' p (.lst us)), fun σ' H' => H' p = some (.frz od (.lst us)) ∧ D.ct σ' (upd H' p (.lst us))⟩ σ (upd H p (.frz od (.lst us)))) :
    tSeq (tLock tu) tz D σ H := ⟨p, .lst us, hp, trivial, fun od => q od ⟨p, us, rfl, ⟨od, upd_same⟩, hr.mono (SF.lst hp)⟩⟩
theorem same_lock {p : Addr} {us : List V} {od : Obj} (hp : H p = some (.lst us)) (e : Same (upd H p (.frz od (.lst us))) H1) : Same H (upd H1 p (.lst us)) := fun a o h => by
  by_cases n : a = p
  · subst n; rw [upd_same]; rw [hp] at h; exact h
  · rw [upd_ne n]; exact e a o (by rw [upd_ne n]; exact h)
/-- a, b = a list of two -/
theorem tg_unl {l : List α} {k m : Nat} {d : α} (h : Rp.rep K H v l) (hl : l.length = 2) : ∃ v1 v2, Rp.rep K H v1 (l.getD 0 d) ∧ Rp.rep K H v2 (l.getD 1 d) ∧ ∀ Q : L2.St → Hp → Prop, Q ((σ.set k (some v1)).set m (some v2)) H → gUnl K 2 (gCons (gName k) (gCons (gName m) gNil)) v σ H Q := by
  obtain ⟨a, vs, rfl, h2, h3⟩ := h
  match l, hl with
  | [x, y], _ =>
    cases h3 with
    | cons r1 h4 =>
      cases h4 with
      | cons r2 h5 =>
        cases h5
        exact ⟨_, _, r1, r2, fun Q q => ⟨a, _, rfl, h2.seq, rfl, _, _, rfl, _, _, rfl, rfl, q⟩⟩
theorem q_unl {l : List α} {k m : Nat} {d : α} {D : Ends} {tz : TS} (h : Er K te σ H l) (hl : l.length = 2) (q : ∀ v u H1, Same H H1 → Rp.rep K H1 v (l.getD 0 d) → Rp.rep K H1 u (l.getD 1 d) → tz D ((σ.set k (some v)).set m (some u)) H1) : tSeq (tAsg te (gUnl K 2 (gCons (gName k) (gCons (gName m) gNil)))) tz D σ H :=
  h H (Same.refl _) _ fun v H1 e r => by
    obtain ⟨v1, v2, r1, r2, f⟩ := tg_unl (σ := σ) (k := k) (m := m) (d := d) r hl
    exact f _ (q v1 v2 H1 e r1 r2)
end
section
variable {X : Cx} (K : Fg) (h : X.K = K)
include h
theorem k_gl (n : Nat) {es : List Expr} {k : Nat} {t : TGs} {pos : Pos} (hc : X.calm = true) (hp : PGs X es t)
    (hn : (assignEach es X.env).length = n := by rfl) (hst : (assignEach es X.env).findIdx? (·.1) = none := by rfl) : PG X (.Tuple es k pos) (gUnl K n t) := by subst h; exact pg_unl hc hp hn hst
theorem k_inD (hu : X.A.units + 65 < cLine) : OpR X (compareOp .In) (rInD K) := by subst h; exact op_inD hu
theorem k_ninD (hu : X.A.units + 65 < cLine) : OpR X (compareOp .NotIn) (rNotInD K) := by subst h; exact op_notInD hu
end
theorem u65 {k : Nat} {A : Around} (r : Room k A) : A.units + 65 < cLine := by have := r.un; omega
/-! ### the head's facts, with tables -/
def hookB (n : Nat) (fa : List He.Fa) (fn : List He.DefD) (ex : Fg → Bool) : PySem.W.Hook where
  α := He.AlD × Bool
  obs := fun s => (He.obsDG n fa fn s.heap.get?, ex (He.frG s.heap.get? (He.asD s.heap.get? n)))
  val := fun _ => (He.valD fn, true)
  says := fun _ h => ∃ K : Fg, K.In h ∧ He.SaysD fa fn K ∧ ex K = true
  of := fun _ _ e => ⟨_, He.frG_in, congrArg Prod.fst e, congrArg Prod.snd e⟩
  keeps := fun _ _ _ ⟨K, hK, c⟩ k => ⟨K, PySem.W.Frag.In.keeps hK k, c⟩
theorem hookB_eq {n : Nat} {fa : List He.Fa} {fn : List He.DefD} {ex : Fg → Bool} {g : Addr → Option Obj} {s : Shared} (h : ∀ a, g a = s.heap.get? a) : ((He.obsDG n fa fn g, ex (He.frG g (He.asD g n))) : He.AlD × Bool) = (hookB n fa fn ex).obs s := by
  have e : g = s.heap.get? := funext h
  rw [e] <;> rfl
theorem rl_dv (K : Fg) (H : Hp) : ∀ l : List Str, RL K H ((l.map He.Dv.str).map (He.Dv.v K)) l
  | [] => .nil
  | _ :: r => .cons rfl (rl_dv K H r)
theorem tup_of {K : Fg} {x : Str} {l : List Str} (h : He.tupB K x (l.map He.Dv.str) = true) (H : Hp) : Rp.rep K H (.ref (He.ga K x)) (Tp.mk l) := ⟨_, _, rfl, He.tupB_ok h H, rl_dv K H l⟩
end BL

set_option Elab.async false
set_option linter.all false
set_option maxRecDepth 100000
set_option maxHeartbeats 2000000
namespace BL
open PySem PySem.Spec PyProof.Rows L2
/-! ### some lists change, nothing else -/
structure Mus (ps : List Addr) (H H' : Hp) : Prop where
  sf : SF H H'
  ne : ∀ q o, q ∉ ps → H q = some o → H' q = some o
section
variable {K : Fg} {σ : L2.St} {H H' H0 H1 H2 : Hp} {pd pn p q : Addr} {ps qs : List Addr} {ta tb tc td te : TE} {tt uu : TT} {α β γ δ : Type} [Rp α] [Rp β] [Rp γ] [Rp δ] {x : α} {y : β} {z : γ} {v u : V} {i j : Int} {b c : Bool}
theorem Mus.of (e : Same H H') : Mus ps H H' := ⟨SF.of e, fun q o _ h => e q o h⟩
theorem Mus.refl (H : Hp) : Mus ps H H := Mus.of (Same.refl H)
theorem Mus.trans (a : Mus ps H H1) (b : Mus ps H1 H2) : Mus ps H H2 := ⟨a.sf.trans b.sf, fun q o n h => b.ne q o n (a.ne q o n h)⟩
theorem Mus.mu (m : Mu p H H') (h : p ∈ ps) : Mus ps H H' := ⟨m.sf, fun q o n e => m.ne q o (fun c => n (c ▸ h)) e⟩
theorem Mus.dm (m : DM pd pn H H') (h1 : pd ∈ ps) (h2 : pn ∈ ps) : Mus ps H H' := ⟨m.sf, fun q o n e => m.ne q o (fun c => n (c ▸ h1)) (fun c => n (c ▸ h2)) e⟩
theorem Mus.sub (m : Mus ps H H') (h : ∀ x ∈ ps, x ∈ qs) : Mus qs H H' := ⟨m.sf, fun q o n e => m.ne q o (fun c => n (h q c)) e⟩
theorem Mus.same0 (m : Mus [] H H') : Same H H' := fun q o e => m.ne q o (by simp) e
theorem Mus.to_dm (m : Mus [pd, pn] H H') : DM pd pn H H' := ⟨m.sf, fun q o n1 n2 e => m.ne q o (by simp [n1, n2]) e⟩
/-- p is new since H0 -/
theorem Mus.fresh (B : Mus ps H0 H) (n : p ∉ ps) (h : H p = none) : H0 p = none := by
  cases e : H0 p with
  | none => rfl
  | some o => rw [B.ne p o n e] at h; cases h
theorem Mus.mut (B : Mus ps H0 H) (h : H0 p = none) (m : Mu p H H') : Mus ps H0 H' := ⟨B.sf.trans m.sf, fun q o n e => m.ne q o (ne_of_none e h) (B.ne q o n e)⟩
theorem Mus.cut (B : Mus ps H0 H) (h : H0 p = none) (m : Mus (p :: ps) H H') : Mus ps H0 H' := ⟨B.sf.trans m.sf, fun q o n e => m.ne q o (fun c => by
  rcases List.mem_cons.mp c with c | c
  · exact ne_of_none e h c
  · exact n c) (B.ne q o n e)⟩
/-- all that changes is new since H0 -/
theorem Mus.base (B : Mus [] H0 H) (m : Mus ps H H') (h : ∀ p ∈ ps, H0 p = none) : Mus [] H0 H' := ⟨B.sf.trans m.sf, fun q o _ e => m.ne q o (fun c => by rw [h q c] at e; cases e) (B.ne q o (by simp) e)⟩
theorem Mus.baseS (B : Mus qs H0 H) (m : Mus ps H H') (h : ∀ p ∈ ps, H0 p = none ∨ p ∈ qs) : Mus qs H0 H' := ⟨B.sf.trans m.sf, fun q o n e => m.ne q o (fun c => by
  rcases h q c with h | h
  · rw [h] at e; cases e
  · exact n h) (B.ne q o n e)⟩
theorem nin0 : p ∉ ([] : List Addr) := by simp
theorem nin (h : p ≠ q) (n : p ∉ ps) : p ∉ q :: ps := fun c => by
  rcases List.mem_cons.mp c with c | c
  · exact h c
  · exact n c
theorem all0 {F : Addr → Prop} : ∀ p ∈ ([] : List Addr), F p := fun _ h => by cases h
theorem allC {F : Addr → Prop} (h : F q) (n : ∀ p ∈ ps, F p) : ∀ p ∈ q :: ps, F p := fun x c => by
  rcases List.mem_cons.mp c with c | c
  · subst c; exact h
  · exact n x c
theorem Un.mus {l : List α} (m : Mus ps H H') (n : p ∉ ps) (h : Un K H p l) : Un K H' p l := by
  obtain ⟨vs, g, r⟩ := h; exact ⟨vs, m.ne _ _ n g, r.mono m.sf⟩
theorem Dr.mus (m : Mus ps H H') (n1 : pd ∉ ps) (n2 : pn ∉ ps) (h : Dr H pd pn) : Dr H' pd pn := by
  obtain ⟨ns, k, g1, g2, g3⟩ := h; exact ⟨ns, k, m.ne _ _ n1 g1, m.ne _ _ n2 g2, g3⟩
theorem Un.nep {l : List α} (h : Un K H q l) (n : H p = none) : q ≠ p := by obtain ⟨_, g, _⟩ := h; exact ne_of_none g n
/-! ### a loop's fold -/
theorem fold_step {l : List α} {f : β → α → β} {a s : β} {k : Nat} {x : α} (hx : l[k]? = some x) (hs : s = (l.take k).foldl f a) : f s x = (l.take (k + 1)).foldl f a := by
  rw [List.take_add_one, hx, List.foldl_append, hs]; rfl
theorem fold_all {l : List α} {f : β → α → β} {a s : β} (hs : s = (l.take l.length).foldl f a) : s = l.foldl f a := by rw [hs, List.take_length]
theorem fold_app1 {γ : Type} (f : α → γ) : ∀ (l : List α) (a : List γ), l.foldl (fun s x => s ++ [f x]) a = a ++ l.map f
  | [], a => by simp
  | x :: l, a => by rw [List.foldl_cons, fold_app1 f l]; simp
theorem fold_app2 {γ δ : Type} (f : α → γ) (g : α → δ) : ∀ (l : List α) (a : List γ × List δ), l.foldl (fun s x => (s.1 ++ [f x], s.2 ++ [g x])) a = (a.1 ++ l.map f, a.2 ++ l.map g)
  | [], a => by simp
  | x :: l, a => by rw [List.foldl_cons, fold_app2 f g l]; simp
/-! ### if: one name is set -/
variable {D : Ends} {tu tw tz : TS}
theorem set_same' {k : Nat} (h : σ[k]? = some (some v)) : σ.set k (some v) = σ := by
  refine List.ext_getElem? fun i => ?_
  rw [List.getElem?_set]
  split
  · rename_i e; subst e
    rw [h]
    split
    · rfl
    · rename_i hn; rw [List.getElem?_eq_none (by omega)] at h; cases h
  · rfl
theorem q_ifset {k : Nat} {x y : α} (hc : Et K tt σ H c) (h1 : c = true → ∀ H1, Same H H1 → Er K te σ H1 y) (hold : σ[k]? = some (some v)) (r0 : Rp.rep K H v x)
    (q : ∀ w H1, Same H H1 → Rp.rep K H1 w (if c = true then y else x) → tz D (σ.set k (some w)) H1) : tSeq (tIfS tt (tAsg te (gName k)) tNext) tz D σ H :=
  q_when hc (fun e H1 s => h1 e H1 s H1 (Same.refl _) _ fun w H2 e2 r2 => q w H2 (s.trans e2) (by rw [if_pos e]; exact r2)) fun e H1 s => by
    have := q v H1 s (by rw [if_neg (by rw [e]; exact Bool.false_ne_true)]; exact Rp.mono (SF.of s) r0)
    rwa [set_same' hold] at this
theorem q_ifset2 {k : Nat} {x y : α} (hc : Et K tt σ H c) (h1 : c = true → ∀ H1, Same H H1 → Er K ta σ H1 y) (h2 : c = false → ∀ H1, Same H H1 → Er K tb σ H1 x)
    (q : ∀ w H1, Same H H1 → Rp.rep K H1 w (if c = true then y else x) → tz D (σ.set k (some w)) H1) : tSeq (tIfS tt (tAsg ta (gName k)) (tAsg tb (gName k))) tz D σ H :=
  q_if hc (fun e H1 s => h1 e H1 s H1 (Same.refl _) _ fun w H2 e2 r2 => q w H2 (s.trans e2) (by rw [if_pos e]; exact r2))
    fun e H1 s => h2 e H1 s H1 (Same.refl _) _ fun w H2 e2 r2 => q w H2 (s.trans e2) (by rw [if_neg (by rw [e]; exact Bool.false_ne_true)]; exact r2)
/-! ### None or a value -/
theorem er_O0 : Er K (tC .non) σ H (none : Option α) := er_c (x := (none : Option α)) fun _ => rfl
class Nn (α : Type) [Rp α] : Prop where
  n : ∀ {K : Fg} {H : Hp} {v : V} {x : α}, Rp.rep K H v x → v ≠ .non
instance : Nn Int := ⟨fun h => by cases h; exact V.noConfusion⟩
instance : Nn Nat := ⟨fun h => by cases h; exact V.noConfusion⟩
instance : Nn Bool := ⟨fun h => by cases h; exact V.noConfusion⟩
instance : Nn Str := ⟨fun h => by cases h; exact V.noConfusion⟩
instance {α : Type} [Rp α] : Nn (List α) := ⟨fun h => by obtain ⟨_, _, rfl, _⟩ := h; exact V.noConfusion⟩
instance {α β : Type} [Rp α] [Rp β] : Nn (α × β) := ⟨fun h => by obtain ⟨_, _, _, rfl, _⟩ := h; exact V.noConfusion⟩
instance {α β γ : Type} [Rp α] [Rp β] [Rp γ] : Nn (T3 α β γ) := ⟨fun h => by obtain ⟨_, _, _, _, rfl, _⟩ := h; exact V.noConfusion⟩
theorem er_O1 [Nn α] (h : Er K te σ H x) : Er K te σ H (some x) := fun H1 e Q q => h H1 e Q fun v H2 e2 r => q v H2 e2 ⟨Nn.n r, r⟩
theorem er_Oget {o : Option α} (h : Er K te σ H o) (ho : o = some x) : Er K te σ H x := fun H1 e Q q => h H1 e Q fun v H2 e2 r => by
  rw [ho] at r; exact q v H2 e2 r.2
theorem opt_non {o : Option α} (h : Rp.rep K H v o) : decide (v = .non) = o.isNone := by
  cases o with
  | none => cases (show v = .non from h); rfl
  | some x => exact decide_eq_false h.1
theorem er_isN {o : Option α} (h : Er K te σ H o) : Er K (tOp rIsN te (tC .non)) σ H o.isNone := fun H1 e Q q => h H1 e _ fun v H2 e2 r => ⟨rfl, q _ H2 e2 (by show V.bl _ = V.bl _; rw [opt_non r])⟩
theorem er_notN {o : Option α} (h : Er K te σ H o) : Er K (tOp rNotN te (tC .non)) σ H (!o.isNone) := fun H1 e Q q => h H1 e _ fun v H2 e2 r => ⟨rfl, q _ H2 e2 (by show V.bl _ = V.bl _; rw [opt_non r])⟩
/-! ### names that count -/
theorem q_augI {k : Nat} {f : Int → Int → Int} (hσ : σ[k]? = some (some v)) (r : Rp.rep K H v i) (h : Er K te σ H j) (q : ∀ w H1, Same H H1 → Rp.rep K H1 w (f i j) → tz D (σ.set k (some w)) H1) : tSeq (tAug k te (ipI f)) tz D σ H := by
  cases (show v = .int i from r)
  exact q_aug hσ h fun H1 e => q _ H1 e rfl
theorem s_ext {k : Nat} {l m : List α} (hσ : σ[k]? = some (some (.ref p))) (hu : Un K H p l) (h : ErL K te σ H m) (hz : l.length + m.length ≤ 1000000) (q : ∀ H2, Mu p H H2 → Un K H2 p (l ++ m) → D.nx σ H2) :
    tAug k te rExt2 D σ H := by
  obtain ⟨vs, hp, r⟩ := hu
  refine ⟨.ref p, hσ, h H (Same.refl _) _ fun b us H2 e2 hn h2 r2 => ?_⟩
  have hp2 := e2 _ _ hp
  refine ⟨p, b, vs, us, rfl, rfl, hp2, h2, ?_, ?_⟩
  · rw [paired_len r, paired_len r2]; exact Nat.le_trans hz (by decide)
  · have e : σ.set k (some (.ref p)) = σ := set_same' hσ
    show D.nx (σ.set k (some (.ref p))) _
    rw [e]
    exact q _ (mu_upd e2 hp) ⟨_, upd_same, RL.mono (SF.lst hp2) (paired_app (r.mono (SF.of e2)) r2)⟩
theorem q_ext {k : Nat} {l m : List α} (hσ : σ[k]? = some (some (.ref p))) (hu : Un K H p l) (h : ErL K te σ H m) (hz : l.length + m.length ≤ 1000000) (q : ∀ H2, Mu p H H2 → Un K H2 p (l ++ m) → tz D σ H2) :
    tSeq (tAug k te rExt2) tz D σ H := s_ext (D := { D with nx := tz D }) hσ hu h hz q
end
section
variable {K : Fg} {σ : L2.St} {H : Hp} {pd pn : Addr} {ta tb tc : TE} {α β : Type} [Rp α] [Rp β] {D : Ends} {tz : TS}
theorem q_parL {k m : Nat} {l : List α} {l' : List β} (h : ErL K ta σ H l) (h' : ErL K tb σ H l')
    (q : ∀ p p' vs vs' H1 H2, Same H H1 → Same H1 H2 → H p = none → H1 p' = none → H1 p = some (.lst vs) → RL K H1 vs l → H2 p' = some (.lst vs') → RL K H2 vs' l' → tz D ((σ.set k (some (.ref p))).set m (some (.ref p'))) H2) : tSeq (tPar k m (tCons ta (tCons tb tNil))) tz D σ H :=
  h H (Same.refl _) _ fun p vs H1 e hp h1 r => h' H1 e _ fun p' vs' H2 e2 hp' h2 r2 => ⟨.ref p, .ref p', rfl, q p p' vs vs' H1 H2 e e2 hp hp' h1 r h2 r2⟩
theorem q_unpL {k m : Nat} {l : List α} {l' : List β} (h : ErL K ta σ H l) (h' : ErL K tb σ H l')
    (q : ∀ p p' vs vs' H1 H2, Same H H1 → Same H1 H2 → H p = none → H1 p' = none → H1 p = some (.lst vs) → RL K H1 vs l → H2 p' = some (.lst vs') → RL K H2 vs' l' → tz D ((σ.set k (some (.ref p))).set m (some (.ref p'))) H2) : tSeq (tAsg (tTup (tCons ta (tCons tb tNil))) (gTup K 2 (gCons (gName k) (gCons (gName m) gNil)))) tz D σ H :=
  h H (Same.refl _) _ fun p vs H1 e hp h1 r => h' H1 e _ fun p' vs' H2 e2 hp' h2 r2 => ⟨by show 2 ≤ sizeLine; decide, fun t ht => ⟨t, _, rfl, sq_tup upd_same, rfl, .ref p, _, rfl, .ref p', _, rfl, rfl, q p p' vs vs' H1 _ e (e2.trans (same_new ht)) hp hp' h1 r ((same_new ht) _ _ h2) (r2.mono (SF.new ht))⟩⟩
theorem epl_lst3 {P : α → Prop} {P2 : α → α → Prop} {P3 : α → α → α → Prop} (ha : Ep K pd pn ta σ H P) (hb : ∀ x, P x → Ep K pd pn tb σ H (P2 x)) (hc : ∀ x y, P x → P2 x y → Ep K pd pn tc σ H (P3 x y)) : EpL K pd pn (tLst (tCons ta (tCons tb (tCons tc tNil)))) σ H (fun l => ∃ x y z, P x ∧ P2 x y ∧ P3 x y z ∧ l = [x, y, z]) := fun H1 m dr Q q =>
  ha H1 m dr _ fun v H2 x m2 dr2 hx r2 => hb x hx H2 (m.trans m2) dr2 _ fun u H3 y m3 dr3 hy r3 => hc x y hx hy H3 ((m.trans m2).trans m3) dr3 _ fun w H4 z m4 dr4 hz r4 => ⟨by show 3 ≤ sizeLine; decide, fun p hp =>
    q p _ _ [x, y, z] (((m2.trans m3).trans m4).trans (DM.of (same_new hp))) (dr4.mono (same_new hp)) ⟨x, y, z, hx, hy, hz, rfl⟩ (((m2.trans m3).trans m4).free dr hp dr4) upd_same (.cons (Rp.mono ((m3.sf.trans m4.sf).trans (SF.new hp)) r2) (.cons (Rp.mono (m4.sf.trans (SF.new hp)) r3) (.cons (Rp.mono (SF.new hp) r4) .nil)))⟩
end
section
variable {K : Fg} {σ : L2.St} {H : Hp} {ta tb tc td : TE} {α β γ δ ε : Type} [Rp α] [Rp β] [Rp γ] [Rp δ] [Rp ε] {x : α} {y : β} {z : γ} {w : δ}
def sp4 (K : Fg) (pre : α → β → γ → δ → Prop) (f : α → β → γ → δ → ε) : Sp := fun vs H Q _ => ∃ v0 v1 v2 v3 x0 x1 x2 x3, vs = [v0, v1, v2, v3] ∧ Rp.rep K H v0 x0 ∧ Rp.rep K H v1 x1 ∧ Rp.rep K H v2 x2 ∧ Rp.rep K H v3 x3 ∧ pre x0 x1 x2 x3 ∧ ansV K (f x0 x1 x2 x3) H Q
theorem er_call4 {pre : α → β → γ → δ → Prop} {f : α → β → γ → δ → ε} {E : XK} (h0 : Er K ta σ H x) (h1 : Er K tb σ H y) (h2 : Er K tc σ H z) (h3 : Er K td σ H w) (hp : pre x y z w) : Er K (tCall (sp4 K pre f) [] E (tCons ta (tCons tb (tCons tc (tCons td tNil))))) σ H (f x y z w) := fun H1 e Q q =>
  h0 H1 e _ fun v0 H2 e2 r0 => h1 H2 (e.trans e2) _ fun v1 H3 e3 r1 => h2 H3 ((e.trans e2).trans e3) _ fun v2 H4 e4 r2 => h3 H4 (((e.trans e2).trans e3).trans e4) _ fun v3 H5 e5 r3 =>
    ⟨v0, v1, v2, v3, x, y, z, w, rfl, Rp.mono (SF.of ((e3.trans e4).trans e5)) r0, Rp.mono (SF.of (e4.trans e5)) r1, Rp.mono (SF.of e5) r2, r3, hp, fun u H6 e6 r6 => q u H6 ((((e2.trans e3).trans e4).trans e5).trans e6) r6⟩
theorem len_sp4 {pre : α → β → γ → δ → Prop} {f : α → β → γ → δ → ε} : ∀ vs H Q E, sp4 K pre f vs H Q E → vs.length = 4 := fun vs H Q E h => by obtain ⟨_, _, _, _, _, _, _, _, rfl, _⟩ := h; rfl
end
theorem bi4 {x : Str} {a : Arguments} {b : List Stmt} {sc : Scope} {p q r t : Str} (h : ∀ (kV doc pm : Value) (an : Option Addr) (cdv ct u v w z : Value), bindArgs (PySem.W.fnOf x x a b sc .none kV doc pm an cdv ct) ⟨[u, v, w, z], []⟩ = pure [(p, u), (q, v), (r, w), (t, z)]) :
    ∀ (kV doc pm : Value) (an : Option Addr) (cdv ct : Value) (us : List Value), us.length = [p, q, r, t].length → bindArgs (PySem.W.fnOf x x a b sc .none kV doc pm an cdv ct) ⟨us, []⟩ = pure ([p, q, r, t].zip us)
  | kV, doc, pm, an, cdv, ct, [u, v, w, z], _ => h kV doc pm an cdv ct u v w z
theorem dead_eq {α : Type} [DecidableEq α] {a b : α} (h : a = b) : (!decide (a = b)) = false := by rw [decide_eq_true h]; rfl
theorem q_last {t : TS} {D : Ends} {σ : L2.St} {H : Hp} (h : tSeq t tNext D σ H) : t D σ H := h
theorem s_gn {k : Nat} {v : V} {σ : L2.St} {H : Hp} {Q : L2.St → Hp → Prop} (h : Q (σ.set k (some v)) H) : gName k v σ H Q := h
theorem s_nx {D : Ends} {σ : L2.St} {H : Hp} (h : D.nx σ H) : tNext D σ H := h
theorem s_nxz {tz : TS} {D : Ends} {σ : L2.St} {H : Hp} (h : tz D σ H) : tNext { D with nx := tz D } σ H := h
theorem Rp.cong {α : Type} [Rp α] {K : Fg} {H : Hp} {v : V} {x y : α} (h : Rp.rep K H v y) (e : x = y) : Rp.rep K H v x := by rw [e]; exact h
theorem find_none {α β : Type} {l : List α} {f : α → Option β} {k : Nat} {x : α} (hx : l[k]? = some x) (hs : (l.take k).findSome? f = none) (hn : f x = none) : (l.take (k + 1)).findSome? f = none := by
  rw [List.take_add_one, hx, List.findSome?_append, hs]; simp [hn]
theorem find_at {α β : Type} {l : List α} {f : α → Option β} {k : Nat} {x : α} {y : β} (hx : l[k]? = some x) (hs : (l.take k).findSome? f = none) (hn : f x = some y) : l.findSome? f = some y := by
  conv => lhs; rw [← List.take_append_drop (k + 1) l, List.take_add_one, hx]
  rw [List.findSome?_append, List.findSome?_append, hs]; simp [hn]
theorem find_all {α β : Type} {l : List α} {f : α → Option β} (hs : (l.take l.length).findSome? f = none) : l.findSome? f = none := by rw [List.take_length] at hs; exact hs
theorem ip_ext {X : Cx} : PIp X .Add rExt2 := fun pins s σ H x y v u Q I r1 r2 h => iop_ext pins s σ H x y v u Q I r1 r2 h
end BL

set_option Elab.async false
set_option linter.all false
set_option maxRecDepth 100000
set_option maxHeartbeats 2000000
namespace BL
open PySem PySem.Spec PyProof.Rows L2
theorem nff {b : Bool} (h : b = false) : ¬ (b = true) := by rw [h]; exact Bool.false_ne_true
theorem fold_grow {α β : Type} {f : List β → α → List β} {c : Nat} : ∀ {l : List α} {a : List β}, (∀ s x, x ∈ l → (f s x).length ≤ s.length + c) → (l.foldl f a).length ≤ a.length + c * l.length
  | [], a, _ => by simp
  | x :: l, a, h => by
    rw [List.foldl_cons, List.length_cons, Nat.mul_add]
    have h1 := h a x (List.mem_cons_self ..)
    have h2 := fold_grow (l := l) (a := f a x) fun s y hy => h s y (List.mem_cons_of_mem _ hy)
    omega
theorem fold_growE {α β : Type} {f : List β → α → List β} (c : Nat) {l : List α} {a s : List β} (hs : s = l.foldl f a) (h : ∀ s x, x ∈ l → (f s x).length ≤ s.length + c) : s.length ≤ a.length + c * l.length := by rw [hs]; exact fold_grow h
theorem fold_inv {α β : Type} {f : β → α → β} {P : β → Prop} : ∀ {l : List α} {a : β}, P a → (∀ s x, x ∈ l → P s → P (f s x)) → P (l.foldl f a)
  | [], _, h, _ => h
  | x :: l, a, h, hs => fold_inv (l := l) (hs a x (List.mem_cons_self ..) h) fun s y hy => hs s y (List.mem_cons_of_mem _ hy)
theorem fold_invE {α β : Type} {f : β → α → β} (P : β → Prop) {l : List α} {a s : β} (hs : s = l.foldl f a) (h : P a) (h2 : ∀ s x, x ∈ l → P s → P (f s x)) : P s := by rw [hs]; exact fold_inv h h2
theorem mapIf_le {α β : Type} {c : α → Bool} {f : α → β} {l : List α} : (mapIf c f l).length ≤ l.length := by unfold mapIf; rw [List.length_map]; exact List.length_filter_le _ _
theorem last_atD {α : Type} {l : List α} {d : α} (h : l ≠ []) : l.getLast? = some (l.getLastD d) := by
  rw [List.getLastD_eq_getLast?]
  cases e : l.getLast? with
  | none => exact absurd (List.getLast?_eq_none_iff.mp e) h
  | some x => rfl
theorem lastD_mem {α : Type} {l : List α} {d : α} (h : l ≠ []) : l.getLastD d ∈ l := List.mem_of_getLast? (last_atD h)
theorem mem_enumN {α : Type} [Rp α] {l : List α} {p : Nat × α} (h : p ∈ enumL l) : l[p.1]? = some p.2 ∧ p.1 < l.length := by
  obtain ⟨i, hi⟩ := List.getElem?_of_mem h
  obtain ⟨h1, h2⟩ := enumL_get hi
  rw [h2]
  exact ⟨h1, (List.getElem?_eq_some_iff.mp h1).1⟩
/-! ### pairs of numbers, sorted -/
/-- a pair of numbers in a tuple of its own -/
structure Pt where
  a : Int
  b : Int
instance : Rp Pt := ⟨fun _ H v p => ∃ t, v = .ref t ∧ H t = some (.tup [.int p.a, .int p.b]), fun {K H H' v p} e h => by
  obtain ⟨t, h1, h2⟩ := h; exact ⟨t, h1, e _ _ (.tup _) h2⟩⟩
def insP (x : Int × Int) : List (Int × Int) → List (Int × Int)
  | [] => [x]
  | y :: r => if SrtO.lexB y x = true then y :: insP x r else x :: y :: r
def srtP : List (Int × Int) → List (Int × Int)
  | [] => []
  | x :: r => insP x (srtP r)
theorem insP_perm (x : Int × Int) : ∀ l : List (Int × Int), (insP x l).Perm (x :: l)
  | [] => .refl _
  | y :: r => by
    unfold insP
    split
    · exact ((insP_perm x r).cons y).trans (.swap ..)
    · exact .refl _
theorem srtP_perm : ∀ l : List (Int × Int), (srtP l).Perm l
  | [] => .refl _
  | x :: r => (insP_perm x (srtP r)).trans ((srtP_perm r).cons x)
abbrev SoP (l : List (Int × Int)) : Prop := l.Pairwise fun x y => SrtO.lexB y x = false
theorem insP_sorted (x : Int × Int) : ∀ {l : List (Int × Int)}, SoP l → SoP (insP x l)
  | [], _ => List.pairwise_singleton _ _
  | y :: r, h => by
    obtain ⟨h1, h2⟩ := List.pairwise_cons.mp h
    unfold insP
    split
    · rename_i c
      refine List.pairwise_cons.mpr ⟨fun z hz => ?_, insP_sorted x h2⟩
      rcases List.mem_cons.mp ((insP_perm x r).mem_iff.mp hz) with e | hz
      · subst e
        have a := SrtO.lexB_iff.mp c
        exact SrtO.lexB_no.mpr (by omega)
      · exact h1 z hz
    · rename_i c
      refine List.pairwise_cons.mpr ⟨fun z hz => ?_, h⟩
      have c' : SrtO.lexB y x = false := by simpa using c
      rcases List.mem_cons.mp hz with e | hz
      · subst e; exact c'
      · have a := SrtO.lexB_no.mp c'
        have b := SrtO.lexB_no.mp (h1 z hz)
        exact SrtO.lexB_no.mpr (by omega)
theorem srtP_sorted : ∀ l : List (Int × Int), SoP (srtP l)
  | [] => .nil
  | x :: r => insP_sorted x (srtP_sorted r)
theorem soP_uniq : ∀ {l r : List (Int × Int)}, l.Perm r → SoP l → SoP r → l = r
  | [], r, h, _, _ => (List.Perm.nil_eq h)
  | x :: l, [], h, _, _ => absurd h.length_eq (by simp)
  | x :: l, y :: r, h, h1, h2 => by
    obtain ⟨a1, a2⟩ := List.pairwise_cons.mp h1
    obtain ⟨b1, b2⟩ := List.pairwise_cons.mp h2
    have e : x = y := by
      have m1 : x ∈ y :: r := h.mem_iff.mp (List.mem_cons_self ..)
      have m2 : y ∈ x :: l := h.mem_iff.mpr (List.mem_cons_self ..)
      rcases List.mem_cons.mp m1 with m | m
      · exact m
      · rcases List.mem_cons.mp m2 with n | n
        · exact n.symm
        · have p := SrtO.lexB_no.mp (a1 y n)
          have q := SrtO.lexB_no.mp (b1 x m)
          exact Prod.ext (by omega) (by omega)
    subst e
    rw [soP_uniq (List.Perm.cons_inv h) a2 b2]
def kP (H : Hp) (v : V) : Int × Int := match v with
  | .ref t => match H t with
    | some (.tup [.int i, .int j]) => (i, j)
    | _ => (0, 0)
  | _ => (0, 0)
theorem kP_at {H : Hp} {t : Addr} {i j : Int} (h : H t = some (.tup [.int i, .int j])) : kP H (.ref t) = (i, j) := by
  show (match H t with | some (.tup [.int i, .int j]) => (i, j) | _ => (0, 0)) = _
  rw [h]
section
variable {K : Fg} {σ : L2.St} {H H' H1 : Hp} {p : Addr} {ta tb tc te : TE} {tt : TT} {α β : Type} [Rp α] [Rp β] {x : α} {v u : V} {i j : Int} {b : Bool}
theorem er_ptup (h1 : Er K ta σ H i) (h2 : Er K tb σ H j) : Er K (tTup (tCons ta (tCons tb tNil))) σ H (Pt.mk i j) := fun H1 e Q q =>
  h1 H1 e _ fun v H2 e2 r2 => h2 H2 (e.trans e2) _ fun u H3 e3 r3 => ⟨by show 2 ≤ sizeLine; decide, fun p hp => by
    cases (show v = .int i from r2); cases (show u = .int j from r3)
    exact q (.ref p) _ ((e2.trans e3).trans (same_new hp)) ⟨p, rfl, upd_same⟩⟩
theorem pt_k : ∀ {vs : List V} {l : List Pt}, RL K H vs l → vs.map (kP H) = l.map fun p => (p.a, p.b)
  | _, _, .nil => rfl
  | _, _, .cons h r => by
    obtain ⟨t, rfl, ht⟩ := h
    rw [List.map_cons, List.map_cons, kP_at ht, pt_k r]
theorem pt_all : ∀ {vs : List V} {l : List Pt}, RL K H vs l → ∀ x ∈ vs, ∃ t, x = V.ref t ∧ H t = some (.tup [.int (kP H x).1, .int (kP H x).2])
  | _, _, .nil, _, h => by cases h
  | _, _, .cons h r, x, hx => by
    rcases List.mem_cons.mp hx with e | hx
    · subst e
      obtain ⟨t, rfl, ht⟩ := h
      exact ⟨t, rfl, by rw [kP_at ht]; exact ht⟩
    · exact pt_all r x hx
theorem rl_pt : ∀ {ys : List V}, (∀ x ∈ ys, ∃ t, x = V.ref t ∧ H t = some (.tup [.int (kP H x).1, .int (kP H x).2])) → RL K H ys (ys.map (kP H))
  | [], _ => .nil
  | y :: ys, h => .cons (by
      obtain ⟨t, e, ht⟩ := h y (List.mem_cons_self ..)
      exact ⟨t, _, _, e, sq_tup ht, rfl, rfl⟩) (rl_pt fun x hx => h x (List.mem_cons_of_mem _ hx))
theorem erl_sortedP {l : List Pt} (h : Er K ta σ H l) : ErL K (tCB (rSortedPO K) (tCons ta tNil)) σ H (srtP (l.map fun p => (p.a, p.b))) := erl_cb1 h fun H v r Q q => by
  obtain ⟨a, vs, rfl, h2, h3⟩ := r
  have ha := pt_all h3
  refine ⟨a, vs, kP H, rfl, h2.seq, ha, fun ys p hs hst hn => q p ys _ (same_new hn) hn upd_same ?_⟩
  have hy : ∀ x ∈ ys, ∃ t, x = V.ref t ∧ H t = some (.tup [.int (kP H x).1, .int (kP H x).2]) := fun x hx => ha x (hst.perm.mem_iff.mp hx)
  have e : srtP (l.map fun p => (p.a, p.b)) = ys.map (kP H) := by
    refine (soP_uniq ?_ ?_ (srtP_sorted _)).symm
    · exact ((hst.perm.map (kP H)).trans (by rw [pt_k h3])).trans (srtP_perm _).symm
    · exact List.pairwise_map.mpr hs
  rw [e]
  exact (rl_pt hy).mono (SF.new hn)
/-! ### lists not locked, read -/
theorem er_lastU {k : Nat} {l : List α} {x : α} (hσ : σ[k]? = some (some (.ref p))) (hu : Un K H p l) (hi : Er K tb σ H (-1 : Int)) (hx : l.getLast? = some x) : Er K (tOp (rIxL K) (tVar k) tb) σ H x := fun H1 e Q q => by
  obtain ⟨vs, hp, r⟩ := hu
  refine ⟨.ref p, hσ, hi H1 e _ fun u H2 e2 r2 => ?_⟩
  cases (show u = .int (-1) from r2)
  have hn : 0 < l.length := by cases l with
    | nil => cases hx
    | cons _ _ => exact Nat.succ_pos _
  rw [List.getLast?_eq_getElem?] at hx
  obtain ⟨w, hw, rw'⟩ := paired_get r hx
  have hl := paired_len r
  refine ⟨p, vs, -1, w, rfl, rfl, sq_lst ((e.trans e2) _ _ hp), ?_, q w H2 e2 (Rp.mono (SF.of (e.trans e2)) rw')⟩
  unfold atI ixN
  rw [if_neg (by decide), if_pos (by omega)]
  show vs[((-1 : Int) + (vs.length : Int)).toNat]? = some w
  rw [show ((-1 : Int) + (vs.length : Int)).toNat = l.length - 1 by omega]
  exact hw
theorem un_dp [Rq α] {l : List α} (h : Un K H p l) : Dp K H (.ref p) (.list (l.map Rq.toD)) := by
  obtain ⟨vs, h1, r⟩ := h
  exact .lst (sq_lst h1) (dp_all r)
theorem er_eqU {k : Nat} [Rq α] [Rt α] [DecidableEq α] {l m : List α} (hσ : σ[k]? = some (some (.ref p))) (hu : Un K H p l) (h : Er K tb σ H m) (hd : Rq.dep (List α) ≤ 64 := by decide) : Er K (tOp (rEqD K) (tVar k) tb) σ H (decide (l = m)) := fun H1 e Q q =>
  ⟨.ref p, hσ, h H1 e _ fun u H2 e2 r2 => ⟨_, _, un_dp (Un.mono (e.trans e2) hu), Rq.dp r2, shaped_of (α := List α) (Rt.all l) hd, shaped_of (α := List α) (Rt.all m) hd, by rw [show PyData.list (l.map Rq.toD) = Rq.toD l from rfl, eqv_dec]; exact q _ H2 e2 rfl⟩⟩
theorem src_range1I (h : Er K te σ H i) (hz : -1000000 ≤ i ∧ i ≤ 1000000) : Src K (iRng1 (tCons te tNil)) σ H (List.range i.toNat) := fun H1 e RR k => h H1 e _ fun v H2 e2 r => by
  cases (show v = .int i from r)
  refine ⟨i, rfl, by omega, by omega, k _ H2 (fun _ => True) (YFn fun j => .int (0 + j)) e2 ?_ (fun _ _ => trivial) fun j x hx H' s v H'' y => ?_⟩
  · rw [List.length_range]; exact walk_range
  · obtain ⟨rfl, rfl⟩ := y
    have hi : j < i.toNat := by
      have := (List.getElem?_eq_some_iff.mp hx).1
      rwa [List.length_range] at this
    rw [List.getElem?_range hi] at hx
    cases hx
    exact ⟨Same.refl _, by show V.int _ = V.int _; rw [Int.zero_add]⟩
/-! ### len(set(numbers)) -/
theorem er_lenSet {l : List Int} (h : Er K ta σ H l) (hn : l.Nodup) (hl : l.length < 64) : Er K (tLenSetI K ta) σ H l.length := fun H1 e Q q => h H1 e _ fun v H2 e2 r => by
  obtain ⟨a, vs, rfl, f, r⟩ := r
  have h2 := rl_ints r
  subst h2
  exact ⟨a, l, rfl, f.seq, hl, hn, q _ H2 e2 rfl⟩
/-! ### while, with what falls -/
variable {D : Ends} {tu tz : TS}
theorem s_whileN (Pv : Nat → L2.St → Hp → Prop) (n : Nat) (h0 : Pv n σ H)
    (hs : ∀ m σ' H', Pv m σ' H' → ∃ b, Et K tt σ' H' b ∧ (b = true → ∀ H1, Same H' H1 → tu { D with nx := fun σ2 H2 => ∃ m', m' < m ∧ Pv m' σ2 H2, ct := fun σ2 H2 => ∃ m', m' < m ∧ Pv m' σ2 H2, bk := D.nx } σ' H1) ∧ (b = false → ∀ H1, Same H' H1 → D.nx σ' H1)) : tWhile tt tu D σ H := by
  refine ⟨Pv, ⟨n, h0⟩, ?_⟩
  rintro m σ' H' p
  obtain ⟨b, hb, h1, h2⟩ := hs m σ' H' p
  refine hb H' (Same.refl _) _ fun H2 e => ?_
  cases b with
  | true => exact ⟨_, fun σ2 H2 ⟨m', l, p'⟩ => ⟨m', l, p'⟩, h1 rfl H2 e⟩
  | false => exact h2 rfl H2 e
theorem q_whileN (Pv : Nat → L2.St → Hp → Prop) (n : Nat) (h0 : Pv n σ H)
    (hs : ∀ m σ' H', Pv m σ' H' → ∃ b, Et K tt σ' H' b ∧ (b = true → ∀ H1, Same H' H1 → tu { D with nx := fun σ2 H2 => ∃ m', m' < m ∧ Pv m' σ2 H2, ct := fun σ2 H2 => ∃ m', m' < m ∧ Pv m' σ2 H2, bk := tz D } σ' H1) ∧ (b = false → ∀ H1, Same H' H1 → tz D σ' H1)) : tSeq (tWhile tt tu) tz D σ H :=
  s_whileN (D := { D with nx := tz D }) Pv n h0 hs
end
section
variable {X : Cx} (K : Fg) (h : X.K = K)
include h
theorem k_sortedP : CallR X (.builtin "sorted") (rSortedPO K) := by subst h; exact cr_sortedPO
theorem k_lenSet {a : Expr} {ta : TE} {p p2 q pos : Pos} (hc : X.calm = true) (hg : Gl X "len") (hm : X.mg "len" = none) (hg2 : Gl X "set") (hm2 : X.mg "set" = none) (ha : PE X a ta)
    (na : starEach [a] X.env = (false, eval a X.env) :: starEach [] X.env := by rfl) : PE X (.Call (.Name "len" p) [.Call (.Name "set" p2) [a] [] q] [] pos) (tLenSetI K ta) := by subst h; exact pe_lenSetI hc hg hm hg2 hm2 ha na
end
end BL

set_option Elab.async false
set_option linter.all false
set_option maxRecDepth 100000
set_option maxHeartbeats 2000000
namespace BL
open PySem PySem.Spec PyProof.Rows L2
section
variable {K : Fg} {σ : L2.St} {H H' H1 : Hp} {pd pn : Addr} {ta tb tc te : TE} {tt : TT} {α β γ δ : Type} [Rp α] [Rp β] [Rp γ] [Rp δ] {x : α} {v u : V} {i j : Int} {b : Bool} {wi : TI} {g : TG}
/-! ### a comprehension that draws -/
theorem epl_lm {l : List α} {vs : List Nat} {P : α → β → Prop} (hs : ∀ H1, DM pd pn H H1 → Src K wi σ H1 l) (hz : l.length ≤ 1000000)
    (turn : ∀ x, x ∈ l → ∀ v H1, DM pd pn H H1 → Rp.rep K H1 v x → ∃ σ2, (∀ Q : L2.St → Hp → Prop, Q σ2 H1 → g v (wipe σ vs) H1 Q) ∧ wipe σ2 vs = wipe σ vs ∧ Ep K pd pn te σ2 H1 (P x)) :
    EpL K pd pn (tLc wi g tYes te vs) σ H (fun out => Paired P l out) := fun H1 m dr Q q => hs H1 m H1 (Same.refl _) _ fun J H2 G Y e2 w hG hY D hD => by
  have d2 := dr.mono e2
  have n1 : D ≠ pd := (d2.pd_ne hD).symm
  have n2 : D ≠ pn := (d2.pn_ne hD).symm
  refine lc_it w (fun k H' => DM pd pn H2 H' ∧ Dr H' pd pn ∧ ∃ us out, H' D = some (.lst us) ∧ RL K H' us out ∧ Paired P (l.take k) out) ⟨DM.of (same_new hD), d2.mono (same_new hD), [], [], upd_same, .nil, .nil⟩ (fun k H' _ p => hG H' p.1.sf) (fun k v H' H'' hk p y => ?_) fun H' p => ?_
  · obtain ⟨p1, p2, us, out, p3, p4, p5⟩ := p
    have hx : l[k]? = some l[k] := List.getElem?_eq_getElem hk
    obtain ⟨s, r⟩ := hY k _ hx H' p1.sf v H'' y
    obtain ⟨σ2, hg, hw, he⟩ := turn l[k] (List.mem_of_getElem? hx) v H'' (m.trans ((DM.of e2).trans (p1.trans (DM.of s)))) r
    refine hg _ ⟨hw, et_yes (K := K) H'' (Same.refl _) _ fun H3 e3 => iteT ?_⟩
    refine he H3 (DM.of e3) ((p2.mono s).mono e3) _ fun w' H4 z m4 d4 hz4 r4 => ?_
    have hD3 : H3 D = some (.lst us) := (s.trans e3) _ _ p3
    have hD4 : H4 D = some (.lst us) := m4.ne _ _ n1 n2 hD3
    have htake : l.take (k + 1) = l.take k ++ [l[k]] := by rw [List.take_add_one, hx]; rfl
    have hlen : us.length ≤ l.length := by
      rw [paired_len p4, ← paired_len p5, List.length_take]; exact Nat.min_le_right _ _
    have mm : DM pd pn H2 H4 := p1.trans ((DM.of (s.trans e3)).trans m4)
    refine ⟨us, hD4, Nat.lt_of_le_of_lt (Nat.le_trans hlen hz) (by decide), ⟨sf_mut mm.sf hD, fun q o a b e => by rw [upd_ne (ne_of_none e hD)]; exact mm.ne q o a b e⟩, ?_, us ++ [w'], out ++ [z], upd_same, ?_, ?_⟩
    · obtain ⟨ns, kk, g1, g2, g3⟩ := d4
      exact ⟨ns, kk, upd_get g1 n1.symm, upd_get g2 n2.symm, g3⟩
    · exact RL.mono (SF.lst hD4) (paired_app (p4.mono ((SF.of (s.trans e3)).trans m4.sf)) (.cons r4 .nil))
    · rw [htake]; exact paired_app p5 (.cons hz4 .nil)
  · obtain ⟨p1, p2, us, out, p3, p4, p5⟩ := p
    rw [List.take_length] at p5
    exact q D us H' out ((DM.of e2).trans p1) p2 p5 (e2.free hD) p3 p4
theorem epl_lm1 {l : List α} {vs : List Nat} {k : Nat} {P : α → β → Prop} (hs : ∀ H1, DM pd pn H H1 → Src K wi σ H1 l) (hz : l.length ≤ 1000000) (hw : ∀ v : V, wipe ((wipe σ vs).set k (some v)) vs = wipe σ vs)
    (turn : ∀ x, x ∈ l → ∀ v H1, DM pd pn H H1 → Rp.rep K H1 v x → Ep K pd pn te ((wipe σ vs).set k (some v)) H1 (P x)) :
    EpL K pd pn (tLc wi (gName k) tYes te vs) σ H (fun out => Paired P l out) := epl_lm hs hz fun x hx v H1 e r => ⟨_, fun Q q => q, hw v, turn x hx v H1 e r⟩
theorem DM.mu_new {p : Addr} {H2 : Hp} (m : DM pd pn H H1) (h : H p = none) (mu : Mu p H1 H2) : DM pd pn H H2 := ⟨m.sf.trans mu.sf, fun q o a b e => mu.ne q o (ne_of_none e h) (m.ne q o a b e)⟩
theorem q_setLP {D : Ends} {tz : TS} {k : Nat} {P : List α → Prop} (dr : Dr H pd pn) (h : EpL K pd pn te σ H P) (q : ∀ v H1 l, DM pd pn H H1 → Dr H1 pd pn → P l → Rp.rep K H1 v l → tz D (σ.set k (some v)) H1)
    (hσ : ∀ p : Addr, (σ.set k (some (.ref p)))[k]? = some (some (.ref p)) := by intros; rfl) : tSeq (tAsg te (gName k)) (tFzS k tz) D σ H := h H (DM.refl _) dr _ fun p vs H1 l m d hP hn h1 r =>
  q_frz (hσ p) (Un.of h1 r) fun H2 mu r2 => q (.ref p) H2 l (m.mu_new hn mu) (d.of_mu mu (dr.pd_ne hn) (dr.pn_ne hn)) hP r2
/-! ### a number in a pair -/
theorem rr_inP {n : Bool} {p : Int × Int} : R2r K (rIn K n) i p (neg n (decide (i ∈ [p.1, p.2]))) := fun H v u e1 e2 Q q => by
  obtain ⟨a, v1, v2, rfl, h2, h3, h4⟩ := e2
  cases (show v = .int i from e1)
  cases (show v1 = .int p.1 from h3)
  cases (show v2 = .int p.2 from h4)
  exact ⟨a, _, rfl, .inr h2, rfl, flat_ints [p.1, p.2], by rw [show [V.int p.1, V.int p.2] = [p.1, p.2].map V.int from rfl, inV_int]; exact q _ H (Same.refl _) (by cases n <;> rfl)⟩
/-! ### a part of the law that is handed the draws: it answers True -/
def ansT (pd pn : Addr) (H : Hp) (Q : VK) : Prop := ∀ H', DM pd pn H H' → Dr H' pd pn → Q (.bl true) H'
def st1 (K : Fg) (pre : α → Prop) : Sp := fun vs H Q _ => ∃ pd pn v0 x0, vs = [.ref pd, v0] ∧ Dr H pd pn ∧ Rp.rep K H v0 x0 ∧ pre x0 ∧ ansT pd pn H Q
def st2 (K : Fg) (pre : α → β → Prop) : Sp := fun vs H Q _ => ∃ pd pn v0 v1 x0 x1, vs = [.ref pd, v0, v1] ∧ Dr H pd pn ∧ Rp.rep K H v0 x0 ∧ Rp.rep K H v1 x1 ∧ pre x0 x1 ∧ ansT pd pn H Q
def st3 (K : Fg) (pre : α → β → γ → Prop) : Sp := fun vs H Q _ => ∃ pd pn v0 v1 v2 x0 x1 x2, vs = [.ref pd, v0, v1, v2] ∧ Dr H pd pn ∧ Rp.rep K H v0 x0 ∧ Rp.rep K H v1 x1 ∧ Rp.rep K H v2 x2 ∧ pre x0 x1 x2 ∧ ansT pd pn H Q
theorem s_trueD {D : Ends} (h : Er K te σ H b) (hb : b = true) (hQ : ∀ H', Same H H' → D.rt (.bl true) H') : tRet te D σ H := h H (Same.refl _) _ fun v H1 e r => by
  cases (show v = .bl b from r); rw [hb]; exact hQ H1 e
/-- return part(draws, ..): True, too -/
theorem s_ret_st3 {D : Ends} {E : XK} {pre : α → β → γ → Prop} {x : α} {y : β} {z : γ} {k : Nat} (hσ : σ[k]? = some (some (.ref pd))) (dr : Dr H pd pn) (h1 : Er K ta σ H x) (h2 : Er K tb σ H y) (h3 : Er K tc σ H z) (hp : pre x y z) (hQ : ∀ H', DM pd pn H H' → Dr H' pd pn → D.rt (.bl true) H') :
    tRet (tCall (st3 K pre) [] E (tCons (tVar k) (tCons ta (tCons tb (tCons tc tNil))))) D σ H :=
  ⟨.ref pd, hσ, h1 H (Same.refl _) _ fun v0 H1 e1 r0 => h2 H1 e1 _ fun v1 H2 e2 r1 => h3 H2 (e1.trans e2) _ fun v2 H3 e3 r2 =>
    ⟨pd, pn, v0, v1, v2, x, y, z, rfl, dr.mono ((e1.trans e2).trans e3), Rp.mono (SF.of (e2.trans e3)) r0, Rp.mono (SF.of e3) r1, r2, hp, fun H' m d => hQ H' ((DM.of ((e1.trans e2).trans e3)).trans m) d⟩⟩
theorem len_st3 {pre : α → β → γ → Prop} : ∀ vs H Q E, st3 K pre vs H Q E → vs.length = 4 := fun vs H Q E h => by obtain ⟨_, _, _, _, _, _, _, _, rfl, _⟩ := h; rfl
theorem len_st2 {pre : α → β → Prop} : ∀ vs H Q E, st2 K pre vs H Q E → vs.length = 3 := fun vs H Q E h => by obtain ⟨_, _, _, _, _, _, rfl, _⟩ := h; rfl
theorem len_st1 {pre : α → Prop} : ∀ vs H Q E, st1 K pre vs H Q E → vs.length = 2 := fun vs H Q E h => by obtain ⟨_, _, _, _, rfl, _⟩ := h; rfl
end
end BL

set_option Elab.async false
set_option linter.all false
set_option maxRecDepth 100000
set_option maxHeartbeats 2000000
namespace BL
open PySem PySem.Spec PyProof.Rows L2
/-! ### a caught error that outlives its suite: told by its class alone -/
def ExT (cls : Value) (a : Addr) : HO := .ext fun h => ∃ (oe : Obj) (vs : Array Value), h.get? a = some oe ∧ Zc cls none oe ∧ oe.data = .fields vs
theorem exT_ok {P : Program} {w : World} {H : Hp} {h : Heap} {a : Addr} {cls : Value} {oe : Obj} (e : h.get? a = some oe) (z : Zc cls none oe) (d : ∃ vs, oe.data = .fields vs) : ObjOk P w H h a (ExT cls a) :=
  ⟨by obtain ⟨vs, d⟩ := d; exact ⟨oe, vs, e, z, d⟩, ⟨oe, e⟩, fun _ _ ⟨o, v, q1, q2, q3⟩ up => ⟨o, v, up o q1, q2, q3⟩⟩
section
variable {X : Cx} {pins : List (Addr × Obj)} {σ : L2.St} {H : Hp} {s : Shared}
/-- a pinned thing that is new since the entry is tracked from here on -/
theorem inv_track {a : Addr} {o : Obj} {u : HO} (I : Inv X ((a, o) :: pins) σ H s) (new0 : X.s_0.heap.get? a = none) (apart : ∀ p ∈ X.pn ++ pins, p.1 ≠ a) (ok : ObjOk X.prog X.w (upd H a u) s.heap a u) : Inv X pins σ (upd H a u) s := by
  have sub : ∀ p ∈ X.pn ++ pins, p ∈ X.pn ++ (a, o) :: pins := fun p hp => by
    rcases List.mem_append.mp hp with h | h
    · exact List.mem_append_left _ h
    · exact List.mem_append_right _ (List.mem_cons_of_mem _ h)
  obtain ⟨ea, na, nL, nF, nc⟩ := I.pin (a, o) (List.mem_append_right _ List.mem_cons_self)
  have cne : ∀ x c, X.env.cells.lookup x = some c → c ≠ a := fun x c e z => by
    obtain ⟨v, q, q1, q2⟩ := I.cell x c e
    rw [z, ea] at q1
    cases q1
    exact nc _ q2
  have B := I.base
  refine ⟨I.ok, I.os, I.bare, ⟨B.keep, B.slot, ?_, B.there, ?_, ?_, ?_⟩, I.loc, I.cell, ?_, ?_, ?_, I.hok.laidN (fun _ _ q => q) na ok, I.len⟩
  · intro b q e n hx
    rw [upd_ne (by rintro rfl; rw [new0] at e; cases e)]
    exact B.free b q e n hx
  · intro b xs e
    have q := B.tups b xs e
    rw [upd_ne (ne_of_none q na)]; exact q
  · intro b z v e
    have q := B.frzs b z v e
    rw [upd_ne (ne_of_none q na)]; exact q
  · intro b ps e
    obtain ⟨m, q⟩ := B.tbls b ps e
    exact ⟨m, by rw [upd_ne (ne_of_none q na)]; exact q⟩
  · rw [upd_ne nL.symm]; exact I.free
  · intro x c e
    rw [upd_ne (cne x c e)]; exact I.freeC x c e
  · intro p hp
    obtain ⟨q1, q2, q3⟩ := I.pin p (sub p hp)
    exact ⟨q1, by rw [upd_ne (apart p hp)]; exact q2, q3⟩
/-- the suite's pin is kept while the suite is left -/
theorem inv_leave {a : Addr} {o : Obj} {p' : List (Addr × Obj)} (I : Inv (X.suite a ((a, o) :: (X.pn ++ pins))) p' σ H s) (ok : X.Ok) : Inv X ((a, o) :: pins) σ H s :=
  { ok := ok, os := I.os, bare := I.bare, base := I.base, loc := I.loc, cell := I.cell, free := I.free, freeC := I.freeC, hok := I.hok, len := I.len
    pin := fun p hp => I.pin p (List.mem_append_left _ (by
      rcases List.mem_append.mp hp with h | h
      · exact List.mem_cons_of_mem _ (List.mem_append_left _ h)
      · rcases List.mem_cons.mp h with h | h
        · rw [h]; exact List.mem_cons_self
        · exact List.mem_cons_of_mem _ (List.mem_append_right _ h))) }
end
/-- what 'except x as n' wishes when the error stays known behind the suite; the clause names a class that every error here has -/
def wKept (K : Fg) (c : Value) (i : Nat) (ts : Addr → Value → TS) (D : Ends) : WX := fun cls d σ H =>
  d = none ∧ PySem.W.exmOne K cls c = some true ∧ ∀ a, H a = none → ts a cls { nx := fun σ' H' => H' a = none → D.nx (σ'.set i none) (upd H' a (ExT cls a)), rt := fun _ _ => False, bk := fun _ _ => False, ct := fun _ _ => False } (σ.set i (some (.ref a))) H
def tTryK (K : Fg) (c : Value) (i : Nat) (ts : Addr → Value → TS) (tb : WX → TS) : TS := fun D σ H => tb (wKept K c i ts D) D σ H
section
variable {X : Cx} {x n : Str} {c : Value} {i : Nat} {body suite : List Stmt} {b0 : Stmt} {np pos pos' : Pos} {tb : WX → TS} {ts : Addr → Value → TS}
theorem ps_try_kept (hst : X.stack = X.env :: X.outer) (hfl : X.env.frame = some X.env.locals) (hN : X.N.Nodup) (hi : X.N[i]? = some n) (hk : X.env.kindOf n = some .local) (hc : Names X x c) (hex : X.ex = [])
    (hb : ∀ (W : WX) (pn : List (Addr × Obj)) (xe : Value → Shared → Prop), Takes (X.tr pn xe) W → PassesOwn (model X.prog X.w) X.A X.env xe → PSs (X.tr pn xe) body (tb W))
    (hsu : ∀ (a : Addr) (oe : Obj) (cls : Value) (pn : List (Addr × Obj)), Zc cls none oe → PSs (X.suite a ((a, oe) :: pn)) (b0 :: suite) (ts a cls)) :
    PS X (.Try body [.ExceptHandler (some (.Name x np)) (some n) (b0 :: suite) pos'] [] [] pos) (tTryK X.K c i ts tb) := by
  constructor
  intro pins s σ H D I reading
  have OK := I.ok
  have around : X.A.frames = some (X.env :: X.outer) := OK.frames.trans (congrArg some hst)
  refine wpAny_Try_except (wpAny_mono (PSs.run (hb (wKept X.K c i ts D) (X.pn ++ pins) (fun e s1 => wpAny (model X.prog X.w) X.A (noteFrame e X.env)
      (fun _ s2 => wpAny (model X.prog X.w) X.A (setFlight e none) (fun _ s3 => wpAny (model X.prog X.w) X.A (handleBy e X.env [.ExceptHandler (some (.Name x np)) (some n) (b0 :: suite) pos'])
        (SP X pins D) X.xe s3) X.xe s2) X.xe s1) ?_ PassesOwn.looking) [] s σ H D (I.toTry _) reading) ?_ fun _ _ he => he)
  · rintro u s' ⟨a, B, g, pins', σ', H', cls, d, rfl, J', nb, up, sky, na, os, ag, hd0, hm, hsuite⟩
    subst hd0
    have J : Inv X pins σ' H' g := J'.ofTry OK
    show wpAny (model X.prog X.w) X.A (noteFrame (.ref a) X.env) _ _ _
    refine Sky.land Zc.steady around hfl (hst ▸ sky) fun h1 f1 u1 => ?_
    have J1 : Inv X pins σ' H' { s' with heap := h1 } := J.landed nb f1.1 (up.trans u1) os ag
    obtain ⟨o1, v1, e1, z1, d1⟩ := f1.there
    have away : a ∉ frs (X.env :: X.outer) := fun hm => by
      obtain ⟨_, o', q1, q2⟩ := f1.2.2.1.mem hm
      rw [e1] at q1
      cases q1
      exact q2 _ d1
    have nL : a ≠ X.env.locals := fun z => away (List.mem_filterMap.mpr ⟨_, List.mem_cons_self, hfl.trans (congrArg some z.symm)⟩)
    have nF : a ∉ X.fs := fun hm => by
      obtain ⟨q, q1, q2⟩ := List.mem_filterMap.mp hm
      exact away (List.mem_filterMap.mpr ⟨q, List.mem_cons_of_mem _ q1, q2⟩)
    have newG : g.heap.get? a = none := by
      cases q : g.heap.get? a with
      | none => rfl
      | some o => have := nb a o q (hst ▸ away); rw [f1.2.1] at this; cases this
    have new0 : X.s_0.heap.get? a = none := by
      cases q : X.s_0.heap.get? a with
      | none => rfl
      | some o =>
        obtain ⟨o', q'⟩ := J.base.there a o q (by rw [hex]; exact List.not_mem_nil)
        rw [newG] at q'; cases q'
    have apart : ∀ p ∈ X.pn ++ pins, p.1 ≠ a := fun p hp z => by
      have q := (J.pin p hp).1
      rw [z, newG] at q; cases q
    refine wpAny_handleBy_cons (codeAny_handlers_test ?_) (by intro q; cases q)
    have look : PySem.W.Looks (model X.prog X.w) h1 (typeOf (.ref a)) cls := fun A Q E s k q => wpAny_typeOf_ref (k _ _ e1) (by rw [z1.1]; exact q)
    have hit := PySem.W.exm_one (M := model X.prog X.w) J1.kIn look hm
    have S1 := J1.suite e1 d1 na nL nF
    have named : ∀ {Q : Value → Shared → Prop} {E : Value → Shared → Prop}, Q c { s' with heap := h1 } → wpAny (model X.prog X.w) (X.A.mark (some (.ref a))) (eval (.Name x np) X.env) Q E { s' with heap := h1 } := fun {Q E} q => by
      obtain ⟨g1, g2, g3 | ⟨g3, g4, g5⟩⟩ := hc
      · exact ld_glob (X := X.suite a ((a, o1) :: (X.pn ++ pins))) S1 g1 g3 q g2
      · exact ld_blt (X := X.suite a ((a, o1) :: (X.pn ++ pins))) S1 g1 g3 g4 q g5 g2
    refine named (hit.here (codeAny_handlers_suite_as ?_))
    refine HandSPX.lands_againZ f1 fun h2 f2 u2 => ?_
    obtain ⟨o2, v2, e2, z2, d2⟩ := f2.there
    have S2 := (J.landed nb f2.1 ((up.trans u1).trans u2) os ag : Inv X pins σ' H' { s' with heap := h2 }).suite e2 d2 na nL nF
    refine store_ok (X := X.suite a ((a, o2) :: (X.pn ++ pins))) (v := .ref a) S2 hN hi (.inl hk) rfl (fun s5 S5 => ?_) (.inr hk)
    refine wpAny_mono ((hsu a o2 cls (X.pn ++ pins) z2).run [] s5 _ H' _ S5 (hsuite a na)) (fun f s6 hsp => ?_) (fun _ _ z => z.elim)
    cases f with
    | next =>
      obtain ⟨σ6, H6, S6, q6⟩ := hsp
      have q7 := q6 (S6.pin (a, o2) (List.mem_append_left _ List.mem_cons_self)).2.1
      refine gone_ok (inv_leave S6 OK) hN hi hk fun s7 J7 => ⟨_, _, inv_track J7 new0 apart (exT_ok (J7.pin (a, o2) (List.mem_append_right _ List.mem_cons_self)).1 z2 ⟨_, d2⟩), q7⟩
    | brk => obtain ⟨_, _, _, q6⟩ := hsp; exact q6.elim
    | cont => obtain ⟨_, _, _, q6⟩ := hsp; exact q6.elim
    | ret u => obtain ⟨_, _, _, _, _, q6⟩ := hsp; exact q6.elim
  · intro f s1 hsp
    cases f with
    | next => obtain ⟨σ', H', J', q⟩ := hsp; exact wpAny_execs_nil ⟨σ', H', J'.ofTry OK, q⟩
    | brk => obtain ⟨σ', H', J', q⟩ := hsp; exact ⟨σ', H', J'.ofTry OK, q⟩
    | cont => obtain ⟨σ', H', J', q⟩ := hsp; exact ⟨σ', H', J'.ofTry OK, q⟩
    | ret u => obtain ⟨v, σ', H', J', r, q⟩ := hsp; exact ⟨v, σ', H', J'.ofTry OK, r, q⟩
end
/-! ### isinstance of an error that is held -/
def rIsX (K : Fg) : List V → Hp → VK → Prop := fun xs H Q => ∃ (a D : Addr) (c : V) (cv : Value) (b : Bool), xs = [.ref a, c] ∧ H a = some (ExT (.ref D) a) ∧ ExcC K D ∧ (∀ u, RelV c u → u = cv) ∧ PySem.W.kitOne K (.ref D) cv = some b ∧ Q (.bl b) H
theorem call_isX {X : Cx} : CallR X (.builtin "isinstance") (rIsX X.K) := by
  rintro pins s σ H xs us Q I r ⟨a, D, c, cv, b, rfl, ha, C, hcv, e, q⟩
  cases r with
  | cons r1 r2 =>
    cases r2 with
    | cons r3 r4 =>
      cases r4
      cases r1
      rw [hcv _ r3]
      obtain ⟨⟨oe, vs, h1, h2, h3⟩, _, _⟩ := I.hok a _ ha
      have J : PySem.W.InstAt s.heap a oe D none := by
        obtain ⟨oc, od, oda, osl⟩ := oe
        obtain ⟨z1, z2⟩ := h2
        dsimp only at z1 z2 h3
        subst z1 z2 h3
        exact ⟨h1, rfl, rfl, trivial⟩
      exact PySem.W.kia_one (PySem.W.handS_kitx_exc C.hg C.hk C.hs C.hd C.ha C.hn C.ht C.hm) I.kIn J e (fun z => nomatch z) fun tk => ⟨.bl b, H, I.kept (t' := tk) fun _ _ z => z, rfl, q⟩
/-! ### the program's errors, by their names -/
def errs : List Str := ["BadBounds", "BadNumber", "BadOrder", "BadText", "NotFound"]
def erC (K : Fg) (c : Str) : Value := .ref (He.ga K c)
def vmro : List Value := [.type "ValueError", .type "Exception", .type "BaseException", .type "object"]
structure ErrOk (K : Fg) (mg : Str → Option Value) (c : Str) : Prop where
  g : mg c = some (erC K c)
  x : PySem.W.excIn K (He.ga K c) vmro "ValueError.__new__" = true
  kp : PySem.W.keepIn K (erC K c) = true
  sb : PySem.W.subIn K (erC K c) (.type "BaseException") = some true
  tp : PySem.W.typeIn K (erC K c) = some (.type "type")
  ex : PySem.W.exmOne K (erC K c) (erC K "BoundError") = some true
  ec : ExcC K (He.ga K c)
  ks : ∀ d ∈ errs, PySem.W.kitOne K (erC K c) (erC K d) = some (decide (c = d))
  kb : PySem.W.kitOne K (erC K c) (erC K "BoundError") = some true
  kv : PySem.W.kitOne K (erC K c) (.type "ValueError") = some true
/-- the same, to be reckoned -/
def errB (K : Fg) (c : Str) : Bool := PySem.W.excIn K (He.ga K c) vmro "ValueError.__new__" && (PySem.W.keepIn K (erC K c) && (decide (PySem.W.subIn K (erC K c) (.type "BaseException") = some true) && (decide (PySem.W.typeIn K (erC K c) = some (.type "type")) &&
  (decide (PySem.W.exmOne K (erC K c) (erC K "BoundError") = some true) && (decide (PySem.W.findIn K (erC K c) "__getattribute__" = some (some (.builtin "BaseException.__getattribute__"))) && (decide (PySem.W.findIn K (erC K c) "__getattr__" = some none) && (PySem.W.hasDictIn K (He.ga K c) &&
  (decide (PySem.W.findIn K (erC K c) "__class__" = some (some (.builtin "object.__class__"))) && (decide (PySem.W.specialIn K (.builtin "object.__class__") "__get__" = some (some (.builtin "getset_descriptor.__get__"))) && (decide (PySem.W.takesIn K (.builtin "object.__class__") = some true) && (decide (PySem.W.mroIn K (He.ga K c) (.type "object") = some true) &&
  (errs.all (fun d => decide (PySem.W.kitOne K (erC K c) (erC K d) = some (decide (c = d)))) && (decide (PySem.W.kitOne K (erC K c) (erC K "BoundError") = some true) && decide (PySem.W.kitOne K (erC K c) (.type "ValueError") = some true))))))))))))))
theorem errB_ok {K : Fg} {mg : Str → Option Value} {c : Str} (g : mg c = some (erC K c)) (h : errB K c = true) : ErrOk K mg c := by
  unfold errB at h
  simp only [Bool.and_eq_true, decide_eq_true_eq, List.all_eq_true] at h
  obtain ⟨h1, h2, h3, h4, h5, h6, h7, h8, h9, h10, h11, h12, h13, h14, h15⟩ := h
  exact ⟨g, h1, h2, h3, h4, h5, ⟨h6, h7, h3, h8, h9, h10, h11, h12⟩, h13, h14, h15⟩
structure Errs (K : Fg) (mg : Str → Option Value) : Prop where
  e : ∀ c ∈ errs, ErrOk K mg c
  b : mg "BoundError" = some (erC K "BoundError")
/-- an error that is held, by its name -/
structure Xn where
  n : Str
  deriving DecidableEq
instance : Rp Xn := ⟨fun K H v x => ∃ a, v = .ref a ∧ H a = some (ExT (erC K x.n) a), fun {K H H' v x} e h => by
  obtain ⟨a, h1, h2⟩ := h; exact ⟨a, h1, e _ _ (.ext _) h2⟩⟩
instance : Nn Xn := ⟨fun h => by obtain ⟨_, rfl, _⟩ := h; exact V.noConfusion⟩
section
variable {K : Fg} {mg : Str → Option Value} {σ : L2.St} {H H' H1 : Hp} {ta tb tc te : TE} {tt : TT} {α β γ δ : Type} [Rp α] [Rp β] [Rp γ] [Rp δ] {x : α} {y : β} {z : γ} {v u : V} {i j : Int} {b : Bool} {W : WX}
/-! ### what may raise -/
def ExR (K : Fg) (W : WX) (te : TE) (σ : L2.St) (H : Hp) {α : Type} [Rp α] (r : Except Str α) : Prop := ∀ H1, Same H H1 → ∀ Q : VK,
  (∀ c, r = .error c → c ∈ errs → ∀ H2, Same H1 H2 → W (erC K c) none σ H2) → (∀ y, r = .ok y → ∀ v H2, Same H1 H2 → Rp.rep K H2 v y → Q v H2) → te σ H1 Q
def ExL (K : Fg) (W : WX) (te : TE) (σ : L2.St) (H : Hp) {α : Type} [Rp α] (r : Except Str (List α)) : Prop := ∀ H1, Same H H1 → ∀ Q : VK,
  (∀ c, r = .error c → c ∈ errs → ∀ H2, Same H1 H2 → W (erC K c) none σ H2) → (∀ y, r = .ok y → ∀ p vs H2, Same H1 H2 → H1 p = none → H2 p = some (.lst vs) → RL K H2 vs y → Q (.ref p) H2) → te σ H1 Q
def ansX (K : Fg) (r : Except Str β) (H : Hp) (Q : VK) (E : XK) : Prop := (∀ y, r = .ok y → ansV K y H Q) ∧ ∀ c, r = .error c → c ∈ errs → ∀ H', Same H H' → E (erC K c) none H'
def ansXL (K : Fg) (r : Except Str (List β)) (H : Hp) (Q : VK) (E : XK) : Prop := (∀ y, r = .ok y → ansL K y H Q) ∧ ∀ c, r = .error c → c ∈ errs → ∀ H', Same H H' → E (erC K c) none H'
def sx1 (K : Fg) (pre : α → Prop) (f : α → Except Str β) : Sp := fun vs H Q E => ∃ v x, vs = [v] ∧ Rp.rep K H v x ∧ pre x ∧ ansX K (f x) H Q E
def sx2 (K : Fg) (pre : α → β → Prop) (f : α → β → Except Str γ) : Sp := fun vs H Q E => ∃ v u x y, vs = [v, u] ∧ Rp.rep K H v x ∧ Rp.rep K H u y ∧ pre x y ∧ ansX K (f x y) H Q E
def sx3 (K : Fg) (pre : α → β → γ → Prop) (f : α → β → γ → Except Str δ) : Sp := fun vs H Q E => ∃ v u w x y z, vs = [v, u, w] ∧ Rp.rep K H v x ∧ Rp.rep K H u y ∧ Rp.rep K H w z ∧ pre x y z ∧ ansX K (f x y z) H Q E
def sxl1 (K : Fg) (pre : α → Prop) (f : α → Except Str (List β)) : Sp := fun vs H Q E => ∃ v x, vs = [v] ∧ Rp.rep K H v x ∧ pre x ∧ ansXL K (f x) H Q E
def sxl2 (K : Fg) (pre : α → β → Prop) (f : α → β → Except Str (List γ)) : Sp := fun vs H Q E => ∃ v u x y, vs = [v, u] ∧ Rp.rep K H v x ∧ Rp.rep K H u y ∧ pre x y ∧ ansXL K (f x y) H Q E
def sxl3 (K : Fg) (pre : α → β → γ → Prop) (f : α → β → γ → Except Str (List δ)) : Sp := fun vs H Q E => ∃ v u w x y z, vs = [v, u, w] ∧ Rp.rep K H v x ∧ Rp.rep K H u y ∧ Rp.rep K H w z ∧ pre x y z ∧ ansXL K (f x y z) H Q E
theorem ex_call1 {pre : α → Prop} {f : α → Except Str β} (h : Er K ta σ H x) (hp : pre x) : ExR K W (tCallS (sx1 K pre f) (WE W) (tCons ta tNil)) σ H (f x) := fun H1 e Q qe q =>
  h H1 e _ fun v H2 e2 r2 => ⟨v, x, rfl, r2, hp, fun y hy u H3 e3 r3 => q y hy u H3 (e2.trans e3) r3, fun c hc hm H3 e3 => qe c hc hm H3 (e2.trans e3)⟩
theorem ex_call2 {pre : α → β → Prop} {f : α → β → Except Str γ} (h : Er K ta σ H x) (h' : Er K tb σ H y) (hp : pre x y) : ExR K W (tCallS (sx2 K pre f) (WE W) (tCons ta (tCons tb tNil))) σ H (f x y) := fun H1 e Q qe q =>
  h H1 e _ fun v H2 e2 r2 => h' H2 (e.trans e2) _ fun u H3 e3 r3 => ⟨v, u, x, y, rfl, Rp.mono (SF.of e3) r2, r3, hp, fun y hy u H4 e4 r4 => q y hy u H4 ((e2.trans e3).trans e4) r4, fun c hc hm H4 e4 => qe c hc hm H4 ((e2.trans e3).trans e4)⟩
theorem ex_call3 {pre : α → β → γ → Prop} {f : α → β → γ → Except Str δ} (h : Er K ta σ H x) (h' : Er K tb σ H y) (h'' : Er K tc σ H z) (hp : pre x y z) : ExR K W (tCallS (sx3 K pre f) (WE W) (tCons ta (tCons tb (tCons tc tNil)))) σ H (f x y z) := fun H1 e Q qe q =>
  h H1 e _ fun v H2 e2 r2 => h' H2 (e.trans e2) _ fun u H3 e3 r3 => h'' H3 ((e.trans e2).trans e3) _ fun w H4 e4 r4 =>
    ⟨v, u, w, x, y, z, rfl, Rp.mono (SF.of (e3.trans e4)) r2, Rp.mono (SF.of e4) r3, r4, hp, fun y hy u H5 e5 r5 => q y hy u H5 (((e2.trans e3).trans e4).trans e5) r5, fun c hc hm H5 e5 => qe c hc hm H5 (((e2.trans e3).trans e4).trans e5)⟩
theorem exl_call1 {pre : α → Prop} {f : α → Except Str (List β)} (h : Er K ta σ H x) (hp : pre x) : ExL K W (tCallS (sxl1 K pre f) (WE W) (tCons ta tNil)) σ H (f x) := fun H1 e Q qe q =>
  h H1 e _ fun v H2 e2 r2 => ⟨v, x, rfl, r2, hp, fun y hy p us H3 e3 hn h3 r3 => q y hy p us H3 (e2.trans e3) (e2.free hn) h3 r3, fun c hc hm H3 e3 => qe c hc hm H3 (e2.trans e3)⟩
theorem exl_call2 {pre : α → β → Prop} {f : α → β → Except Str (List γ)} (h : Er K ta σ H x) (h' : Er K tb σ H y) (hp : pre x y) : ExL K W (tCallS (sxl2 K pre f) (WE W) (tCons ta (tCons tb tNil))) σ H (f x y) := fun H1 e Q qe q =>
  h H1 e _ fun v H2 e2 r2 => h' H2 (e.trans e2) _ fun u H3 e3 r3 => ⟨v, u, x, y, rfl, Rp.mono (SF.of e3) r2, r3, hp, fun y hy p us H4 e4 hn h4 r4 => q y hy p us H4 ((e2.trans e3).trans e4) ((e2.trans e3).free hn) h4 r4, fun c hc hm H4 e4 => qe c hc hm H4 ((e2.trans e3).trans e4)⟩
theorem exl_call3 {pre : α → β → γ → Prop} {f : α → β → γ → Except Str (List δ)} (h : Er K ta σ H x) (h' : Er K tb σ H y) (h'' : Er K tc σ H z) (hp : pre x y z) : ExL K W (tCallS (sxl3 K pre f) (WE W) (tCons ta (tCons tb (tCons tc tNil)))) σ H (f x y z) := fun H1 e Q qe q =>
  h H1 e _ fun v H2 e2 r2 => h' H2 (e.trans e2) _ fun u H3 e3 r3 => h'' H3 ((e.trans e2).trans e3) _ fun w H4 e4 r4 =>
    ⟨v, u, w, x, y, z, rfl, Rp.mono (SF.of (e3.trans e4)) r2, Rp.mono (SF.of e4) r3, r4, hp, fun y hy p us H5 e5 hn h5 r5 => q y hy p us H5 (((e2.trans e3).trans e4).trans e5) (((e2.trans e3).trans e4).free hn) h5 r5, fun c hc hm H5 e5 => qe c hc hm H5 (((e2.trans e3).trans e4).trans e5)⟩
/-- a list that came is locked -/
theorem ex_frz {r : Except Str (List α)} (h : ExL K W te σ H r) : ExR K W (tFrz te) σ H r := fun H1 e Q qe q => h H1 e _ qe fun y hy p vs H2 e2 hp h2 r =>
  ⟨p, vs, rfl, h2, fun od => q y hy (.ref p) _ (same_mut e2 hp) ⟨p, vs, rfl, ⟨od, upd_same⟩, r.mono (SF.lst h2)⟩⟩
/-- what never raises -/
theorem ex_of (h : Er K te σ H x) : ExR K W te σ H (.ok x) := fun H1 e Q _ q => h H1 e Q fun v H2 e2 r => q x rfl v H2 e2 r
theorem exl_of {l : List α} (h : ErL K te σ H l) : ExL K W te σ H (.ok l) := fun H1 e Q _ q => h H1 e Q fun p vs H2 e2 hn h2 r => q l rfl p vs H2 e2 hn h2 r
variable {D : Ends} {tz : TS}
theorem s_dropX {r : Except Str α} (h : ExR K W te σ H r) (hE : ∀ c, r = .error c → c ∈ errs → ∀ H1, Same H H1 → W (erC K c) none σ H1) (q : ∀ y H1, r = .ok y → Same H H1 → D.nx σ H1) : tDrop te D σ H := h H (Same.refl _) _ hE fun y hy _ H1 e _ => q y H1 hy e
theorem q_dropX {r : Except Str α} (h : ExR K W te σ H r) (hE : ∀ c, r = .error c → c ∈ errs → ∀ H1, Same H H1 → W (erC K c) none σ H1) (q : ∀ y H1, r = .ok y → Same H H1 → tz D σ H1) : tSeq (tDrop te) tz D σ H := s_dropX (D := { D with nx := tz D }) h hE q
theorem s_setX {k : Nat} {r : Except Str α} (h : ExR K W te σ H r) (hE : ∀ c, r = .error c → c ∈ errs → ∀ H1, Same H H1 → W (erC K c) none σ H1) (q : ∀ y v H1, r = .ok y → Same H H1 → Rp.rep K H1 v y → D.nx (σ.set k (some v)) H1) : tAsg te (gName k) D σ H := h H (Same.refl _) _ hE fun y hy v H1 e r => q y v H1 hy e r
theorem q_setX {k : Nat} {r : Except Str α} (h : ExR K W te σ H r) (hE : ∀ c, r = .error c → c ∈ errs → ∀ H1, Same H H1 → W (erC K c) none σ H1) (q : ∀ y v H1, r = .ok y → Same H H1 → Rp.rep K H1 v y → tz D (σ.set k (some v)) H1) : tSeq (tAsg te (gName k)) tz D σ H := s_setX (D := { D with nx := tz D }) h hE q
theorem s_retX {r : Except Str α} (h : ExR K W te σ H r) (hE : ∀ c, r = .error c → c ∈ errs → ∀ H1, Same H H1 → W (erC K c) none σ H1) (q : ∀ y v H1, r = .ok y → Same H H1 → Rp.rep K H1 v y → D.rt v H1) : tRet te D σ H := h H (Same.refl _) _ hE fun y hy v H1 e r => q y v H1 hy e r
theorem s_retXL {r : Except Str (List α)} (h : ExL K W te σ H r) (hE : ∀ c, r = .error c → c ∈ errs → ∀ H1, Same H H1 → W (erC K c) none σ H1) (q : ∀ y p vs H1, r = .ok y → Same H H1 → H p = none → H1 p = some (.lst vs) → RL K H1 vs y → D.rt (.ref p) H1) : tRet te D σ H := h H (Same.refl _) _ hE fun y hy p vs H1 e hn h1 r => q y p vs H1 hy e hn h1 r
/-! what a mirror of a def that may raise is made of -/
def bindX {α β : Type} (r : Except Str α) (k : α → Except Str β) : Except Str β := match r with
  | .ok y => k y
  | .error c => .error c
theorem bindX_ok {α β : Type} {r : Except Str α} {k : α → Except Str β} {y : α} (h : r = .ok y) : bindX r k = k y := by rw [h]; rfl
theorem bindX_err {α β : Type} {r : Except Str α} {k : α → Except Str β} {c : Str} (h : r = .error c) : bindX r k = .error c := by rw [h]; rfl
def elimX {α β : Type} (r : Except Str α) (e : Str → β) (k : α → β) : β := match r with
  | .ok y => k y
  | .error c => e c
theorem elimX_ok {α β : Type} {r : Except Str α} {e : Str → β} {k : α → β} {y : α} (h : r = .ok y) : elimX r e k = k y := by rw [h]; rfl
theorem elimX_err {α β : Type} {r : Except Str α} {e : Str → β} {k : α → β} {c : Str} (h : r = .error c) : elimX r e k = e c := by rw [h]; rfl
/-- raise C("..") -/
def tRaiseX (K : Fg) (c : Str) (W : WX) : TS := fun _ σ H => W (erC K c) none σ H
end
section
variable {X : Cx} {W : WX} (K : Fg) (h : X.K = K)
include h
theorem k_raise {c m : Str} {j : Nat} {p p2 pos pos' : Pos} (tk : Takes X W) (e : ErrOk K X.mg c) (hc : X.calm = true := by rfl) (hg : Gl X c := by rfl) (hdb : (c == ("__debug__" : Str)) = false := by decide) :
    PS X (.Raise (some (.Call (.Name c p) [.Constant (.str m) j p2] [] pos)) none pos') (tRaiseX K c W) := by
  subst h
  exact ps_raise hc tk (pmk_own PySem.F.excBase_ValueError e.x e.g e.kp (raises_own e.sb e.tp) hg hdb)
theorem k_isx : CallR X (.builtin "isinstance") (rIsX K) := by subst h; exact call_isX
end
section
variable {X : Cx} {W : WX} {k : Nat} {x : Str} {ps : List Str} {sp : Sp} {t : TA} {e : Expr} {es : List Expr} {p pos : Pos}
theorem pe_fnX (G : Ok X.prog X.w X.K X.mg X.base (L2.CX X.prog X.w) k x ps sp) (hr : Room k X.A) (tk : Takes X W) (ha : PA X (e :: es) t) (hg : Gl X x := by rfl) (hdb : (x == ("__debug__" : Str)) = false := by decide)
    (he : starEach (e :: es) X.env = (false, eval e X.env) :: starEach es X.env := by rfl) (hpl : (backTo pos (starEach es X.env)).any (·.1) = false := by rfl) : PE X (.Call (.Name x p) (e :: es) [] pos) (tCallS sp (WE W) t) := by
  obtain ⟨f, fd, h1, h2, h3, h4⟩ := G
  exact pe_callS h4 hr hg h1 h2 h3 (fun σ => passAt tk σ) ha hdb he hpl
end
section
variable {P : Program} {w : World} {K : Fg} {mg : Str → Option Value} {base : Heap}
theorem okx_of {x : Str} {st : Stmt} {N ps : List Str} {k : Nat} {sp : Sp} (F : Fd K mg x st) (S : FnScope N ps (defScope st))
    (hb : ∀ (kV doc pm : Value) (an : Option Addr) (cdv ct : Value) (us : List Value), us.length = ps.length → bindArgs (PySem.W.fnOf x x (defArgs st) (defBody st) (defScope st) .none kV doc pm an cdv ct) ⟨us, []⟩ = pure (ps.zip us))
    (len : ∀ vs H Q E, sp vs H Q E → vs.length = ps.length)
    (hbody : ∀ (f : Addr) (cdv : Value) (A : Around) (outer : List Env) (s : Shared) (H : Hp) (vs : List V) (Q : VK) (E : XK), Room k (A.deeper (envOfC x (defScope st) s.heap.objs.size f cdv)) → sp vs H Q E →
      ∃ t, PSs (cxOf (L2.CX P w) P w K mg base N x (defScope st) f cdv A outer s H E) (defBody st) t ∧ t { nx := fun _ H' => Q .non H', rt := Q } (start N vs) H) : Ok P w K mg base (L2.CX P w) (k + 1) x ps sp := by
  obtain ⟨f, fd, F, g⟩ := F
  exact ⟨f, fd, g, F.kp, F.bindsN hb, F.ok S len fun cdv A outer s H vs Q E hr h => hbody f cdv A outer s H vs Q E hr h⟩
/-- an error that leaves a def -/
theorem tkD {N : List Str} {x : Str} {sc : Scope} {f : Addr} {cdv : Value} {A : Around} {outer : List Env} {s : Shared} {H : Hp} {E : XK} : Takes (cxOf (L2.CX P w) P w K mg base N x sc f cdv A outer s H E) (fun cls d _ H => E cls d H) := takes_of rfl rfl rfl rfl
end
section
variable {K : Fg} {α β γ δ : Type} [Rp α] [Rp β] [Rp γ] [Rp δ]
theorem len_sx1 {pre : α → Prop} {f : α → Except Str β} : ∀ vs H Q E, sx1 K pre f vs H Q E → vs.length = 1 := fun vs H Q E h => by obtain ⟨_, _, rfl, _⟩ := h; rfl
theorem len_sx2 {pre : α → β → Prop} {f : α → β → Except Str γ} : ∀ vs H Q E, sx2 K pre f vs H Q E → vs.length = 2 := fun vs H Q E h => by obtain ⟨_, _, _, _, rfl, _⟩ := h; rfl
theorem len_sx3 {pre : α → β → γ → Prop} {f : α → β → γ → Except Str δ} : ∀ vs H Q E, sx3 K pre f vs H Q E → vs.length = 3 := fun vs H Q E h => by obtain ⟨_, _, _, _, _, _, rfl, _⟩ := h; rfl
theorem len_sxl1 {pre : α → Prop} {f : α → Except Str (List β)} : ∀ vs H Q E, sxl1 K pre f vs H Q E → vs.length = 1 := fun vs H Q E h => by obtain ⟨_, _, rfl, _⟩ := h; rfl
theorem len_sxl2 {pre : α → β → Prop} {f : α → β → Except Str (List γ)} : ∀ vs H Q E, sxl2 K pre f vs H Q E → vs.length = 2 := fun vs H Q E h => by obtain ⟨_, _, _, _, rfl, _⟩ := h; rfl
theorem len_sxl3 {pre : α → β → γ → Prop} {f : α → β → γ → Except Str (List δ)} : ∀ vs H Q E, sxl3 K pre f vs H Q E → vs.length = 3 := fun vs H Q E h => by obtain ⟨_, _, _, _, _, _, rfl, _⟩ := h; rfl
end
end BL

set_option Elab.async false
set_option linter.all false
set_option maxRecDepth 100000
set_option maxHeartbeats 2000000
namespace BL
open PySem PySem.Spec PyProof.Rows L2
/-! ### list.count of truth values -/
def rCntB (K : Fg) : V → List V → Hp → VK → Prop := fun x xs H Q => ∃ (p : Addr) (bs : List Bool) (k : Bool), x = .ref p ∧ xs = [.bl k] ∧ SqL K H p (bs.map V.bl) ∧ Q (.int (bs.count k : Nat)) H
theorem vals_bl : ∀ {bs : List Bool} {its : List Value}, Vals (bs.map V.bl) its → its = bs.map Value.bool
  | [], _, .nil => rfl
  | b :: bs, _, .cons h r => by rw [List.map_cons, ← vals_bl r, show _ = Value.bool b from h]
theorem countP_bl (k : Bool) : ∀ bs : List Bool, (bs.map Value.bool).countP (isBoolOf k) = bs.count k
  | [] => rfl
  | b :: bs => by
    rw [List.map_cons, List.countP_cons, List.count_cons, countP_bl k bs]
    rfl
theorem mt_countB {X : Cx} : MtR X "list.count" (rCntB X.K) := by
  rintro pins s σ H x xs v us Q I rx rxs ⟨p, bs, k, rfl, rfl, hs, q⟩
  cases rx
  obtain ⟨u, rfl, ru⟩ := rxs.one
  cases (show u = Value.bool k from ru)
  obtain ⟨its, rv, ⟨⟨cls, dd, data, sl⟩, n, ho, hc, hdn, hd⟩, hlen⟩ := I.list hs
  dsimp only at hc hd
  subst hc hd
  have e := vals_bl rv
  refine call_meets PySem.F.slot_list_count ⟨_, ho, rfl⟩ PySem.F.entry_list_count (PySem.F.args_list_count_2 _ _) (SeqAt.list_countAt p its.toArray n dd sl (.bool k) (isBoolOf k)) ⟨ho, fun y hy => ?_, ?_⟩
  · rw [e] at hy
    obtain ⟨b, _, rfl⟩ := List.mem_map.mp (show y ∈ bs.map Value.bool by simpa using hy)
    exact SeqAt.EqAt.bool_bool b k
  · refine ⟨.int (bs.count k : Nat), H, I.tok _, ⟨s.toks, ?_⟩, q⟩
    show Value.int ((its.toArray.toList.countP (isBoolOf k) : Nat) : Int) s.toks = _
    rw [show its.toArray.toList = its from rfl, e, countP_bl]
section
variable {K : Fg} {mg : Str → Option Value} {σ : L2.St} {H H' H1 : Hp} {ta tb tc te to : TE} {α β γ δ : Type} [Rp α] [Rp β] [Rp γ] [Rp δ] {x : α} {y : β} {z : γ} {v u : V} {i j : Int} {b : Bool}
/-! ### a list's method of one argument -/
theorem er_bm1 {r : V → List V → Hp → VK → Prop} {l : List α} {y : β} {z : γ} (ho : Er K to σ H l) (ha : Er K ta σ H y) (hr : ∀ H v u, Rp.rep K H v l → Rp.rep K H u y → ∀ Q : VK, (∀ w H', Same H H' → Rp.rep K H' w z → Q w H') → r v [u] H Q) :
    Er K (tBM K "list" r to (tCons ta tNil)) σ H z := fun H1 e Q q => ho H1 e _ fun v H2 e2 r2 => ⟨by obtain ⟨a, vs, rfl, f, _⟩ := r2; exact .inl ⟨rfl, vs, f.seq⟩, ha H2 (e.trans e2) _ fun u H3 e3 r3 => hr H3 v u (Rp.mono (SF.of e3) r2) r3 Q fun w H4 e4 r4 => q w H4 ((e2.trans e3).trans e4) r4⟩
theorem er_countB {l : List Bool} (ho : Er K to σ H l) (ha : Er K ta σ H b) : Er K (tBM K "list" (rCntB K) to (tCons ta tNil)) σ H (l.count b) := er_bm1 ho ha fun H v u r1 r2 Q q => by
  obtain ⟨a, vs, rfl, h2, h3⟩ := r1
  cases (show u = .bl b from r2)
  rw [rl_bools h3] at h2
  exact ⟨a, l, b, rfl, rfl, h2.seq, q _ H (Same.refl _) rfl⟩
theorem idx_lt {α : Type} [BEq α] [LawfulBEq α] {x : α} : ∀ {l : List α}, x ∈ l → l[l.idxOf x]? = some x ∧ ∀ m z, m < l.idxOf x → l[m]? = some z → z ≠ x
  | [], h => by cases h
  | y :: l, h => by
    by_cases e : y = x
    · subst e
      rw [List.idxOf_cons_self]
      exact ⟨rfl, fun m z hm => absurd hm (Nat.not_lt_zero m)⟩
    · have h2 : x ∈ l := by
        rcases List.mem_cons.mp h with q | q
        · exact absurd q.symm e
        · exact q
      obtain ⟨h3, h4⟩ := idx_lt h2
      rw [List.idxOf_cons, show (y == x) = false from by simpa using e, cond_false]
      refine ⟨h3, fun m z hm hz => ?_⟩
      cases m with
      | zero => cases hz; exact e
      | succ m => exact h4 m z (by omega) hz
theorem er_indexI {l : List Int} (ho : Er K to σ H l) (ha : Er K ta σ H i) (hm : i ∈ l) : Er K (tBM K "list" (rIndex K) to (tCons ta tNil)) σ H (l.idxOf i) := er_bm1 ho ha fun H v u r1 r2 Q q => by
  obtain ⟨a, vs, rfl, h2, h3⟩ := r1
  cases (show u = .int i from r2)
  rw [rl_ints h3] at h2
  obtain ⟨h4, h5⟩ := idx_lt hm
  refine ⟨a, _, .int i, l.idxOf i, .int i, rfl, rfl, h2.seq, rfl, flat_ints l, by rw [List.getElem?_map, h4]; rfl, by show (i == i) = true; simp, fun m z hz e => ?_, q _ H (Same.refl _) rfl⟩
  rw [List.getElem?_map] at e
  cases e2 : l[m]? with
  | none => rw [e2] at e; cases e
  | some k =>
    rw [e2] at e
    cases e
    show (k == i) = false
    simpa using h5 m k hz e2
theorem er_indexB {l : List Bool} (ho : Er K to σ H l) (ha : Er K ta σ H b) (hm : b ∈ l) : Er K (tBM K "list" (rIndex K) to (tCons ta tNil)) σ H (l.idxOf b) := er_bm1 ho ha fun H v u r1 r2 Q q => by
  obtain ⟨a, vs, rfl, h2, h3⟩ := r1
  cases (show u = .bl b from r2)
  rw [rl_bools h3] at h2
  obtain ⟨h4, h5⟩ := idx_lt hm
  refine ⟨a, _, .bl b, l.idxOf b, .bl b, rfl, rfl, h2.seq, rfl, flat_bls l, by rw [List.getElem?_map, h4]; rfl, by show (b == b) = true; simp, fun m z hz e => ?_, q _ H (Same.refl _) rfl⟩
  rw [List.getElem?_map] at e
  cases e2 : l[m]? with
  | none => rw [e2] at e; cases e
  | some k =>
    rw [e2] at e
    cases e
    show (k == b) = false
    simpa using h5 m k hz e2
/-! ### isinstance of a held error -/
theorem er_isX {x : Xn} {c : V} {cv : Value} (T : ErrOk K mg x.n) (h : Er K ta σ H x) (hv : ∀ u, RelV c u → u = cv) (hk : PySem.W.kitOne K (erC K x.n) cv = some b) : Er K (tCB (rIsX K) (tCons ta (tCons (tC c) tNil))) σ H b := fun H1 e Q q =>
  h H1 e _ fun v H2 e2 r2 => by
    obtain ⟨a, rfl, ha⟩ := r2
    exact ⟨a, He.ga K x.n, c, cv, b, rfl, ha, T.ec, hv, hk, q _ H2 e2 rfl⟩
theorem er_isE {x : Xn} {d : Str} (T : ErrOk K mg x.n) (hd : d ∈ errs) (h : Er K ta σ H x) : Er K (tCB (rIsX K) (tCons ta (tCons (tC (.ref (He.ga K d))) tNil))) σ H (decide (x.n = d)) := er_isX T h (fun _ r => r) (T.ks d hd)
theorem er_isBd {x : Xn} (T : ErrOk K mg x.n) (h : Er K ta σ H x) : Er K (tCB (rIsX K) (tCons ta (tCons (tC (.ref (He.ga K "BoundError"))) tNil))) σ H true := er_isX T h (fun _ r => r) T.kb
theorem er_isVE {x : Xn} (T : ErrOk K mg x.n) (h : Er K ta σ H x) : Er K (tCB (rIsX K) (tCons ta (tCons (tC (.ty "ValueError")) tNil))) σ H true := er_isX T h (fun _ r => r) T.kv
end
theorem rep_err {K : Fg} {H : Hp} {a : Addr} {c : Str} : Rp.rep K (upd H a (ExT (erC K c) a)) (.ref a) (some (Xn.mk c) : Option Xn) := ⟨nofun, a, rfl, upd_same⟩
theorem q_tryK {K : Fg} {c : Value} {i : Nat} {ts : Addr → Value → TS} {tb : WX → TS} {tz : TS} {D : Ends} {σ : L2.St} {H : Hp} (h : tb (wKept K c i ts { D with nx := tz D }) { D with nx := tz D } σ H) : tSeq (tTryK K c i ts tb) tz D σ H := h
theorem opt_some {α : Type} {o : Option α} {d : α} (h : o.isNone = false) : o = some (o.getD d) := by
  cases o with
  | none => cases h
  | some x => rfl
/-! ### one of two kinds -/
class Dj (α β : Type) [Rp α] [Rp β] [Rq α] [Rq β] : Prop where
  l : ∀ (x : α) (y : β), PyData.eqv (Rq.toD x) (Rq.toD y) = false
  r : ∀ (x : α) (y : β), PyData.eqv (Rq.toD y) (Rq.toD x) = false
instance {α β : Type} [Rp α] [Rp β] [Rq α] [Rq β] : Dj (α × β) Str := ⟨fun x y => by simp [Rq.toD, PyData.eqv], fun x y => by simp [Rq.toD, PyData.eqv]⟩
instance {α : Type} [Rp α] [Rq α] : Dj (List α) Str := ⟨fun x y => by simp [Rq.toD, PyData.eqv], fun x y => by simp [Rq.toD, PyData.eqv]⟩
instance : Dj Int Str := ⟨fun x y => by simp [Rq.toD, PyData.eqv], fun x y => by simp [Rq.toD, PyData.eqv]⟩
instance : Dj Nat Str := ⟨fun x y => by simp [Rq.toD, PyData.eqv], fun x y => by simp [Rq.toD, PyData.eqv]⟩
instance {α : Type} [Rp α] [Rq α] : Dj (List α) Int := ⟨fun x y => by simp [Rq.toD, PyData.eqv], fun x y => by simp [Rq.toD, PyData.eqv]⟩
instance {α β γ : Type} [Rp α] [Rp β] [Rp γ] [Rq α] [Rq β] [Rq γ] : Dj (α × β) (List γ) := ⟨fun x y => by simp [Rq.toD, PyData.eqv], fun x y => by simp [Rq.toD, PyData.eqv]⟩
instance {α β : Type} [Rp α] [Rp β] [Rq α] [Rq β] [Dj α β] : Rq (Sum α β) := ⟨fun s => match s with
    | .inl x => Rq.toD x
    | .inr y => Rq.toD y, fun {K H v s} h => by
    cases s with
    | inl x => exact Rq.dp (α := α) h
    | inr y => exact Rq.dp (α := β) h, fun s => match s with
    | .inl x => Rq.ok x
    | .inr y => Rq.ok y, max (Rq.dep α) (Rq.dep β), fun s h => by
    cases s with
    | inl x => exact Rq.lay x h
    | inr y => exact Rq.lay y h, fun s => by
    cases s with
    | inl x => exact Nat.le_trans (Rq.deep x) (Nat.le_max_left ..)
    | inr y => exact Nat.le_trans (Rq.deep y) (Nat.le_max_right ..), fun s t => by
    cases s with
    | inl x =>
      cases t with
      | inl y => simp [Rq.eqv]
      | inr y => simp [Dj.l]
    | inr x =>
      cases t with
      | inl y => simp [Dj.r]
      | inr y => simp [Rq.eqv]⟩
instance {α β : Type} [Rp α] [Rp β] [Rq α] [Rq β] [Rt α] [Rt β] [Dj α β] : Rt (Sum α β) := ⟨fun s => by
    cases s with
    | inl x => exact Rt.all (α := α) x
    | inr y => exact Rt.all (α := β) y⟩
section
variable {K : Fg} {σ : L2.St} {H : Hp} {ta tb te : TE} {tt : TT} {α β γ : Type} [Rp α] [Rp β] [Rp γ] {x : α} {y : β} {b : Bool}
theorem er_inl (h : Er K te σ H x) : Er K te σ H (Sum.inl x : Sum α β) := fun H1 e Q q => h H1 e Q fun v H2 e2 r => q v H2 e2 r
theorem er_inr (h : Er K te σ H y) : Er K te σ H (Sum.inr y : Sum α β) := fun H1 e Q q => h H1 e Q fun v H2 e2 r => q v H2 e2 r
end
section
variable {X : Cx} (K : Fg) (h : X.K = K)
include h
theorem k_bm1 {T : String} {id : String} {name : Str} {r : V → List V → Hp → VK → Prop} {o e : Expr} {to te : TE} {apos cpos : Pos} (pa : PlainAttrs T) (slot : Slot T name id) (hty : typeOf (.builtin id) = pure (.type "method_descriptor")) (hm : MtR X id r) (ho : PE X o to) (he : PE X e te)
    (hbase : attributeBase o name X.env (eval o X.env) = eval o X.env := by rfl)
    (hfew : ((backTo cpos (starEach [e] X.env)).all (fun x => !x.1) && (backToKw cpos (keywordEach [] X.env)).all (fun x => x.1.isSome)
      && decide ([e].length + ([] : List Keyword).length + (if ([] : List Keyword).isEmpty then 0 else 1) < 30)) = true := by rfl)
    (hline : (apos.endLine == cpos.line) = true := by rfl) (hs : starEach [e] X.env = (false, eval e X.env) :: starEach [] X.env := by rfl) (hplain : (backTo cpos (starEach [] X.env)).any (·.1) = false := by rfl) :
    PE X (.Call (.Attribute o name apos) [e] [] cpos) (tBM K T r to (tCons te tNil)) := by
  subst h; exact pe_bm pa slot hty hm ho (pa_cons he pa_nil hs) hbase hfew hline hs hplain
theorem k_countB : MtR X "list.count" (rCntB K) := by subst h; exact mt_countB
theorem k_index : MtR X "list.index" (rIndex K) := by subst h; exact mt_index
end
end BL

set_option Elab.async false
set_option linter.all false
set_option maxRecDepth 100000
set_option maxHeartbeats 2000000
namespace BL
open PySem PySem.Spec PyProof.Rows L2
section
variable {K : Fg} {σ : L2.St} {H H' H1 : Hp} {pd pn : Addr} {ta tb tc te : TE} {tt : TT} {α β γ δ : Type} [Rp α] [Rp β] [Rp γ] [Rp δ] {x : α} {y : β} {v u : V} {i j : Int} {b : Bool} {wi : TI} {g : TG} {D : Ends} {tu tz : TS}
/-! ### what is walked is drawn -/
def SrcP (K : Fg) (pd pn : Addr) (wi : TI) (σ : L2.St) (H : Hp) {α : Type} [Rp α] (P : List α → Prop) : Prop := ∀ H1, DM pd pn H H1 → Dr H1 pd pn → ∀ RR : It → Hp → Prop,
  (∀ (l : List α) (J : It) (H2 : Hp) (G : Hp → Prop) (Y : Nat → Hp → V → Hp → Prop), P l → DM pd pn H1 H2 → Dr H2 pd pn → Walk J l.length G Y → (∀ H', SF H2 H' → G H') →
    (∀ i x, l[i]? = some x → ∀ H', SF H2 H' → ∀ v H'', Y i H' v H'' → Same H' H'' ∧ Rp.rep K H'' v x) → RR J H2) → wi σ H1 RR
theorem srcP_range1 {P : Int → Prop} (h : Ep K pd pn te σ H P) (hz : ∀ x, P x → -1000000 ≤ x ∧ x ≤ 1000000) : SrcP K pd pn (iRng1 (tCons te tNil)) σ H (fun l : List Nat => ∃ x : Int, P x ∧ l = List.range x.toNat) := fun H1 m dr RR k => h H1 m dr _ fun v H2 x m2 d2 hx r => by
  cases (show v = .int x from r)
  have hz := hz x hx
  refine ⟨x, rfl, by omega, by omega, k _ _ H2 (fun _ => True) (YFn fun j => .int (0 + j)) ⟨x, hx, rfl⟩ m2 d2 ?_ (fun _ _ => trivial) fun j y hy H' s v H'' z => ?_⟩
  · rw [List.length_range]; exact walk_range
  · obtain ⟨rfl, rfl⟩ := z
    have hj : j < x.toNat := by
      have := (List.getElem?_eq_some_iff.mp hy).1
      rwa [List.length_range] at this
    rw [List.getElem?_range hj] at hy
    cases hy
    exact ⟨Same.refl _, by show V.int _ = V.int _; rw [Int.zero_add]⟩
theorem s_forP {P : List α → Prop} (hs : SrcP K pd pn wi σ H P) (dr : Dr H pd pn) (Pv : List α → Hp → Nat → L2.St → Hp → Prop) (h0 : ∀ l H1, P l → DM pd pn H H1 → Dr H1 pd pn → Pv l H1 0 σ H1) (hf : ∀ l H1 k σ' H', Pv l H1 k σ' H' → SF H1 H')
    (turn : ∀ l H1 k x σ' H' v H'', P l → DM pd pn H H1 → Dr H1 pd pn → l[k]? = some x → Pv l H1 k σ' H' → Same H' H'' → Rp.rep K H'' v x → g v σ' H'' fun σ2 H2 => tu { D with nx := Pv l H1 (k + 1), ct := Pv l H1 (k + 1), bk := D.nx } σ2 H2)
    (hd : ∀ l H1 σ' H', P l → DM pd pn H H1 → Dr H1 pd pn → Pv l H1 l.length σ' H' → D.nx σ' H') : tFor wi g tu D σ H := hs H (DM.refl _) dr _ fun l J H2 G Y hl m2 d2 w hG hY =>
  for_it w (Pv l H2) (h0 l H2 hl m2 d2) (fun k σ' H' _ p => hG H' (hf _ _ _ _ _ p)) (fun k v σ' H' H'' hk p y => by
    obtain ⟨x, hx⟩ : ∃ x, l[k]? = some x := ⟨l[k], List.getElem?_eq_getElem hk⟩
    obtain ⟨s, r⟩ := hY k x hx H' (hf _ _ _ _ _ p) v H'' y
    exact turn l H2 k x σ' H' v H'' hl m2 d2 hx p s r) fun σ' H' p => hd l H2 σ' H' hl m2 d2 p
theorem q_forP {P : List α → Prop} (hs : SrcP K pd pn wi σ H P) (dr : Dr H pd pn) (Pv : List α → Hp → Nat → L2.St → Hp → Prop) (h0 : ∀ l H1, P l → DM pd pn H H1 → Dr H1 pd pn → Pv l H1 0 σ H1) (hf : ∀ l H1 k σ' H', Pv l H1 k σ' H' → SF H1 H')
    (turn : ∀ l H1 k x σ' H' v H'', P l → DM pd pn H H1 → Dr H1 pd pn → l[k]? = some x → Pv l H1 k σ' H' → Same H' H'' → Rp.rep K H'' v x → g v σ' H'' fun σ2 H2 => tu { D with nx := Pv l H1 (k + 1), ct := Pv l H1 (k + 1), bk := tz D } σ2 H2)
    (hd : ∀ l H1 σ' H', P l → DM pd pn H H1 → Dr H1 pd pn → Pv l H1 l.length σ' H' → tz D σ' H') : tSeq (tFor wi g tu) tz D σ H := s_forP (D := { D with nx := tz D }) hs dr Pv h0 hf turn hd
theorem ep_if {P P' : α → Prop} (h : ∀ H1, DM pd pn H H1 → Et K tt σ H1 b) (h1 : b = true → Ep K pd pn ta σ H P) (h2 : b = false → Ep K pd pn tb σ H P') : Ep K pd pn (tIf tt ta tb) σ H (fun x => (b = true ∧ P x) ∨ (b = false ∧ P' x)) := fun H1 m dr Q q => h H1 m H1 (Same.refl _) _ fun H2 e2 => by
  cases b with
  | true => exact iteT (h1 rfl H2 (m.trans (DM.of e2)) (dr.mono e2) Q fun v H3 x m3 d3 hx r => q v H3 x ((DM.of e2).trans m3) d3 (.inl ⟨rfl, hx⟩) r)
  | false => exact iteF (h2 rfl H2 (m.trans (DM.of e2)) (dr.mono e2) Q fun v H3 x m3 d3 hx r => q v H3 x ((DM.of e2).trans m3) d3 (.inr ⟨rfl, hx⟩) r)
/-- a drawn thing is appended -/
theorem q_appPM {k : Nat} {p : Addr} {l : List α} {P : α → Prop} (dr : Dr H pd pn) (hσ : σ[k]? = some (some (.ref p))) (hu : Un K H p l) (n1 : p ≠ pd) (n2 : p ≠ pn) (h : Ep K pd pn te σ H P) (hz : l.length < 1000000)
    (q : ∀ H2 x, Mus [pd, pn, p] H H2 → Dr H2 pd pn → P x → Un K H2 p (l ++ [x]) → tz D σ H2) : tSeq (tDrop (tBM K "list" rAppend (tVar k) (tCons te tNil))) tz D σ H := by
  obtain ⟨vs, hp, r⟩ := hu
  refine ⟨.ref p, hσ, Or.inl ⟨rfl, vs, sq_lst hp⟩, ?_⟩
  refine h H (DM.refl _) dr _ fun v H2 x m2 d2 hx r2 => ⟨p, vs, v, rfl, rfl, m2.ne _ _ n1 n2 hp, ?_, q _ x ⟨m2.sf.trans (SF.lst (m2.ne _ _ n1 n2 hp)), fun q o nq e => ?_⟩ ?_ hx ⟨_, upd_same, RL.mono (SF.lst (m2.ne _ _ n1 n2 hp)) (paired_app (r.mono m2.sf) (.cons r2 .nil))⟩⟩
  · rw [paired_len r]; exact Nat.lt_of_lt_of_le hz (by decide)
  · simp only [List.mem_cons, List.mem_nil_iff, or_false, not_or] at nq
    rw [upd_ne nq.2.2]
    exact m2.ne q o nq.1 nq.2.1 e
  · obtain ⟨ns, k, g1, g2, g3⟩ := d2
    exact ⟨ns, k, upd_get g1 n1.symm, upd_get g2 n2.symm, g3⟩
theorem er_ixUI {k n : Nat} {p : Addr} {l : List α} {x : α} (hσ : σ[k]? = some (some (.ref p))) (hu : Un K H p l) (hi : Er K tb σ H i) (hn : i = (n : Int)) (hx : l[n]? = some x) : Er K (tOp (rIxL K) (tVar k) tb) σ H x := er_ixU hσ hu (hi.to hn) hx
/-! ### x *= e -/
def ipM : TIp := fun x y H Q => ∃ i j, x = .int i ∧ y = .int j ∧ CMul i j ∧ Q (.int (i * j)) H
theorem ip_mulC {X : Cx} : PIp X .Mult ipM := fun pins s σ H x y v u Q I r1 r2 h => iop_mul pins s σ H x y v u Q I r1 r2 h
theorem q_mulI {k : Nat} (hσ : σ[k]? = some (some v)) (r : Rp.rep K H v i) (h : Er K te σ H j) (hm : CMul i j) (q : ∀ w H1, Same H H1 → Rp.rep K H1 w (i * j) → tz D (σ.set k (some w)) H1) : tSeq (tAug k te ipM) tz D σ H := by
  cases (show v = .int i from r)
  exact ⟨.int i, hσ, h H (Same.refl _) _ fun w H1 e r => ⟨i, j, rfl, r, hm, q _ H1 e rfl⟩⟩
section
variable {ε : Type} [Rp ε] {z : γ} {w : δ} {td : TE}
def sl4 (K : Fg) (pre : α → β → γ → δ → Prop) (f : α → β → γ → δ → List ε) : Sp := fun vs H Q _ => ∃ v0 v1 v2 v3 x0 x1 x2 x3, vs = [v0, v1, v2, v3] ∧ Rp.rep K H v0 x0 ∧ Rp.rep K H v1 x1 ∧ Rp.rep K H v2 x2 ∧ Rp.rep K H v3 x3 ∧ pre x0 x1 x2 x3 ∧ ansL K (f x0 x1 x2 x3) H Q
theorem erl_call4 {pre : α → β → γ → δ → Prop} {f : α → β → γ → δ → List ε} {E : XK} (h0 : Er K ta σ H x) (h1 : Er K tb σ H y) (h2 : Er K tc σ H z) (h3 : Er K td σ H w) (hp : pre x y z w) : ErL K (tCall (sl4 K pre f) [] E (tCons ta (tCons tb (tCons tc (tCons td tNil))))) σ H (f x y z w) := fun H1 e Q q =>
  h0 H1 e _ fun v0 H2 e2 r0 => h1 H2 (e.trans e2) _ fun v1 H3 e3 r1 => h2 H3 ((e.trans e2).trans e3) _ fun v2 H4 e4 r2 => h3 H4 (((e.trans e2).trans e3).trans e4) _ fun v3 H5 e5 r3 =>
    ⟨v0, v1, v2, v3, x, y, z, w, rfl, Rp.mono (SF.of ((e3.trans e4).trans e5)) r0, Rp.mono (SF.of (e4.trans e5)) r1, Rp.mono (SF.of e5) r2, r3, hp, fun p us H6 e6 hn h6 r6 => q p us H6 ((((e2.trans e3).trans e4).trans e5).trans e6) ((((e2.trans e3).trans e4).trans e5).free hn) h6 r6⟩
theorem len_sl4 {pre : α → β → γ → δ → Prop} {f : α → β → γ → δ → List ε} : ∀ vs H Q E, sl4 K pre f vs H Q E → vs.length = 4 := fun vs H Q E h => by obtain ⟨_, _, _, _, _, _, _, _, rfl, _⟩ := h; rfl
end
/-! ### the left one of two kinds -/
def sumL {α β : Type} (d : α) : Sum α β → α
  | .inl x => x
  | .inr _ => d
theorem er_getL {s : Sum α β} {d : α} (h : Er K te σ H s) (hs : s = Sum.inl (sumL d s)) : Er K te σ H (sumL d s) := fun H1 e Q q => h H1 e Q fun v H2 e2 r => q v H2 e2 (by rw [hs] at r; exact r)
end
end BL

set_option Elab.async false
set_option linter.all false
set_option maxRecDepth 100000
set_option maxHeartbeats 2000000
namespace BL
open PySem PySem.Spec PyProof.Rows L2
/-! ### set(xs), xs a list of ints -/
/-- the empty set that is filled -/
abbrev fso (w : World) : Obj := { cls := .type "set", dict := none, data := .set #[] 0 (.fresh 0 0 (!w.params.followText "set-order")) }
section
variable {P : Program} {w : World} {A : Around} {E : Value → Shared → Prop} {s : Shared}
/-- what set.__init__ leaves of the list's ints -/
def Filled (w : World) (s : Shared) (ns : List Int) (s₂ : Shared) : Prop := ∃ h' tk c, s₂ = { s with heap := h', toks := tk } ∧ SetR w h' s.heap.objs.size (fun j => decide (j ∈ ns)) c ∧ ∀ b o, s.heap.get? b = some o → h'.get? b = some o
set_option maxHeartbeats 4000000 in
theorem set_fill {l : Addr} {items : Array Value} {ns : List Int} (hh : A.handled = none) (hl : s.heap.IsList l items) (hit : IntsAre items.toList ns) (hb : ns.length + 1 < scanBound) :
    codeAny (model P w) A (.call (.builtin "set.__init__") ⟨[.ref s.heap.objs.size, .ref l], []⟩) (wants (fun r s₂ => r = .none ∧ Filled w s ns s₂) E) { s with heap := s.heap.push (fso w) } := by
  have hlen := IntsAre.length hit
  rw [Array.length_toList] at hlen
  obtain ⟨⟨cl, di, da, sl⟩, hob, hcl, nl, hda⟩ := hl
  obtain rfl : cl = _ := hcl
  obtain rfl : da = _ := hda
  have hlt : l < s.heap.objs.size := Heap.lt_size hob
  have hob1 : (s.heap.push (fso w)).get? l = _ := Heap.get?_push_of_some (fso w) hob
  have hlist : (s.heap.push (fso w)).IsList l items := ⟨_, hob1, rfl, nl, rfl⟩
  have hset : (s.heap.push (fso w)).get? s.heap.objs.size = some (fso w) := Heap.get?_push_size _ rfl
  have hz1 : (s.heap.push (fso w)).objs.size = s.heap.objs.size + 1 := Heap.size_push ..
  have hT : Shared.TypeIs { s with heap := s.heap.push (fso w) } (.ref s.heap.objs.size) "set" := ⟨_, hset, rfl⟩
  have n1 := F.sub_list_set
  have n2 := F.sub_list_frozenset
  have n3 : (Value.type "list" == Value.type "dict") = false := by decide
  refine codeAny_call_builtin F.called_set.init.plain F.entry_set_init (check_set_init_1 hT ?_)
  unfold Builtin.«set.__init__» noKeywords Builtin.Frozenset.updateFrom
  generalize hw : pyIter = walk
  wp_walk
  subst hw
  refine wpAny_pyIter_list hlist (wpAny_bind (wpAny_runValue ?_))
  have hz2 : l < (s.heap.push (fso w)).objs.size := by rw [hz1]; exact Nat.lt_succ_of_lt hlt
  have hdl : l ≠ (s.heap.push (fso w)).objs.size := Nat.ne_of_lt hz2
  have hd0 : s.heap.objs.size ∉ [(s.heap.push (fso w)).objs.size, l] := fun m => by
    rcases List.mem_cons.mp m with e | e
    · exact absurd e (Nat.ne_of_lt (by omega))
    · exact absurd (List.mem_singleton.mp e).symm (Nat.ne_of_lt (by omega))
  have hat : ∀ (i : Nat) (v : Value), items[i]? = some v → ∃ k t, ns[i]? = some k ∧ v = .int k t := fun i v hv => by
    have hi : i < ns.length := by have := (Array.getElem?_eq_some_iff.mp hv).1; omega
    obtain ⟨t, e⟩ := IntsAre.int_at hit i v (by rw [Array.getElem?_toList]; exact hv)
    exact ⟨_, t, List.getElem?_eq_getElem hi, by rw [e, List.getD_eq_getElem?_getD, List.getElem?_eq_getElem hi]; rfl⟩
  refine set_update_ints (Walks.list (by simp [hh]) _ l hdl items).toS s.heap.objs.size hd0 ns hlen hb hat items.size 0 _ rfl (Nat.zero_le _)
    ⟨⟨_, Heap.get?_push_size _ rfl, rfl, rfl⟩, hlist.push _⟩ ⟨0, Nat.le_refl 0, setR_new_at (Heap.get?_push_of_some _ hset)⟩ fun s2 c mv hc hR => ?_
  obtain ⟨h2, g2, d2, t2, o2⟩ := s2
  cases (mv.gens : g2 = s.gens)
  cases (mv.drawn : d2 = s.drawn)
  cases (mv.os : o2 = s.os)
  refine wpAny_pure (wpAny_pure ⟨rfl, h2, t2, c, rfl, hR, fun b o e => ?_⟩)
  have hb0 : b < s.heap.objs.size := Heap.lt_size e
  refine mv.heap b o (fun m => ?_) (Heap.get?_push_of_some _ (Heap.get?_push_of_some _ e))
  rcases List.mem_cons.mp m with z | z
  · exact absurd z (Nat.ne_of_lt (by omega))
  · exact absurd ((List.mem_singleton.mp z).trans hz1) (Nat.ne_of_lt (Nat.lt_succ_of_lt hb0))
theorem setI_list {l : Addr} {items : Array Value} {ns : List Int} {Q : Value → Shared → Prop} (hh : A.handled = none) (hl : s.heap.IsList l items) (hit : IntsAre items.toList ns) (hb : ns.length + 1 < scanBound)
    (h : ∀ s₂, Filled w s ns s₂ → Q (.ref s.heap.objs.size) s₂) : wpAny (model P w) A (call (.type "set") [.ref l]) Q E s := by
  obtain ⟨_, _, hmro⟩ := F.called_set.mro
  have k1 := F.called_set.made
  have k2 := F.called_set.sub
  have k3 := F.called_set.notType
  have k4 := F.called_set.canCreate
  have k5 := F.typeCall_set_1 (.ref l)
  refine wpAny_call (codeAny_of_tree (wpAny_pure ⟨Code.quiet_builtin _ (by decide +kernel), codeAny_builtin F.entry_type_call ?_⟩))
  rw [Around.under_plain (weight_type_call_type "set" [.ref l] []) rfl]
  repeat any_goals first | assumption | wp_step
  refine codeAny_mono (code_set_led1 (.ref l) (E := E) (Q₁ := fun v s₁ => v = .ref s.heap.objs.size ∧ s₁ = { s with heap := s.heap.push (fso w) }) ⟨rfl, rfl⟩) fun r s₁ hr => ?_
  match r, hr with
  | .error _, hr => exact hr
  | .ok (.ret _), hr =>
    obtain ⟨rfl, rfl⟩ := hr
    have hT : Shared.TypeIs { s with heap := s.heap.push (fso w) } (.ref s.heap.objs.size) "set" := ⟨_, Heap.get?_push_size _ rfl, rfl⟩
    have k6 := F.called_set.init.lookup
    have k7 := F.called_set.init.bind (.ref s.heap.objs.size)
    repeat any_goals first | assumption | wp_step
    refine codeAny_mono (set_fill (E := E) (by simp [hh]) hl hit hb) fun r₂ s₂ hr₂ => ?_
    match r₂, hr₂ with
    | .error _, hr₂ => exact hr₂
    | .ok (.ret _), hr₂ =>
      obtain ⟨rfl, f⟩ := hr₂
      repeat any_goals first | assumption | wp_step
      exact h _ f
end
/-! ### sorted(set(xs)) -/
theorem filled_few {w : World} {h : Heap} {a : Addr} {ns : List Int} {c : Nat} (R : SetR w h a (fun j => decide (j ∈ ns)) c) : ∃ L : List Int, L.Nodup ∧ L.length = c ∧ ∀ k, k ∈ L ↔ k ∈ ns := by
  obtain ⟨o, es, ep, t, _, _, _, _, nd, hm, _, _, hn, _⟩ := R
  exact ⟨es.toList.map keyOf, nd, by rw [List.length_map, Array.length_toList]; exact hn, fun k => by rw [← hm k, decide_eq_true_eq]⟩
def rSetI (K : Fg) (w : World) : List V → Hp → VK → Prop := fun xs H Q => ∃ (l : Addr) (ns : List Int), xs = [V.ref l] ∧ SqL K H l (ns.map V.int) ∧ ns.length < 4000 ∧
  ∀ p c, H p = none → (∃ L : List Int, L.Nodup ∧ L.length = c ∧ ∀ k, k ∈ L ↔ k ∈ ns) → Q (.ref p) (upd H p (SetO w p (fun j => decide (j ∈ ns)) c))
theorem cr_setI {X : Cx} (hc : X.calm = true) : CallR X (.type "set") (rSetI X.K X.w) := by
  intro pins s σ H xs us Q I r h
  obtain ⟨l, ns, rfl, hl, hb, q⟩ := h
  rw [Vals.ref1 r]
  obtain ⟨its, rv, pl, hz⟩ := I.list hl
  refine setI_list (P := X.prog) (w := X.w) (I.ok.hd hc) pl.isList (ns := ns) (by simpa using rv.ints) (by unfold scanBound; omega) fun s2 f => ?_
  obtain ⟨h2, tk, c, rfl, R, k⟩ := f
  exact ⟨.ref _, _, I.laid (t' := tk) k (Nat.le_refl _) (setO_new R), rfl, q _ c (I.hok.fresh (Nat.le_refl _)) (filled_few R)⟩
/-- the members in strictly rising order -/
def insS (x : Int) : List Int → List Int
  | [] => [x]
  | y :: r => if x < y then x :: y :: r else if x = y then y :: r else y :: insS x r
def srtS : List Int → List Int
  | [] => []
  | x :: r => insS x (srtS r)
theorem insS_mem (x k : Int) : ∀ l : List Int, k ∈ insS x l ↔ k = x ∨ k ∈ l
  | [] => by simp [insS]
  | y :: r => by
    unfold insS
    split
    · simp
    · split
      · next h => subst h; simp
      · rw [List.mem_cons, insS_mem x k r, List.mem_cons]; exact or_left_comm
theorem srtS_mem (k : Int) : ∀ l : List Int, k ∈ srtS l ↔ k ∈ l
  | [] => Iff.rfl
  | x :: r => by show k ∈ insS x (srtS r) ↔ _; rw [insS_mem, srtS_mem k r, List.mem_cons]
theorem insS_up (x : Int) : ∀ {l : List Int}, l.Pairwise (· < ·) → (insS x l).Pairwise (· < ·)
  | [], _ => by simp [insS]
  | y :: r, h => by
    obtain ⟨h1, h2⟩ := List.pairwise_cons.mp h
    unfold insS
    split
    · refine List.pairwise_cons.mpr ⟨fun z hz => ?_, h⟩
      rcases List.mem_cons.mp hz with e | e
      · omega
      · have := h1 z e; omega
    · split
      · exact h
      · refine List.pairwise_cons.mpr ⟨fun z hz => ?_, insS_up x h2⟩
        rcases (insS_mem x z r).mp hz with e | e
        · omega
        · exact h1 z e
theorem srtS_up : ∀ l : List Int, (srtS l).Pairwise (· < ·)
  | [] => .nil
  | x :: r => insS_up x (srtS_up r)
theorem up_ext : ∀ {l r : List Int}, l.Pairwise (· < ·) → r.Pairwise (· < ·) → (∀ k, k ∈ l ↔ k ∈ r) → l = r
  | [], [], _, _, _ => rfl
  | [], y :: r, _, _, h => absurd ((h y).mpr (List.mem_cons_self ..)) (by simp)
  | x :: l, [], _, _, h => absurd ((h x).mp (List.mem_cons_self ..)) (by simp)
  | x :: l, y :: r, h1, h2, h => by
    obtain ⟨a1, a2⟩ := List.pairwise_cons.mp h1
    obtain ⟨b1, b2⟩ := List.pairwise_cons.mp h2
    have e : x = y := by
      have m1 := List.mem_cons.mp ((h x).mp (List.mem_cons_self ..))
      have m2 := List.mem_cons.mp ((h y).mpr (List.mem_cons_self ..))
      rcases m1 with m | m
      · exact m
      · rcases m2 with q | q
        · exact q.symm
        · have := a1 y q; have := b1 x m; omega
    subst e
    rw [up_ext a2 b2 fun k => ⟨fun m => ?_, fun m => ?_⟩]
    · rcases List.mem_cons.mp ((h k).mp (List.mem_cons_of_mem _ m)) with q | q
      · have := a1 k m; omega
      · exact q
    · rcases List.mem_cons.mp ((h k).mpr (List.mem_cons_of_mem _ m)) with q | q
      · have := b1 k m; omega
      · exact q
theorem srtS_eq {ns l : List Int} (hu : ns.Pairwise (· < ·)) (h : ∀ k, k ∈ ns ↔ k ∈ l) : ns = srtS l := up_ext hu (srtS_up l) fun k => (h k).trans (srtS_mem k l).symm
theorem up_len : ∀ (n : Nat) (a : Int) {l : List Int}, l.Pairwise (· < ·) → (∀ k ∈ l, a ≤ k ∧ k < a + n) → l.length ≤ n
  | _, _, [], _, _ => Nat.zero_le _
  | 0, a, x :: l, _, h => by have := h x (List.mem_cons_self ..); omega
  | n + 1, a, x :: l, hu, h => by
    obtain ⟨a1, a2⟩ := List.pairwise_cons.mp hu
    have h0 := h x (List.mem_cons_self ..)
    have := up_len n (a + 1) a2 fun k hk => by
      have := a1 k hk; have := h k (List.mem_cons_of_mem _ hk); omega
    simp only [List.length_cons]; omega
theorem nd_srtS {L l : List Int} (nd : L.Nodup) (h : ∀ k, k ∈ L ↔ k ∈ l) : L.length = (srtS l).length := by
  have n2 : (srtS l).Nodup := (srtS_up l).imp fun h => by omega
  exact ((List.perm_ext_iff_of_nodup nd n2).mpr fun k => (h k).trans (srtS_mem k l).symm).length_eq
section
variable {K : Fg} {w : World} {σ : L2.St} {H : Hp} {ta : TE}
theorem erl_srtS {l : List Int} (h : Er K ta σ H l) (h1 : l.length < 4000) (h2 : (srtS l).length < 64) : ErL K (tCB (rSortedSet w) (tCons (tCB (rSetI K w) (tCons ta tNil)) tNil)) σ H (srtS l) := fun H1 e Q q => h H1 e _ fun v H2 e2 r => by
  obtain ⟨a, vs, rfl, f, hv⟩ := r
  refine ⟨a, l, rfl, by rw [← rl_ints hv]; exact f.seq, h1, fun p c hp ⟨L, nd, hL, hm⟩ => ?_⟩
  have e3 : Same H2 (upd H2 p (SetO w p (fun j => decide (j ∈ l)) c)) := same_new hp
  refine ⟨p, _, c, rfl, upd_same, by rw [← hL, nd_srtS nd hm]; exact h2, fun ns p2 up hk _ hp2 => q p2 _ _ ((e2.trans e3).trans (same_new hp2)) ((e2.trans e3).free hp2) upd_same ?_⟩
  rw [← srtS_eq up fun k => (hk k).trans decide_eq_true_iff]
  exact rl_of_ints _
end
/-! ### list(range(..)) -/
theorem paired_map {α β : Type} {F : V → α → Prop} {f : β → V} {g : β → α} (h : ∀ b, F (f b) (g b)) : ∀ l : List β, Paired F (l.map f) (l.map g)
  | [] => .nil
  | b :: l => .cons (h b) (paired_map h l)
section
variable {K : Fg} {σ : L2.St} {H : Hp} {ta tb : TE}
theorem erl_range1 {n : Nat} (h : Er K ta σ H n) (hz : n ≤ 1000000) : ErL K (tLstRg (tRg1 ta)) σ H (List.range n) := fun H1 e Q q => h H1 e _ fun v H2 e2 r => by
  refine ⟨(n : Int), (show v = .int n from r), ⟨by omega, by omega, by omega, by omega, by omega⟩, fun p hp => q p _ _ (e2.trans (same_new hp)) (e2.free hp) upd_same ?_⟩
  unfold rgV
  rw [show ((n : Int) - 0).toNat = n by omega]
  have := paired_map (F := Rp.rep K (upd H2 p (.lst ((List.range n).map fun i : Nat => V.int (0 + (i : Int)))))) (f := fun i : Nat => V.int (0 + (i : Int))) (g := fun i : Nat => i) (fun i => show V.int (0 + (i : Int)) = V.int i by rw [Int.zero_add]) (List.range n)
  rw [List.map_id'] at this
  exact this
theorem erl_range2 {i j : Int} (h : Er K ta σ H i) (h' : Er K tb σ H j) (h1 : -1000000 ≤ i ∧ i ≤ 1000000) (h2 : -1000000 ≤ j ∧ j ≤ 1000000) : ErL K (tLstRg (tRg2 ta tb)) σ H (rgI i (j - i).toNat) := fun H1 e Q q => h H1 e _ fun v H2 e2 r => h' H2 (e.trans e2) _ fun u H3 e3 r3 => by
  refine ⟨i, j, (show v = .int i from r), (show u = .int j from r3), ⟨by omega, by omega, by omega, by omega, by omega⟩, fun p hp => q p _ _ ((e2.trans e3).trans (same_new hp)) ((e2.trans e3).free hp) upd_same ?_⟩
  exact paired_map (F := Rp.rep K _) (f := fun k : Nat => V.int (i + (k : Int))) (g := fun k : Nat => i + (k : Int)) (fun k => rfl) _
end
section
variable {X : Cx} (K : Fg) (h : X.K = K)
include h
theorem k_setI (hc : X.calm = true) : CallR X (.type "set") (rSetI K X.w) := by subst h; exact cr_setI hc
end
end BL

set_option Elab.async false
set_option linter.all false
set_option maxRecDepth 100000
set_option maxHeartbeats 2000000
namespace BL
open PySem PySem.Spec PyProof.Rows L2
/-! ### zip, walked with one name -/
/-- a zip: what it says of its tuple -/
abbrev ZipO (h : Heap) (z TI TO : Addr) (v : Value) (f : Bool) : Prop := h.get? z = some { cls := .type "zip", dict := none, data := .fields #[v, .bool f, .bool false, .ref TI, .ref TO], slots := #[] }
section
variable {prog : Program} {w : World} {A : Around} {E : Value → Shared → Prop} {s : Shared} {z TI TO i1 i2 l1 l2 : Addr} {k1 k2 : Nat} {xs ys : Array Value} {x y a b v : Value} {f : Bool}
/-- its tuple may be taken again -/
def FreeZ (prog : Program) (w : World) (z : Addr) (s : Shared) : Prop := ∀ (A : Around) (E : Value → Shared → Prop) (Q : Bool → Shared → Prop), Q true s → wpAny (model prog w) A (Builtin.SmallTypes.ownedTupleIsFree (.ref z)) Q E s
theorem free_none (hz : ZipO s.heap z TI TO .none f) : FreeZ prog w z s := fun A E Q q => by
  unfold Builtin.SmallTypes.ownedTupleIsFree
  exact wpAny_bind (wpAny_field hz rfl (x := .none) rfl (wpAny_pure q))
theorem free_dead {T : Addr} (hz : ZipO s.heap z TI TO (rawInt T) f) (hT : s.heap.get? T = none) : FreeZ prog w z s := fun A E Q q => by
  unfold Builtin.SmallTypes.ownedTupleIsFree
  refine wpAny_bind (wpAny_field hz rfl (x := rawInt T) rfl ?_)
  show wpAny _ _ (loadIfAlive ((T : Int).toNat) >>= _) _ _ _
  rw [Int.toNat_natCast]
  refine wpAny_bind ?_
  have e : ∀ R : Option Obj → Shared → Prop, R none s → wpAny (model prog w) A (loadIfAlive T) R E s := fun R r => by
    have r' : R (s.heap.get? T) s := by rw [hT]; exact r
    exact fun _ _ _ => r'
  exact e _ (wpAny_pure q)
/-- all but these stay -/
def Stay (ps : List Addr) (h h' : Heap) : Prop := ∀ c o, c ∉ ps → h.get? c = some o → h'.get? c = some o
theorem Stay.refl {ps : List Addr} (h : Heap) : Stay ps h h := fun _ _ _ e => e
theorem Stay.but {ps : List Addr} {h h1 h2 : Heap} {p : Addr} (a : Stay ps h h1) (m : p ∈ ps) (b : Heap.SameBut p h1 h2) : Stay ps h h2 := fun c o n e => b.extBut c o (fun q => n (q ▸ m)) (a c o n e)
theorem Stay.ext {ps : List Addr} {h h1 h2 : Heap} {p : Addr} (a : Stay ps h h1) (m : p ∈ ps) (b : ∀ c o, c ≠ p → h1.get? c = some o → h2.get? c = some o) : Stay ps h h2 := fun c o n e => b c o (fun q => n (q ▸ m)) (a c o n e)
theorem Stay.push {ps : List Addr} {h h1 : Heap} (a : Stay ps h h1) (o : Obj) : Stay ps h (h1.push o) := fun c u n e => Heap.get?_push_of_some _ (a c u n e)
set_option maxHeartbeats 4000000 in
theorem zipn_item (D : ZipApart z TI TO i1 i2 l1 l2) (hf : FreeZ prog w z s) (hz : ZipO s.heap z TI TO v f) (hTI : IsPair s.heap TI (.ref i1) (.ref i2)) (hTO : IsPair s.heap TO a b)
    (h1 : s.heap.IsListIter i1 l1 k1) (h2 : s.heap.IsListIter i2 l2 k2) (hl1 : s.heap.IsList l1 xs) (hl2 : s.heap.IsList l2 ys) (hx : xs[k1]? = some x) (hy : ys[k2]? = some y) {Q : Value → Shared → Prop}
    (hQ : ∀ h', ZipO h' z TI TO (rawInt s.heap.objs.size) false → IsPair h' TO x y → h'.IsListIter i1 l1 (k1 + 1) → h'.IsListIter i2 l2 (k2 + 1) → IsPair h' s.heap.objs.size x y → Stay [z, TO, i1, i2] s.heap h' → Q (.ref s.heap.objs.size) { s with heap := h' }) :
    wpAny (model prog w) A (Builtin.«zip.__next__» ⟨[.ref z], []⟩) (fun fin s' => ∃ u, fin = .done (.ret u) ∧ Q u s') E s := by
  unfold Builtin.«zip.__next__»
  show wpAny _ _ (field _ 2 >>= _) _ _ _
  refine wpAny_bind (wpAny_field hz rfl rfl ?_)
  show wpAny _ _ (field _ 3 >>= _) _ _ _
  refine wpAny_bind (wpAny_field hz rfl rfl (wpAny_bind (wpAny_seqItems hTI rfl ?_)))
  show wpAny _ _ (Builtin.SmallTypes.ownedTupleIsFree _ >>= _) _ _ _
  refine wpAny_bind (hf _ _ _ ?_)
  rw [if_pos rfl]
  refine wpAny_bind (wpAny_rule (wpAny_bind (wpAny_field hz rfl rfl (wpAny_bind (wpAny_setField_rec hz (by simp) fun g1 z1 b1 => ?_)))))
  replace z1 : ZipO g1 z TI TO .ellipsis f := z1
  refine wpAny_bind ?_
  simp only [List.forIn_cons, List.forIn_nil, List.zipIdx_cons, List.zipIdx_nil]
  have s1 : Stay [z, TO, i1, i2] s.heap g1 := (Stay.refl _).but (by simp) b1
  refine wpAny_bind (wpAny_bind (wpAny_onRaise ?_))
  show wpAny _ _ (Builtin.SmallTypes.nextOf _ >>= _) _ _ _
  refine wpAny_bind (wpAny_nextOf_list_item (h1.extBut b1.extBut D.i1z) (hl1.extBut b1.extBut D.l1z) hx fun g2 j1 b2 => wpAny_pure ?_)
  have t2 : IsPair g2 TO a b := b2.extBut _ _ D.TOi1 (b1.extBut _ _ D.TOz hTO)
  refine wpAny_bind (wpAny_seqItems t2 rfl (wpAny_bind (wpAny_updateSeq_pair t2 fun g3 t3 b3 => wpAny_bind (wpAny_letGo (wpAny_pure ?_)))))
  replace t3 : IsPair g3 TO x b := t3
  refine wpAny_bind (wpAny_bind (wpAny_onRaise ?_))
  show wpAny _ _ (Builtin.SmallTypes.nextOf _ >>= _) _ _ _
  have k3 := ((h2.extBut b1.extBut D.i2z).extBut b2.extBut D.i12.symm).extBut b3.extBut D.TOi2.symm
  have m3 := ((hl2.extBut b1.extBut D.l2z).extBut b2.extBut D.l2i1).extBut b3.extBut D.l2TO
  refine wpAny_bind (wpAny_nextOf_list_item k3 m3 hy fun g4 j2 b4 => wpAny_pure ?_)
  have t4 : IsPair g4 TO x b := b4.extBut _ _ D.TOi2 t3
  refine wpAny_bind (wpAny_seqItems t4 rfl (wpAny_bind (wpAny_updateSeq_pair t4 fun g5 t5 b5 => wpAny_bind (wpAny_letGo (wpAny_pure (wpAny_pure ?_))))))
  replace t5 : IsPair g5 TO x y := t5
  have hs : g5.objs.size = s.heap.objs.size := by rw [b5.1, b4.1, b3.1, b2.1, b1.1]
  have z5 : ZipO g5 z TI TO .ellipsis f := b5.extBut _ _ D.TOz.symm (b4.extBut _ _ D.i2z.symm (b3.extBut _ _ D.TOz.symm (b2.extBut _ _ D.i1z.symm z1)))
  have s5 : Stay [z, TO, i1, i2] s.heap g5 := ((((s1.but (by simp) b2).but (by simp) b3).but (by simp) b4).but (by simp) b5)
  have c1 : g5.IsListIter i1 l1 (k1 + 1) := ((j1.extBut b3.extBut D.TOi1.symm).extBut b4.extBut D.i12).extBut b5.extBut D.TOi1.symm
  have c2 : g5.IsListIter i2 l2 (k2 + 1) := j2.extBut b5.extBut D.TOi2.symm
  refine wpAny_bind (wpAny_seqItems t5 rfl (wpAny_bind (wpAny_newTuple ?_)))
  show wpAny _ _ (Builtin.SmallTypes.ownedTupleHandOut _ (.ref g5.objs.size) >>= _) _ _ _
  unfold Builtin.SmallTypes.ownedTupleHandOut
  have zl : z < g5.objs.size := Heap.lt_size z5
  refine wpAny_bind (wpAny_bind (wpAny_setField_rec (Heap.get?_push_of_some _ z5) (by simp) fun g6 z6 b6 => ?_))
  replace z6 : ZipO g6 z TI TO (rawInt g5.objs.size) f := z6
  refine wpAny_setField_rec z6 (by simp) fun g7 z7 b7 => wpAny_pure ⟨_, rfl, ?_⟩
  replace z7 : ZipO g7 z TI TO (rawInt g5.objs.size) false := z7
  have s7 : Stay [z, TO, i1, i2] s.heap g7 := ((s5.push _).but (by simp) b6).but (by simp) b7
  have on : ∀ c o, c ≠ z → g5.get? c = some o → g7.get? c = some o := fun c o n e => b7.extBut _ _ n (b6.extBut _ _ n (Heap.get?_push_of_some _ e))
  have new : IsPair g7 g5.objs.size x y := b7.extBut _ _ (Nat.ne_of_gt zl) (b6.extBut _ _ (Nat.ne_of_gt zl) (Heap.get?_push_size _ rfl))
  show Q (.ref g5.objs.size) _
  rw [hs] at z7 new ⊢
  exact hQ g7 z7 (on _ _ D.TOz t5) (c1.at fun o e => on _ o D.i1z e) (c2.at fun o e => on _ o D.i2z e) new s7
set_option maxHeartbeats 4000000 in
theorem zipn_end (hh : A.handled = none) (D : ZipApart z TI TO i1 i2 l1 l2) (hf : FreeZ prog w z s) (hz : ZipO s.heap z TI TO v f) (hTI : IsPair s.heap TI (.ref i1) (.ref i2)) (hTO : IsPair s.heap TO a b)
    (h1 : s.heap.IsListIter i1 l1 k1) (h2 : s.heap.IsListIter i2 l2 k2) (hl1 : s.heap.IsList l1 xs) (hl2 : s.heap.IsList l2 ys) (hend : xs[k1]? = none ∨ ys[k2]? = none) {Q : Fin → Shared → Prop}
    (hE : ∀ h' e, Stay [z, TO, i1, i2] s.heap h' → (∃ o, h'.get? e = some o ∧ o.cls = .type "StopIteration") → E (.ref e) { s with heap := h' }) : wpAny (model prog w) A (Builtin.«zip.__next__» ⟨[.ref z], []⟩) Q E s := by
  unfold Builtin.«zip.__next__»
  show wpAny _ _ (field _ 2 >>= _) _ _ _
  refine wpAny_bind (wpAny_field hz rfl rfl ?_)
  show wpAny _ _ (field _ 3 >>= _) _ _ _
  refine wpAny_bind (wpAny_field hz rfl rfl (wpAny_bind (wpAny_seqItems hTI rfl ?_)))
  show wpAny _ _ (Builtin.SmallTypes.ownedTupleIsFree _ >>= _) _ _ _
  refine wpAny_bind (hf _ _ _ ?_)
  rw [if_pos rfl]
  refine wpAny_bind (wpAny_rule (wpAny_bind (wpAny_field hz rfl rfl (wpAny_bind (wpAny_setField_rec hz (by simp) fun g1 z1 b1 => ?_)))))
  replace z1 : ZipO g1 z TI TO .ellipsis f := z1
  refine wpAny_bind ?_
  simp only [List.forIn_cons, List.forIn_nil, List.zipIdx_cons, List.zipIdx_nil]
  have s1 : Stay [z, TO, i1, i2] s.heap g1 := (Stay.refl _).but (by simp) b1
  refine wpAny_bind (wpAny_bind (wpAny_onRaise ?_))
  show wpAny _ _ (Builtin.SmallTypes.nextOf _ >>= _) _ _ _
  have p1 := h1.extBut b1.extBut D.i1z
  have q1 := hl1.extBut b1.extBut D.l1z
  have fin : ∀ (g2 g : Heap) (e : Addr), Stay [z, TO, i1, i2] s.heap g2 → ZipO g2 z TI TO .ellipsis f → ∀ it, it ∈ [z, TO, i1, i2] → it ≠ z → (∀ c o, c ≠ it → g2.get? c = some o → g.get? c = some o) → (∃ o, g.get? e = some o ∧ o.cls = .type "StopIteration") →
      wpAny (model prog w) A (setField (.ref z) 0 .none) (fun _ s' => E (.ref e) s') E { s with heap := g } := fun g2 g e st zz it mi hi ke ho => by
    obtain ⟨o, ho, hc⟩ := ho
    have z3 : ZipO g z TI TO .ellipsis f := ke _ _ hi.symm zz
    have ne : e ≠ z := fun q => by subst q; rw [z3] at ho; cases ho; simp at hc
    exact wpAny_setField_rec z3 (by simp) fun g3 _ b3 => hE g3 e ((st.ext mi ke).but (by simp) b3) ⟨o, b3.extBut _ _ ne ho, hc⟩
  cases hx : xs[k1]? with
  | none => exact wpAny_bind (wpAny_nextOf_list_end hh p1 q1 hx fun g2 e ke ho => fin g1 g2 e s1 z1 i1 (by simp) D.i1z ke ho)
  | some x =>
    have hy : ys[k2]? = none := hend.resolve_left (by rw [hx]; exact nofun)
    refine wpAny_bind (wpAny_nextOf_list_item p1 q1 hx fun g2 j1 b2 => wpAny_pure ?_)
    have t2 : IsPair g2 TO a b := b2.extBut _ _ D.TOi1 (b1.extBut _ _ D.TOz hTO)
    refine wpAny_bind (wpAny_seqItems t2 rfl (wpAny_bind (wpAny_updateSeq_pair t2 fun g3 t3 b3 => wpAny_bind (wpAny_letGo (wpAny_pure ?_)))))
    refine wpAny_bind (wpAny_bind (wpAny_onRaise ?_))
    show wpAny _ _ (Builtin.SmallTypes.nextOf _ >>= _) _ _ _
    have k3 := ((h2.extBut b1.extBut D.i2z).extBut b2.extBut D.i12.symm).extBut b3.extBut D.TOi2.symm
    have m3 := ((hl2.extBut b1.extBut D.l2z).extBut b2.extBut D.l2i1).extBut b3.extBut D.l2TO
    have z3 : ZipO g3 z TI TO .ellipsis f := b3.extBut _ _ D.TOz.symm (b2.extBut _ _ D.i1z.symm z1)
    exact wpAny_bind (wpAny_nextOf_list_end hh k3 m3 hy fun g4 e ke ho => fin g3 g4 e ((s1.but (by simp) b2).but (by simp) b3) z3 i2 (by simp) D.i2z ke ho)
theorem zipn_pyItem (D : ZipApart z TI TO i1 i2 l1 l2) (hf : FreeZ prog w z s) (hz : ZipO s.heap z TI TO v f) (hTI : IsPair s.heap TI (.ref i1) (.ref i2)) (hTO : IsPair s.heap TO a b)
    (h1 : s.heap.IsListIter i1 l1 k1) (h2 : s.heap.IsListIter i2 l2 k2) (hl1 : s.heap.IsList l1 xs) (hl2 : s.heap.IsList l2 ys) (hx : xs[k1]? = some x) (hy : ys[k2]? = some y) {Q : Option Value → Shared → Prop}
    (hQ : ∀ h', ZipO h' z TI TO (rawInt s.heap.objs.size) false → IsPair h' TO x y → h'.IsListIter i1 l1 (k1 + 1) → h'.IsListIter i2 l2 (k2 + 1) → IsPair h' s.heap.objs.size x y → Stay [z, TO, i1, i2] s.heap h' → Q (some (.ref s.heap.objs.size)) { s with heap := h' }) :
    wpAny (model prog w) A (pyNext (.ref z)) Q E s := by
  have ty : s.TypeIs (.ref z) "zip" := ⟨_, hz, rfl⟩
  unfold pyNext
  exact wpAny_bind (wpAny_attempt (wpAny_callSpecial?_slot (name := Str.ofString "__next__") ty F.slot_zip_next (wpAny_call_entry F.slot_zip_next ty F.entry_zip_next (zipn_item D (fun A E Q q => hf A E Q q) hz hTI hTO h1 h2 hl1 hl2 hx hy fun h' b1 b2 b3 b4 b5 b6 => wpAny_pure (hQ h' b1 b2 b3 b4 b5 b6)) (F.args_zip_next_1 _))))
theorem zipn_pyEnd (hh : A.handled = none) (D : ZipApart z TI TO i1 i2 l1 l2) (hf : FreeZ prog w z s) (hz : ZipO s.heap z TI TO v f) (hTI : IsPair s.heap TI (.ref i1) (.ref i2)) (hTO : IsPair s.heap TO a b)
    (h1 : s.heap.IsListIter i1 l1 k1) (h2 : s.heap.IsListIter i2 l2 k2) (hl1 : s.heap.IsList l1 xs) (hl2 : s.heap.IsList l2 ys) (hend : xs[k1]? = none ∨ ys[k2]? = none) {Q : Option Value → Shared → Prop}
    (hQ : ∀ h', Stay [z, TO, i1, i2] s.heap h' → Q none { s with heap := h' }) : wpAny (model prog w) A (pyNext (.ref z)) Q E s := by
  have ty : s.TypeIs (.ref z) "zip" := ⟨_, hz, rfl⟩
  unfold pyNext
  refine wpAny_bind (wpAny_attempt (wpAny_callSpecial?_slot (name := Str.ofString "__next__") ty F.slot_zip_next (wpAny_call_entry F.slot_zip_next ty F.entry_zip_next (zipn_end (A := A.in1) hh D (fun A E Q q => hf A E Q q) hz hTI hTO h1 h2 hl1 hl2 hend fun h' e st ho => ?_) (F.args_zip_next_1 _))))
  obtain ⟨o, ho, hc⟩ := ho
  exact wpAny_bind (wpAny_isInstance (T := "StopIteration") (b := true) ⟨o, ho, hc⟩ isSubtype_stop (wpAny_pure (hQ _ st)))
end
/-- what its zip may be at each turn -/
def ZipS (z TI TO i1 i2 l1 l2 : Addr) (i : Nat) (h : Heap) : Prop := ∃ v f, ZipO h z TI TO v f ∧ (v = .none ∨ ∃ T : Addr, v = rawInt T) ∧ IsPair h TI (.ref i1) (.ref i2) ∧ (∃ x y, IsPair h TO x y) ∧ h.IsListIter i1 l1 i ∧ h.IsListIter i2 l2 i
theorem turn_zipN {P : Program} {w : World} {K : Fg} {nm : Str} {np : Pos} {a b z TI TO i1 i2 : Addr} (D : ZipApart z TI TO i1 i2 a b) : Turn P w K (.Name nm np) (Itz K a b) [z, TI, TO, i1, i2] z (ZipS z TI TO i1 i2 a b) where
  mem := by simp
  obj := fun i h st c hc => by
    obtain ⟨v, f, hz, _, hTI, ⟨x, y, hTO⟩, ⟨o1, e1, _, d1⟩, ⟨o2, e2, _, d2⟩⟩ := st
    simp only [List.mem_cons, List.mem_nil_iff, or_false] at hc
    rcases hc with q | q | q | q | q
    · exact q ▸ ⟨_, hz, nofun⟩
    · exact q ▸ ⟨_, hTI, nofun⟩
    · exact q ▸ ⟨_, hTO, nofun⟩
    · exact q ▸ ⟨o1, e1, fun v q => by rw [d1] at q; cases q⟩
    · exact q ▸ ⟨o2, e2, fun v q => by rw [d2] at q; cases q⟩
  keep := fun i h h' st k => by
    obtain ⟨v, f, hz, hv, hTI, ⟨x, y, hTO⟩, h1, h2⟩ := st
    exact ⟨v, f, k z (by simp) _ hz, hv, k TI (by simp) _ hTI, ⟨x, y, k TO (by simp) _ hTO⟩, h1.at fun o q => k i1 (by simp) o q, h2.at fun o q => k i2 (by simp) o q⟩
  item := by
    rintro X rfl rfl rfl hc i pins s σ H E I hf ⟨v, f, hz, hv, hTI, ⟨x0, y0, hTO⟩, h1, h2⟩ ⟨xs, ys, x, y, hqx, hqy, hx, hy⟩
    obtain ⟨its, rv, p, _⟩ := I.list hqx
    obtain ⟨its2, rv2, p2, _⟩ := I.list hqy
    obtain ⟨u, hu, ru⟩ := rv.get hx
    obtain ⟨u2, hu2, ru2⟩ := rv2.get hy
    have fresh : ∀ c ∈ [z, TI, TO, i1, i2], c < s.heap.objs.size := fun c hc => by
      simp only [List.mem_cons, List.mem_nil_iff, or_false] at hc
      rcases hc with q | q | q | q | q
      · exact q ▸ Heap.lt_size hz
      · exact q ▸ Heap.lt_size hTI
      · exact q ▸ Heap.lt_size hTO
      · obtain ⟨_, e, _⟩ := h1; exact q ▸ Heap.lt_size e
      · obtain ⟨_, e, _⟩ := h2; exact q ▸ Heap.lt_size e
    have done : ∀ h', (∃ v f, ZipO h' z TI TO v f ∧ (v = .none ∨ ∃ T : Addr, v = rawInt T)) → IsPair h' TI (.ref i1) (.ref i2) → (∃ x y, IsPair h' TO x y) → h'.IsListIter i1 a (i + 1) → h'.IsListIter i2 b (i + 1) → IsPair h' s.heap.objs.size u u2 → Stay [z, TO, i1, i2] s.heap h' →
        ∃ u', some (Value.ref s.heap.objs.size) = some u' ∧ wpAny (model X.prog X.w) X.A (letOwnedTupleGo (.Name nm np) (.ref z) u') (fun _ s2 => ∃ x H', Inv X pins σ H' s2 ∧ RelV x u' ∧ (Itz X.K a b).yld i H x H' ∧ ZipS z TI TO i1 i2 a b (i + 1) s2.heap ∧ ∀ b ∈ [z, TI, TO, i1, i2], H' b = none) E { s with heap := h' } := fun h' ⟨v', f', z', hv'⟩ tI tO j1 j2 new st => by
      refine ⟨_, rfl, ?_⟩
      have ok : ObjOk X.prog X.w (upd H s.heap.objs.size (.tup [x, y])) h' s.heap.objs.size (.tup [x, y]) := ⟨by show 2 ≤ sizeLine; decide, [u, u2], .cons ru (.cons ru2 .nil), ⟨_, new, rfl, _, rfl⟩⟩
      have I1 : Inv X pins σ (upd H s.heap.objs.size (.tup [x, y])) { s with heap := h' } :=
        I.turnedNew (t' := s.toks) (ch := [z, TI, TO, i1, i2]) (fun c o n q => st c o (fun m => n (by simp only [List.mem_cons, List.mem_nil_iff, or_false] at m; rcases m with q | q | q | q <;> simp [q])) q) hf (Nat.le_refl _) ok
      refine wpAny_pure ⟨.ref s.heap.objs.size, _, I1, rfl, ⟨_, x, y, rfl, I.hok.fresh (Nat.le_refl _), rfl, fun l hl => by rw [I.list_inj hl hqx]; exact hx, fun l hl => by rw [I.list_inj hl hqy]; exact hy⟩, ⟨v', f', z', hv', tI, tO, j1, j2⟩, fun c hc => ?_⟩
      rw [upd_ne (Nat.ne_of_lt (fresh c hc))]
      exact (hf c hc).1
    have nTI : TI ∉ [z, TO, i1, i2] := by
      simp only [List.mem_cons, List.mem_nil_iff, or_false, not_or]
      exact ⟨D.TIz, D.TITO, D.TIi1, D.TIi2⟩
    by_cases fr : FreeZ X.prog X.w z s
    · exact zipn_pyItem D fr hz hTI hTO h1 h2 p.isList p2.isList (x := u) (y := u2) (by simpa using hu) (by simpa using hu2) fun h' z' tO j1 j2 new st => done h' ⟨_, _, z', .inr ⟨_, rfl⟩⟩ (st _ _ nTI hTI) ⟨_, _, tO⟩ j1 j2 new st
    · rcases hv with rfl | ⟨T, rfl⟩
      · exact absurd (free_none hz) fr
      · cases hT : s.heap.get? T with
        | none => exact absurd (free_dead hz hT) fr
        | some oT =>
          exact PySem.wpAny_pyNext_zip_item_held D hz hT hTI h1 h2 p.isList p2.isList (x := u) (y := u2) (by simpa using hu) (by simpa using hu2) fun h' z' j1 j2 new _ k =>
            done h' ⟨_, _, z', .inr ⟨_, rfl⟩⟩ (k _ _ D.TIz D.TIi1 D.TIi2 hTI) ⟨_, _, k _ _ D.TOz D.TOi1 D.TOi2 hTO⟩ j1 j2 new fun c o n q => k c o (fun e => n (by simp [e])) (fun e => n (by simp [e])) (fun e => n (by simp [e])) q
  done := by
    rintro X rfl rfl rfl hc i pins s σ H E I hf ⟨v, f, hz, hv, hTI, ⟨x0, y0, hTO⟩, h1, h2⟩ ⟨xs, ys, hqx, hqy, hend⟩
    obtain ⟨its, rv, p, _⟩ := I.list hqx
    obtain ⟨its2, rv2, p2, _⟩ := I.list hqy
    have e1 := rv.length
    have e2 := rv2.length
    have he : its.toArray[i]? = none ∨ its2.toArray[i]? = none := hend.imp (fun q => by simp; omega) (fun q => by simp; omega)
    by_cases fr : FreeZ X.prog X.w z s
    · exact zipn_pyEnd (I.ok.hd hc) D fr hz hTI hTO h1 h2 p.isList p2.isList he fun h' st =>
        ⟨rfl, I.turnedL (t' := s.toks) (ch := [z, TI, TO, i1, i2]) (fun c o n q => st c o (fun m => n (by simp only [List.mem_cons, List.mem_nil_iff, or_false] at m; rcases m with q | q | q | q <;> simp [q])) q) hf⟩
    · rcases hv with rfl | ⟨T, rfl⟩
      · exact absurd (free_none hz) fr
      · cases hT : s.heap.get? T with
        | none => exact absurd (free_dead hz hT) fr
        | some oT =>
          exact PySem.wpAny_pyNext_zip_end_held (I.ok.hd hc) D hz hT hTI h1 h2 p.isList p2.isList he fun h' k =>
            ⟨rfl, I.turnedL (t' := s.toks) (ch := [z, TI, TO, i1, i2]) (fun c o n q => k c o (fun e => n (by simp [e])) (fun e => n (by simp [e])) (fun e => n (by simp [e])) q) hf⟩
  self := fun A i s Q E st h => by
    obtain ⟨v, f, hz, _⟩ := st
    have ty : s.TypeIs (.ref z) "zip" := ⟨_, hz, rfl⟩
    refine wpAny_pyIter_slot ty F.slot_zip_iter (wpAny_call_entry F.slot_zip_iter ty F.entry_zip_iter ?_ (F.args_zip_iter_1 _))
    show wpAny _ _ (ret (.ref z)) _ _ s
    exact wpAny_pure ⟨_, rfl, "zip", _, ty, F.slot_zip_next.lookup, h⟩
theorem pi_zipN {X : Cx} {e e2 : Expr} {ta : TA} {p pos np : Pos} {nm : Str} (hg : Gl X "zip") (hm : X.mg "zip" = none) (ha : PA X [e, e2] ta)
    (hs : starEach [e, e2] X.env = (false, eval e X.env) :: starEach [e2] X.env := by rfl) (hpl : (backTo pos (starEach [e2] X.env)).any (·.1) = false := by rfl) : PI X (.Name nm np) (.Call (.Name "zip" p) [e, e2] [] pos) (iZip X.K ta) := by
  refine ⟨fun pins s σ H R I h => ?_⟩
  refine Call_ (ld_blt I hg hm PyProof.Rows.boot_zip (PyProof.Rows.callWith_type1 (thn (ha.run pos pins s σ H _ I h) fun us s1 ⟨vs, H1, I1, r1, q1⟩ => ?_) hs hpl))
  obtain ⟨a, b, xs, ys, ex, hqx, hqy, q⟩ := q1
  subst ex
  obtain ⟨u1, u2, rfl, r1, r2⟩ : ∃ u1 u2, us = [u1, u2] ∧ RelV (.ref a) u1 ∧ RelV (.ref b) u2 := by
    cases r1 with
    | cons r t =>
      cases t with
      | cons r' t' =>
        cases t'
        exact ⟨_, _, rfl, r, r'⟩
  cases (show u1 = .ref a from r1)
  cases (show u2 = .ref b from r2)
  obtain ⟨its, rv, p1, _⟩ := I1.list hqx
  obtain ⟨its2, rv2, p2, _⟩ := I1.list hqy
  have la : a < s1.heap.objs.size := p1.lt
  have lb : b < s1.heap.objs.size := p2.lt
  refine call_zip_2 p1.isList p2.isList fun h' hz hTI hTO j1 j2 hsz k => wpAny_pyIter_zip hz ?_
  have I2 : Inv X pins σ H1 { s1 with heap := h' } := I1.kept (t' := s1.toks) k
  have st0 : ZipS (s1.heap.objs.size + 4) (s1.heap.objs.size + 2) (s1.heap.objs.size + 3) s1.heap.objs.size (s1.heap.objs.size + 1) a b 0 h' := ⟨.none, false, hz, .inl rfl, hTI, ⟨_, _, hTO⟩, j1, j2⟩
  refine ⟨s1.heap.objs.size + 4, [s1.heap.objs.size + 4, s1.heap.objs.size + 2, s1.heap.objs.size + 3, s1.heap.objs.size, s1.heap.objs.size + 1], _, _, H1, rfl, I2, turn_zipN (PySem.W.ktu_apart s1.heap.objs.size a b la lb), st0, fun c hc => ?_, q⟩
  have le : s1.heap.objs.size ≤ c := by
    simp only [List.mem_cons, List.mem_nil_iff, or_false] at hc
    rcases hc with q | q | q | q | q
    · rw [q]; exact Nat.le_add_right _ _
    · rw [q]; exact Nat.le_add_right _ _
    · rw [q]; exact Nat.le_add_right _ _
    · rw [q]; exact Nat.le_refl _
    · rw [q]; exact Nat.le_add_right _ _
  exact I1.fpOk le (I1.hok.fresh le)
section
variable {K : Fg} {α : Type} [Rp α] {x : α}
theorem rr_inDi [Rq α] [Rt α] [DecidableEq α] {l : List α} {i : Decidable (x ∈ l)} (hd : Rq.dep α + 1 ≤ 64 := by decide) : R2r K (rInD K) x l (@decide (x ∈ l) i) := by
  have h := rr_inD (K := K) (x := x) (l := l) hd
  rw [show @decide (x ∈ l) i = @decide (x ∈ l) (List.instDecidableMemOfLawfulBEq x l) from decide_eq_decide.mpr Iff.rfl]; exact h
theorem rr_ninDi [Rq α] [Rt α] [DecidableEq α] {l : List α} {i : Decidable (x ∈ l)} (hd : Rq.dep α + 1 ≤ 64 := by decide) : R2r K (rNotInD K) x l (!@decide (x ∈ l) i) := by
  have h := rr_ninD (K := K) (x := x) (l := l) hd
  rw [show @decide (x ∈ l) i = @decide (x ∈ l) (List.instDecidableMemOfLawfulBEq x l) from decide_eq_decide.mpr Iff.rfl]; exact h
end
section
variable {X : Cx} (K : Fg) (h : X.K = K)
include h
theorem k_pzN {e e2 : Expr} {ta : TA} {p pos np : Pos} {nm : Str} (hg : Gl X "zip") (hm : X.mg "zip" = none) (ha : PA X [e, e2] ta)
    (hs : starEach [e, e2] X.env = (false, eval e X.env) :: starEach [e2] X.env := by rfl) (hpl : (backTo pos (starEach [e2] X.env)).any (·.1) = false := by rfl) :
    PI X (.Name nm np) (.Call (.Name "zip" p) [e, e2] [] pos) (iZip K ta) := by subst h; exact pi_zipN hg hm ha hs hpl
end
end BL

set_option Elab.async false
set_option linter.all false
set_option maxRecDepth 100000
set_option maxHeartbeats 2000000
namespace BL
open PySem PySem.Spec PyProof.Rows L2
/-! ### dicts of ints by ints -/
structure Dt where
  l : List (Int × Int)
def encD (l : List (Int × Int)) : List (Key × V) := l.map fun p => ((Sum.inl p.1 : Key), V.int p.2)
/-- a dict that is locked -/
instance : Rp Dt := ⟨fun _ H v d => ∃ a o, v = .ref a ∧ H a = some (.frz o (.dK (encD d.l))), fun {K H H' v d} e h => by
  obtain ⟨a, o, h1, h2⟩ := h; exact ⟨a, o, h1, e _ _ (.frz _ _) h2⟩⟩
def Dt.get (d : Dt) (k : Int) : Option Int := (d.l.find? fun p => decide (p.1 = k)).map (·.2)
def Dt.put (d : Dt) (k v : Int) : Dt := ⟨if (d.l.any fun p => decide (p.1 = k)) = true then d.l.map (fun p => if p.1 = k then (p.1, v) else p) else d.l ++ [(k, v)]⟩
theorem enc_get (d : Dt) (k : Int) : valV (encD d.l) (Sum.inl k) = (d.get k).map V.int := by
  obtain ⟨l⟩ := d
  unfold Dt.get
  show valV (encD l) (Sum.inl k) = _
  induction l with
  | nil => rfl
  | cons p l ih =>
    by_cases h : p.1 = k
    · subst h
      show valV (((Sum.inl p.1 : Key), V.int p.2) :: encD l) (Sum.inl p.1) = _
      rw [valV_pos rfl]
      simp
    · show valV (((Sum.inl p.1 : Key), V.int p.2) :: encD l) (Sum.inl k) = _
      rw [valV_neg (by simpa using h), ih]
      simp [List.find?_cons, h]
theorem enc_put (d : Dt) (k v : Int) : putK (encD d.l) (Sum.inl k) (V.int v) = encD (d.put k v).l := by
  obtain ⟨l⟩ := d
  unfold putK Dt.put encD
  have e : ((l.map fun p => ((Sum.inl p.1 : Key), V.int p.2)).any fun kv => decide (kv.1 = Sum.inl k)) = l.any fun p => decide (p.1 = k) := by
    rw [List.any_map]
    congr 1
    funext p
    simp [Function.comp]
  simp only [e]
  split
  · rw [List.map_map, List.map_map]
    refine List.map_congr_left fun p _ => ?_
    simp only [Function.comp]
    by_cases h : p.1 = k
    · rw [if_pos h, if_pos (by rw [h])]
    · rw [if_neg h, if_neg (by simpa using h)]
  · rw [List.map_append]; rfl
theorem put_len (d : Dt) (k v : Int) : (d.put k v).l.length ≤ d.l.length + 1 := by
  unfold Dt.put
  split
  · rw [List.length_map]; omega
  · rw [List.length_append, List.length_singleton]; omega
theorem get_nil (k : Int) : Dt.get ⟨[]⟩ k = none := rfl
theorem get_put (d : Dt) (k v j : Int) : (d.put k v).get j = if j = k then some v else d.get j := by
  have h := valV_put (encD d.l) (Sum.inl k) (Sum.inl j) (V.int v)
  rw [enc_put, enc_get, enc_get] at h
  by_cases e : j = k
  · subst e
    rw [if_pos rfl] at h ⊢
    cases g : (d.put j v).get j with
    | none => rw [g] at h; cases h
    | some x => rw [g] at h; cases h; rfl
  · rw [if_neg (by simpa using e)] at h
    rw [if_neg e]
    cases g : (d.put k v).get j with
    | none =>
      cases g2 : d.get j with
      | none => rfl
      | some y => rw [g, g2] at h; cases h
    | some x =>
      cases g2 : d.get j with
      | none => rw [g, g2] at h; cases h
      | some y => rw [g, g2] at h; cases h; rfl
theorem get_mem {d : Dt} {k : Int} : k ∈ d.l.map (·.1) ↔ d.get k ≠ none := by
  unfold Dt.get
  rw [ne_eq, Option.map_eq_none_iff, List.find?_eq_none, List.mem_map]
  constructor
  · rintro ⟨p, hp, rfl⟩ h
    have := h p hp
    simp at this
  · intro h
    simp only [decide_eq_true_eq, Classical.not_forall, Decidable.not_not] at h
    obtain ⟨p, hp, e⟩ := h
    exact ⟨p, hp, e⟩
/-- a dict that may change -/
def Ud (K : Fg) (H : Hp) (p : Addr) (d : Dt) : Prop := H p = some (.dK (encD d.l))
theorem sta_dk {kvs : List (Key × V)} : ¬ Sta (.dK kvs) := fun h => nomatch h
section
variable {K : Fg} {σ : L2.St} {H H' H1 : Hp} {pd pn p q : Addr} {ps : List Addr} {ta tb tc te td : TE} {D : Ends} {tz : TS} {d : Dt} {i j k : Int} {u v : V} {α : Type} [Rp α] {x : α}
theorem Ud.mono (e : Same H H') (h : Ud K H p d) : Ud K H' p d := e _ _ h
theorem Ud.ne (m : Mu p H H') (n : q ≠ p) (h : Ud K H q d) : Ud K H' q d := m.ne _ _ n h
theorem Ud.dm (m : DM pd pn H H') (h1 : p ≠ pd) (h2 : p ≠ pn) (h : Ud K H p d) : Ud K H' p d := m.ne _ _ h1 h2 h
theorem Ud.mus (m : Mus ps H H') (n : p ∉ ps) (h : Ud K H p d) : Ud K H' p d := m.ne _ _ n h
theorem Ud.nep (h : Ud K H q d) (n : H p = none) : q ≠ p := ne_of_none h n
theorem mu_dk {kvs : List (Key × V)} {o : HO} (e : Same H H1) (h : H p = some (.dK kvs)) : Mu p H (upd H1 p o) := ⟨(SF.of e).trans (SF.chg (e _ _ h) sta_dk), fun q u n hq => by rw [upd_ne n]; exact e _ _ hq⟩
theorem q_newD {m : Nat} (qq : ∀ p H1, Same H H1 → H p = none → Ud K H1 p ⟨[]⟩ → tz D (σ.set m (some (.ref p))) H1) : tSeq (tAsg tDNewK (gName m)) tz D σ H := fun p hp => qq p _ (same_new hp) hp upd_same
theorem q_putD {m : Nat} (hσ : σ[m]? = some (some (.ref p))) (hu : Ud K H p d) (hv : Er K te σ H j) (hk : Er K tb σ H k) (hz : d.l.length < 1000000) (qq : ∀ H2, Mu p H H2 → Ud K H2 p (d.put k j) → tz D σ H2) :
    tSeq (sDPut (tVar m) tb te) tz D σ H := hv H (Same.refl _) _ fun v H1 e1 r1 => ⟨.ref p, hσ, hk H1 e1 _ fun u H2 e2 r2 => by
  cases (show v = .int j from r1)
  cases (show u = .int k from r2)
  have h2 : H2 p = some (.dK (encD d.l)) := (e1.trans e2) _ _ hu
  refine ⟨p, _, rfl, .inl ⟨_, Sum.inl k, h2, rfl, ?_, rfl⟩, qq _ (mu_dk (e1.trans e2) hu) ?_⟩
  · unfold encD; rw [List.length_map]; exact Nat.lt_of_lt_of_le hz (by decide)
  · show upd H2 p _ p = _
    rw [upd_same, enc_put]⟩
theorem er_getDU {m : Nat} (hσ : σ[m]? = some (some (.ref p))) (hu : Ud K H p d) (hk : Er K tb σ H k) (hx : Er K tc σ H j) : Er K (tDGet2 (tVar m) tb tc) σ H ((d.get k).getD j) := fun H1 e Q q => by
  refine ⟨.ref p, hσ, p, rfl, .inl ⟨_, .inl (e _ _ hu)⟩, hk H1 e _ fun u H2 e2 r2 => hx H2 (e.trans e2) _ fun w H3 e3 r3 => ?_⟩
  cases (show u = .int k from r2)
  cases (show w = .int j from r3)
  refine ⟨_, .inl ⟨_, Sum.inl k, .inl (((e.trans e2).trans e3) _ _ hu), rfl, rfl⟩, ?_⟩
  rw [enc_get]
  have e5 : ((d.get k).map V.int).getD (.int j) = V.int ((d.get k).getD j) := by cases d.get k <;> rfl
  rw [e5]
  exact q _ H3 (e2.trans e3) rfl
theorem er_getD (hd : Er K td σ H d) (hk : Er K tb σ H k) (hx : Er K tc σ H j) : Er K (tDGet2 td tb tc) σ H ((d.get k).getD j) := fun H1 e Q q => hd H1 e _ fun v H2 e2 r => by
  obtain ⟨a, o, rfl, ha⟩ := r
  refine ⟨a, rfl, .inl ⟨_, .inr ⟨o, ha⟩⟩, hk H2 (e.trans e2) _ fun u H3 e3 r3 => hx H3 ((e.trans e2).trans e3) _ fun w H4 e4 r4 => ?_⟩
  cases (show u = .int k from r3)
  cases (show w = .int j from r4)
  refine ⟨_, .inl ⟨_, Sum.inl k, .inr ⟨o, (e3.trans e4) _ _ ha⟩, rfl, rfl⟩, ?_⟩
  rw [enc_get]
  have e5 : ((d.get k).map V.int).getD (.int j) = V.int ((d.get k).getD j) := by cases d.get k <;> rfl
  rw [e5]
  exact q _ H4 ((e2.trans e3).trans e4) rfl
theorem er_ixD (hd : Er K td σ H d) (hk : Er K tb σ H k) (hx : d.get k = some j) : Er K (tDGet td tb) σ H j := fun H1 e Q q => hd H1 e _ fun v H2 e2 r => by
  obtain ⟨a, o, rfl, ha⟩ := r
  refine hk H2 (e.trans e2) _ fun u H3 e3 r3 => ?_
  cases (show u = .int k from r3)
  refine ⟨a, .int j, rfl, .inl ⟨_, Sum.inl k, .inr ⟨o, e3 _ _ ha⟩, rfl, ?_⟩, q _ H3 (e2.trans e3) rfl⟩
  rw [enc_get, hx]; rfl
theorem src_keysD (hd : Er K td σ H d) : Src K (iKeys td) σ H (d.l.map (·.1)) := fun H1 e RR kk => hd H1 e _ fun v H2 e2 r => by
  obtain ⟨a, o, rfl, ha⟩ := r
  refine ⟨a, o, rfl, .inl ⟨_, ha, kk _ H2 (fun H => H a = some (.frz o (.dK (encD d.l)))) _ e2 (by have := walk_keys (d := a) (o := o) (kvs := encD d.l); unfold encD at this ⊢; rw [List.length_map] at this ⊢; exact this) (fun H' s => s _ _ (.frz _ _) ha) fun i x hx H' s v H'' y => ?_⟩⟩
  obtain ⟨rfl, k, w, hk, rfl⟩ := y
  refine ⟨Same.refl _, ?_⟩
  rw [List.getElem?_map] at hx
  rw [List.getElem?_map] at hk
  cases g : d.l[i]? with
  | none => rw [g] at hx; cases hx
  | some p =>
    rw [g] at hx hk
    cases hx
    cases hk
    rfl
/-- {k: v} -/
theorem er_dispD (hk : Er K tb σ H k) (hv : Er K te σ H j) (hfrz : True := trivial) : ∀ H1, Same H H1 → ∀ Q : VK, (∀ p H2, Same H1 H2 → H1 p = none → Ud K H2 p ⟨[(k, j)]⟩ → Q (.ref p) H2) → tDisp [(tb, te)] σ H1 Q := fun H1 e Q q p hp => by
  have e1 : Same H1 (upd H1 p (.dK [])) := same_new hp
  refine hk _ (e.trans e1) _ fun u H2 e2 r2 => hv H2 ((e.trans e1).trans e2) _ fun w H3 e3 r3 => ?_
  cases (show u = .int k from r2)
  cases (show w = .int j from r3)
  have h3 : H3 p = some (.dK []) := (e2.trans e3) _ _ upd_same
  refine ⟨h3, [((Sum.inl k : Key), V.int j)], rfl, by simp, q p _ (fun a o ha => ?_) hp ?_⟩
  · have n : a ≠ p := ne_of_none ha hp
    rw [upd_ne n]
    exact ((e1.trans e2).trans e3) _ _ ha
  · show upd H3 p _ p = _
    rw [upd_same]; rfl
def tFrzD (t : TE) : TE := fun σ H Q => t σ H fun v H1 => ∃ a kvs, v = .ref a ∧ H1 a = some (.dK kvs) ∧ ∀ od, Q v (upd H1 a (.frz od (.dK kvs)))
theorem pe_frzD {X : Cx} {e : Expr} {t : TE} (h : PE X e t) : PE X e (tFrzD t) := ⟨fun pins s σ H Q I q => thn (h.run pins s σ H _ I q) fun u s1 hh => by
  obtain ⟨x, H1, I1, rx, a, kvs, ex, ha, q⟩ := hh
  obtain ⟨od, I2⟩ := I1.lock ha trivial
  exact ⟨x, _, I2, rx, q od⟩⟩
theorem er_frzDisp (hk : Er K tb σ H k) (hv : Er K te σ H j) : Er K (tFrzD (tDisp [(tb, te)])) σ H (Dt.mk [(k, j)]) := fun H1 e Q q => er_dispD hk hv trivial H1 e _ fun p H2 e2 hp u =>
  ⟨p, _, rfl, u, fun od => q (.ref p) _ (same_mut e2 hp) ⟨p, od, rfl, upd_same⟩⟩
def tFzD (k : Nat) (t : TS) : TS := fun D σ H => ∃ p kvs, σ[k]? = some (some (.ref p)) ∧ H p = some (.dK kvs) ∧ ∀ od, t D σ (upd H p (.frz od (.dK kvs)))
theorem pss_frzD {X : Cx} {rest : List Stmt} {t : TS} (k : Nat) (h : PSs X rest t) : PSs X rest (tFzD k t) := ⟨fun pins s σ H D I q => by
  obtain ⟨p, vs, hs, hp, q⟩ := q
  obtain ⟨od, I2⟩ := I.lock hp trivial
  exact h.run pins s σ _ D I2 (q od)⟩
theorem q_frzD {m : Nat} (hσ : σ[m]? = some (some (.ref p))) (hu : Ud K H p d) (qq : ∀ H2, Mu p H H2 → Rp.rep K H2 (.ref p) d → tz D σ H2) : tFzD m tz D σ H :=
  ⟨p, _, hσ, hu, fun od => qq _ (mu_dk (Same.refl _) hu) ⟨p, od, rfl, upd_same⟩⟩
end
/-! ### the greatest list -/
def mxL : List (List Int) → List Int
  | [] => []
  | x :: r => PySem.W.maxOf x r
def rMaxLL (K : Fg) : List V → Hp → VK → Prop := fun xs H Q => ∃ (a : Addr) (us : List V) (x : List Int) (r : List (List Int)), xs = [V.ref a] ∧ SqL K H a us ∧ DpAll K H us ((x :: r).map PySem.W.Datum.toD) ∧
  ∀ (i : Nat) (u : V), us[i]? = some u → (x :: r)[i]? = some (PySem.W.maxOf x r) → Q u H
theorem cr_maxLL {X : Cx} (hc : X.calm = true) (hu : X.A.units + 64 < cLine) : CallR X (.builtin "max") (rMaxLL X.K) := by
  intro pins s σ H vs us0 Q I rr h
  obtain ⟨a, us, x, r, rfl, hs, hd, q⟩ := h
  obtain ⟨its, rv, hl, _⟩ := I.list hs
  rw [Vals.ref1 rr]
  obtain ⟨as, rs⟩ := Dp.readsAll I _ _ _ hd rv
  have hn : its.toArray.size = r.length + 1 := by
    have := PySem.W.readsAll_len (vs := its.toArray) (by simpa using rs)
    simpa using this
  have hd0 : PySem.W.Datum.depth (List Int) ≤ 8 := by decide
  have hdep := Nat.le_trans (PySem.W.depthAll_map (x :: r)) hd0
  refine PySem.call_max_walkH (PySem.W.iter_listW (A := X.A.in1) (I.ok.hd hc) hl.isList fun s2 e W st hfp hw hk => ?_)
  refine ⟨_, _, _, _, _, _, _, s.heap, _, rfl, W, st, hfp, by omega, hw, hk, PySem.W.cmpIn_gt (A := X.A.in1) (by simpa using rs) (PySem.W.alikeAll_datum (x :: r)) (by show X.A.units + 1 + _ < _; omega), fun v s' hP m => ?_⟩
  obtain ⟨h', tk, rfl, hk'⟩ := PySem.W.moved_old e rfl m
  obtain ⟨e1, e2⟩ := PySem.W.argBest_fold (fun a b => PySem.W.dataLt b a) PyData.none (PySem.W.Datum.toD x) (r.map PySem.W.Datum.toD) r.length (by simp)
  have l1 : its.length = r.length + 1 := by simpa using hn
  have l2 : us.length = its.length := rv.length
  rw [show its.toArray.size - 1 = r.length by omega] at hP
  have e3 : (r.map PySem.W.Datum.toD).take r.length = r.map PySem.W.Datum.toD := List.take_of_length_le (by simp)
  rw [e3] at e2
  have e4 : (r.map PySem.W.Datum.toD).foldl (fun a y => if PySem.W.dataLt a y = true then y else a) (PySem.W.Datum.toD x) = PySem.W.Datum.toD (PySem.W.maxOf x r) := PySem.W.maxD_map x r
  rw [e4] at e2
  replace hP : its[argBest (fun i j => PySem.W.dataLt ((PySem.W.Datum.toD x :: r.map PySem.W.Datum.toD).getD j PyData.none) ((PySem.W.Datum.toD x :: r.map PySem.W.Datum.toD).getD i PyData.none)) r.length]? = some v := by simpa using hP
  generalize argBest (fun i j => PySem.W.dataLt ((PySem.W.Datum.toD x :: r.map PySem.W.Datum.toD).getD j PyData.none) ((PySem.W.Datum.toD x :: r.map PySem.W.Datum.toD).getD i PyData.none)) r.length = k at e1 e2 hP
  have hk2 : k < us.length := by omega
  obtain ⟨u', hu', ru⟩ := rv.get (List.getElem?_eq_getElem hk2)
  rw [hP] at hu'
  cases hu'
  refine ⟨us[k], H, I.kept (t' := tk) hk', ru, q k _ (List.getElem?_eq_getElem hk2) ?_⟩
  have hk3 : k < (x :: r).length := by simp only [List.length_cons]; omega
  have e5 : (PySem.W.Datum.toD x :: r.map PySem.W.Datum.toD).getD k PyData.none = PySem.W.Datum.toD ((x :: r)[k]) := by
    rw [show PySem.W.Datum.toD x :: r.map PySem.W.Datum.toD = (x :: r).map PySem.W.Datum.toD from rfl, List.getD_eq_getElem?_getD, List.getElem?_map, List.getElem?_eq_getElem hk3]; rfl
  rw [e5] at e2
  rw [List.getElem?_eq_getElem hk3]
  have e6 := PySem.W.Datum.eqv ((x :: r)[k]) (PySem.W.maxOf x r)
  rw [e2, PySem.W.Datum.eqv, decide_eq_true rfl] at e6
  rw [of_decide_eq_true e6.symm]
section
variable {K : Fg} {σ : L2.St} {H : Hp} {ta : TE}
theorem rl_toD : ∀ {us : List V} {l : List (List Int)}, RL K H us l → DpAll K H us (l.map PySem.W.Datum.toD) := fun h => dp_all h
theorem er_maxLL {l : List (List Int)} (h : Er K ta σ H l) (hn : l ≠ []) : Er K (tCB (rMaxLL K) (tCons ta tNil)) σ H (mxL l) := er_cb1 h fun H v rr Q q => by
  obtain ⟨a, us, rfl, h2, h3⟩ := rr
  match l, hn, h3 with
  | x :: r, _, h3 =>
    refine ⟨a, us, x, r, rfl, h2.seq, rl_toD h3, fun i u hu hx => q u H (Same.refl _) ?_⟩
    obtain ⟨w, hw, rw'⟩ := paired_get h3 hx
    rw [hu] at hw
    cases hw
    exact rw'
end
section
variable {X : Cx} (K : Fg) (h : X.K = K)
include h
theorem k_maxLL (hc : X.calm = true) (hu : X.A.units + 64 < cLine) : CallR X (.builtin "max") (rMaxLL K) := by subst h; exact cr_maxLL hc hu
end
theorem u1 {k : Nat} {A : Around} (r : Room k A) : A.units + 1 < cLine := by have := r.un; omega
end BL

set_option Elab.async false
set_option linter.all false
set_option maxRecDepth 100000
set_option maxHeartbeats 2000000
namespace BL
open PySem PySem.Spec PyProof.Rows L2
/-! ### a tuple of numbers as a key -/
structure Kt where
  s : List Int
instance : Rp Kt := ⟨fun _ H v k => ∃ t, v = .ref t ∧ H t = some (.tup ((k.s.map (Sum.inl : Int → Key)).map kV)), fun {K H H' v k} e h => by
  obtain ⟨t, h1, h2⟩ := h; exact ⟨t, h1, e _ _ (.tup _) h2⟩⟩
def rTupC (K : Fg) : List V → Hp → VK → Prop := fun xs H Q => ∃ p ys, xs = [.ref p] ∧ ((SqL K H p ys ∧ ∀ l, H l = none → Q (.ref l) (upd H l (.tup ys))) ∨ (SqT K H p ys ∧ Q (.ref p) H))
theorem key_vs (s : List Int) : (s.map (Sum.inl : Int → Key)).map kV = s.map V.int := by rw [List.map_map]; rfl
section
variable {K : Fg} {σ : L2.St} {H H' H1 H2 : Hp} {p q : Addr} {ta tb tc te td : TE} {tt : TT} {D : Ends} {tz : TS} {α β : Type} [Rp α] [Rp β] {x : α} {y : β} {i j : Int} {u v : V} {b : Bool} {J : Hp → Prop} {wi : TI} {g : TG}
theorem er_keyT {l : List Int} (h : Er K ta σ H l) : Er K (tCB (rTupC K) (tCons ta tNil)) σ H (Kt.mk l) := er_cb1 h fun H v r Q q => by
  obtain ⟨a, vs, rfl, h2, h3⟩ := r
  refine ⟨a, vs, rfl, .inl ⟨h2.seq, fun t ht => q _ _ (same_new ht) ⟨t, rfl, ?_⟩⟩⟩
  rw [upd_same, key_vs, rl_ints h3]
/-! ### what may change one dict -/
structure Jk (p : Addr) (J : Hp → Prop) : Prop where
  mono : ∀ {H H'}, Same H H' → J H → J H'
  off : ∀ {H q o}, q ≠ p → J H → J (upd H q o)
  ne : ∀ {H q}, J H → H q = none → q ≠ p
def Ek (K : Fg) (p : Addr) (J : Hp → Prop) (te : TE) (σ : L2.St) (H : Hp) {α : Type} [Rp α] (x : α) : Prop := ∀ H1, Mu p H H1 → J H1 → ∀ Q : VK, (∀ v H2, Mu p H1 H2 → J H2 → Rp.rep K H2 v x → Q v H2) → te σ H1 Q
def EkL (K : Fg) (p : Addr) (J : Hp → Prop) (te : TE) (σ : L2.St) (H : Hp) {α : Type} [Rp α] (l : List α) : Prop := ∀ H1, Mu p H H1 → J H1 → ∀ Q : VK, (∀ a vs H2, Mu p H1 H2 → J H2 → H1 a = none → H2 a = some (.lst vs) → RL K H2 vs l → Q (.ref a) H2) → te σ H1 Q
theorem Mu.refl (H : Hp) : Mu p H H := Mu.of (Same.refl H)
theorem mu_new {a : Addr} {o : HO} (m : Mu p H H') (h : H a = none) : Mu p H (upd H' a o) := ⟨sf_mut m.sf h, fun q u n e => by rw [upd_ne (ne_of_none e h)]; exact m.ne q u n e⟩
theorem ek_of (jk : Jk p J) (h : ∀ H1, Mu p H H1 → J H1 → Er K te σ H1 x) : Ek K p J te σ H x := fun H1 m j Q q => h H1 m j H1 (Same.refl _) Q fun v H2 e r => q v H2 (Mu.of e) (jk.mono e j) r
theorem ek_frz {l : List α} (jk : Jk p J) (h : EkL K p J te σ H l) : Ek K p J (tFrz te) σ H l := fun H1 m j Q q => h H1 m j _ fun a vs H2 m2 j2 hn h2 r =>
  ⟨a, vs, rfl, h2, fun od => q (.ref a) _ (mu_new m2 hn) (jk.off (jk.ne j hn) j2) ⟨a, vs, rfl, ⟨od, upd_same⟩, RL.mono (SF.lst h2) r⟩⟩
theorem ek_sum {l : List Int} (jk : Jk p J) (h : Ek K p J ta σ H l) : Ek K p J (tCB (rSum K) (tCons ta tNil)) σ H l.sum := fun H1 m j Q q => h H1 m j _ fun v H2 m2 j2 r => by
  obtain ⟨a, vs, rfl, h2, h3⟩ := r
  exact ⟨a, l, rfl, by rw [← rl_ints h3]; exact h2.seq, q _ H2 m2 j2 rfl⟩
theorem ekl_lm1 {l : List α} {vs : List Nat} {k : Nat} {f : α → β} (jk : Jk p J) (hs : ∀ H1, Mu p H H1 → J H1 → Src K wi σ H1 l) (hz : l.length ≤ 1000000) (hw : ∀ v : V, wipe ((wipe σ vs).set k (some v)) vs = wipe σ vs)
    (turn : ∀ x, x ∈ l → ∀ v H1, Mu p H H1 → J H1 → Rp.rep K H1 v x → Ek K p J te ((wipe σ vs).set k (some v)) H1 (f x)) : EkL K p J (tLc wi (gName k) tYes te vs) σ H (l.map f) := fun H1 m j Q q => hs H1 m j H1 (Same.refl _) _ fun X H2 G Y e2 w hG hY D hD => by
  have j2 := jk.mono e2 j
  have nD : D ≠ p := jk.ne j2 hD
  refine lc_it w (fun k H' => Mu p H2 H' ∧ J H' ∧ ∃ us, H' D = some (.lst us) ∧ RL K H' us ((l.take k).map f)) ⟨Mu.of (same_new hD), jk.mono (same_new hD) j2, [], upd_same, .nil⟩ (fun k H' _ p => hG H' p.1.sf) (fun k v H' H'' hk z y => ?_) fun H' z => ?_
  · obtain ⟨p1, p2, us, p3, p4⟩ := z
    have hx : l[k]? = some l[k] := List.getElem?_eq_getElem hk
    obtain ⟨s, r⟩ := hY k _ hx H' p1.sf v H'' y
    have he := turn l[k] (List.mem_of_getElem? hx) v H'' (m.trans ((Mu.of e2).trans (p1.trans (Mu.of s)))) (jk.mono s p2) r
    refine ⟨hw v, et_yes (K := K) H'' (Same.refl _) _ fun H3 e3 => iteT ?_⟩
    refine he H3 (Mu.of e3) (jk.mono e3 (jk.mono s p2)) _ fun w' H4 m4 j4 r4 => ?_
    have hD3 : H3 D = some (.lst us) := (s.trans e3) _ _ p3
    have hD4 : H4 D = some (.lst us) := m4.ne _ _ nD hD3
    have htake : l.take (k + 1) = l.take k ++ [l[k]] := by rw [List.take_add_one, hx]; rfl
    have hlen : us.length ≤ l.length := by
      rw [paired_len p4, List.length_map, List.length_take]; exact Nat.min_le_right _ _
    have mm : Mu p H2 H4 := p1.trans ((Mu.of (s.trans e3)).trans m4)
    refine ⟨us, hD4, Nat.lt_of_le_of_lt (Nat.le_trans hlen hz) (by decide), mu_new mm hD, jk.off nD j4, us ++ [w'], upd_same, ?_⟩
    rw [htake, List.map_append]
    exact RL.mono (SF.lst hD4) (paired_app (p4.mono ((SF.of (s.trans e3)).trans m4.sf)) (.cons r4 .nil))
  · obtain ⟨p1, p2, us, p3, p4⟩ := z
    rw [List.take_length] at p4
    exact q D us H' ((Mu.of e2).trans p1) p2 (e2.free hD) p3 p4
/-! ### the dict of known numbers -/
def KO (V0 : List Int → Int) (n : Nat) (p : Addr) (H : Hp) : Prop := ∃ kvs : List (List Key × V), H p = some (.dT kvs) ∧ (kvs.map (·.1)).Nodup ∧ ∀ q ∈ kvs, ∃ s : List Int, q.1 = s.map Sum.inl ∧ q.2 = V.int (V0 s) ∧ s.Pairwise (· < ·) ∧ ∀ x ∈ s, 0 ≤ x ∧ x < (n : Int)
variable {V0 : List Int → Int} {n : Nat}
theorem ko_jk : Jk p (KO V0 n p) := ⟨fun e h => by
  obtain ⟨kvs, h1, h2⟩ := h; exact ⟨kvs, e _ _ h1, h2⟩, fun nq h => by
  obtain ⟨kvs, h1, h2⟩ := h; exact ⟨kvs, by rw [upd_ne nq.symm]; exact h1, h2⟩, fun h e => by
  obtain ⟨kvs, h1, _⟩ := h; exact (ne_of_none h1 e).symm⟩
theorem inl_inj : ∀ {s t : List Int}, s.map (Sum.inl : Int → Key) = t.map Sum.inl → s = t
  | [], [], _ => rfl
  | [], _ :: _, h => by cases h
  | _ :: _, [], h => by cases h
  | x :: s, y :: t, h => by
    rw [List.map_cons, List.map_cons] at h
    injection h with h1 h2
    injection h1 with h1
    rw [h1, inl_inj h2]
theorem val_some {κ : Type} [DecidableEq κ] {kvs : List (κ × V)} {k : κ} {v : V} (h : valV kvs k = some v) : (k, v) ∈ kvs := by
  unfold valV at h
  obtain ⟨q, hq, rfl⟩ := Option.map_eq_some_iff.mp h
  have h1 := List.mem_of_find?_eq_some hq
  have h2 := List.find?_some hq
  have h2 : q.1 = k := of_decide_eq_true h2
  rw [← h2]; exact h1
theorem ko_val {kvs : List (List Key × V)} (h : ∀ q ∈ kvs, ∃ s : List Int, q.1 = s.map Sum.inl ∧ q.2 = V.int (V0 s) ∧ s.Pairwise (· < ·) ∧ ∀ x ∈ s, 0 ≤ x ∧ x < (n : Int)) (s : List Int) : valV kvs (s.map Sum.inl) = none ∨ valV kvs (s.map Sum.inl) = some (V.int (V0 s)) := by
  cases e : valV kvs (s.map Sum.inl) with
  | none => exact .inl rfl
  | some v =>
    obtain ⟨t, h1, h2, _⟩ := h _ (val_some e)
    refine .inr ?_
    rw [show v = V.int (V0 t) from h2, inl_inj (show s.map (Sum.inl : Int → Key) = t.map Sum.inl from h1)]
/-- lists that are cut out of another -/
def subsL : List Int → List (List Int)
  | [] => [[]]
  | x :: l => subsL l ++ (subsL l).map (x :: ·)
theorem subs_len : ∀ l : List Int, (subsL l).length = 2 ^ l.length
  | [] => rfl
  | x :: l => by
    show (subsL l ++ (subsL l).map (x :: ·)).length = _
    rw [List.length_append, List.length_map, subs_len l, List.length_cons, Nat.pow_succ]; omega
theorem subs_mem : ∀ (m : Nat) (a : Int) {s : List Int}, s.Pairwise (· < ·) → (∀ x ∈ s, a ≤ x ∧ x < a + m) → s ∈ subsL ((List.range m).map fun k : Nat => a + (k : Int))
  | 0, a, [], _, _ => List.mem_singleton.mpr rfl
  | 0, a, x :: s, _, h => by have := h x (List.mem_cons_self ..); omega
  | m + 1, a, s, hu, h => by
    have e : (List.range (m + 1)).map (fun k : Nat => a + (k : Int)) = a :: (List.range m).map fun k : Nat => (a + 1) + (k : Int) := by
      rw [List.range_succ_eq_map, List.map_cons, List.map_map]
      congr 1
      · show a + ((0 : Nat) : Int) = a; omega
      · refine List.map_congr_left fun k _ => ?_
        simp only [Function.comp]; omega
    rw [e]
    show s ∈ subsL _ ++ (subsL _).map (a :: ·)
    match s, hu, h with
    | [], _, _ => exact List.mem_append_left _ (subs_mem m (a + 1) .nil fun _ h => by cases h)
    | x :: s, hu, h =>
      obtain ⟨u1, u2⟩ := List.pairwise_cons.mp hu
      have hx := h x (List.mem_cons_self ..)
      by_cases c : x = a
      · refine List.mem_append_right _ (List.mem_map.mpr ⟨s, subs_mem m (a + 1) u2 fun y hy => ?_, by rw [c]⟩)
        have := u1 y hy; have := h y (List.mem_cons_of_mem _ hy); omega
      · refine List.mem_append_left _ (subs_mem m (a + 1) hu fun y hy => ?_)
        rcases List.mem_cons.mp hy with q | q
        · rw [q]; omega
        · have := u1 y q; have := h y (List.mem_cons_of_mem _ q); omega
theorem nodup_sub {α : Type} [DecidableEq α] : ∀ {l m : List α}, l.Nodup → (∀ x ∈ l, x ∈ m) → l.length ≤ m.length
  | [], _, _, _ => Nat.zero_le _
  | x :: l, m, nd, h => by
    obtain ⟨n1, n2⟩ := List.nodup_cons.mp nd
    have hx := h x (List.mem_cons_self ..)
    have := nodup_sub (m := m.erase x) n2 fun y hy => (List.mem_erase_of_ne (fun (e : y = x) => n1 (e ▸ hy))).mpr (h y (List.mem_cons_of_mem _ hy))
    rw [List.length_erase_of_mem hx] at this
    have := List.length_pos_of_mem hx
    simp only [List.length_cons]; omega
theorem ko_len {kvs : List (List Key × V)} (hn : n ≤ 10) (nd : (kvs.map (·.1)).Nodup) (h : ∀ q ∈ kvs, ∃ s : List Int, q.1 = s.map Sum.inl ∧ q.2 = V.int (V0 s) ∧ s.Pairwise (· < ·) ∧ ∀ x ∈ s, 0 ≤ x ∧ x < (n : Int)) : kvs.length ≤ 1024 := by
  have h1 := nodup_sub (m := (subsL ((List.range n).map fun k : Nat => (0 : Int) + (k : Int))).map fun s => s.map (Sum.inl : Int → Key)) nd fun k hk => by
    obtain ⟨q, hq, rfl⟩ := List.mem_map.mp hk
    obtain ⟨s, e1, _, e3, e4⟩ := h q hq
    exact List.mem_map.mpr ⟨s, subs_mem n 0 e3 fun x hx => by have := e4 x hx; omega, e1.symm⟩
  rw [List.length_map, List.length_map, subs_len, List.length_map, List.length_range] at h1
  have := Nat.pow_le_pow_right (show 0 < 2 by decide) hn
  have : 2 ^ 10 = 1024 := by decide
  omega
theorem ko_put (h : KO V0 n p H) {kvs : List (List Key × V)} (hk : H p = some (.dT kvs)) {s : List Int} (hu : s.Pairwise (· < ·)) (hr : ∀ x ∈ s, 0 ≤ x ∧ x < (n : Int)) : KO V0 n p (upd H p (.dT (putK kvs (s.map Sum.inl) (V.int (V0 s))))) := by
  obtain ⟨kvs', h1, h2, h3⟩ := h
  rw [hk] at h1
  cases h1
  refine ⟨_, upd_same, ?_, fun q hq => ?_⟩
  · unfold putK
    split
    · rw [List.map_map]
      have e : kvs.map ((fun q : List Key × V => q.1) ∘ fun kv => if kv.1 = s.map Sum.inl then (kv.1, V.int (V0 s)) else kv) = kvs.map (·.1) := List.map_congr_left fun q _ => by
        simp only [Function.comp]; split <;> rfl
      rw [e]; exact h2
    · next c =>
      rw [List.map_append]
      refine List.nodup_append.mpr ⟨h2, by simp, fun x hx y hy e => ?_⟩
      obtain ⟨q, hq, rfl⟩ := List.mem_map.mp hx
      rw [List.map_singleton, List.mem_singleton] at hy
      exact c (List.any_eq_true.mpr ⟨q, hq, decide_eq_true (e.trans hy)⟩)
  · unfold putK at hq
    split at hq
    · obtain ⟨q0, hq0, rfl⟩ := List.mem_map.mp hq
      split
      · next c => exact ⟨s, c, rfl, hu, hr⟩
      · exact h3 q0 hq0
    · rcases List.mem_append.mp hq with c | c
      · exact h3 q c
      · rw [List.mem_singleton.mp c]; exact ⟨s, rfl, rfl, hu, hr⟩
/-- key not in known: whichever it is; if it is in, its number is right -/
theorem et_notinK {m k : Nat} (hσ : σ[m]? = some (some (.ref p))) (ho : KO V0 n p H) (hk : σ[k]? = some (some v)) {s : List Int} (rk : Rp.rep K H v (Kt.mk s)) :
    ∃ b : Bool, Et K (tB (tDNotIn (tVar k) (tVar m))) σ H b ∧ (b = false → ∃ kvs, H p = some (.dT kvs) ∧ valV kvs (s.map Sum.inl) = some (V.int (V0 s))) := by
  obtain ⟨kvs, h1, h2, h3⟩ := ho
  obtain ⟨t, rfl, ht⟩ := rk
  refine ⟨!(valV kvs (s.map Sum.inl)).isSome, fun H1 e Q q => ⟨.ref t, hk, .ref p, hσ, p, _, rfl, .inr ⟨kvs, _, t, .inl (e _ _ h1), rfl, e _ _ ht, rfl⟩, _, rfl, q H1 (Same.refl _)⟩, fun hb => ⟨kvs, h1, ?_⟩⟩
  rcases ko_val h3 s with c | c
  · rw [c] at hb; cases hb
  · exact c
theorem q_putK {m k : Nat} (hn : n ≤ 10) (hσ : σ[m]? = some (some (.ref p))) (ho : KO V0 n p H) (hk : σ[k]? = some (some v)) {s : List Int} (rk : Rp.rep K H v (Kt.mk s)) (hu : s.Pairwise (· < ·)) (hr : ∀ x ∈ s, 0 ≤ x ∧ x < (n : Int)) (h : Ek K p (KO V0 n p) te σ H (V0 s))
    (qq : ∀ H2, Mu p H H2 → KO V0 n p H2 → (∃ kvs, H2 p = some (.dT kvs) ∧ valV kvs (s.map Sum.inl) = some (V.int (V0 s))) → tz D σ H2) : tSeq (sDPut (tVar m) (tVar k) te) tz D σ H := h H (Mu.refl _) ho _ fun w H1 m1 j1 r => ⟨.ref p, hσ, v, hk, by
  cases (show w = .int (V0 s) from r)
  obtain ⟨t, rfl, ht⟩ := rk
  obtain ⟨kvs, h1, h2, h3⟩ := id j1
  have h4 := ko_len hn h2 h3
  refine ⟨p, _, rfl, .inr ⟨kvs, _, t, h1, rfl, m1.sf _ _ (.tup _) ht, Nat.lt_of_le_of_lt h4 (by decide), rfl⟩, qq _ ?_ (ko_put j1 h1 hu hr) ⟨_, upd_same, ?_⟩⟩
  · exact ⟨m1.sf.trans (SF.chg h1 nofun), fun q o nq e => by rw [upd_ne nq]; exact m1.ne q o nq e⟩
  · rw [valV_put, if_pos rfl]⟩
theorem s_retK {m k : Nat} (hσ : σ[m]? = some (some (.ref p))) (hk : σ[k]? = some (some v)) {s : List Int} (rk : Rp.rep K H v (Kt.mk s)) (hv : ∃ kvs, H p = some (.dT kvs) ∧ valV kvs (s.map Sum.inl) = some (V.int (V0 s))) (q : D.rt (.int (V0 s)) H) : tRet (tDGet (tVar m) (tVar k)) D σ H := by
  obtain ⟨t, rfl, ht⟩ := rk
  obtain ⟨kvs, h1, h2⟩ := hv
  exact ⟨.ref p, hσ, .ref t, hk, p, .int (V0 s), rfl, .inr ⟨kvs, _, t, .inl h1, rfl, ht, h2.symm⟩, q⟩
end
section
variable {X : Cx} (K : Fg) (h : X.K = K)
include h
theorem k_tupC : CallR X (.type "tuple") (rTupC K) := by subst h; exact call_tuple_of
end
end BL

set_option Elab.async false
set_option linter.all false
set_option maxRecDepth 100000
set_option maxHeartbeats 2000000
namespace BL
open PySem PySem.Spec PyProof.Rows L2
section
variable {K : Fg} {σ : L2.St} {H : Hp} {ta te to : TE} {i : Int}
theorem er_countI {l : List Int} (ho : Er K to σ H l) (ha : Er K ta σ H i) : Er K (tBM K "list" (rCntI K) to (tCons ta tNil)) σ H (l.count i) := er_bm1 ho ha fun H v u r1 r2 Q q => by
  obtain ⟨a, vs, rfl, h2, h3⟩ := r1
  cases (show u = .int i from r2)
  rw [rl_ints h3] at h2
  exact ⟨a, l, i, rfl, rfl, h2.seq, q _ H (Same.refl _) rfl⟩
theorem er_twice {α : Type} [Rp α] {x : α} (h : Er K te σ H x) (hc : Er K ta σ H (2 : Int)) : Er K (tOp (rRepT K) (tTup (tCons te tNil)) ta) σ H ((x, x) : α × α) := fun H1 e Q q =>
  h H1 e _ fun v H2 e2 r2 => ⟨by show 1 ≤ sizeLine; decide, fun p hp => hc _ ((e.trans e2).trans (same_new hp)) _ fun u H3 e3 r3 => by
    cases (show u = .int 2 from r3)
    refine ⟨p, 2, [v], rfl, rfl, sq_tup (e3 _ _ upd_same), by simp, by decide, by decide, by simp, fun p2 hp2 => ?_⟩
    have es := (same_new hp).trans e3
    exact q (.ref p2) _ ((e2.trans es).trans (same_new hp2)) ⟨p2, v, v, rfl, sq_tup upd_same, Rp.mono ((SF.of es).trans (SF.new hp2)) r2, Rp.mono ((SF.of es).trans (SF.new hp2)) r2⟩⟩
end
section
variable {X : Cx} (K : Fg) (h : X.K = K)
include h
theorem k_repT : OpR X (binaryOp .Mult) (rRepT K) := by subst h; exact op_repT
theorem k_countI : MtR X "list.count" (rCntI K) := by subst h; exact mt_lcount
end
end BL

set_option Elab.async false
set_option linter.all false
set_option maxRecDepth 100000
set_option maxHeartbeats 2000000
namespace BL
open PySem PySem.Spec PyProof.Rows L2
theorem erase_idx {i : Int} : ∀ {l : List Int}, i ∈ l → l.eraseIdx (l.idxOf i) = l.erase i
  | [], h => by cases h
  | y :: l, h => by
    by_cases e : y = i
    · subst e
      rw [List.idxOf_cons_self, List.eraseIdx_cons_zero, List.erase_cons_head]
    · have h2 : i ∈ l := (List.mem_cons.mp h).resolve_left fun q => e q.symm
      rw [List.idxOf_cons, show (y == i) = false from by simpa using e, cond_false, List.eraseIdx_cons_succ, erase_idx h2, List.erase_cons_tail (by simpa using e)]
section
variable {K : Fg} {σ : L2.St} {H H' : Hp} {pd pn p : Addr} {ta tb te : TE} {D : Ends} {tz : TS} {i : Int} {α : Type} [Rp α]
/-- l.remove(x), l of numbers -/
theorem q_remU {k : Nat} {l : List Int} (hσ : σ[k]? = some (some (.ref p))) (hu : Un K H p l) (h : Er K te σ H i) (hm : i ∈ l) (q : ∀ H2, Mu p H H2 → Un K H2 p (l.erase i) → tz D σ H2) : tSeq (tDrop (tBM K "list" rRemI (tVar k) (tCons te tNil))) tz D σ H := by
  obtain ⟨vs, hp, r⟩ := hu
  refine ⟨.ref p, hσ, Or.inl ⟨rfl, vs, sq_lst hp⟩, h H (Same.refl _) _ fun v H2 e2 r2 => ?_⟩
  cases (show v = .int i from r2)
  rw [rl_ints r] at hp
  obtain ⟨h4, h5⟩ := idx_lt hm
  have hp2 := e2 _ _ hp
  refine ⟨p, l, i, l.idxOf i, rfl, rfl, hp2, h4, fun m hlt e => h5 m i hlt e rfl, q _ (mu_upd e2 hp) ⟨_, upd_same, ?_⟩⟩
  rw [erase_idx hm]
  exact rl_of_ints _
theorem er_neU {k : Nat} [Rq α] [Rt α] [DecidableEq α] {l m : List α} (hσ : σ[k]? = some (some (.ref p))) (hu : Un K H p l) (h : Er K tb σ H m) (hd : Rq.dep (List α) ≤ 64 := by decide) : Er K (tOp (rNeD K) (tVar k) tb) σ H (!decide (l = m)) := fun H1 e Q q =>
  ⟨.ref p, hσ, h H1 e _ fun u H2 e2 r2 => ⟨_, _, un_dp (Un.mono (e.trans e2) hu), Rq.dp r2, shaped_of (α := List α) (Rt.all l) hd, shaped_of (α := List α) (Rt.all m) hd, by rw [show PyData.list (l.map Rq.toD) = Rq.toD l from rfl, eqv_dec]; exact q _ H2 e2 rfl⟩⟩
theorem erl_rangeI {n : Nat} (h : Er K ta σ H n) (hz : n ≤ 1000000) : ErL K (tLstRg (tRg1 ta)) σ H (rgI 0 n) := fun H1 e Q q => h H1 e _ fun v H2 e2 r => by
  refine ⟨(n : Int), (show v = .int n from r), ⟨by omega, by omega, by omega, by omega, by omega⟩, fun p hp => q p _ _ (e2.trans (same_new hp)) (e2.free hp) upd_same ?_⟩
  unfold rgV
  rw [show ((n : Int) - 0).toNat = n by omega]
  exact paired_map (F := Rp.rep K _) (f := fun k : Nat => V.int (0 + (k : Int))) (g := fun k : Nat => 0 + (k : Int)) (fun k => rfl) _
def spPickU (K : Fg) {α : Type} [Rp α] : Sp := fun vs H Q _ => ∃ (pd pn p : Addr) (l : List α), vs = [.ref pd, .ref p] ∧ Dr H pd pn ∧ p ≠ pd ∧ p ≠ pn ∧ Un K H p l ∧ 0 < l.length ∧ l.length < 1000000 ∧ ∀ (x : α) u H', x ∈ l → DM pd pn H H' → Dr H' pd pn → Rp.rep K H' u x → Q u H'
theorem ep_pickU {E : XK} {k m : Nat} {l : List α} (hd : σ[k]? = some (some (.ref pd))) (hσ : σ[m]? = some (some (.ref p))) (hu : Un K H p l) (n1 : p ≠ pd) (n2 : p ≠ pn) (h0 : 0 < l.length) (h1 : l.length < 1000000) :
    Ep K pd pn (tCall (spPickU K (α := α)) [] E (tCons (tVar k) (tCons (tVar m) tNil))) σ H (fun x => x ∈ l) := fun H1 mm dr Q q =>
  ⟨.ref pd, hd, .ref p, hσ, pd, pn, p, l, rfl, dr, n1, n2, Un.dm mm n1 n2 hu, h0, h1, fun x u H' hx m d r => q u H' x m d hx r⟩
/-- l[draw below len(l)] of a list that may change -/
theorem ep_ixPick {m : Nat} {l : List α} {tb : TE} (hσ : σ[m]? = some (some (.ref p))) (hu : Un K H p l) (n1 : p ≠ pd) (n2 : p ≠ pn) (hd : Ep K pd pn tb σ H (fun y : Int => 0 ≤ y ∧ y < (l.length : Int))) : Ep K pd pn (tOp (rIxL K) (tVar m) tb) σ H (fun x => x ∈ l) := fun H1 mm dr Q q =>
  ⟨.ref p, hσ, hd H1 mm dr _ fun w H3 y m3 d3 hy r3 => by
    cases (show w = .int y from r3)
    obtain ⟨vs, hp, r⟩ := Un.dm (mm.trans m3) n1 n2 hu
    have hl : y.toNat < l.length := by omega
    obtain ⟨u, hw, rw'⟩ := paired_get r (List.getElem?_eq_getElem hl)
    obtain ⟨n, rfl⟩ : ∃ n : Nat, y = (n : Int) := ⟨y.toNat, by omega⟩
    rw [Int.toNat_natCast] at hw
    exact ⟨p, vs, n, u, rfl, rfl, sq_lst hp, atI_nat hw, q u H3 _ m3 d3 (List.getElem_mem hl) rw'⟩⟩
end
section
variable {X : Cx} (K : Fg) (h : X.K = K)
include h
theorem k_rem {o e : Expr} {to te : TE} {apos cpos : Pos} (ho : PE X o to) (he : PE X e te)
    (hbase : attributeBase o "remove" X.env (eval o X.env) = eval o X.env := by rfl)
    (hfew : ((backTo cpos (starEach [e] X.env)).all (fun x => !x.1) && (backToKw cpos (keywordEach [] X.env)).all (fun x => x.1.isSome)
      && decide ([e].length + ([] : List Keyword).length + (if ([] : List Keyword).isEmpty then 0 else 1) < 30)) = true := by rfl)
    (hline : (apos.endLine == cpos.line) = true := by rfl) (hs : starEach [e] X.env = (false, eval e X.env) :: starEach [] X.env := by rfl) (hplain : (backTo cpos (starEach [] X.env)).any (·.1) = false := by rfl) :
    PE X (.Call (.Attribute o "remove" apos) [e] [] cpos) (tBM K "list" rRemI to (tCons te tNil)) := by
  subst h; exact pe_bm PySem.F.plainAttrs_list PySem.F.slot_list_remove PySem.F.type_list_remove mt_remove ho (pa_cons he pa_nil hs) hbase hfew hline hs hplain
end
end BL

set_option Elab.async false
set_option linter.all false
set_option maxRecDepth 100000
set_option maxHeartbeats 2000000
namespace BL
open PySem PySem.Spec PyProof.Rows L2
theorem paired_rev {α β : Type} {F : α → β → Prop} : ∀ {l : List α} {r : List β}, Paired F l r → Paired F l.reverse r.reverse
  | _, _, .nil => .nil
  | _, _, .cons a b => by rw [List.reverse_cons, List.reverse_cons]; exact paired_app (paired_rev b) (.cons a .nil)
section
variable {K : Fg} {σ : L2.St} {H H' H1 H2 : Hp} {p q : Addr} {ta tb tc te td : TE} {tt : TT} {D : Ends} {tz tu tw : TS} {α β γ δ : Type} [Rp α] [Rp β] [Rp γ] [Rp δ] {x : α} {y : β} {z : γ} {i j : Int} {u v : V} {b : Bool} {J : Hp → Prop} {wi : TI} {g : TG} {pd pn : Addr}
/-! ### one dict may change: operators, calls, tests, statements -/
theorem ek_op {r : R2} (jk : Jk p J) (ha : Ek K p J ta σ H x) (hb : Ek K p J tb σ H y) (hr : R2r K r x y z) : Ek K p J (tOp r ta tb) σ H z := fun H1 m j Q q =>
  ha H1 m j _ fun v H2 m2 j2 r2 => hb H2 (m.trans m2) j2 _ fun u H3 m3 j3 r3 => hr H3 v u (Rp.mono m3.sf r2) r3 Q fun w H4 e4 r4 => q w H4 ((m2.trans m3).trans (Mu.of e4)) (jk.mono e4 j3) r4
theorem ek_call3 {pre : α → β → γ → Prop} {f : α → β → γ → δ} {E : XK} (jk : Jk p J) (h : Ek K p J ta σ H x) (h' : Ek K p J tb σ H y) (h'' : Ek K p J tc σ H z) (hp : pre x y z) : Ek K p J (tCall (sp3 K pre f) [] E (tCons ta (tCons tb (tCons tc tNil)))) σ H (f x y z) := fun H1 m j Q q =>
  h H1 m j _ fun v H2 m2 j2 r2 => h' H2 (m.trans m2) j2 _ fun u H3 m3 j3 r3 => h'' H3 ((m.trans m2).trans m3) j3 _ fun w H4 m4 j4 r4 =>
    ⟨v, u, w, x, y, z, rfl, Rp.mono (m3.trans m4).sf r2, Rp.mono m4.sf r3, r4, hp, fun u H5 e5 r5 => q u H5 (((m2.trans m3).trans m4).trans (Mu.of e5)) (jk.mono e5 j4) r5⟩
def Ekt (K : Fg) (p : Addr) (J : Hp → Prop) (tt : TT) (σ : L2.St) (H : Hp) (b : Bool) : Prop := ∀ H1, Mu p H H1 → J H1 → ∀ Q : Bool → Hp → Prop, (∀ H2, Mu p H1 H2 → J H2 → Q b H2) → tt σ H1 Q
theorem ekt_B (h : Ek K p J te σ H b) : Ekt K p J (tB te) σ H b := fun H1 m j _ q => h H1 m j _ fun v H2 m2 j2 r => ⟨b, r, q H2 m2 j2⟩
theorem ekt_not (h : Ekt K p J tt σ H b) : Ekt K p J (tNot tt) σ H (!b) := fun H1 m j _ q => h H1 m j _ fun H2 m2 j2 => q H2 m2 j2
theorem q_ifK (ho : J H) (h : Ekt K p J tt σ H b) (h1 : b = true → ∀ H1, Mu p H H1 → J H1 → tu { D with nx := tz D } σ H1) (h2 : b = false → ∀ H1, Mu p H H1 → J H1 → tz D σ H1) : tSeq (tIfS tt tu tNext) tz D σ H := h H (Mu.refl _) ho _ fun H1 m j => by
  cases b with
  | true => exact iteT (h1 rfl H1 m j)
  | false => exact iteF (h2 rfl H1 m j)
theorem q_newK {k : Nat} {V0 : List Int → Int} {n : Nat} (q : ∀ p H1, Same H H1 → H p = none → KO V0 n p H1 → tz D (σ.set k (some (.ref p))) H1) : tSeq (tAsg tDNewT (gName k)) tz D σ H := fun p hp => q p _ (same_new hp) hp ⟨[], upd_same, List.nodup_nil, fun _ h => by cases h⟩
theorem q_parK {k m : Nat} {i : Int} {V0 : List Int → Int} {n : Nat} (q : ∀ p H1, Same H H1 → H p = none → KO V0 n p H1 → tz D ((σ.set k (some (.int i))).set m (some (.ref p))) H1) : tSeq (tPar k m (tCons (tC (.int i)) (tCons tDNewT tNil))) tz D σ H := fun p hp => ⟨.int i, .ref p, rfl, q p _ (same_new hp) hp ⟨[], upd_same, List.nodup_nil, fun _ h => by cases h⟩⟩
theorem q_setK {k : Nat} (ho : J H) (h : Ek K p J te σ H x) (q : ∀ v H1, Mu p H H1 → J H1 → Rp.rep K H1 v x → tz D (σ.set k (some v)) H1) : tSeq (tAsg te (gName k)) tz D σ H := h H (Mu.refl _) ho _ fun v H1 m j r => q v H1 m j r
theorem s_augK {k : Nat} {f : Int → Int → Int} (hσ : σ[k]? = some (some (.int i))) (ho : J H) (h : Ek K p J te σ H j) (q : ∀ H1, Mu p H H1 → J H1 → D.nx (σ.set k (some (.int (f i j)))) H1) : tAug k te (ipI f) D σ H :=
  ⟨.int i, hσ, h H (Mu.refl _) ho _ fun v H1 m j r => ⟨i, _, rfl, r, q H1 m j⟩⟩
theorem mu_base {H0 : Hp} (e : Same H0 H) (h : H0 p = none) (m : Mu p H H') : Same H0 H' := Mu.base m e h
/-! ### a drawn list is walked -/
theorem srcP_list {P : List α → Prop} (h : Ep K pd pn te σ H P) : SrcP K pd pn (iList K te) σ H P := fun H1 m dr RR k => h H1 m dr _ fun v H2 l m2 d2 hl r => by
  obtain ⟨a, vs, rfl, f, p⟩ := r
  refine ⟨a, rfl, ⟨vs, f.seq⟩, k l _ H2 (fun H => SqL K H a vs) (YAt vs) hl m2 d2 (by rw [← paired_len p]; exact walk_list) (fun H' s => (f.sf s).seq) fun i x hx H' s v H'' y => ?_⟩
  obtain ⟨rfl, hv⟩ := y
  obtain ⟨w, hw, r⟩ := paired_get p hx
  rw [hv] at hw; cases hw
  exact ⟨Same.refl _, Rp.mono s r⟩
theorem erl_rev {l : List α} (h : Er K te σ H l) : ErL K (tRevL K te) σ H l.reverse := fun H1 e Q q => h H1 e _ fun v H2 e2 r => by
  obtain ⟨a, vs, rfl, f, p⟩ := r
  refine ⟨a, vs, rfl, f.seq, fun n hn => q n _ _ (e2.trans (same_new hn)) (e2.free hn) upd_same (RL.mono (SF.new hn) (paired_rev p))⟩
end
section
variable {X : Cx} (K : Fg) (h : X.K = K)
include h
theorem k_revL {e : Expr} {te : TE} {k : Nat} {p1 p2 p3 pos : Pos} (he : PE X e te) : PE X (.Subscript e (.Slice none none (some (.UnaryOp .USub (.Constant (.int 1) k p1) p2)) p3) pos) (tRevL K te) := by subst h; exact pe_revL he
end
end BL

set_option Elab.async false
set_option linter.all false
set_option maxRecDepth 100000
set_option maxHeartbeats 2000000
namespace BL
open PySem PySem.Spec PyProof.Rows L2
/-! ### the mathematics that all laws share -/
/-- bounds as they are asked -/
def BOk (b : List (Int × Int)) : Prop := 1 ≤ b.length ∧ b.length ≤ 7 ∧ ∀ p ∈ b, -50 ≤ p.1 ∧ p.1 ≤ p.2 ∧ p.2 ≤ 50
theorem getD_at {α : Type} {l : List α} {n : Nat} {d : α} (h : n < l.length) : l[n]? = some (l.getD n d) := by
  rw [List.getElem?_eq_getElem h, List.getD_eq_getElem?_getD, List.getElem?_eq_getElem h]; rfl
/-- what the laws draw: few values with few choices -/
def SmallP (n : Int) (b : List (Int × Int)) : Prop := 1 ≤ b.length ∧ (b.length : Int) ≤ n ∧ ∀ t ∈ b, -4 ≤ t.1 ∧ t.1 < 4 ∧ t.1 ≤ t.2 ∧ t.2 < t.1 + 4
theorem iabs_nat (i : Int) : iabs i = (i.natAbs : Int) := by unfold iabs; split <;> omega
def gcdI (a b : Int) : Int := (Int.gcd a b : Int)
/-- a fraction in lowest terms -/
def frI (a b : Int) : Int × Int := (a / gcdI a b, b / gcdI a b)
theorem gcdI_pos {a b : Int} (h : 0 < b) : 0 < gcdI a b := by
  unfold gcdI
  have := Int.gcd_pos_of_ne_zero_right a (show b ≠ 0 by omega)
  omega
theorem gcdI_le {a b : Int} (h : 0 < b) : gcdI a b ≤ b := by
  unfold gcdI
  have h1 : Int.gcd a b ∣ b.natAbs := Nat.gcd_dvd_right _ _
  have := Nat.le_of_dvd (by omega) h1
  omega
theorem gcd_turn {a b : Nat} (h : b ≠ 0) : Nat.gcd b (a % b) = Nat.gcd a b := by
  rw [Nat.gcd_comm a b, Nat.gcd_rec b a, Nat.gcd_comm (a % b) b]
theorem nat_mod_int (a b : Nat) : ((a : Int) % (b : Int)) = ((a % b : Nat) : Int) := by omega
def BndP (n : Int) (b : List (Int × Int)) : Prop := 1 ≤ b.length ∧ (b.length : Int) ≤ n ∧ ∀ t ∈ b, -30 ≤ t.1 ∧ t.1 < 30 ∧ t.1 ≤ t.2 ∧ t.2 < t.1 + 20
theorem bnd_bok {n : Int} {b : List (Int × Int)} (h : BndP n b) (hn : n ≤ 7) : BOk b := ⟨h.1, by have := h.2.1; omega, fun p hp => by have := h.2.2 p hp; omega⟩
theorem ord_of {b : List (Int × Int)} (h : BOk b) : ∀ p ∈ b, p.1 ≤ p.2 := fun p hp => (h.2.2 p hp).2.1
/-! ### lists below one another, place by place -/
def leL : List Int → List Int → Prop
  | [], [] => True
  | x :: l, y :: r => x ≤ y ∧ leL l r
  | _, _ => False
theorem leL_refl : ∀ l : List Int, leL l l
  | [] => trivial
  | _ :: l => ⟨Int.le_refl _, leL_refl l⟩
theorem leL_len : ∀ {l r : List Int}, leL l r → l.length = r.length
  | [], [], _ => rfl
  | _ :: l, _ :: r, h => by rw [List.length_cons, List.length_cons, leL_len h.2]
  | [], _ :: _, h => h.elim
  | _ :: _, [], h => h.elim
theorem leL_trans : ∀ {l r s : List Int}, leL l r → leL r s → leL l s
  | [], [], [], _, _ => trivial
  | _ :: _, _ :: _, _ :: _, h, k => ⟨Int.le_trans h.1 k.1, leL_trans h.2 k.2⟩
  | [], _ :: _, _, h, _ => h.elim
  | _ :: _, [], _, h, _ => h.elim
  | [], [], _ :: _, _, h => h.elim
  | _ :: _, _ :: _, [], _, h => h.elim
theorem leL_sum : ∀ {l r : List Int}, leL l r → l.sum ≤ r.sum
  | [], [], _ => Int.le_refl _
  | _ :: l, _ :: r, h => by rw [List.sum_cons, List.sum_cons]; have := leL_sum h.2; have := h.1; omega
  | [], _ :: _, h => h.elim
  | _ :: _, [], h => h.elim
theorem leL_getD : ∀ {l r : List Int} (n : Nat), leL l r → l.getD n 0 ≤ r.getD n 0
  | [], [], _, _ => Int.le_refl _
  | _ :: _, _ :: _, 0, h => h.1
  | _ :: l, _ :: r, n + 1, h => by
    rw [List.getD_cons_succ, List.getD_cons_succ]; exact leL_getD n h.2
  | [], _ :: _, _, h => h.elim
  | _ :: _, [], _, h => h.elim
theorem ins_head {x : Int} {l : List Int} (h : (x :: l).Pairwise (· ≤ ·)) : ins x l = x :: l := by
  cases l with
  | nil => rfl
  | cons y r =>
    unfold ins
    rw [if_pos ((List.pairwise_cons.mp h).1 y (List.mem_cons_self ..))]
theorem leL_ins : ∀ {l r : List Int} {x y : Int}, l.Pairwise (· ≤ ·) → r.Pairwise (· ≤ ·) → leL l r → x ≤ y → leL (ins x l) (ins y r)
  | [], [], x, y, _, _, _, h => ⟨h, trivial⟩
  | a :: l, b :: r, x, y, hl, hr, hlr, h => by
    obtain ⟨h1, h2⟩ := hlr
    have hl2 := (List.pairwise_cons.mp hl).2
    have hr2 := (List.pairwise_cons.mp hr).2
    unfold ins
    by_cases c1 : x ≤ a
    · rw [if_pos c1]
      by_cases c2 : y ≤ b
      · rw [if_pos c2]; exact ⟨h, h1, h2⟩
      · rw [if_neg c2]
        refine ⟨by omega, ?_⟩
        rw [← ins_head hl]
        exact leL_ins hl2 hr2 h2 (by omega)
    · rw [if_neg c1]
      by_cases c2 : y ≤ b
      · rw [if_pos c2]
        refine ⟨by omega, ?_⟩
        rw [← ins_head hr]
        exact leL_ins hl2 hr2 h2 (by omega)
      · rw [if_neg c2]
        exact ⟨h1, leL_ins hl2 hr2 h2 h⟩
  | [], _ :: _, _, _, _, _, h, _ => h.elim
  | _ :: _, [], _, _, _, _, h, _ => h.elim
theorem leL_srt : ∀ {l r : List Int}, leL l r → leL (srt l) (srt r)
  | [], [], _ => trivial
  | _ :: l, _ :: r, h => leL_ins (srt_sorted l) (srt_sorted r) (leL_srt h.2) h.1
  | [], _ :: _, h => h.elim
  | _ :: _, [], h => h.elim
theorem leL_above (c : Int) : ∀ {l r : List Int}, leL l r → (l.filter fun v => decide (v > c)).length ≤ (r.filter fun v => decide (v > c)).length
  | [], [], _ => Nat.le_refl _
  | x :: l, y :: r, h => by
    have ih := leL_above c h.2
    have h1 := h.1
    rw [List.filter_cons, List.filter_cons]
    by_cases c1 : x > c
    · rw [if_pos (decide_eq_true c1), if_pos (decide_eq_true (show y > c by omega)), List.length_cons, List.length_cons]; omega
    · rw [if_neg (by simp; omega)]
      split
      · rw [List.length_cons]; omega
      · exact ih
  | [], _ :: _, h => h.elim
  | _ :: _, [], h => h.elim
theorem srt_zero {l : List Int} (h : l ≠ []) : (srt l).getD 0 0 = mnl l := by
  have hl : 0 < (srt l).length := by rw [srt_len]; exact List.length_pos_iff.mpr h
  refine mnl_eq ?_ fun y hy => ?_
  · refine (srt_perm l).mem_iff.mp ?_
    cases e : srt l with
    | nil => rw [e] at hl; cases hl
    | cons x r => exact List.mem_cons_self ..
  · have hs := srt_sorted l
    have hy := (srt_perm l).mem_iff.mpr hy
    cases e : srt l with
    | nil => rw [e] at hl; cases hl
    | cons x r =>
      rw [e] at hs hy
      rcases List.mem_cons.mp hy with q | q
      · subst q; exact Int.le_refl _
      · exact (List.pairwise_cons.mp hs).1 y q
theorem sorted_last : ∀ {l : List Int}, l.Pairwise (· ≤ ·) → ∀ y ∈ l, y ≤ l.getD (l.length - 1) 0
  | [x], _, y, h => by rw [List.mem_singleton.mp h]; exact Int.le_refl _
  | x :: z :: r, hs, y, h => by
    have h2 := (List.pairwise_cons.mp hs).2
    have e : (x :: z :: r).getD ((x :: z :: r).length - 1) 0 = (z :: r).getD ((z :: r).length - 1) 0 := by simp [List.getD_cons_succ]
    rw [e]
    rcases List.mem_cons.mp h with q | q
    · subst q
      exact Int.le_trans ((List.pairwise_cons.mp hs).1 z (List.mem_cons_self ..)) (sorted_last h2 z (List.mem_cons_self ..))
    · exact sorted_last h2 y q
theorem getD_mem {l : List Int} {n : Nat} (h : n < l.length) : l.getD n 0 ∈ l := List.mem_of_getElem? (getD_at h)
theorem srt_last {l : List Int} (h : l ≠ []) : (srt l).getD (l.length - 1) 0 = mxl l := by
  have hl : 0 < (srt l).length := by rw [srt_len]; exact List.length_pos_iff.mpr h
  refine mxl_eq ?_ fun y hy => ?_
  · exact (srt_perm l).mem_iff.mp (getD_mem (by rw [srt_len] at hl ⊢; omega))
  · have := sorted_last (srt_sorted l) y ((srt_perm l).mem_iff.mpr hy)
    rw [srt_len] at this
    exact this
/-! ### fractions in lowest terms, compared -/
theorem frI_spec {x n : Int} (h : 0 < n) : ∃ g, 0 < g ∧ x = (frI x n).1 * g ∧ n = (frI x n).2 * g ∧ 0 < (frI x n).2 := by
  have hg := gcdI_pos (a := x) h
  have d1 : gcdI x n ∣ x := Int.gcd_dvd_left ..
  have d2 : gcdI x n ∣ n := Int.gcd_dvd_right ..
  refine ⟨gcdI x n, hg, (Int.ediv_mul_cancel d1).symm, (Int.ediv_mul_cancel d2).symm, ?_⟩
  exact Int.ediv_pos_of_pos_of_dvd h (Int.le_of_lt hg) d2
theorem frI_le {x n : Int} (h : 0 < n) : 0 < (frI x n).2 ∧ (frI x n).2 ≤ n := by
  obtain ⟨g, h1, h2, h3, h4⟩ := frI_spec (x := x) h
  refine ⟨h4, ?_⟩
  have : (frI x n).2 * 1 ≤ (frI x n).2 * g := Int.mul_le_mul_of_nonneg_left (by omega) (by omega)
  omega
/-- a fraction a / b below another, as their whole numbers tell -/
theorem frI_lt {x y n m : Int} (hn : 0 < n) (hm : 0 < m) : (frI x n).1 * (frI y m).2 < (frI y m).1 * (frI x n).2 ↔ x * m < y * n := by
  obtain ⟨g, g1, g2, g3, g4⟩ := frI_spec (x := x) hn
  obtain ⟨k, k1, k2, k3, k4⟩ := frI_spec (x := y) hm
  have e1 : x * m = (frI x n).1 * (frI y m).2 * (g * k) := by
    calc x * m = ((frI x n).1 * g) * ((frI y m).2 * k) := by rw [← g2, ← k3]
      _ = _ := by simp only [Int.mul_assoc, Int.mul_left_comm, Int.mul_comm]
  have e2 : y * n = (frI y m).1 * (frI x n).2 * (g * k) := by
    calc y * n = ((frI y m).1 * k) * ((frI x n).2 * g) := by rw [← k2, ← g3]
      _ = _ := by simp only [Int.mul_assoc, Int.mul_left_comm, Int.mul_comm]
  rw [e1, e2]
  have hp : 0 < g * k := Int.mul_pos g1 k1
  exact ⟨fun h => Int.mul_lt_mul_of_pos_right h hp, fun h => Int.lt_of_mul_lt_mul_right h (Int.le_of_lt hp)⟩
/-! ### all choices of integers, one after another -/
def rowExt (p : Int × Int) (r : List Int) : List (List Int) := (rgI p.1 (p.2 + 1 - p.1).toNat).map fun v => r ++ [v]
def rowsFrom (acc : List (List Int)) (b : List (Int × Int)) : List (List Int) := b.foldl (fun a p => a.flatMap (rowExt p)) acc
def rowsOf (b : List (Int × Int)) : List (List Int) := rowsFrom [[]] b
def inB : List (Int × Int) → List Int → Prop
  | [], [] => True
  | p :: b, x :: r => (p.1 ≤ x ∧ x ≤ p.2) ∧ inB b r
  | _, _ => False
theorem mem_rgI {lo : Int} {n : Nat} {x : Int} : x ∈ rgI lo n ↔ lo ≤ x ∧ x < lo + n := by
  unfold rgI
  rw [List.mem_map]
  constructor
  · rintro ⟨k, hk, rfl⟩
    have := List.mem_range.mp hk
    omega
  · rintro ⟨h1, h2⟩
    exact ⟨(x - lo).toNat, List.mem_range.mpr (by omega), by omega⟩
theorem len_rgI (lo : Int) (n : Nat) : (rgI lo n).length = n := by unfold rgI; rw [List.length_map, List.length_range]
theorem mem_rowsFrom : ∀ {b : List (Int × Int)} {acc : List (List Int)} {r : List Int}, r ∈ rowsFrom acc b ↔ ∃ r0 ∈ acc, ∃ r1, r = r0 ++ r1 ∧ inB b r1
  | [], acc, r => by
    constructor
    · intro h; exact ⟨r, h, [], (List.append_nil r).symm, trivial⟩
    · rintro ⟨r0, h0, r1, rfl, h1⟩
      cases r1 with
      | nil => rw [List.append_nil]; exact h0
      | cons _ _ => exact h1.elim
  | p :: b, acc, r => by
    show r ∈ rowsFrom (acc.flatMap (rowExt p)) b ↔ _
    rw [mem_rowsFrom]
    constructor
    · rintro ⟨r0, h0, r1, rfl, h1⟩
      obtain ⟨a, ha, h2⟩ := List.mem_flatMap.mp h0
      obtain ⟨v, hv, rfl⟩ := List.mem_map.mp h2
      have hv := mem_rgI.mp hv
      exact ⟨a, ha, v :: r1, by simp, by omega, h1⟩
    · rintro ⟨r0, h0, r1, rfl, h1⟩
      cases r1 with
      | nil => exact h1.elim
      | cons v r1 =>
        refine ⟨r0 ++ [v], List.mem_flatMap.mpr ⟨r0, h0, List.mem_map.mpr ⟨v, mem_rgI.mpr ?_, rfl⟩⟩, r1, by simp, h1.2⟩
        have := h1.1
        omega
theorem mem_rows {b : List (Int × Int)} {r : List Int} : r ∈ rowsOf b ↔ inB b r := by
  unfold rowsOf
  rw [mem_rowsFrom]
  constructor
  · rintro ⟨r0, h0, r1, rfl, h1⟩
    rw [List.mem_singleton.mp h0]; exact h1
  · intro h; exact ⟨[], List.mem_singleton.mpr rfl, r, rfl, h⟩
theorem inB_len : ∀ {b : List (Int × Int)} {r : List Int}, inB b r → r.length = b.length
  | [], [], _ => rfl
  | _ :: b, _ :: r, h => by rw [List.length_cons, List.length_cons, inB_len h.2]
  | [], _ :: _, h => h.elim
  | _ :: _, [], h => h.elim
theorem rows_take {b : List (Int × Int)} {k : Nat} {p : Int × Int} (h : b[k]? = some p) : rowsOf (b.take (k + 1)) = (rowsOf (b.take k)).flatMap (rowExt p) := by
  unfold rowsOf rowsFrom
  rw [List.take_add_one, h, List.foldl_append]; rfl
theorem flat_len {α β : Type} {f : α → List β} {n : Nat} : ∀ {l : List α}, (∀ x ∈ l, (f x).length ≤ n) → (l.flatMap f).length ≤ l.length * n
  | [], _ => by simp
  | x :: l, h => by
    rw [List.flatMap_cons, List.length_append, List.length_cons, Nat.add_mul, Nat.one_mul, Nat.add_comm]
    exact Nat.add_le_add (flat_len fun y hy => h y (List.mem_cons_of_mem _ hy)) (h x (List.mem_cons_self ..))
theorem rows_card : ∀ {b : List (Int × Int)} {acc : List (List Int)} {m : Nat}, (∀ p ∈ b, p.2 + 1 - p.1 ≤ (m : Int)) → (rowsFrom acc b).length ≤ acc.length * m ^ b.length
  | [], acc, m, _ => by show acc.length ≤ acc.length * m ^ 0; rw [Nat.pow_zero, Nat.mul_one]; exact Nat.le_refl _
  | p :: b, acc, m, h => by
    have ih := rows_card (b := b) (acc := acc.flatMap (rowExt p)) (m := m) fun q hq => h q (List.mem_cons_of_mem _ hq)
    have h1 : (acc.flatMap (rowExt p)).length ≤ acc.length * m := flat_len fun r _ => by
      unfold rowExt
      rw [List.length_map, len_rgI]
      have := h p (List.mem_cons_self ..)
      omega
    show (rowsFrom (acc.flatMap (rowExt p)) b).length ≤ acc.length * m ^ (b.length + 1)
    refine Nat.le_trans ih ?_
    rw [Nat.pow_succ, Nat.mul_comm (m ^ b.length) m, ← Nat.mul_assoc]
    exact Nat.mul_le_mul_right _ h1
/-- few bounds of few choices -/
def Few (b : List (Int × Int)) : Prop := b.length ≤ 7 ∧ ∀ p ∈ b, -1000 ≤ p.1 ∧ p.1 ≤ p.2 ∧ p.2 < p.1 + 4 ∧ p.2 ≤ 1000
theorem few_card {b : List (Int × Int)} (h : Few b) (k : Nat) : (rowsOf (b.take k)).length ≤ 16384 := by
  have h1 := rows_card (b := b.take k) (acc := [[]]) (m := 4) fun p hp => by have := h.2 p (List.mem_of_mem_take hp); omega
  have h2 : (b.take k).length ≤ 7 := Nat.le_trans (by rw [List.length_take]; exact Nat.min_le_right _ _) h.1
  have h3 : 4 ^ (b.take k).length ≤ 4 ^ 7 := Nat.pow_le_pow_right (by decide) h2
  have h4 : (4 : Nat) ^ 7 = 16384 := by decide
  have h5 : ([[]] : List (List Int)).length = 1 := rfl
  unfold rowsOf
  exact Nat.le_trans h1 (by rw [h5, Nat.one_mul]; exact Nat.le_trans h3 (by decide))
theorem ext_card {p : Int × Int} (h : p.2 < p.1 + 4) {l : List (List Int)} : (l.flatMap (rowExt p)).length ≤ l.length * 4 := flat_len fun r _ => by
  unfold rowExt
  rw [List.length_map, len_rgI]; omega
theorem small_few {n : Int} {b : List (Int × Int)} (h : SmallP n b) (hn : n ≤ 7) : Few b := ⟨by have := h.2.1; omega, fun p hp => by have := h.2.2 p hp; omega⟩
theorem small_bok {n : Int} {b : List (Int × Int)} (h : SmallP n b) (hn : n ≤ 7) : BOk b := ⟨h.1, by have := h.2.1; omega, fun p hp => by have := h.2.2 p hp; omega⟩
theorem few_rows {b : List (Int × Int)} (h : Few b) : (rowsOf b).length ≤ 1000000 := by
  have := few_card h b.length
  rw [List.take_length] at this; omega
/-! ### two loops, one in the other -/
theorem fold_nest {α β γ : Type} (g : α → β → γ → γ) (m : α → List β) : ∀ (l : List α) (a : γ), l.foldl (fun s x => (m x).foldl (fun s y => g x y s) s) a = (l.flatMap fun x => (m x).map fun y => (x, y)).foldl (fun s p => g p.1 p.2 s) a
  | [], _ => rfl
  | x :: l, a => by
    rw [List.foldl_cons, fold_nest g m l, List.flatMap_cons, List.foldl_append, List.foldl_map]
/-- the first greatest of those that count -/
theorem fold_first {α β : Type} {c : α → Bool} {v : α → β} {key : β → Int} {d : β} : ∀ (l : List α) (s : Option β),
    (l.foldl (fun s p => if (c p && (s.isNone || decide (key (v p) > key (s.getD d)))) = true then some (v p) else s) s = s ∧ ∀ p ∈ l, c p = true → ∃ t, s = some t ∧ key (v p) ≤ key t) ∨
    ∃ p ∈ l, c p = true ∧ l.foldl (fun s p => if (c p && (s.isNone || decide (key (v p) > key (s.getD d)))) = true then some (v p) else s) s = some (v p) ∧ (∀ q ∈ l, c q = true → key (v q) ≤ key (v p)) ∧ ∀ t, s = some t → key t ≤ key (v p)
  | [], s => .inl ⟨rfl, fun _ h => by cases h⟩
  | p :: l, s => by
    rw [List.foldl_cons]
    by_cases h : (c p && (s.isNone || decide (key (v p) > key (s.getD d)))) = true
    · rw [if_pos h]
      have hc : c p = true := (Bool.and_eq_true_iff.mp h).1
      have hs : ∀ t, s = some t → key t ≤ key (v p) := fun t e => by
        subst e
        have := (Bool.and_eq_true_iff.mp h).2
        simp at this; omega
      rcases fold_first (c := c) (v := v) (key := key) (d := d) l (some (v p)) with ⟨h1, h2⟩ | ⟨q, hq, h1, h2, h3, h4⟩
      · refine .inr ⟨p, List.mem_cons_self .., hc, h1, fun q hq hcq => ?_, hs⟩
        rcases List.mem_cons.mp hq with e | hq
        · subst e; exact Int.le_refl _
        · obtain ⟨t, e, h⟩ := h2 q hq hcq
          cases e; exact h
      · have h5 := h4 _ rfl
        refine .inr ⟨q, List.mem_cons_of_mem _ hq, h1, h2, fun x hx hcx => ?_, fun t e => Int.le_trans (hs t e) h5⟩
        rcases List.mem_cons.mp hx with e | hx
        · subst e; exact h5
        · exact h3 x hx hcx
    · rw [if_neg h]
      have hn : c p = true → ∃ t, s = some t ∧ key (v p) ≤ key t := fun hc => by
        cases s with
        | none => exact absurd (by simp [hc]) h
        | some t => exact ⟨t, rfl, by simp [hc] at h; exact h⟩
      rcases fold_first (c := c) (v := v) (key := key) (d := d) l s with ⟨h1, h2⟩ | ⟨q, hq, h1, h2, h3, h4⟩
      · refine .inl ⟨h1, fun x hx hcx => ?_⟩
        rcases List.mem_cons.mp hx with e | hx
        · subst e; exact hn hcx
        · exact h2 x hx hcx
      · refine .inr ⟨q, List.mem_cons_of_mem _ hq, h1, h2, fun x hx hcx => ?_, h4⟩
        rcases List.mem_cons.mp hx with e | hx
        · subst e
          obtain ⟨t, e, h⟩ := hn hcx
          exact Int.le_trans h (h4 t e)
        · exact h3 x hx hcx
/-! ### bounds by places -/
def lo (b : List (Int × Int)) (k : Nat) : Int := (b.getD k (0, 0)).1
def hi (b : List (Int × Int)) (k : Nat) : Int := (b.getD k (0, 0)).2
theorem mem_at {α : Type} {l : List α} {x d : α} (h : x ∈ l) : ∃ k, k < l.length ∧ l.getD k d = x := by
  obtain ⟨k, hk, e⟩ := List.getElem_of_mem h
  exact ⟨k, hk, by rw [List.getD_eq_getElem?_getD, List.getElem?_eq_getElem hk]; exact e⟩
theorem at_mem {α : Type} {l : List α} {d : α} {k : Nat} (h : k < l.length) : l.getD k d ∈ l := List.mem_of_getElem? (getD_at h)
theorem lo_hi {b : List (Int × Int)} (hb : ∀ p ∈ b, p.1 ≤ p.2) {k : Nat} (h : k < b.length) : lo b k ≤ hi b k := hb _ (at_mem h)
theorem map_at {α β : Type} {f : α → β} {l : List α} {k : Nat} {d : α} {e : β} (h : k < l.length) : (l.map f).getD k e = f (l.getD k d) := by
  rw [List.getD_eq_getElem?_getD, List.getElem?_map, List.getElem?_eq_getElem h, List.getD_eq_getElem?_getD, List.getElem?_eq_getElem h]; rfl
theorem inB_iff : ∀ {b : List (Int × Int)} {r : List Int}, inB b r ↔ r.length = b.length ∧ ∀ k, k < b.length → lo b k ≤ r.getD k 0 ∧ r.getD k 0 ≤ hi b k
  | [], [] => by simp [inB]
  | [], _ :: _ => by simp [inB]
  | _ :: _, [] => by simp [inB]
  | p :: b, x :: r => by
    have ih := inB_iff (b := b) (r := r)
    show (p.1 ≤ x ∧ x ≤ p.2) ∧ inB b r ↔ _
    rw [ih]
    constructor
    · rintro ⟨h0, h1, h2⟩
      refine ⟨by simp [h1], fun k hk => ?_⟩
      cases k with
      | zero => exact h0
      | succ k => exact h2 k (by simpa using hk)
    · rintro ⟨h1, h2⟩
      refine ⟨h2 0 (by simp), by simpa using h1, fun k hk => ?_⟩
      exact h2 (k + 1) (by simpa using hk)
theorem pick_bok {n m : Int} {x y c : List (Int × Int)} (hx : SmallP n x) (hn : n ≤ 7) (hy : BndP m y) (hm : m ≤ 7) (hc : c ∈ [x, y]) : BOk c := by
  rcases List.mem_cons.mp hc with e | e
  · rw [e]; exact small_bok hx hn
  · rw [List.mem_singleton.mp e]; exact bnd_bok hy hm
/-- the law's corners -/
def lstep (s : List (List Int)) (p : Int × Int) : List (List Int) := s.map (fun r => r ++ [p.1]) ++ s.map (fun r => r ++ [p.2])
def topS (i : Nat) : Stmt := PySem.Challenge.pw_boundstats_k07_whole_orders.main.body.getD i (.Pass ⟨0, 0, 0, 0⟩)
abbrev s_is_int : Stmt := topS 9
abbrev N_is_int : List Str := ["value", "low", "high"]
theorem sc_is_int : FnScope N_is_int ["value", "low", "high"] (defScope s_is_int) := ⟨rfl, rfl, rfl, by decide +kernel, rfl, by decide +kernel, by decide +kernel⟩
abbrev s_is_bound : Stmt := topS 10
abbrev N_is_bound : List Str := ["value"]
theorem sc_is_bound : FnScope N_is_bound ["value"] (defScope s_is_bound) := ⟨rfl, rfl, rfl, by decide +kernel, rfl, by decide +kernel, by decide +kernel⟩
abbrev s_is_bounds : Stmt := topS 11
abbrev N_is_bounds : List Str := ["value", "one"]
theorem sc_is_bounds : FnScope N_is_bounds ["value"] (defScope s_is_bounds) := ⟨rfl, rfl, rfl, by decide +kernel, rfl, by decide +kernel, by decide +kernel⟩
abbrev s_check_bounds : Stmt := topS 12
abbrev N_check_bounds : List Str := ["value"]
theorem sc_check_bounds : FnScope N_check_bounds ["value"] (defScope s_check_bounds) := ⟨rfl, rfl, rfl, by decide +kernel, rfl, by decide +kernel, by decide +kernel⟩
abbrev s_check_order : Stmt := topS 14
abbrev N_check_order : List Str := ["bounds", "value", "k"]
theorem sc_check_order : FnScope N_check_order ["bounds", "value"] (defScope s_check_order) := ⟨rfl, rfl, rfl, by decide +kernel, rfl, by decide +kernel, by decide +kernel⟩
abbrev s_is_possible : Stmt := topS 15
abbrev N_is_possible : List Str := ["bounds", "order", "k", "j"]
theorem sc_is_possible : FnScope N_is_possible ["bounds", "order"] (defScope s_is_possible) := ⟨rfl, rfl, rfl, by decide +kernel, rfl, by decide +kernel, by decide +kernel⟩
abbrev s_can_be_order : Stmt := topS 16
abbrev N_can_be_order : List Str := ["bounds", "order"]
theorem sc_can_be_order : FnScope N_can_be_order ["bounds", "order"] (defScope s_can_be_order) := ⟨rfl, rfl, rfl, by decide +kernel, rfl, by decide +kernel, by decide +kernel⟩
abbrev s_choice_for : Stmt := topS 17
abbrev N_choice_for : List Str := ["bounds", "order", "found", "last", "place"]
theorem sc_choice_for : FnScope N_choice_for ["bounds", "order"] (defScope s_choice_for) := ⟨rfl, rfl, rfl, by decide +kernel, rfl, by decide +kernel, by decide +kernel⟩
abbrev s_next_places : Stmt := topS 18
abbrev N_next_places : List Str := ["bounds", "done", "left", "k", "j"]
theorem sc_next_places : FnScope N_next_places ["bounds", "done"] (defScope s_next_places) := ⟨rfl, rfl, rfl, by decide +kernel, rfl, by decide +kernel, by decide +kernel⟩
abbrev s_ways_from : Stmt := topS 19
abbrev N_ways_from : List Str := ["bounds", "done", "known", "key", "k"]
theorem sc_ways_from : FnScope N_ways_from ["bounds", "done", "known"] (defScope s_ways_from) := ⟨rfl, rfl, rfl, by decide +kernel, rfl, by decide +kernel, by decide +kernel⟩
abbrev s_count_orders : Stmt := topS 20
abbrev N_count_orders : List Str := ["bounds"]
theorem sc_count_orders : FnScope N_count_orders ["bounds"] (defScope s_count_orders) := ⟨rfl, rfl, rfl, by decide +kernel, rfl, by decide +kernel, by decide +kernel⟩
abbrev s_order_at : Stmt := topS 21
abbrev N_order_at : List Str := ["bounds", "rank", "known", "found", "k", "many"]
theorem sc_order_at : FnScope N_order_at ["bounds", "rank"] (defScope s_order_at) := ⟨rfl, rfl, rfl, by decide +kernel, rfl, by decide +kernel, by decide +kernel⟩
abbrev s_rank_of_order : Stmt := topS 22
abbrev N_rank_of_order : List Str := ["bounds", "order", "found", "known", "place", "one", "k"]
theorem sc_rank_of_order : FnScope N_rank_of_order ["bounds", "order"] (defScope s_rank_of_order) := ⟨rfl, rfl, rfl, by decide +kernel, rfl, by decide +kernel, by decide +kernel⟩
abbrev s_checked : Stmt := topS 24
abbrev N_checked : List Str := ["bounds"]
theorem sc_checked : FnScope N_checked ["bounds"] (defScope s_checked) := ⟨rfl, rfl, rfl, by decide +kernel, rfl, by decide +kernel, by decide +kernel⟩
abbrev s_widened : Stmt := topS 25
abbrev N_widened : List Str := ["bounds", "by", "low", "high"]
theorem sc_widened : FnScope N_widened ["bounds", "by"] (defScope s_widened) := ⟨rfl, rfl, rfl, by decide +kernel, rfl, by decide +kernel, by decide +kernel⟩
abbrev s__law_start : Stmt := topS 27
abbrev N__law_start : List Str := ["_law_script"]
theorem sc__law_start : FnScope N__law_start ["_law_script"] (defScope s__law_start) := ⟨rfl, rfl, rfl, by decide +kernel, rfl, by decide +kernel, by decide +kernel⟩
abbrev s__law_draw : Stmt := topS 28
abbrev N__law_draw : List Str := ["_law_draws", "_law_limit", "_law_numbers", "_law_at", "_law_cell", "_law_mixed"]
theorem sc__law_draw : FnScope N__law_draw ["_law_draws", "_law_limit"] (defScope s__law_draw) := ⟨rfl, rfl, rfl, by decide +kernel, rfl, by decide +kernel, by decide +kernel⟩
abbrev s__law_pick : Stmt := topS 29
abbrev N__law_pick : List Str := ["_law_draws", "_law_choices"]
theorem sc__law_pick : FnScope N__law_pick ["_law_draws", "_law_choices"] (defScope s__law_pick) := ⟨rfl, rfl, rfl, by decide +kernel, rfl, by decide +kernel, by decide +kernel⟩
abbrev s__law_error : Stmt := topS 30
abbrev N__law_error : List Str := ["_law_caught", "_law_kinds"]
theorem sc__law_error : FnScope N__law_error ["_law_caught"] (defScope s__law_error) := ⟨rfl, rfl, rfl, by decide +kernel, rfl, by decide +kernel, by decide +kernel⟩
abbrev s__law_true : Stmt := topS 31
abbrev N__law_true : List Str := ["_law_value", "_law_expected"]
theorem sc__law_true : FnScope N__law_true ["_law_value", "_law_expected"] (defScope s__law_true) := ⟨rfl, rfl, rfl, by decide +kernel, rfl, by decide +kernel, by decide +kernel⟩
abbrev s__law_bounds : Stmt := topS 32
abbrev N__law_bounds : List Str := ["_law_draws", "_law_most", "_law_far", "_law_wide", "_law_found", "_law_k", "_law_low"]
theorem sc__law_bounds : FnScope N__law_bounds ["_law_draws", "_law_most"] (defScope s__law_bounds) := ⟨rfl, rfl, rfl, by decide +kernel, rfl, by decide +kernel, by decide +kernel⟩
abbrev s__law_small : Stmt := topS 33
abbrev N__law_small : List Str := ["_law_draws", "_law_most", "_law_found", "_law_k", "_law_low"]
theorem sc__law_small : FnScope N__law_small ["_law_draws", "_law_most"] (defScope s__law_small) := ⟨rfl, rfl, rfl, by decide +kernel, rfl, by decide +kernel, by decide +kernel⟩
abbrev s__law_inside : Stmt := topS 34
abbrev N__law_inside : List Str := ["_law_bounds_here", "_law_row", "_law_k"]
theorem sc__law_inside : FnScope N__law_inside ["_law_bounds_here", "_law_row"] (defScope s__law_inside) := ⟨rfl, rfl, rfl, by decide +kernel, rfl, by decide +kernel, by decide +kernel⟩
abbrev s__law_orders : Stmt := topS 35
abbrev N__law_orders : List Str := ["_law_size", "_law_rows", "_law_k", "_law_longer_rows", "_law_row", "_law_place"]
theorem sc__law_orders : FnScope N__law_orders ["_law_size"] (defScope s__law_orders) := ⟨rfl, rfl, rfl, by decide +kernel, rfl, by decide +kernel, by decide +kernel⟩
abbrev s__law_call : Stmt := topS 36
abbrev N__law_call : List Str := ["_law_kind", "_law_bounds_here", "_law_thing", "_law_found", "_law_caught", "e"]
theorem sc__law_call : FnScope N__law_call ["_law_kind", "_law_bounds_here", "_law_thing"] (defScope s__law_call) := ⟨rfl, rfl, rfl, by decide +kernel, rfl, by decide +kernel, by decide +kernel⟩
abbrev s_law : Stmt := topS 37
abbrev N_law : List Str := ["_law_script", "_law_draws", "_law_bounds_here", "_law_size", "_law_good", "_law_row", "_law_bad", "_law_k", "_law_j", "_law_rank", "_law_drawn", "_law_told", "_law_values", "_law_place", "_law_last"]
theorem sc_law : FnScope N_law ["_law_script"] (defScope s_law) := ⟨rfl, rfl, rfl, by decide +kernel, rfl, by decide +kernel, by decide +kernel⟩
structure Txt (K : Fg) (mg : Str → Option Value) : Prop where
  d_is_int : Fd K mg "is_int" s_is_int
  d_is_bound : Fd K mg "is_bound" s_is_bound
  d_is_bounds : Fd K mg "is_bounds" s_is_bounds
  d_check_bounds : Fd K mg "check_bounds" s_check_bounds
  d_check_order : Fd K mg "check_order" s_check_order
  d_is_possible : Fd K mg "is_possible" s_is_possible
  d_can_be_order : Fd K mg "can_be_order" s_can_be_order
  d_choice_for : Fd K mg "choice_for" s_choice_for
  d_next_places : Fd K mg "next_places" s_next_places
  d_ways_from : Fd K mg "ways_from" s_ways_from
  d_count_orders : Fd K mg "count_orders" s_count_orders
  d_order_at : Fd K mg "order_at" s_order_at
  d_rank_of_order : Fd K mg "rank_of_order" s_rank_of_order
  d_checked : Fd K mg "checked" s_checked
  d_widened : Fd K mg "widened" s_widened
  d__law_start : Fd K mg "_law_start" s__law_start
  d__law_draw : Fd K mg "_law_draw" s__law_draw
  d__law_pick : Fd K mg "_law_pick" s__law_pick
  d__law_error : Fd K mg "_law_error" s__law_error
  d__law_true : Fd K mg "_law_true" s__law_true
  d__law_bounds : Fd K mg "_law_bounds" s__law_bounds
  d__law_small : Fd K mg "_law_small" s__law_small
  d__law_inside : Fd K mg "_law_inside" s__law_inside
  d__law_orders : Fd K mg "_law_orders" s__law_orders
  d__law_call : Fd K mg "_law_call" s__law_call
  d_law : Fd K mg "law" s_law
  n_ValueError : mg "ValueError" = none
  n_all : mg "all" = none
  n_bool : mg "bool" = none
  n_enumerate : mg "enumerate" = none
  n_int : mg "int" = none
  n_isinstance : mg "isinstance" = none
  n_len : mg "len" = none
  n_list : mg "list" = none
  n_max : mg "max" = none
  n_range : mg "range" = none
  n_sorted : mg "sorted" = none
  n_sum : mg "sum" = none
  n_tuple : mg "tuple" = none
  x : Errs K mg
  c_MOST_BOUND : ∃ t, mg "MOST_BOUND" = some (.int 50 t)
  c_MOST_VALUES : ∃ t, mg "MOST_VALUES" = some (.int 7 t)
section
variable {P : Program} {w : World} {K : Fg} {mg : Str → Option Value} {base : Heap}
def m_is_int (x0 : Int) (x1 : Int) (x2 : Int) : Bool := (true && ((!false) && ((decide (x1 ≤ x0)) && (decide (x0 ≤ x2)))))
theorem ok_is_int (T : Txt K mg) : Ok P w K mg base CX0 1 "is_int" ["value", "low", "high"] (sp3 K ((fun _ _ _ => True) : Int → Int → Int → Prop) m_is_int) := by
  refine ok_of T.d_is_int sc_is_int (bi3 fun _ _ _ _ _ _ _ _ _ => rfl) len_sp3 (fun f cdv A outer s H vs Q E hr h => ?_)
  have nd := sc_is_int.nd
  obtain ⟨v0, v1, v2, x0, x1, x2, rfl, r0, r1, r2, hp, q⟩ := h
  refine ⟨_, (pss_one (ps_ret (pe_and (pe_callB (k_isi K rfl) (by rfl) T.n_isinstance (by decide +kernel) (pa_cons (pv 0) (pa_cons (pe_bltn (v := .ty "int") (by rfl) T.n_int (by decide +kernel) rfl) pa_nil))) (pe_and (pe_not (pe_callB (k_isi K rfl) (by rfl) T.n_isinstance (by decide +kernel) (pa_cons (pv 0) (pa_cons (pe_bltn (v := .ty "bool") (by rfl) T.n_bool (by decide +kernel) rfl) pa_nil)))) (pe_one (pe_chain op_le op_le (pv 1) (pv 0) (pv 2))))))), ?_⟩
  exact s_ret (K := K) (er_andV (er_isi (b := true) (er_var rfl r0) (show kitB "int" "int" = some true from by decide)) (fun hsc => (er_andV (er_notV (er_isi (b := false) (er_var rfl r0) (show kitB "int" "bool" = some false from by decide))) (fun hsc => (er_chain (er_var rfl r1) (er_var rfl r0) (er_var rfl r2) rr_le rr_le))))) (fun u _ e301 rr => q u _ e301 rr)
def m_is_bound (x0 : (Int × Int)) : Bool := (if ((!true) || (!(decide ((2 : Int) = (2 : Int))))) = true then false else ((m_is_int x0.1 (-(50 : Int)) (50 : Int)) && (m_is_int x0.2 x0.1 (50 : Int))))
theorem ok_is_bound (T : Txt K mg) : Ok P w K mg base CX0 2 "is_bound" ["value"] (sp1 K ((fun _ => True) : (Int × Int) → Prop) m_is_bound) := by
  refine ok_of T.d_is_bound sc_is_bound (bi1 fun _ _ _ _ _ _ _ => rfl) len_sp1 (fun f cdv A outer s H vs Q E hr h => ?_)
  have nd := sc_is_bound.nd
  obtain ⟨v0, x0, rfl, r0, hp, q⟩ := h
  refine ⟨_, (pss_cons (ps_if (PW.pt (pw_or (pt_not (pt_val (pe_callB (k_isi K rfl) (by rfl) T.n_isinstance (by decide +kernel) (pa_cons (pv 0) (pa_cons (pe_bltn (v := .ty "tuple") (by rfl) T.n_tuple (by decide +kernel) rfl) pa_nil))))) (pw_or1 (pt_cmpR op_ne (pe_callB (k_len K rfl) (by rfl) T.n_len PySem.boot_len (pa_cons (pv 0) pa_nil)) pe_int (nomark _))))) (pss_one (ps_ret pe_bl)) pss_nil)
      (pss_one (ps_ret (pe_and (pe_fn (ok_is_int T) (hr.mono (by decide)) pass0 (pa_cons (pe_ix (k_ixt K rfl) (pv 0) pe_int (fun _ _ => rfl)) (pa_cons (pe_un un_neg (pe_gint T.c_MOST_BOUND)) (pa_cons (pe_gint T.c_MOST_BOUND) pa_nil)))) (pe_one (pe_fn (ok_is_int T) (hr.mono (by decide)) pass0 (pa_cons (pe_ix (k_ixt K rfl) (pv 0) pe_int (fun _ _ => rfl)) (pa_cons (pe_ix (k_ixt K rfl) (pv 0) pe_int (fun _ _ => rfl)) (pa_cons (pe_gint T.c_MOST_BOUND) pa_nil))))))))), ?_⟩
  refine q_when (K := K) (et_or (et_not (et_B (er_isi (b := true) (er_var rfl r0) (show kitB "tuple" "tuple" = some true from by decide)))) (fun hsc => (et_test (er_op (er_lenP (er_var rfl r0)) er_int rr_neI)))) (fun hc303 _ e302 => ?_) (fun hc303 _ e302 => ?_)
  ·
    exact s_ret (K := K) er_bl (fun u _ e304 rr => q u _ (e302.trans e304) (by rw [(show m_is_bound x0 = false from by unfold m_is_bound; rw [if_pos hc303])]; exact rr))
  ·
    exact s_ret (K := K) (er_andV (er_call3 (er_op (er_var rfl (Rp.mono (SF.of e302) r0)) er_int rr_ixP0) (er_neg er_int) er_int trivial) (fun hsc => (er_call3 (er_op (er_var rfl (Rp.mono (SF.of e302) r0)) er_int rr_ixP1) (er_op (er_var rfl (Rp.mono (SF.of e302) r0)) er_int rr_ixP0) er_int trivial))) (fun u _ e305 rr => q u _ (e302.trans e305) (by rw [(show m_is_bound x0 = ((m_is_int x0.1 (-(50 : Int)) (50 : Int)) && (m_is_int x0.2 x0.1 (50 : Int))) from by unfold m_is_bound; rw [if_neg (by rw [hc303]; exact Bool.false_ne_true)])]; exact rr))
def m_is_bounds (x0 : (List (Int × Int))) : Bool := (if ((!true) || (!((decide ((1 : Int) ≤ ((x0.length : Nat) : Int))) && (decide (((x0.length : Nat) : Int) ≤ (7 : Int)))))) = true then false else ((x0.map (fun (x315 : (Int × Int)) => (m_is_bound x315))).all id))
theorem ok_is_bounds (T : Txt K mg) : Ok P w K mg base CX0 3 "is_bounds" ["value"] (sp1 K ((fun b => b.length ≤ 100000) : (List (Int × Int)) → Prop) m_is_bounds) := by
  refine ok_of T.d_is_bounds sc_is_bounds (bi1 fun _ _ _ _ _ _ _ => rfl) len_sp1 (fun f cdv A outer s H vs Q E hr h => ?_)
  have nd := sc_is_bounds.nd
  obtain ⟨v0, x0, rfl, r0, hp, q⟩ := h
  refine ⟨_, (pss_cons (ps_if (PW.pt (pw_or (pt_not (pt_val (pe_callB (k_isi K rfl) (by rfl) T.n_isinstance (by decide +kernel) (pa_cons (pv 0) (pa_cons (pe_bltn (v := .ty "list") (by rfl) T.n_list (by decide +kernel) rfl) pa_nil))))) (pw_or1 (pt_not (pt_chain op_le op_le pe_int (pe_callB (k_len K rfl) (by rfl) T.n_len PySem.boot_len (pa_cons (pv 0) pa_nil)) (pe_gint T.c_MOST_VALUES)))))) (pss_one (ps_ret pe_bl)) pss_nil)
      (pss_one (ps_ret (pe_callB (k_all K rfl rfl) (by rfl) T.n_all (by decide +kernel) (pa_cons (pe_frz (pe_lc (own := [("one", 1)]) rfl nd (k_pl K rfl (pv 0)) (blkOk_by (N := N_is_bounds) (sc := defScope s_is_bounds) (by decide +kernel)) (fun _ _ _ _ _ => (pg_name (i := 1) nd rfl (.inl rfl) (.inr rfl))) (fun _ _ _ _ _ => pts_nil) (fun _ _ _ _ _ => (pe_fn (ok_is_bound T) (hr.mono (by decide)) pass0 (pa_cons (pv 1) pa_nil))))) pa_nil))))), ?_⟩
  refine q_when (K := K) (et_or (et_not (et_B (er_isi (b := true) (er_var rfl r0) (show kitB "list" "list" = some true from by decide)))) (fun hsc => (et_not (et_test (er_chain er_int (er_up (er_len (er_var rfl r0))) er_int rr_le rr_le))))) (fun hc312 _ e311 => ?_) (fun hc312 _ e311 => ?_)
  ·
    exact s_ret (K := K) er_bl (fun u _ e313 rr => q u _ (e311.trans e313) (by rw [(show m_is_bounds x0 = false from by unfold m_is_bounds; rw [if_pos hc312])]; exact rr))
  ·
    exact s_ret (K := K) (er_all (er_frz (erl_lm1 (f := fun (x315 : (Int × Int)) => (m_is_bound x315)) (src_list (er_var rfl (Rp.mono (SF.of e311) r0))) (by first | omega | (have := hp.2.1; omega) | (have := hp.1.2.1; omega)) (by intros; rfl) (fun x315 hx316 v317 _ e314 r318 => (er_call1 (er_var rfl r318) trivial))))) (fun u _ e319 rr => q u _ (e311.trans e319) (by rw [(show m_is_bounds x0 = ((x0.map (fun (x315 : (Int × Int)) => (m_is_bound x315))).all id) from by unfold m_is_bounds; rw [if_neg (by rw [hc312]; exact Bool.false_ne_true)])]; exact rr))
theorem isBounds_ok {b : List (Int × Int)} (h : BOk b) : m_is_bounds b = true := by
  unfold m_is_bounds m_is_bound m_is_int
  simp only [Bool.not_true, Bool.false_or, Bool.not_false]
  rw [if_neg]
  · rw [List.all_map, List.all_eq_true]
    intro p hp
    have := h.2.2 p hp
    simp; omega
  · have := h.1; have := h.2.1
    simp; omega
theorem ok_check_bounds (T : Txt K mg) : Ok P w K mg base CX0 4 "check_bounds" ["value"] (sp1 K ((fun b => BOk b) : (List (Int × Int)) → Prop) (fun _ => ())) := by
  refine ok_of T.d_check_bounds sc_check_bounds (bi1 fun _ _ _ _ _ _ _ => rfl) len_sp1 (fun f cdv A outer s H vs Q E hr h => ?_)
  have nd := sc_check_bounds.nd
  obtain ⟨v0, x0, rfl, r0, hp, q⟩ := h
  refine ⟨_, (pss_one (ps_if (pt_not (pt_val (pe_fn (ok_is_bounds T) (hr.mono (by decide)) pass0 (pa_cons (pv 0) pa_nil)))) (pss_one ps_never) pss_nil)), ?_⟩
  refine s_if (K := K) (et_not (et_B (er_call1 (er_var rfl r0) (by have := hp.2.1; omega)))) (fun hc _ _ => ?_) (fun _ _ e => ?_)
  · rw [isBounds_ok hp] at hc; cases hc
  · exact q .non _ e rfl
theorem co_no1 {o : List Int} {n : Nat} (h : ∀ y ∈ o, 0 ≤ y ∧ y < (n : Int)) : (!(o.map fun k => m_is_int k 0 ((n : Int) - 1)).all id) = false := by
  rw [Bool.not_eq_false', List.all_map, List.all_eq_true]
  intro y hy
  have := h y hy
  simp [m_is_int]; omega
theorem co_rg (n : Nat) : (rgI 0 n).Pairwise (· < ·) := by
  unfold rgI
  rw [List.pairwise_map]
  exact List.Pairwise.imp (fun h => by omega) List.pairwise_lt_range
theorem co_mem {n : Nat} {k : Int} : k ∈ rgI 0 n ↔ 0 ≤ k ∧ k < (n : Int) := by
  unfold rgI
  rw [List.mem_map]
  constructor
  · rintro ⟨j, hj, rfl⟩; have := List.mem_range.mp hj; omega
  · rintro ⟨h1, h2⟩; exact ⟨k.toNat, List.mem_range.mpr (by omega), by omega⟩
theorem co_srt {o : List Int} {n : Nat} (hl : o.length = n) (h : ∀ y ∈ o, 0 ≤ y ∧ y < (n : Int)) (nd : o.Nodup) : srt o = rgI 0 n := by
  refine up_ext (lt_of_le_nodup _ (srt_sorted o) ((srt_perm o).nodup_iff.mpr nd)) (co_rg n) fun k => ?_
  rw [(srt_perm o).mem_iff, co_mem]
  refine ⟨h k, fun hk => ?_⟩
  by_cases c : k ∈ o
  · exact c
  · have h1 := nodup_sub (m := (rgI 0 n).erase k) nd fun y hy => (List.mem_erase_of_ne (fun (e : y = k) => c (e ▸ hy))).mpr (co_mem.mpr (h y hy))
    rw [List.length_erase_of_mem (co_mem.mpr hk)] at h1
    have h2 : (rgI 0 n).length = n := by unfold rgI; rw [List.length_map, List.length_range]
    omega
theorem co_no2 {o : List Int} {n : Nat} (hl : o.length = n) (h : ∀ y ∈ o, 0 ≤ y ∧ y < (n : Int)) (nd : o.Nodup) : (!decide (srt o = rgI 0 n)) = false := by
  rw [co_srt hl h nd, decide_eq_true rfl]; rfl
theorem cf_len {γ : Type} {n : Nat} {f : γ × List Int → Int → γ × List Int} {l : List Int} {a s : γ × List Int} (hs : s = l.foldl f a) (ha : a.2.length = n) (hf : ∀ s x, (f s x).2.length = s.2.length) : s.2.length = n := by
  rw [hs]
  exact fold_inv (P := fun s : γ × List Int => s.2.length = n) ha (fun s x _ h => by rw [hf]; exact h)

theorem ok_check_order (T : Txt K mg) : Ok P w K mg base CX0 2 "check_order" ["bounds", "value"] (sp2 K ((fun b o => BOk b ∧ o.length = b.length ∧ (∀ y ∈ o, 0 ≤ y ∧ y < (b.length : Int)) ∧ o.Nodup) : (List (Int × Int)) → (List Int) → Prop) (fun _ _ => ())) := by
  refine ok_of T.d_check_order sc_check_order (bi2 fun _ _ _ _ _ _ _ _ => rfl) len_sp2 (fun f cdv A outer s H vs Q E hr h => ?_)
  have nd := sc_check_order.nd
  obtain ⟨v0, v1, x0, x1, rfl, r0, r1, hp, q⟩ := h
  refine ⟨_, (pss_cons (ps_if (PW.pt (pw_or (pt_not (pt_val (pe_callB (k_isi K rfl) (by rfl) T.n_isinstance (by decide +kernel) (pa_cons (pv 1) (pa_cons (pe_bltn (v := .ty "list") (by rfl) T.n_list (by decide +kernel) rfl) pa_nil))))) (pw_or1 (pt_not (pt_val (pe_callB (k_all K rfl rfl) (by rfl) T.n_all (by decide +kernel) (pa_cons (pe_frz (pe_lc (own := [("k", 2)]) rfl nd (k_pl K rfl (pv 1)) (blkOk_by (N := N_check_order) (sc := defScope s_check_order) (by decide +kernel)) (fun _ _ _ _ _ => (pg_name (i := 2) nd rfl (.inl rfl) (.inr rfl))) (fun _ _ _ _ _ => pts_nil) (fun _ _ _ _ _ => (pe_fn (ok_is_int T) (hr.mono (by decide)) pass0 (pa_cons (pv 2) (pa_cons pe_int (pa_cons (pe_op op_sub (pe_callB (k_len K rfl) (by rfl) T.n_len PySem.boot_len (pa_cons (pv 0) pa_nil)) pe_int) pa_nil))))))) pa_nil))))))) (pss_one ps_never) pss_nil)
      (pss_one (ps_if (pt_cmpR (k_neD K rfl hr.units) (pe_frz (pe_callB (k_sorted K rfl) (by rfl) T.n_sorted (by decide +kernel) (pa_cons (pv 1) pa_nil))) (pe_frz (pe_listRg rfl (by rfl) T.n_list (prg_1 (by rfl) T.n_range (pe_callB (k_len K rfl) (by rfl) T.n_len PySem.boot_len (pa_cons (pv 0) pa_nil))))) (nomark _)) (pss_one ps_never) pss_nil))), ?_⟩
  refine q_not (K := K) (et_or (et_not (et_B (er_isi (b := true) (er_var rfl r1) (show kitB "list" "list" = some true from by decide)))) (fun hsc => (et_not (et_B (er_all (er_frz (erl_lm1 (f := fun (x326 : Int) => (m_is_int x326 (0 : Int) (((x0.length : Nat) : Int) - (1 : Int)))) (src_list (er_var rfl r1)) (by have := hp.1.2.1; have := hp.2.1; omega) (by intros; rfl) (fun x326 hx327 v328 _ e325 r329 => (er_call3 (er_var rfl r329) er_int (er_op (er_up (er_len (er_var rfl (Rp.mono (SF.of e325) r0)))) er_int rr_sub) trivial))))))))) (by first | exact co_no1 hp.2.2.1 | exact co_no2 hp.2.1 hp.2.2.1 hp.2.2.2) (fun _ e330 => ?_)
  refine q_last ?_
  refine q_not (K := K) (et_test (er_op (er_frz (erl_sorted (er_var rfl (Rp.mono (SF.of e330) r1)))) (er_frz (erl_rangeI (er_len (er_var rfl (Rp.mono (SF.of e330) r0))) (by have := hp.1.2.1; have := hp.2.1; omega))) rr_neT)) (by first | exact co_no1 hp.2.2.1 | exact co_no2 hp.2.1 hp.2.2.1 hp.2.2.2) (fun _ e331 => ?_)
  refine s_nx ?_
  exact q .non _ (e330.trans e331) rfl
def m_is_possible (x0 : (List (Int × Int))) (x1 : (List Int)) : Bool := (match List.findSome? (fun (k_l1 : Nat) => ((match List.findSome? (fun (j_l2 : Nat) => ((if (decide (((x0).getD (((x1).getD (j_l2) 0)).toNat (0, 0)).1 > ((x0).getD (((x1).getD (k_l1) 0)).toNat (0, 0)).2)) = true then (some false) else none) : Option Bool)) (List.range k_l1) with | some r => some r | none => none) : Option Bool)) (List.range x1.length) with | some r => r | none => true)
theorem ok_is_possible (T : Txt K mg) : Ok P w K mg base CX0 1 "is_possible" ["bounds", "order"] (sp2 K ((fun b o => BOk b ∧ o.length = b.length ∧ ∀ y ∈ o, 0 ≤ y ∧ y < (b.length : Int)) : (List (Int × Int)) → (List Int) → Prop) m_is_possible) := by
  refine ok_of T.d_is_possible sc_is_possible (bi2 fun _ _ _ _ _ _ _ _ => rfl) len_sp2 (fun f cdv A outer s H vs Q E hr h => ?_)
  have nd := sc_is_possible.nd
  obtain ⟨v0, v1, x0, x1, rfl, r0, r1, hp, q⟩ := h
  refine ⟨_, (pss_cons (ps_for PassesOwn.never rfl (pi_range1 (by rfl) T.n_range (pa_cons (pe_callB (k_len K rfl) (by rfl) T.n_len PySem.boot_len (pa_cons (pv 1) pa_nil)) pa_nil)) (pg_name (i := 2) nd rfl (.inl rfl) (.inr rfl)) (pss_one (ps_for PassesOwn.never rfl (pi_range1 (by rfl) T.n_range (pa_cons (pv 2) pa_nil)) (pg_name (i := 3) nd rfl (.inl rfl) (.inr rfl)) (pss_one (ps_if (pt_cmpR op_gt (pe_ix (k_ixt K rfl) (pe_ix (k_ixl K rfl) (pv 0) (pe_ix (k_ixl K rfl) (pv 1) (pv 3) (fun _ _ => rfl)) (fun _ _ => rfl)) pe_int (fun _ _ => rfl)) (pe_ix (k_ixt K rfl) (pe_ix (k_ixl K rfl) (pv 0) (pe_ix (k_ixl K rfl) (pv 1) (pv 2) (fun _ _ => rfl)) (fun _ _ => rfl)) pe_int (fun _ _ => rfl)) (nomark _)) (pss_one (ps_ret pe_bl)) pss_nil)))))
      (pss_one (ps_ret pe_bl))), ?_⟩
  -- for k in range(len(order))
  refine q_for (K := K) (src_range1 (er_len (er_var rfl r1)) (by have := hp.1.2.1; have := hp.2.1; first | omega | (have := List.mem_range.mp hk_l1; omega))) (fun H1 k σ' H' => ∃ (y333 : Option V) (y334 : Option V), σ' = [some v0, some v1, y333, y334] ∧ (List.take k (List.range x1.length)).findSome? (fun (k_l1 : Nat) => ((match List.findSome? (fun (j_l2 : Nat) => ((if (decide (((x0).getD (((x1).getD (j_l2) 0)).toNat (0, 0)).1 > ((x0).getD (((x1).getD (k_l1) 0)).toNat (0, 0)).2)) = true then (some false) else none) : Option Bool)) (List.range k_l1) with | some r => some r | none => none) : Option Bool)) = none ∧ Mus [] H1 H') (fun H1 e => ⟨_, _, rfl, rfl, Mus.refl _⟩) (fun _ _ _ _ h => by obtain ⟨_, _, _, _, m⟩ := h; exact m.sf) (fun H1 k341 k_l1 σ' H' vk_l1 _ e338 hx337 hP e339 rk_l1 => ?_) (fun H1 σ' H' e338 hP => ?_)
  ·
    obtain ⟨y333, y334, rfl, hn336, m340⟩ := hP
    refine s_gn ?_
    have hk_l1 := List.mem_of_getElem? hx337
    refine q_last ?_
    -- for j in range(k)
    refine q_for (K := K) (src_range1 (er_var rfl rk_l1) (by have := hp.1.2.1; have := hp.2.1; first | omega | (have := List.mem_range.mp hk_l1; omega))) (fun H1 k σ' H' => ∃ (y344 : Option V), σ' = [some v0, some v1, some vk_l1, y344] ∧ (List.take k (List.range k_l1)).findSome? (fun (j_l2 : Nat) => ((if (decide (((x0).getD (((x1).getD (j_l2) 0)).toNat (0, 0)).1 > ((x0).getD (((x1).getD (k_l1) 0)).toNat (0, 0)).2)) = true then (some false) else none) : Option Bool)) = none ∧ Mus [] H1 H') (fun H1 e => ⟨_, rfl, rfl, Mus.refl _⟩) (fun _ _ _ _ h => by obtain ⟨_, _, _, m⟩ := h; exact m.sf) (fun H1 k351 j_l2 σ' H' vj_l2 _ e348 hx347 hP e349 rj_l2 => ?_) (fun H1 σ' H' e348 hP => ?_)
    ·
      obtain ⟨y344, rfl, hn346, m350⟩ := hP
      refine s_gn ?_
      have hj_l2 := List.mem_of_getElem? hx347
      refine q_last ?_
      have r353 := (Rp.mono ((((((SF.of e338).trans m340.sf).trans (SF.of e339)).trans (SF.of e348)).trans m350.sf).trans (SF.of e349)) r0)
      have r354 := (Rp.mono ((((((SF.of e338).trans m340.sf).trans (SF.of e339)).trans (SF.of e348)).trans m350.sf).trans (SF.of e349)) r1)
      refine q_if (K := K) (et_test (er_op (er_op (er_op (er_var rfl r353) (er_op (er_var rfl r354) (er_up (er_var rfl rj_l2)) (rr_ixL (x := ((x1).getD (j_l2) 0)) (by first | exact getD_at (List.mem_range.mp hk_l1) | exact getD_at (by have h1 := List.mem_range.mp hk_l1; have h2 := List.mem_range.mp hj_l2; omega) | exact getD_at (by have := hp.2.2 _ (at_mem (d := 0) (List.mem_range.mp hk_l1)); omega) | exact getD_at (by have := hp.2.2 _ (at_mem (d := 0) (show j_l2 < x1.length from (by have h1 := List.mem_range.mp hk_l1; have h2 := List.mem_range.mp hj_l2; omega))); omega)))) (rr_ixI (x := ((x0).getD (((x1).getD (j_l2) 0)).toNat (0, 0))) (n := (((x1).getD (j_l2) 0)).toNat) (by first | (have := hp.2.2 _ (at_mem (d := 0) (List.mem_range.mp hk_l1)); omega) | (have := hp.2.2 _ (at_mem (d := 0) (show j_l2 < x1.length from (by have h1 := List.mem_range.mp hk_l1; have h2 := List.mem_range.mp hj_l2; omega))); omega)) (by first | exact getD_at (List.mem_range.mp hk_l1) | exact getD_at (by have h1 := List.mem_range.mp hk_l1; have h2 := List.mem_range.mp hj_l2; omega) | exact getD_at (by have := hp.2.2 _ (at_mem (d := 0) (List.mem_range.mp hk_l1)); omega) | exact getD_at (by have := hp.2.2 _ (at_mem (d := 0) (show j_l2 < x1.length from (by have h1 := List.mem_range.mp hk_l1; have h2 := List.mem_range.mp hj_l2; omega))); omega)))) er_int rr_ixP0) (er_op (er_op (er_var rfl r353) (er_op (er_var rfl r354) (er_up (er_var rfl (Rp.mono (((SF.of e348).trans m350.sf).trans (SF.of e349)) rk_l1))) (rr_ixL (x := ((x1).getD (k_l1) 0)) (by first | exact getD_at (List.mem_range.mp hk_l1) | exact getD_at (by have h1 := List.mem_range.mp hk_l1; have h2 := List.mem_range.mp hj_l2; omega) | exact getD_at (by have := hp.2.2 _ (at_mem (d := 0) (List.mem_range.mp hk_l1)); omega) | exact getD_at (by have := hp.2.2 _ (at_mem (d := 0) (show j_l2 < x1.length from (by have h1 := List.mem_range.mp hk_l1; have h2 := List.mem_range.mp hj_l2; omega))); omega)))) (rr_ixI (x := ((x0).getD (((x1).getD (k_l1) 0)).toNat (0, 0))) (n := (((x1).getD (k_l1) 0)).toNat) (by first | (have := hp.2.2 _ (at_mem (d := 0) (List.mem_range.mp hk_l1)); omega) | (have := hp.2.2 _ (at_mem (d := 0) (show j_l2 < x1.length from (by have h1 := List.mem_range.mp hk_l1; have h2 := List.mem_range.mp hj_l2; omega))); omega)) (by first | exact getD_at (List.mem_range.mp hk_l1) | exact getD_at (by have h1 := List.mem_range.mp hk_l1; have h2 := List.mem_range.mp hj_l2; omega) | exact getD_at (by have := hp.2.2 _ (at_mem (d := 0) (List.mem_range.mp hk_l1)); omega) | exact getD_at (by have := hp.2.2 _ (at_mem (d := 0) (show j_l2 < x1.length from (by have h1 := List.mem_range.mp hk_l1; have h2 := List.mem_range.mp hj_l2; omega))); omega)))) er_int rr_ixP1) rr_gt)) (fun hc356 _ e355 => ?_) (fun hc356 _ e355 => ?_)
      ·
        have r357 := (Rp.mono ((((SF.of e348).trans m350.sf).trans (SF.of e349)).trans (SF.of e355)) rk_l1)
        have fd359 := find_at hx347 hn346 (show (if (decide (((x0).getD (((x1).getD (j_l2) 0)).toNat (0, 0)).1 > ((x0).getD (((x1).getD (k_l1) 0)).toNat (0, 0)).2)) = true then (some false) else none) = some false from by rw [if_pos hc356])
        have fd360 := find_at hx337 hn336 (show (match List.findSome? (fun (j_l2 : Nat) => ((if (decide (((x0).getD (((x1).getD (j_l2) 0)).toNat (0, 0)).1 > ((x0).getD (((x1).getD (k_l1) 0)).toNat (0, 0)).2)) = true then (some false) else none) : Option Bool)) (List.range k_l1) with | some r => some r | none => none) = some false from by rw [fd359])
        exact s_ret (K := K) er_bl (fun u _ e358 rr => q u _ (Mus.same0 ((((Mus.baseS (((Mus.baseS ((Mus.refl _).trans (Mus.of e338)) m340 all0).trans (Mus.of e339)).trans (Mus.of e348)) m350 all0).trans (Mus.of e349)).trans (Mus.of e355)).trans (Mus.of e358))) (by rw [(show m_is_possible x0 x1 = false from by unfold m_is_possible; rw [fd360])]; exact rr))
      ·
        refine s_nxz ?_
        refine s_nx ?_
        exact ⟨_, rfl, (find_none hx347 hn346 (show (if (decide (((x0).getD (((x1).getD (j_l2) 0)).toNat (0, 0)).1 > ((x0).getD (((x1).getD (k_l1) 0)).toNat (0, 0)).2)) = true then (some false) else none) = none from by rw [if_neg (nff hc356)])), (((Mus.baseS (Mus.refl _) m350 all0).trans (Mus.of e349)).trans (Mus.of e355))⟩
    ·
      obtain ⟨y344, rfl, hn346, m350⟩ := hP
      replace hn346 := find_all hn346
      refine s_nx ?_
      exact ⟨_, _, rfl, (find_none hx337 hn336 (show (match List.findSome? (fun (j_l2 : Nat) => ((if (decide (((x0).getD (((x1).getD (j_l2) 0)).toNat (0, 0)).1 > ((x0).getD (((x1).getD (k_l1) 0)).toNat (0, 0)).2)) = true then (some false) else none) : Option Bool)) (List.range k_l1) with | some r => some r | none => none) = none from by rw [hn346])), (Mus.baseS (((Mus.baseS (Mus.refl _) m340 all0).trans (Mus.of e339)).trans (Mus.of e348)) m350 all0)⟩
  ·
    obtain ⟨y333, y334, rfl, hn336, m340⟩ := hP
    replace hn336 := find_all hn336
    exact s_ret (K := K) er_bl (fun u _ e361 rr => q u _ (Mus.same0 ((Mus.baseS ((Mus.refl _).trans (Mus.of e338)) m340 all0).trans (Mus.of e361))) (by rw [(show m_is_possible x0 x1 = true from by unfold m_is_possible; rw [hn336])]; exact rr))
def m_can_be_order (x0 : (List (Int × Int))) (x1 : (List Int)) : Bool := (m_is_possible x0 x1)
theorem ok_can_be_order (T : Txt K mg) : Ok P w K mg base CX0 5 "can_be_order" ["bounds", "order"] (sp2 K ((fun b o => BOk b ∧ o.length = b.length ∧ (∀ y ∈ o, 0 ≤ y ∧ y < (b.length : Int)) ∧ o.Nodup) : (List (Int × Int)) → (List Int) → Prop) m_can_be_order) := by
  refine ok_of T.d_can_be_order sc_can_be_order (bi2 fun _ _ _ _ _ _ _ _ => rfl) len_sp2 (fun f cdv A outer s H vs Q E hr h => ?_)
  have nd := sc_can_be_order.nd
  obtain ⟨v0, v1, x0, x1, rfl, r0, r1, hp, q⟩ := h
  refine ⟨_, (pss_cons (ps_expr (pe_fn (ok_check_bounds T) (hr.mono (by decide)) pass0 (pa_cons (pv 0) pa_nil)))
      (pss_cons (ps_expr (pe_fn (ok_check_order T) (hr.mono (by decide)) pass0 (pa_cons (pv 0) (pa_cons (pv 1) pa_nil))))
      (pss_one (ps_ret (pe_fn (ok_is_possible T) (hr.mono (by decide)) pass0 (pa_cons (pv 0) (pa_cons (pv 1) pa_nil))))))), ?_⟩
  refine q_drop (K := K) (er_call1 (er_var rfl r0) (by exact hp.1)) (fun _ e362 => ?_)
  refine q_drop (K := K) (er_call2 (er_var rfl (Rp.mono (SF.of e362) r0)) (er_var rfl (Rp.mono (SF.of e362) r1)) (by exact hp)) (fun _ e363 => ?_)
  exact s_ret (K := K) (er_call2 (er_var rfl (Rp.mono ((SF.of e362).trans (SF.of e363)) r0)) (er_var rfl (Rp.mono ((SF.of e362).trans (SF.of e363)) r1)) (by exact ⟨hp.1, hp.2.1, hp.2.2.1⟩)) (fun u _ e364 rr => q u _ ((e362.trans e363).trans e364) rr)
def m_choice_for (x0 : (List (Int × Int))) (x1 : (List Int)) : (Except Str (List Int)) := (if (!(m_is_possible x0 x1)) = true then (Except.error "NotFound") else (Except.ok ((List.foldl (fun (s_l1 : (Int × (List Int))) (place_l1 : Int) => (((max s_l1.1 (((x0).getD (place_l1).toNat (0, 0)).1)), (s_l1.2.set ((place_l1).toNat) (max s_l1.1 (((x0).getD (place_l1).toNat (0, 0)).1)))) : (Int × (List Int)))) ((-(51 : Int)), (List.replicate (((x0.length : Nat) : Int)).toNat [(0 : Int)]).flatten) x1).2)))
theorem ok_choice_forX (T : Txt K mg) : Ok P w K mg base (L2.CX P w) 5 "choice_for" ["bounds", "order"] (sxl2 K ((fun b o => BOk b ∧ o.length = b.length ∧ (∀ y ∈ o, 0 ≤ y ∧ y < (b.length : Int)) ∧ o.Nodup) : (List (Int × Int)) → (List Int) → Prop) m_choice_for) := by
  refine okx_of T.d_choice_for sc_choice_for (bi2 fun _ _ _ _ _ _ _ _ => rfl) len_sxl2 (fun f cdv A outer s H vs Q E hr h => ?_)
  have nd := sc_choice_for.nd
  obtain ⟨v0, v1, x0, x1, rfl, r0, r1, hp, qo, qe⟩ := h
  refine ⟨_, (pss_cons (ps_expr (pe_fn (ok_check_bounds T) (hr.mono (by decide)) pass0 (pa_cons (pv 0) pa_nil)))
      (pss_cons (ps_expr (pe_fn (ok_check_order T) (hr.mono (by decide)) pass0 (pa_cons (pv 0) (pa_cons (pv 1) pa_nil))))
      (pss_cons (ps_if (pt_not (pt_val (pe_fn (ok_is_possible T) (hr.mono (by decide)) pass0 (pa_cons (pv 0) (pa_cons (pv 1) pa_nil))))) (pss_one (k_raise K rfl tkD (T.x.e "NotFound" (by decide)))) pss_nil)
      (PSs.nox (pss_cons (ps_set (i := 2) nd rfl (.inl rfl) (pe_op op_rep (pe_lst (pa_cons pe_int pa_nil)) (pe_callB (k_len K rfl) (by rfl) T.n_len PySem.boot_len (pa_cons (pv 0) pa_nil))))
      (pss_cons (ps_set (i := 3) nd rfl (.inl rfl) (pe_un un_neg pe_int))
      (pss_cons (ps_for PassesOwn.never rfl (k_pl K rfl (pv 1)) (pg_name (i := 4) nd rfl (.inl rfl) (.inr rfl)) (pss_cons (ps_set (i := 3) nd rfl (.inl rfl) (pe_callB (call_max2 rfl) (by rfl) T.n_max (by decide +kernel) (pa_cons (pv 3) (pa_cons (pe_ix (k_ixt K rfl) (pe_ix (k_ixl K rfl) (pv 0) (pv 4) (fun _ _ => rfl)) pe_int (fun _ _ => rfl)) pa_nil))))
      (pss_one (ps_asg (pv 3) (pg_sub (pv 2) (pv 4) set_list)))))
      (pss_one (ps_ret (pv 2)))))))))), ?_⟩
  refine q_drop (K := K) (er_call1 (er_var rfl r0) (by exact hp.1)) (fun _ e365 => ?_)
  refine q_drop (K := K) (er_call2 (er_var rfl (Rp.mono (SF.of e365) r0)) (er_var rfl (Rp.mono (SF.of e365) r1)) (by exact hp)) (fun _ e366 => ?_)
  refine q_if (K := K) (et_not (et_B (er_call2 (er_var rfl (Rp.mono ((SF.of e365).trans (SF.of e366)) r0)) (er_var rfl (Rp.mono ((SF.of e365).trans (SF.of e366)) r1)) (by exact ⟨hp.1, hp.2.1, hp.2.2.1⟩)))) (fun hc368 _ e367 => ?_) (fun hc368 _ e367 => ?_)
  ·
    exact qe "NotFound" (show m_choice_for x0 x1 = .error "NotFound" from by unfold m_choice_for; rw [if_pos hc368]) (by decide) _ ((e365.trans e366).trans e367)
  ·
    refine s_nxz ?_
    refine q_setL (K := K) (erl_rep (erl_lst (ea_cons er_int ea_nil)) (fun _ e => Er.mono e (er_up (er_len (er_var rfl (Rp.mono (((SF.of e365).trans (SF.of e366)).trans (SF.of e367)) r0))))) (by have := hp.1.2.1; first | omega | (simp; omega)) (by have := hp.1.2.1; first | omega | (simp; omega))) (fun p369 _ _ e370 hn371 h372 rl373 => ?_)
    have f375 := Mus.fresh ((((Mus.refl _).trans (Mus.of e365)).trans (Mus.of e366)).trans (Mus.of e367)) nin0 hn371
    have u374 := Un.of h372 rl373
    have r376 := (Rp.mono ((((SF.of e365).trans (SF.of e366)).trans (SF.of e367)).trans (SF.of e370)) r0)
    have r377 := (Rp.mono ((((SF.of e365).trans (SF.of e366)).trans (SF.of e367)).trans (SF.of e370)) r1)
    refine q_set (K := K) (er_neg er_int) (fun v380 _ e378 r379 => ?_)
    -- for place in order
    refine q_for (K := K) (src_list (er_var rfl (Rp.mono (SF.of e378) r377))) (fun H1 k σ' H' => ∃ (s_l1 : (Int × (List Int))) (w382 : V) (y383 : Option V), σ' = [some v0, some v1, some (.ref p369), some w382, y383] ∧ s_l1 = (List.take k x1).foldl (fun (s_l1 : (Int × (List Int))) (place_l1 : Int) => (((max s_l1.1 (((x0).getD (place_l1).toNat (0, 0)).1)), (s_l1.2.set ((place_l1).toNat) (max s_l1.1 (((x0).getD (place_l1).toNat (0, 0)).1)))) : (Int × (List Int)))) ((-(51 : Int)), (List.replicate (((x0.length : Nat) : Int)).toNat [(0 : Int)]).flatten) ∧ Mus [p369] H1 H' ∧ Rp.rep K H' w382 s_l1.1 ∧ Un K H' p369 s_l1.2) (fun H1 e => ⟨((-(51 : Int)), (List.replicate (((x0.length : Nat) : Int)).toNat [(0 : Int)]).flatten), _, _, rfl, rfl, Mus.refl _, (Rp.mono (SF.of e) r379), (Un.mono e (Un.mono e378 u374))⟩) (fun _ _ _ _ h => by obtain ⟨_, _, _, _, _, m, _, _⟩ := h; exact m.sf) (fun H1 k390 place_l1 σ' H' vplace_l1 _ e387 hx386 hP e388 rplace_l1 => ?_) (fun H1 σ' H' e387 hP => ?_)
    ·
      obtain ⟨s_l1, w382, y383, rfl, hs384, m389, r391, u392⟩ := hP
      refine s_gn ?_
      have hplace_l1 := List.mem_of_getElem? hx386
      have hturn1 := hs384
      have r394 := (Rp.mono ((((SF.of e378).trans (SF.of e387)).trans m389.sf).trans (SF.of e388)) r376)
      have r395 := (Rp.mono ((((SF.of e378).trans (SF.of e387)).trans m389.sf).trans (SF.of e388)) r377)
      refine q_set (K := K) (er_max2 (er_var rfl (Rp.mono (SF.of e388) r391)) (er_op (er_op (er_var rfl r394) (er_var rfl rplace_l1) (rr_ixI (x := ((x0).getD (place_l1).toNat (0, 0))) (n := (place_l1).toNat) (by have := hp.2.2.1 _ hplace_l1; omega) (by have hq := hp.2.2.1 _ hplace_l1; first | exact getD_at (by omega) | (rw [cf_len hturn1 (n := x0.length) (by simp) (fun s x => by simp)]; omega)))) er_int rr_ixP0)) (fun v398 _ e396 r397 => ?_)
      refine q_last ?_
      refine q_setI (K := K) rfl (Un.mono e396 (Un.mono e388 u392)) (er_var rfl r397) (er_dn (n := (place_l1).toNat) (er_var rfl (Rp.mono (SF.of e396) rplace_l1)) (by have := hp.2.2.1 _ hplace_l1; omega)) (by have hq := hp.2.2.1 _ hplace_l1; first | exact getD_at (by omega) | (rw [cf_len hturn1 (n := x0.length) (by simp) (fun s x => by simp)]; omega)) (fun _ m399 u400 => ?_)
      refine s_nx ?_
      exact ⟨((max s_l1.1 (((x0).getD (place_l1).toNat (0, 0)).1)), (s_l1.2.set ((place_l1).toNat) (max s_l1.1 (((x0).getD (place_l1).toNat (0, 0)).1)))), _, _, rfl, (fold_step hx386 hs384), ((((Mus.baseS (Mus.refl _) m389 (allC (.inr (.head _)) all0)).trans (Mus.of e388)).trans (Mus.of e396)).trans (Mus.mu m399 (.head _))), (Rp.mono m399.sf r397), u400⟩
    ·
      obtain ⟨s_l1, w382, y383, rfl, hs384, m389, r391, u392⟩ := hP
      replace hs384 := fold_all hs384
      subst hs384
      obtain ⟨us, h1, rr⟩ := u392
      exact ⟨.ref p369, rfl, qo _ (show m_choice_for x0 x1 = .ok ((List.foldl (fun (s_l1 : (Int × (List Int))) (place_l1 : Int) => (((max s_l1.1 (((x0).getD (place_l1).toNat (0, 0)).1)), (s_l1.2.set ((place_l1).toNat) (max s_l1.1 (((x0).getD (place_l1).toNat (0, 0)).1)))) : (Int × (List Int)))) ((-(51 : Int)), (List.replicate (((x0.length : Nat) : Int)).toNat [(0 : Int)]).flatten) x1).2) from by unfold m_choice_for; rw [if_neg (nff hc368)]) p369 us _ (Mus.same0 (Mus.baseS (((((((Mus.refl _).trans (Mus.of e365)).trans (Mus.of e366)).trans (Mus.of e367)).trans (Mus.of e370)).trans (Mus.of e378)).trans (Mus.of e387)) m389 (allC (.inl f375) all0))) f375 h1 rr⟩
theorem np_in {n : Nat} {c : Nat → Bool} {k : Nat} (h : k ∈ mapIf c (fun x : Nat => x) (List.range n)) : k < n := by
  unfold mapIf at h
  rw [List.map_id'] at h
  exact List.mem_range.mp (List.mem_filter.mp h).1
def m_next_places (x0 : (List (Int × Int))) (x1 : (List Int)) : (List Nat) := (mapIf (fun (x425 : Nat) => (((mapIf (fun (x417 : Nat) => (neg true (decide (((x417 : Nat) : Int) ∈ x1)))) (fun (x417 : Nat) => x417) (List.range x0.length)).map (fun (x430 : Nat) => (decide (((x0).getD (x425) (0, 0)).1 ≤ ((x0).getD (x430) (0, 0)).2)))).all id)) (fun (x425 : Nat) => x425) (mapIf (fun (x417 : Nat) => (neg true (decide (((x417 : Nat) : Int) ∈ x1)))) (fun (x417 : Nat) => x417) (List.range x0.length)))
theorem ok_next_places (T : Txt K mg) : Ok P w K mg base CX0 1 "next_places" ["bounds", "done"] (sl2 K ((fun b d => BOk b ∧ d.length ≤ 7) : (List (Int × Int)) → (List Int) → Prop) m_next_places) := by
  refine ok_of T.d_next_places sc_next_places (bi2 fun _ _ _ _ _ _ _ _ => rfl) len_sl2 (fun f cdv A outer s H vs Q E hr h => ?_)
  have nd := sc_next_places.nd
  obtain ⟨v0, v1, x0, x1, rfl, r0, r1, hp, q⟩ := h
  refine ⟨_, (pss_cons (ps_set (i := 2) nd rfl (.inr rfl) (pe_frz (pe_lc (own := [("k", 3)]) rfl nd (pi_range1 (by rfl) T.n_range (pa_cons (pe_callB (k_len K rfl) (by rfl) T.n_len PySem.boot_len (pa_cons (pv 0) pa_nil)) pa_nil)) (blkOk_by (N := N_next_places) (sc := defScope s_next_places) (by decide +kernel)) (fun _ _ _ _ _ => (pg_name (i := 3) nd rfl (.inl rfl) (.inr rfl))) (fun _ _ _ _ _ => (pts_one (pt_cmpR (k_notIn K rfl) (pv 3) (pv 1) (by rfl)))) (fun _ _ _ _ _ => (pv 3)))))
      (pss_one (ps_ret (pe_lc (own := [("k", 3)]) rfl nd (k_pl K rfl (pv 2)) (blkOk_by (N := N_next_places) (sc := defScope s_next_places) (by decide +kernel)) (fun _ _ _ _ _ => (pg_name (i := 3) nd rfl (.inr rfl) (.inl rfl))) (fun _ _ _ _ _ => (pts_one (pt_val (pe_callB (k_all K rfl rfl) (by rfl) T.n_all (by decide +kernel) (pa_cons (pe_frz (pe_lc (own := [("j", 4)]) rfl nd (k_pl K rfl (pv 2)) (blkOk_by (N := N_next_places) rfl) (fun _ _ _ _ _ => (pg_name (i := 4) nd rfl (.inl rfl) (.inr rfl))) (fun _ _ _ _ _ => pts_nil) (fun _ _ _ _ _ => (pe_cmpR op_le (pe_ix (k_ixt K rfl) (pe_ix (k_ixl K rfl) (pv 0) (pv 3) (fun _ _ => rfl)) pe_int (fun _ _ => rfl)) (pe_ix (k_ixt K rfl) (pe_ix (k_ixl K rfl) (pv 0) (pv 4) (fun _ _ => rfl)) pe_int (fun _ _ => rfl)) (nomark _))))) pa_nil))))) (fun _ _ _ _ _ => (pv 3)))))), ?_⟩
  refine q_set (K := K) (er_frz (erl_lc1 (c := fun (x417 : Nat) => (neg true (decide (((x417 : Nat) : Int) ∈ x1)))) (f := fun (x417 : Nat) => x417) (src_range1 (er_len (er_var rfl r0)) (by have := hp.1.2.1; first | omega | (rw [List.length_range]; omega) | exact Nat.le_trans mapIf_le (by rw [List.length_range]; omega))) (by have := hp.1.2.1; first | omega | (rw [List.length_range]; omega) | exact Nat.le_trans mapIf_le (by rw [List.length_range]; omega)) (by intros; rfl) (fun x417 hx418 v419 _ e416 r420 => ⟨(et_test (er_op (er_up (er_var rfl r420)) (er_var rfl (Rp.mono (SF.of e416) r1)) (rr_inI (n := true)))), fun _ => (er_var rfl r420)⟩))) (fun v423 _ e421 r422 => ?_)
  exact s_retL (K := K) (erl_lc1 (c := fun (x425 : Nat) => (((mapIf (fun (x417 : Nat) => (neg true (decide (((x417 : Nat) : Int) ∈ x1)))) (fun (x417 : Nat) => x417) (List.range x0.length)).map (fun (x430 : Nat) => (decide (((x0).getD (x425) (0, 0)).1 ≤ ((x0).getD (x430) (0, 0)).2)))).all id)) (f := fun (x425 : Nat) => x425) (src_list (er_var rfl r422)) (by have := hp.1.2.1; first | omega | (rw [List.length_range]; omega) | exact Nat.le_trans mapIf_le (by rw [List.length_range]; omega)) (by intros; rfl) (fun x425 hx426 v427 _ e424 r428 => ⟨(et_B (er_all (er_frz (erl_lm1 (f := fun (x430 : Nat) => (decide (((x0).getD (x425) (0, 0)).1 ≤ ((x0).getD (x430) (0, 0)).2))) (src_list (er_var rfl (Rp.mono (SF.of e424) r422))) (by have := hp.1.2.1; first | omega | (rw [List.length_range]; omega) | exact Nat.le_trans mapIf_le (by rw [List.length_range]; omega)) (by intros; rfl) (fun x430 hx431 v432 _ e429 r433 => (er_op (er_op (er_op (er_var rfl (Rp.mono (SF.of (e424.trans e429)) (Rp.mono (SF.of e421) r0))) (er_up (er_var rfl (Rp.mono (SF.of e429) r428))) (rr_ixL (x := ((x0).getD (x425) (0, 0))) (by first | exact getD_at (np_in (by assumption)) | exact getD_at (List.mem_range.mp (by assumption))))) er_int rr_ixP0) (er_op (er_op (er_var rfl (Rp.mono (SF.of (e424.trans e429)) (Rp.mono (SF.of e421) r0))) (er_up (er_var rfl r433)) (rr_ixL (x := ((x0).getD (x430) (0, 0))) (by first | exact getD_at (np_in (by assumption)) | exact getD_at (List.mem_range.mp (by assumption))))) er_int rr_ixP1) rr_le)))))), fun _ => (er_var rfl r428)⟩)) (fun p us _ e434 hn h1 rr => q p us _ (e421.trans e434) (e421.free hn) h1 rr)
/-- in how many orders the other places can follow -/
def W (b : List (Int × Int)) : Nat → List Int → Int
  | 0, _ => 1
  | m + 1, d => ((m_next_places b d).map fun k : Nat => W b m (d ++ [((k : Nat) : Int)])).sum
def wV (b : List (Int × Int)) (s : List Int) : Int := W b (b.length - s.length) s
theorem np_perm {b : List (Int × Int)} {d d' : List Int} (h : ∀ k, k ∈ d ↔ k ∈ d') : m_next_places b d = m_next_places b d' := by
  have e : (fun x : Nat => neg true (decide (((x : Nat) : Int) ∈ d))) = fun x : Nat => neg true (decide (((x : Nat) : Int) ∈ d')) := by
    funext x; rw [decide_eq_decide.mpr (h _)]
  unfold m_next_places
  rw [e]
theorem W_perm {b : List (Int × Int)} : ∀ (m : Nat) {d d' : List Int}, (∀ k, k ∈ d ↔ k ∈ d') → W b m d = W b m d'
  | 0, _, _, _ => rfl
  | m + 1, d, d', h => by
    show ((m_next_places b d).map fun k : Nat => W b m (d ++ [((k : Nat) : Int)])).sum = ((m_next_places b d').map fun k : Nat => W b m (d' ++ [((k : Nat) : Int)])).sum
    rw [np_perm h]
    congr 1
    refine List.map_congr_left fun k _ => W_perm m fun x => ?_
    rw [List.mem_append, List.mem_append, h]
def RowK (n : Nat) (r : List Int) : Prop := r.Nodup ∧ ∀ y ∈ r, 0 ≤ y ∧ y < (n : Int)
theorem np_mem {b : List (Int × Int)} {d : List Int} {k : Nat} (h : k ∈ m_next_places b d) : k < b.length ∧ ((k : Nat) : Int) ∉ d := by
  unfold m_next_places mapIf at h
  rw [List.map_id', List.map_id'] at h
  have h1 := (List.mem_filter.mp (List.mem_filter.mp h).1)
  refine ⟨List.mem_range.mp h1.1, fun m => ?_⟩
  have := h1.2
  unfold neg at this
  simp [m] at this
theorem rowK_snoc {n : Nat} {d : List Int} (h : RowK n d) {k : Nat} (hk : k < n) (hn : ((k : Nat) : Int) ∉ d) : RowK n (d ++ [((k : Nat) : Int)]) := by
  refine ⟨List.nodup_append.mpr ⟨h.1, by simp, fun x hx y hy e => ?_⟩, fun y hy => ?_⟩
  · rw [List.mem_singleton.mp hy] at e; exact hn (e ▸ hx)
  · rcases List.mem_append.mp hy with q | q
    · exact h.2 y q
    · rw [List.mem_singleton.mp q]; omega
theorem srt_upK {n : Nat} {d : List Int} (h : RowK n d) : (srt d).Pairwise (· < ·) ∧ ∀ x ∈ srt d, 0 ≤ x ∧ x < (n : Int) := by
  refine ⟨lt_of_le_nodup _ (srt_sorted d) ((srt_perm d).nodup_iff.mpr h.1), fun x hx => h.2 x ((srt_perm d).mem_iff.mp hx)⟩
theorem wV_srt {b : List (Int × Int)} {d : List Int} {m : Nat} (h : d.length + m = b.length) : wV b (srt d) = W b m d := by
  unfold wV
  rw [srt_len, show b.length - d.length = m by omega]
  exact W_perm m fun k => (srt_perm d).mem_iff
def spWays (K : Fg) (m : Nat) : Sp := fun vs H Q _ => ∃ (vb vd : V) (p : Addr) (b : List (Int × Int)) (d : List Int), vs = [vb, vd, .ref p] ∧ Rp.rep K H vb b ∧ Rp.rep K H vd d ∧ BOk b ∧ RowK b.length d ∧ d.length + m = b.length ∧ KO (wV b) b.length p H ∧
  ∀ H', Mu p H H' → KO (wV b) b.length p H' → Q (.int (W b m d)) H'
def spLt (K : Fg) (M : Nat) : Sp := fun vs H Q E => ∃ m, m < M ∧ spWays K m vs H Q E
theorem len_spLt {K : Fg} {M : Nat} : ∀ vs H Q E, spLt K M vs H Q E → vs.length = 3 := fun vs H Q E h => by obtain ⟨_, _, _, _, _, _, _, rfl, _⟩ := h; rfl
theorem ek_ways {σ : L2.St} {H : Hp} {p : Addr} {b : List (Int × Int)} {d : List Int} {m M k : Nat} {ta tb : TE} {E : XK} (hm : m < M) (hσ : σ[k]? = some (some (.ref p))) (ha : ∀ H1, Mu p H H1 → Er K ta σ H1 b) (hb : ∀ H1, Mu p H H1 → Er K tb σ H1 d) (hB : BOk b) (hd : RowK b.length d) (hl : d.length + m = b.length) :
    Ek K p (KO (wV b) b.length p) (tCall (spLt K M) [] E (tCons ta (tCons tb (tCons (tVar k) tNil)))) σ H (W b m d) := fun H1 mu j Q q =>
  ha H1 mu H1 (Same.refl _) _ fun vb H2 e2 rb => hb H1 mu H2 e2 _ fun vd H3 e3 rd => ⟨.ref p, hσ, m, hm, vb, vd, p, b, d, rfl, Rp.mono (SF.of e3) rb, rd, hB, hd, hl, ko_jk.mono (e2.trans e3) j, fun H4 m4 j4 => q _ H4 ((Mu.of (e2.trans e3)).trans m4) j4 rfl⟩
theorem ok_ways (T : Txt K mg) : ∀ M, Ok P w K mg base CX0 (M + 2) "ways_from" ["bounds", "done", "known"] (spLt K M)
  | 0 => by
    refine ok_of T.d_ways_from sc_ways_from (bi3 fun _ _ _ _ _ _ _ _ _ => rfl) len_spLt (fun f cdv A outer s H vs Q E hr h => ?_)
    obtain ⟨m, hm, _⟩ := h
    omega
  | M + 1 => by
    have ih := ok_ways T M
    refine ok_of T.d_ways_from sc_ways_from (bi3 fun _ _ _ _ _ _ _ _ _ => rfl) len_spLt (fun f cdv A outer s H vs Q E hr h => ?_)
    have nd := sc_ways_from.nd
    obtain ⟨m, hm, vb, vd, p, b, d, rfl, rb, rd, hB, hd, hl, ko, q⟩ := h
    refine ⟨_, (pss_cons (ps_if (pt_cmpR op_eq (pe_callB (k_len K rfl) (by rfl) T.n_len PySem.boot_len (pa_cons (pv 1) pa_nil)) (pe_callB (k_len K rfl) (by rfl) T.n_len PySem.boot_len (pa_cons (pv 0) pa_nil)) (nomark _)) (pss_one (ps_ret pe_int)) pss_nil)
      (pss_cons (ps_set (i := 3) nd rfl (.inl rfl) (pe_callTy (k_tupC K rfl) (by rfl) T.n_tuple (by decide +kernel) (pa_cons (pe_frz (pe_callB (k_sorted K rfl) (by rfl) T.n_sorted (by decide +kernel) (pa_cons (pv 1) pa_nil))) pa_nil)))
      (pss_cons (ps_if (pt_cmp (pc_dnotin (u1 hr) (pv 3) (pv 2))) (pss_one (ps_dput (u1 hr) (pv 2) (pv 3) (pe_callB (k_sum K rfl rfl) (by rfl) T.n_sum (by decide +kernel) (pa_cons (pe_frz (pe_lc (own := [("k", 4)]) rfl nd (k_pl K rfl (pe_frz (pe_fn (ok_next_places T) (hr.mono (by omega)) pass0 (pa_cons (pv 0) (pa_cons (pv 1) pa_nil))))) (blkOk_by (N := N_ways_from) (sc := defScope s_ways_from) (by decide +kernel)) (fun _ _ _ _ _ => (pg_name (i := 4) nd rfl (.inl rfl) (.inr rfl))) (fun _ _ _ _ _ => pts_nil) (fun _ _ _ _ _ => (pe_fn ih (hr.mono (by omega)) pass0 (pa_cons (pv 0) (pa_cons (pe_frz (pe_op op_catR (pv 1) (pe_frz (pe_lst (pa_cons (pv 4) pa_nil))))) (pa_cons (pv 2) pa_nil))))))) pa_nil)) (by rfl))) pss_nil)
      (pss_one (ps_ret (pe_dget (u1 hr) (pv 2) (pv 3) (fun _ _ => rfl))))))), ?_⟩
    have hn : b.length ≤ 7 := hB.2.1
    refine q_when (K := K) (et_test (er_op (er_up (er_len (er_var rfl rd))) (er_up (er_len (er_var rfl rb))) rr_eqI)) (fun hc H1 e => ?_) (fun hc H1 e => ?_)
    · have hc := of_decide_eq_true hc
      have h0 : m = 0 := by omega
      subst h0
      exact s_ret (K := K) (er_int (i := 1)) (fun u H2 e2 r => by
        cases (show u = .int 1 from r)
        exact q H2 (Mu.of (e.trans e2)) (ko_jk.mono (e.trans e2) ko))
    · have hc := of_decide_eq_false hc
      obtain ⟨m', rfl⟩ : ∃ m', m = m' + 1 := ⟨m - 1, by omega⟩
      refine q_set (K := K) (er_keyT (er_frz (erl_sorted (er_var rfl (Rp.mono (SF.of e) rd))))) (fun v H2 e2 rk => ?_)
      have ko2 := ko_jk.mono (e.trans e2) ko
      obtain ⟨c, hc2, hf⟩ := et_notinK (K := K) (m := 2) (k := 3) (σ := [some vb, some vd, some (.ref p), some v, none]) rfl ko2 rfl rk
      obtain ⟨hu, hr2⟩ := srt_upK hd
      have hW : wV b (srt d) = W b (m' + 1) d := wV_srt hl
      refine q_when hc2 (fun hb H3 e3 => ?_) (fun hb H3 e3 => ?_)
      · refine q_last ?_
        have eA := (e.trans e2).trans e3
        have rb3 := Rp.mono (SF.of eA) rb
        have rd3 := Rp.mono (SF.of eA) rd
        refine q_putK (n := b.length) (V0 := wV b) (by omega) rfl (ko_jk.mono e3 ko2) rfl (Rp.mono (SF.of e3) rk) hu hr2 ?_ (fun H4 m4 j4 hv => ?_)
        · rw [hW]
          refine ek_sum ko_jk (ek_frz ko_jk (ekl_lm1 (f := fun k : Nat => W b m' (d ++ [((k : Nat) : Int)])) ko_jk (fun H5 m5 _ => src_list (er_frz (erl_call2 (er_var rfl (Rp.mono m5.sf rb3)) (er_var rfl (Rp.mono m5.sf rd3)) ⟨hB, by omega⟩))) ?_ (by intros; rfl) (fun k hk vk H5 m5 j5 r5 => ?_)))
          · unfold m_next_places
            exact Nat.le_trans mapIf_le (Nat.le_trans mapIf_le (by rw [List.length_range]; omega))
          · obtain ⟨k1, k2⟩ := np_mem hk
            refine ek_ways (by omega) rfl (fun H6 m6 => er_var rfl (Rp.mono (m5.trans m6).sf rb3)) (fun H6 m6 => er_frz (erl_cat (er_var rfl (Rp.mono (m5.trans m6).sf rd3)) (er_frz (erl_lst (α := Int) (ea_cons (er_up (er_var rfl (Rp.mono m6.sf r5))) ea_nil))) (by simp only [List.length_singleton]; omega))) hB (rowK_snoc hd k1 k2) (by rw [List.length_append, List.length_singleton]; omega)
        · refine s_nxz ?_
          refine s_retK (V0 := wV b) rfl rfl (Rp.mono m4.sf (Rp.mono (SF.of e3) rk)) hv ?_
          rw [hW]
          exact q H4 ((Mu.of eA).trans m4) j4
      · obtain ⟨kvs, h1, h2⟩ := hf hb
        refine s_retK (V0 := wV b) rfl rfl (Rp.mono (SF.of e3) rk) ⟨kvs, e3 _ _ h1, h2⟩ ?_
        rw [hW]
        exact q H3 (Mu.of ((e.trans e2).trans e3)) (ko_jk.mono e3 ko2)

def m_count_orders (b : List (Int × Int)) : Int := W b b.length []
theorem er_ways0 {σ : L2.St} {H : Hp} {b : List (Int × Int)} {ta : TE} {E : XK} (ha : Er K ta σ H b) (hB : BOk b) : Er K (tCall (spLt K 8) [] E (tCons ta (tCons (tFrz (tLst tNil)) (tCons tDNewT tNil)))) σ H (W b b.length []) := fun H1 e Q q =>
  ha H1 e _ fun vb H2 e2 rb => (er_frz (erl_lst (α := Int) ea_nil) : Er K (tFrz (tLst tNil)) σ H1 ([] : List Int)) H2 e2 _ fun vd H3 e3 rd => fun p hp => by
    have e4 : Same H3 (upd H3 p (.dT [])) := same_new hp
    refine ⟨b.length, by have := hB.2.1; omega, vb, vd, p, b, [], rfl, Rp.mono (SF.of (e3.trans e4)) rb, Rp.mono (SF.of e4) rd, hB, ⟨List.nodup_nil, fun _ h => by cases h⟩, by simp, ⟨[], upd_same, List.nodup_nil, fun _ h => by cases h⟩, fun H' m j => q _ H' (fun a o h => ?_) rfl⟩
    have h3 : H3 a = some o := (e2.trans e3) _ _ h
    exact m.ne a o (ne_of_none h3 hp) (e4 _ _ h3)
theorem ok_count_orders (T : Txt K mg) : Ok P w K mg base CX0 11 "count_orders" ["bounds"] (sp1 K ((fun b => BOk b) : (List (Int × Int)) → Prop) m_count_orders) := by
  refine ok_of T.d_count_orders sc_count_orders (bi1 fun _ _ _ _ _ _ _ => rfl) len_sp1 (fun f cdv A outer s H vs Q E hr h => ?_)
  have nd := sc_count_orders.nd
  obtain ⟨v0, x0, rfl, r0, hp, q⟩ := h
  refine ⟨_, (pss_cons (ps_expr (pe_fn (ok_check_bounds T) (hr.mono (by decide)) pass0 (pa_cons (pv 0) pa_nil)))
      (pss_one (ps_ret (pe_fn (ok_ways T 8) (hr.mono (by decide)) pass0 (pa_cons (pv 0) (pa_cons (pe_frz (pe_lst pa_nil)) (pa_cons pe_dnewT pa_nil))))))), ?_⟩
  refine q_drop (K := K) (er_call1 (er_var rfl r0) hp) (fun _ e => ?_)
  exact s_ret (K := K) (er_ways0 (er_var rfl (Rp.mono (SF.of e) r0)) hp) (fun u _ e2 r => q u _ (e.trans e2) r)

/-- the place with a rank, and what is left of the rank -/
def pickW (b : List (Int × Int)) (m : Nat) (d : List Int) : List Nat → Int → Option (Nat × Int)
  | [], _ => none
  | k :: ks, r => if r < W b m (d ++ [((k : Nat) : Int)]) then some (k, r) else pickW b m d ks (r - W b m (d ++ [((k : Nat) : Int)]))
def OA (b : List (Int × Int)) : Nat → List Int → Int → List Int
  | 0, d, _ => d
  | m + 1, d, r => match pickW b m d (m_next_places b d) r with
    | some p => OA b m (d ++ [((p.1 : Nat) : Int)]) p.2
    | none => d
theorem pickW_none {b : List (Int × Int)} {m : Nat} {d : List Int} : ∀ {ks : List Nat} {r : Int}, pickW b m d ks r = none → (ks.map fun k : Nat => W b m (d ++ [((k : Nat) : Int)])).sum ≤ r ∨ ks = []
  | [], _, _ => .inr rfl
  | k :: ks, r, h => by
    unfold pickW at h
    by_cases c : r < W b m (d ++ [((k : Nat) : Int)])
    · rw [if_pos c] at h; cases h
    · rw [if_neg c] at h
      rw [List.map_cons, List.sum_cons]
      rcases pickW_none h with q | q
      · left; omega
      · left; rw [q]; simp; omega
def m_order_at (b : List (Int × Int)) (r : Int) : Except Str (List Int) := if (!m_is_int r 0 (W b b.length [] - 1)) = true then .error "BadNumber" else .ok (OA b b.length [] r)
theorem ok_order_atX (T : Txt K mg) : Ok P w K mg base (L2.CX P w) 11 "order_at" ["bounds", "rank"] (sx2 K ((fun b _ => BOk b) : (List (Int × Int)) → Int → Prop) m_order_at) := by
  refine okx_of T.d_order_at sc_order_at (bi2 fun _ _ _ _ _ _ _ _ => rfl) len_sx2 (fun f cdv A outer s H vs Q E hr h => ?_)
  have nd := sc_order_at.nd
  obtain ⟨v0, v1, b, r, rfl, r0, r1, hB, qo, qe⟩ := h
  refine ⟨_, (pss_cons (ps_expr (pe_fn (ok_check_bounds T) (hr.mono (by decide)) pass0 (pa_cons (pv 0) pa_nil)))
      (pss_cons (ps_set (i := 2) nd rfl (.inl rfl) pe_dnewT)
      (pss_cons (ps_if (pt_not (pt_val (pe_fn (ok_is_int T) (hr.mono (by decide)) pass0 (pa_cons (pv 1) (pa_cons pe_int (pa_cons (pe_op op_sub (pe_fn (ok_ways T 8) (hr.mono (by decide)) pass0 (pa_cons (pv 0) (pa_cons (pe_frz (pe_lst pa_nil)) (pa_cons (pv 2) pa_nil)))) pe_int) pa_nil)))))) (pss_one (k_raise K rfl tkD (T.x.e "BadNumber" (by decide)))) pss_nil)
      (PSs.nox (pss_cons (ps_set (i := 3) nd rfl (.inl rfl) (pe_frz (pe_lst pa_nil)))
      (pss_cons (ps_while PassesOwn.never (pt_cmpR op_lt (pe_callB (k_len K rfl) (by rfl) T.n_len PySem.boot_len (pa_cons (pv 3) pa_nil)) (pe_callB (k_len K rfl) (by rfl) T.n_len PySem.boot_len (pa_cons (pv 0) pa_nil)) (nomark _)) (pss_one (ps_for PassesOwn.never rfl (k_pl K rfl (pe_frz (pe_fn (ok_next_places T) (hr.mono (by decide)) pass0 (pa_cons (pv 0) (pa_cons (pv 3) pa_nil))))) (pg_name (i := 4) nd rfl (.inl rfl) (.inr rfl)) (pss_cons (ps_set (i := 5) nd rfl (.inl rfl) (pe_fn (ok_ways T 8) (hr.mono (by decide)) pass0 (pa_cons (pv 0) (pa_cons (pe_frz (pe_op op_catR (pv 3) (pe_frz (pe_lst (pa_cons (pv 4) pa_nil))))) (pa_cons (pv 2) pa_nil)))))
      (pss_cons (ps_if (pt_cmpR op_lt (pv 1) (pv 5) (nomark _)) (pss_cons (ps_set (i := 3) nd rfl (.inl rfl) (pe_frz (pe_op op_catR (pv 3) (pe_frz (pe_lst (pa_cons (pv 4) pa_nil))))))
      (pss_one ps_break)) pss_nil)
      (pss_one (ps_aug (i := 1) nd rfl (.inl rfl) (pv 5) ip_sub)))))))
      (pss_one (ps_ret (pv 3))))))))), ?_⟩
  have hn : b.length ≤ 7 := hB.2.1
  refine q_drop (K := K) (er_call1 (er_var rfl r0) hB) (fun H1 e1 => ?_)
  refine q_newK (V0 := wV b) (n := b.length) (fun p H2 e2 hp ko => ?_)
  have e12 := e1.trans e2
  have hp0 : H p = none := e1.free hp
  refine q_ifK (K := K) (p := p) (J := KO (wV b) b.length p) ko (ekt_not (ekt_B (ek_call3 ko_jk (ek_of ko_jk fun H3 m _ => er_var rfl (Rp.mono ((SF.of e12).trans m.sf) r1)) (ek_of ko_jk fun _ _ _ => er_int) (ek_op ko_jk (ek_ways (m := b.length) (by omega) rfl (fun H3 m => er_var rfl (Rp.mono ((SF.of e12).trans m.sf) r0)) (fun H3 m => er_frz (erl_lst (α := Int) ea_nil)) hB ⟨List.nodup_nil, fun _ h => by cases h⟩ (by simp)) (ek_of ko_jk fun _ _ _ => er_int) rr_sub) trivial))) (fun hc H3 m3 k3 => ?_) (fun hc H3 m3 k3 => ?_)
  · refine q_last ?_
    exact qe "BadNumber" (show m_order_at b r = _ from by unfold m_order_at; rw [if_pos hc]) (by decide) _ (m3.base e12 hp0)
  · have hr1 : 0 ≤ r ∧ r < W b b.length [] := by
      unfold m_is_int at hc
      simp at hc
      omega
    have ho : m_order_at b r = .ok (OA b b.length [] r) := by unfold m_order_at; rw [if_neg (nff hc)]
    refine q_set (K := K) (er_frz (erl_lst (α := Int) ea_nil)) (fun v H4 e4 r4 => ?_)
    have m4 : Mu p H2 H4 := m3.trans (Mu.of e4)
    refine q_whileN (K := K) (fun n σ' H' => ∃ (d : List Int) (t : Int) (vf : V) (y4 y5 : Option V), σ' = [some v0, some (.int t), some (.ref p), some vf, y4, y5] ∧ n + d.length = b.length ∧ RowK b.length d ∧ 0 ≤ t ∧ t < W b n d ∧ OA b n d t = OA b b.length [] r ∧ Mu p H2 H' ∧ KO (wV b) b.length p H' ∧ Rp.rep K H' vf d) b.length ⟨[], r, v, none, none, by cases (show v1 = .int r from r1); rfl, rfl, ⟨List.nodup_nil, fun _ h => by cases h⟩, hr1.1, hr1.2, rfl, m4, ko_jk.mono e4 k3, r4⟩ (fun n σ' H' hP => ?_)
    obtain ⟨d, t, vf, y4, y5, rfl, hl, hd, ht0, ht1, hoa, m, ko', rf⟩ := hP
    have rb := Rp.mono ((SF.of e12).trans m.sf) r0
    refine ⟨decide ((d.length : Int) < (b.length : Int)), et_test (er_op (er_up (er_len (er_var rfl rf))) (er_up (er_len (er_var rfl rb))) rr_lt), fun hc2 H5 e5 => ?_, fun hc2 H5 e5 => ?_⟩
    · have hc2 := of_decide_eq_true hc2
      obtain ⟨n', rfl⟩ : ∃ n', n = n' + 1 := ⟨n - 1, by omega⟩
      refine q_last ?_
      refine s_for (K := K) (l := m_next_places b d) (src_list (er_frz (erl_call2 (er_var rfl (Rp.mono (SF.of e5) rb)) (er_var rfl (Rp.mono (SF.of e5) rf)) ⟨hB, by omega⟩)))
        (fun H6 k σ' H' => ∃ (t' : Int) (y4 y5 : Option V), σ' = [some v0, some (.int t'), some (.ref p), some vf, y4, y5] ∧ 0 ≤ t' ∧ pickW b n' d ((m_next_places b d).drop k) t' = pickW b n' d (m_next_places b d) t ∧ Mu p H6 H' ∧ KO (wV b) b.length p H')
        (fun H6 e6 => ⟨t, y4, y5, rfl, ht0, rfl, Mu.refl _, ko_jk.mono (e5.trans e6) ko'⟩) (fun H6 k σ' H' h => by obtain ⟨_, _, _, _, _, _, h, _⟩ := h; exact h.sf) (fun H6 k x σ' H' vx H7 e6 hx hP e7 rx => ?_) (fun H6 σ' H' e6 hP => ?_)
      · obtain ⟨t', y4', y5', rfl, h1, h2, m6, k6⟩ := hP
        obtain ⟨x1, x2⟩ := np_mem (List.mem_of_getElem? hx)
        have mA : Mu p H' H7 := Mu.of e7
        have mB : Mu p H2 H7 := (m.trans (Mu.of (e5.trans e6))).trans (m6.trans mA)
        have hdr : (m_next_places b d).drop k = x :: (m_next_places b d).drop (k + 1) := by
          obtain ⟨hk, hxx⟩ := List.getElem?_eq_some_iff.mp hx
          rw [← hxx, List.drop_eq_getElem_cons hk]
        have rb7 := Rp.mono ((SF.of e12).trans mB.sf) r0
        have rf7 := Rp.mono (((SF.of (e5.trans e6)).trans m6.sf).trans mA.sf) rf
        refine s_gn ?_
        refine q_setK (K := K) (p := p) (J := KO (wV b) b.length p) (x := W b n' (d ++ [((x : Nat) : Int)])) (ko_jk.mono e7 k6) (ek_ways (by omega) rfl (fun H8 m8 => er_var rfl (Rp.mono m8.sf rb7)) (fun H8 m8 => er_frz (erl_cat (er_var rfl (Rp.mono m8.sf rf7)) (er_frz (erl_lst (α := Int) (ea_cons (er_up (er_var rfl (Rp.mono m8.sf rx))) ea_nil))) (by simp only [List.length_singleton]; omega))) hB (rowK_snoc hd x1 x2) (by rw [List.length_append, List.length_singleton]; omega)) (fun v8 H8 m8 k8 r8 => ?_)
        cases (show v8 = .int _ from r8)
        have mC : Mu p H2 H8 := mB.trans m8
        refine q_if (K := K) (et_test (er_op (er_var (x := t') rfl rfl) (er_var (x := W b n' (d ++ [((x : Nat) : Int)])) rfl rfl) rr_lt)) (fun hc3 H9 e9 => ?_) (fun hc3 H9 e9 => ?_)
        · have hc3 := of_decide_eq_true hc3
          refine q_set (K := K) (er_frz (erl_cat (er_var rfl (Rp.mono (m8.sf.trans (SF.of e9)) rf7)) (er_frz (erl_lst (α := Int) (ea_cons (er_up (er_var rfl (Rp.mono (m8.sf.trans (SF.of e9)) rx))) ea_nil))) (by simp only [List.length_singleton]; omega))) (fun v10 H10 e10 r10 => ?_)
          refine ⟨n', by omega, d ++ [((x : Nat) : Int)], t', v10, _, _, rfl, by rw [List.length_append, List.length_singleton]; omega, rowK_snoc hd x1 x2, h1, hc3, ?_, mC.trans (Mu.of (e9.trans e10)), ko_jk.mono (e9.trans e10) k8, r10⟩
          rw [← hoa]
          rw [hdr] at h2
          have h3 : pickW b n' d (m_next_places b d) t = some (x, t') := by rw [← h2]; unfold pickW; rw [if_pos hc3]
          show _ = (match pickW b n' d (m_next_places b d) t with | some p => OA b n' (d ++ [((p.1 : Nat) : Int)]) p.2 | none => d)
          rw [h3]
        · have hc3 := of_decide_eq_false hc3
          refine s_nxz ?_
          refine q_last ?_
          refine s_aug (K := K) (f := fun i j => i - j) rfl (er_var (x := W b n' (d ++ [((x : Nat) : Int)])) rfl rfl) (fun H10 e10 => ?_)
          refine ⟨t' - W b n' (d ++ [((x : Nat) : Int)]), _, _, rfl, by omega, ?_, ((m6.trans mA).trans m8).trans (Mu.of (e9.trans e10)), ko_jk.mono (e9.trans e10) k8⟩
          rw [← h2, hdr]
          show _ = (if t' < W b n' (d ++ [((x : Nat) : Int)]) then some (x, t') else pickW b n' d ((m_next_places b d).drop (k + 1)) (t' - W b n' (d ++ [((x : Nat) : Int)])))
          rw [if_neg hc3]
      · obtain ⟨t', y4', y5', rfl, h1, h2, m6, k6⟩ := hP
        rw [List.drop_length] at h2
        have hW : W b (n' + 1) d = ((m_next_places b d).map fun k : Nat => W b n' (d ++ [((k : Nat) : Int)])).sum := rfl
        rcases pickW_none h2.symm with q | q
        · omega
        · rw [hW, q] at ht1; simp at ht1; omega
    · have hc2 := of_decide_eq_false hc2
      have hn0 : n = 0 := by omega
      subst hn0
      refine q_last ?_
      exact s_ret (K := K) (er_var rfl (Rp.mono (SF.of e5) rf)) (fun u H6 e6 rr => qo _ ho u _ (Mu.base (m.trans (Mu.of (e5.trans e6))) e12 hp0) (by rw [← hoa]; exact rr))
/-- how many orders come before one -/
def RK (b : List (Int × Int)) : Nat → List Int → List Int → Int
  | m + 1, d, x :: o => (mapIf (fun k : Nat => decide (((k : Nat) : Int) < x)) (fun k : Nat => W b m (d ++ [((k : Nat) : Int)])) (m_next_places b d)).sum + RK b m (d ++ [x]) o
  | _, _, _ => 0
def m_rank_of_order (b : List (Int × Int)) (o : List Int) : Except Str Int := if (!m_is_possible b o) = true then .error "NotFound" else .ok (RK b b.length [] o)
theorem ok_rank_of_orderX (T : Txt K mg) : Ok P w K mg base (L2.CX P w) 11 "rank_of_order" ["bounds", "order"] (sx2 K ((fun b o => BOk b ∧ o.length = b.length ∧ (∀ y ∈ o, 0 ≤ y ∧ y < (b.length : Int)) ∧ o.Nodup) : (List (Int × Int)) → (List Int) → Prop) m_rank_of_order) := by
  refine okx_of T.d_rank_of_order sc_rank_of_order (bi2 fun _ _ _ _ _ _ _ _ => rfl) len_sx2 (fun f cdv A outer s H vs Q E hr h => ?_)
  have nd := sc_rank_of_order.nd
  obtain ⟨v0, v1, b, o, rfl, r0, r1, hp, qo, qe⟩ := h
  refine ⟨_, (pss_cons (ps_expr (pe_fn (ok_check_bounds T) (hr.mono (by decide)) pass0 (pa_cons (pv 0) pa_nil)))
      (pss_cons (ps_expr (pe_fn (ok_check_order T) (hr.mono (by decide)) pass0 (pa_cons (pv 0) (pa_cons (pv 1) pa_nil))))
      (pss_cons (ps_if (pt_not (pt_val (pe_fn (ok_is_possible T) (hr.mono (by decide)) pass0 (pa_cons (pv 0) (pa_cons (pv 1) pa_nil))))) (pss_one (k_raise K rfl tkD (T.x.e "NotFound" (by decide)))) pss_nil)
      (PSs.nox (pss_cons (ps_par (i := 2) (j := 3) (by rfl) nd rfl rfl (by decide) rfl rfl (pa_cons pe_int (pa_cons pe_dnewT pa_nil)) (by rfl))
      (pss_cons (ps_for PassesOwn.never rfl (k_pe K rfl (by rfl) T.n_enumerate (pa_cons (pv 1) pa_nil)) (k_gt K rfl 2 rfl (pgs_cons (pg_name (i := 4) nd rfl (.inl rfl) (.inr rfl)) (pgs_cons (pg_name (i := 5) nd rfl (.inl rfl) (.inr rfl)) pgs_nil))) (pss_one (ps_for PassesOwn.never rfl (k_pl K rfl (pe_frz (pe_fn (ok_next_places T) (hr.mono (by decide)) pass0 (pa_cons (pv 0) (pa_cons (pe_frz (pe_slice (k_sl K rfl) (pv 1) po_none (po_some (pv 4)))) pa_nil))))) (pg_name (i := 6) nd rfl (.inl rfl) (.inr rfl)) (pss_one (ps_if (pt_cmpR op_lt (pv 6) (pv 5) (nomark _)) (pss_one (ps_aug (i := 2) nd rfl (.inl rfl) (pe_fn (ok_ways T 8) (hr.mono (by decide)) pass0 (pa_cons (pv 0) (pa_cons (pe_frz (pe_op op_catR (pe_frz (pe_slice (k_sl K rfl) (pv 1) po_none (po_some (pv 4)))) (pe_frz (pe_lst (pa_cons (pv 6) pa_nil))))) (pa_cons (pv 3) pa_nil)))) ip_add)) pss_nil)))))
      (pss_one (ps_ret (pv 2))))))))), ?_⟩
  obtain ⟨hB, hlen, hrng, hnd⟩ := hp
  have hn : b.length ≤ 7 := hB.2.1
  refine q_drop (K := K) (er_call1 (er_var rfl r0) hB) (fun H1 e1 => ?_)
  refine q_drop (K := K) (er_call2 (er_var rfl (Rp.mono (SF.of e1) r0)) (er_var rfl (Rp.mono (SF.of e1) r1)) ⟨hB, hlen, hrng, hnd⟩) (fun H2 e2 => ?_)
  have e12 := e1.trans e2
  refine q_when (K := K) (et_not (et_B (er_call2 (er_var rfl (Rp.mono (SF.of e12) r0)) (er_var rfl (Rp.mono (SF.of e12) r1)) ⟨hB, hlen, hrng⟩))) (fun hc H3 e3 => ?_) (fun hc H3 e3 => ?_)
  · refine q_last ?_
    exact qe "NotFound" (show m_rank_of_order b o = _ from by unfold m_rank_of_order; rw [if_pos hc]) (by decide) _ (e12.trans e3)
  · have ho : m_rank_of_order b o = .ok (RK b b.length [] o) := by unfold m_rank_of_order; rw [if_neg (nff hc)]
    have e13 := e12.trans e3
    refine q_parK (V0 := wV b) (n := b.length) (fun p H4 e4 hp ko => ?_)
    have hp0 : H p = none := e13.free hp
    have e14 := e13.trans e4
    refine q_for (K := K) (l := enumL o) (src_enum (er_var rfl (Rp.mono (SF.of e14) r1)))
      (fun H6 i σ' H' => ∃ (t : Int) (y4 y5 y6 : Option V), σ' = [some v0, some v1, some (.int t), some (.ref p), y4, y5, y6] ∧ t + RK b (b.length - i) (o.take i) (o.drop i) = RK b b.length [] o ∧ Mu p H6 H' ∧ KO (wV b) b.length p H')
      (fun H6 e6 => ⟨0, none, none, none, rfl, by simp, Mu.refl _, ko_jk.mono e6 ko⟩) (fun H6 k σ' H' h => by obtain ⟨_, _, _, _, _, _, h, _⟩ := h; exact h.sf) (fun H6 i x σ' H' vx H7 e6 hx hP e7 rx => ?_) (fun H6 σ' H' e6 hP => ?_)
    · obtain ⟨t, y4, y5, y6, rfl, ht, m6, k6⟩ := hP
      obtain ⟨hx1, hx2⟩ := enumL_get hx
      obtain ⟨i', x'⟩ := x
      dsimp only at hx1 hx2
      subst hx2
      obtain ⟨hi, hxx⟩ := List.getElem?_eq_some_iff.mp hx1
      have hdr : o.drop i' = x' :: o.drop (i' + 1) := by rw [List.drop_eq_getElem_cons hi, hxx]
      have htk : o.take (i' + 1) = o.take i' ++ [x'] := by rw [List.take_add_one, hx1]; rfl
      obtain ⟨w1, w2, q1, q2, tg⟩ := tg_pair (k := 4) (m := 5) rx
      refine tg _ ?_
      refine q_last ?_
      have eS : SF H4 H7 := (SF.of e6).trans (m6.sf.trans (SF.of e7))
      have rb7 := Rp.mono ((SF.of e14).trans eS) r0
      have ro7 := Rp.mono ((SF.of e14).trans eS) r1
      have hcut : cutL o none (some (i' : Int)) = o.take i' := cutL_to o i'
      have hrow : RowK b.length (o.take i') := ⟨List.Sublist.nodup (List.take_sublist _ _) hnd, fun y hy => hrng y (List.mem_of_mem_take hy)⟩
      have hlt : (o.take i').length = i' := by rw [List.length_take]; omega
      obtain ⟨n', hn'⟩ : ∃ n', b.length - i' = n' + 1 := ⟨b.length - i' - 1, by omega⟩
      have hn2 : b.length - (i' + 1) = n' := by omega
      rw [hn', hdr] at ht
      have ht2 : t + ((mapIf (fun k : Nat => decide (((k : Nat) : Int) < x')) (fun k : Nat => W b n' (o.take i' ++ [((k : Nat) : Int)])) (m_next_places b (o.take i'))).sum + RK b n' (o.take i' ++ [x']) (o.drop (i' + 1))) = RK b b.length [] o := ht
      refine s_for (K := K) (l := m_next_places b (o.take i')) (src_list (er_frz (erl_call2 (er_var rfl rb7) (er_frz ((erl_sl (er_var rfl ro7) eo_none (eo_some (er_up (er_var rfl q1)))).to hcut)) ⟨hB, by omega⟩)))
        (fun H8 j σ' H' => ∃ (t' : Int) (y6 : Option V), σ' = [some v0, some v1, some (.int t'), some (.ref p), some w1, some w2, y6] ∧ t' + (mapIf (fun k : Nat => decide (((k : Nat) : Int) < x')) (fun k : Nat => W b n' (o.take i' ++ [((k : Nat) : Int)])) ((m_next_places b (o.take i')).drop j)).sum + RK b n' (o.take i' ++ [x']) (o.drop (i' + 1)) = RK b b.length [] o ∧ Mu p H8 H' ∧ KO (wV b) b.length p H')
        (fun H8 e8 => ⟨t, y6, rfl, by rw [List.drop_zero]; omega, Mu.refl _, ko_jk.mono (e7.trans e8) k6⟩) (fun H8 k σ' H' h => by obtain ⟨_, _, _, _, h, _⟩ := h; exact h.sf) (fun H8 j k σ' H' vk H9 e8 hk hP e9 rk => ?_) (fun H8 σ' H' e8 hP => ?_)
      · obtain ⟨t', y6', rfl, ht', m8, k8⟩ := hP
        obtain ⟨x1, x2⟩ := np_mem (List.mem_of_getElem? hk)
        refine s_gn ?_
        refine q_last ?_
        have eT : SF H7 H9 := (SF.of e8).trans (m8.sf.trans (SF.of e9))
        have hdk : (m_next_places b (o.take i')).drop j = k :: (m_next_places b (o.take i')).drop (j + 1) := by
          obtain ⟨hkk, hkx⟩ := List.getElem?_eq_some_iff.mp hk
          rw [← hkx, List.drop_eq_getElem_cons hkk]
        rw [hdk] at ht'
        unfold mapIf at ht' ⊢
        rw [List.filter_cons] at ht'
        refine s_if (K := K) (et_test (er_op (er_up (er_var rfl rk)) (er_var rfl (Rp.mono eT q2)) rr_lt)) (fun hc3 H10 e10 => ?_) (fun hc3 H10 e10 => ?_)
        · refine q_last ?_
          rw [if_pos hc3, List.map_cons, List.sum_cons] at ht'
          refine s_augK (K := K) (p := p) (J := KO (wV b) b.length p) (f := fun i j => i + j) (j := W b n' (o.take i' ++ [((k : Nat) : Int)])) rfl (ko_jk.mono (e9.trans e10) k8) (ek_ways (by omega) rfl (fun H11 m11 => er_var rfl (Rp.mono (eT.trans ((SF.of e10).trans m11.sf)) rb7)) (fun H11 m11 => er_frz (erl_cat (er_frz ((erl_sl (er_var rfl (Rp.mono (eT.trans ((SF.of e10).trans m11.sf)) ro7)) eo_none (eo_some (er_up (er_var rfl (Rp.mono (eT.trans ((SF.of e10).trans m11.sf)) q1))))).to hcut)) (er_frz (erl_lst (α := Int) (ea_cons (er_up (er_var rfl (Rp.mono ((SF.of e10).trans m11.sf) rk))) ea_nil))) (by simp only [List.length_singleton]; omega))) hB (rowK_snoc hrow x1 x2) (by rw [List.length_append, List.length_singleton]; omega)) (fun H11 m11 k11 => ?_)
          refine s_nx ?_
          exact ⟨_, _, rfl, by omega, (m8.trans (Mu.of (e9.trans e10))).trans m11, k11⟩
        · refine s_nx ?_
          rw [if_neg (nff hc3)] at ht'
          exact ⟨t', _, rfl, by omega, m8.trans (Mu.of (e9.trans e10)), ko_jk.mono (e9.trans e10) k8⟩
      · obtain ⟨t', y6', rfl, ht', m8, k8⟩ := hP
        rw [List.drop_length] at ht'
        refine s_nx ?_
        refine ⟨t', _, _, _, rfl, ?_, (m6.trans (Mu.of (e7.trans e8))).trans m8, k8⟩
        rw [hn2, htk]
        have e0 : (mapIf (fun k : Nat => decide (((k : Nat) : Int) < x')) (fun k : Nat => W b n' (o.take i' ++ [((k : Nat) : Int)])) []).sum = 0 := rfl
        omega
    · obtain ⟨t, y4, y5, y6, rfl, ht, m6, k6⟩ := hP
      rw [enumL_len, hlen, Nat.sub_self] at ht
      have h0 : RK b 0 (o.take b.length) (o.drop b.length) = 0 := by unfold RK; rfl
      refine q_last ?_
      exact s_ret (K := K) (er_var (x := t) rfl rfl) (fun u H7 e7 rr => qo _ ho u _ (Mu.base ((m6.trans (Mu.of e7))) (e14.trans e6) hp0) (by rw [show RK b b.length [] o = t by omega]; exact rr))


theorem ok_checked (T : Txt K mg) : Ok P w K mg base CX0 4 "checked" ["bounds"] (spThru K (fun l : List (Int × Int) => BOk l)) := by
  refine ok_of T.d_checked sc_checked (bi1 fun _ _ _ _ _ _ _ => rfl) (fun vs H Q E h => by obtain ⟨_, _, _, rfl, _⟩ := h; rfl) (fun f cdv A outer s H vs Q E hr h => ?_)
  have nd := sc_checked.nd
  obtain ⟨p, us, l, rfl, h1, r, hp, q⟩ := h
  refine ⟨_, (pss_cons (ps_lock (ps_if (pt_not (pt_val (pe_fn (ok_is_bounds T) (hr.mono (by decide)) pass0 (pa_cons (pv 0) pa_nil)))) (pss_one ps_never) pss_nil))
      (pss_one (ps_ret (pv 0)))), ?_⟩
  refine q_lockd (K := K) h1 r (fun od r0 => ?_)
  refine s_not (K := K) (et_not (et_B (er_call1 (er_var rfl r0) (by have := hp.2.1; omega)))) (by rw [isBounds_ok hp]; rfl) (fun H1 e => ⟨e _ _ upd_same, ?_⟩)
  exact ⟨.ref p, rfl, q _ (same_lock h1 e)⟩
theorem wd_ok {b : List (Int × Int)} {k : Int} (hp : BOk b ∧ (0 ≤ k ∧ k ≤ 50) ∧ ∀ t ∈ b, -50 ≤ t.1 - k ∧ t.2 + k ≤ 50) : BOk (b.map fun x => (x.1 - k, x.2 + k)) := by
  refine ⟨by rw [List.length_map]; exact hp.1.1, by rw [List.length_map]; exact hp.1.2.1, fun t ht => ?_⟩
  obtain ⟨s, hs, rfl⟩ := List.mem_map.mp ht
  have h1 := hp.2.2 s hs
  have h2 := hp.1.2.2 s hs
  have h3 := hp.2.1
  show -50 ≤ s.1 - k ∧ s.1 - k ≤ s.2 + k ∧ s.2 + k ≤ 50
  omega
def m_widened (x0 : (List (Int × Int))) (x1 : Int) : (List (Int × Int)) := (x0.map (fun (x445 : (Int × Int)) => ((x445.1 - x1), (x445.2 + x1))))
theorem ok_widened (T : Txt K mg) : Ok P w K mg base CX0 5 "widened" ["bounds", "by"] (sl2 K ((fun b k => BOk b ∧ (0 ≤ k ∧ k ≤ 50) ∧ ∀ t ∈ b, -50 ≤ t.1 - k ∧ t.2 + k ≤ 50) : (List (Int × Int)) → Int → Prop) m_widened) := by
  refine ok_of T.d_widened sc_widened (bi2 fun _ _ _ _ _ _ _ _ => rfl) len_sl2 (fun f cdv A outer s H vs Q E hr h => ?_)
  have nd := sc_widened.nd
  obtain ⟨v0, v1, x0, x1, rfl, r0, r1, hp, q⟩ := h
  refine ⟨_, (pss_cons (ps_expr (pe_fn (ok_check_bounds T) (hr.mono (by decide)) pass0 (pa_cons (pv 0) pa_nil)))
      (pss_cons (ps_if (pt_not (pt_val (pe_fn (ok_is_int T) (hr.mono (by decide)) pass0 (pa_cons (pv 1) (pa_cons pe_int (pa_cons pe_int pa_nil)))))) (pss_one ps_never) pss_nil)
      (pss_one (ps_ret (pe_fn (ok_checked T) (hr.mono (by decide)) pass0 (pa_cons (pe_lc (own := [("low", 2), ("high", 3)]) rfl nd (k_pl K rfl (pv 0)) (blkOk_by (N := N_widened) (sc := defScope s_widened) (by decide +kernel)) (fun _ _ _ _ _ => (k_gt K rfl 2 rfl (pgs_cons (pg_name (i := 2) nd rfl (.inl rfl) (.inr rfl)) (pgs_cons (pg_name (i := 3) nd rfl (.inl rfl) (.inr rfl)) pgs_nil)))) (fun _ _ _ _ _ => pts_nil) (fun _ _ _ _ _ => (pe_tup (pa_cons (pe_op op_sub (pv 2) (pv 1)) (pa_cons (pe_op op_add (pv 3) (pv 1)) pa_nil))))) pa_nil)))))), ?_⟩
  refine q_drop (K := K) (er_call1 (er_var rfl r0) (by exact hp.1)) (fun _ e442 => ?_)
  refine q_not (K := K) (et_not (et_B (er_call3 (er_var rfl (Rp.mono (SF.of e442) r1)) er_int er_int trivial))) (by simp [m_is_int]; omega) (fun _ e443 => ?_)
  exact s_retL (K := K) (erl_thru (erl_lm2 (f := fun (x445 : (Int × Int)) => ((x445.1 - x1), (x445.2 + x1))) (src_list (er_var rfl (Rp.mono ((SF.of e442).trans (SF.of e443)) r0))) (by have := hp.1.2.1; omega) (by intros; rfl) (fun x445 hx446 v447 v448 _ e444 r449 r450 => (er_pair (er_op (er_var rfl r449) (er_var rfl (Rp.mono (SF.of e444) (Rp.mono ((SF.of e442).trans (SF.of e443)) r1))) rr_sub) (er_op (er_var rfl r450) (er_var rfl (Rp.mono (SF.of e444) (Rp.mono ((SF.of e442).trans (SF.of e443)) r1))) rr_add)))) (by exact wd_ok hp)) (fun p us _ e451 hn h1 rr => q p us _ ((e442.trans e443).trans e451) ((e442.trans e443).free hn) h1 rr)
theorem ok__law_start (T : Txt K mg) : Ok P w K mg base CX0 1 "_law_start" ["_law_script"] (spStart K) := by
  refine ok_of T.d__law_start sc__law_start (bi1 fun _ _ _ _ _ _ _ => rfl) (fun vs H Q E h => by obtain ⟨_, _, rfl, _⟩ := h; rfl) (fun f cdv A outer s H vs Q E hr h => ?_)
  have nd := sc__law_start.nd
  obtain ⟨a, ns, rfl, hs, hz, q⟩ := h
  refine ⟨_, (pss_one (ps_ret (pe_lst (pa_cons (pe_ifExp (pt_cmpR (k_neD K rfl hr.units) (pv 0) (pe_lst pa_nil) (nomark _)) (pe_callTy (k_list K rfl) (by rfl) T.n_list (by decide +kernel) (pa_cons (pv 0) pa_nil)) (pe_lst (pa_cons pe_int pa_nil))) (pa_cons pe_int pa_nil))))), ?_⟩
  refine ⟨.ref a, rfl, Nat.zero_le _, fun e he => ?_⟩
  have hs1 : SqL K (upd H e (.lst [])) a (ns.map V.int) := (same_new he : L2.Same _ _).seq hs
  refine ⟨_, _, .lst hs1 (dp_all (rl_of_ints ns)), .lst (sq_lst upd_same) .nil, shaped_of (α := List Int) (Rt.all ns) (by decide), shaped_of (α := List Int) (x := []) (Rt.all _) (by decide), _, rfl, ite2 (fun c => ?_) (fun c => ?_)⟩
  · refine ⟨.ref a, rfl, a, _, rfl, .inl hs1, fun pn hn => ?_⟩
    have s2 : L2.Same H (upd (upd H e (.lst [])) pn (.lst (ns.map V.int))) := (same_new he).trans (same_new hn)
    refine ⟨by show 2 ≤ sizeLine; decide, fun pd hd => ?_⟩
    refine q pd pn _ (s2.trans (same_new hd)) (s2.free hd) ((same_new he : L2.Same _ _).free hn) ⟨ns, 0, upd_same, upd_get upd_same (ne_of_none upd_same hd), ?_, by omega, by omega, (ne_of_none upd_same hd).symm⟩
    cases ns with
    | nil => exact absurd c (by decide)
    | cons x r => exact Nat.succ_pos _
  · refine ⟨by show 1 ≤ sizeLine; decide, fun pn hn => ?_⟩
    have s2 : L2.Same H (upd (upd H e (.lst [])) pn (.lst [.int 0])) := (same_new he).trans (same_new hn)
    refine ⟨by show 2 ≤ sizeLine; decide, fun pd hd => ?_⟩
    exact q pd pn _ (s2.trans (same_new hd)) (s2.free hd) ((same_new he : L2.Same _ _).free hn) ⟨[0], 0, upd_same, upd_get upd_same (ne_of_none upd_same hd), by decide, by decide, by omega, (ne_of_none upd_same hd).symm⟩
theorem ok__law_draw (T : Txt K mg) : Ok P w K mg base CX0 1 "_law_draw" ["_law_draws", "_law_limit"] spDraw := by
  refine ok_of T.d__law_draw sc__law_draw (bi2 fun _ _ _ _ _ _ _ _ => rfl) (fun vs H Q E h => by obtain ⟨_, _, _, rfl, _⟩ := h; rfl) (fun f cdv A outer s H vs Q E hr h => ?_)
  have nd := sc__law_draw.nd
  obtain ⟨pd, pn, lim, rfl, ⟨ns, k, h1, h2, hl, hl2, hk, hne⟩, l0, l1, q⟩ := h
  refine ⟨_, (pss_cons (ps_set (i := 2) nd rfl (.inl rfl) (pe_ix (k_ixl K rfl) (pv 0) pe_int (fun _ _ => rfl)))
      (pss_cons (ps_asg (pe_op op_add (pe_ix (k_ixl K rfl) (pv 0) pe_int (fun _ _ => rfl)) pe_int) (pg_sub (pv 0) pe_int set_list))
      (pss_cons (ps_set (i := 3) nd rfl (.inl rfl) (pe_op op_mod (pe_ix (k_ixl K rfl) (pv 0) pe_int (fun _ _ => rfl)) (pe_callB (k_len K rfl) (by rfl) T.n_len PySem.boot_len (pa_cons (pv 2) pa_nil))))
      (pss_cons (ps_set (i := 4) nd rfl (.inl rfl) (pe_ix (k_ixl K rfl) (pv 2) (pv 3) (fun _ _ => rfl)))
      (pss_cons (ps_if (pt_cmpR op_ge (pv 4) pe_int (nomark _)) (pss_cons (ps_asg (pe_op op_fdiv (pv 4) (pv 1)) (pg_sub (pv 2) (pv 3) set_list)) (pss_one (ps_ret (pe_op op_mod (pv 4) (pv 1))))) pss_nil)
      (pss_cons (ps_set (i := 5) nd rfl (.inl rfl) (pe_op op_mod (pe_op op_add (pv 4) (pe_op op_mul pe_int (pe_ix (k_ixl K rfl) (pv 0) pe_int (fun _ _ => rfl)))) pe_int))
      (pss_cons (ps_set (i := 5) nd rfl (.inl rfl) (pe_op op_mod (pe_op op_pow (pv 5) pe_int) pe_int))
      (pss_one (ps_ret (pe_op op_mod (pe_op op_fdiv (pe_op op_mod (pe_op op_add (pe_op op_mul (pe_op op_fdiv (pv 5) pe_int) pe_int) (pv 5)) pe_int) pe_int) (pv 1))))))))))), ?_⟩
  refine ⟨.ref pd, rfl, pd, _, 0, .ref pn, rfl, rfl, sq_lst h1, atI_nat (j := 0) rfl, ?_⟩
  refine ⟨.ref pd, rfl, pd, _, 1, .int k, rfl, rfl, sq_lst h1, atI_nat (j := 1) rfl, k, 1, rfl, rfl, .ref pd, rfl, pd, _, 1, 1, rfl, rfl, h1, rfl, ?_⟩
  have g1 : (upd H pd (.lst [.ref pn, .int (k + 1)])) pd = some (.lst [.ref pn, .int (k + 1)]) := upd_same
  have g2 : (upd H pd (.lst [.ref pn, .int (k + 1)])) pn = some (.lst (ns.map V.int)) := upd_get h2 hne.symm
  have m1 : DM pd pn H (upd H pd (.lst [.ref pn, .int (k + 1)])) := ⟨SF.lst h1, fun q o n _ e => upd_get e n⟩
  have d1 : Dr (upd H pd (.lst [.ref pn, .int (k + 1)])) pd pn := ⟨ns, k + 1, g1, g2, hl, hl2, by omega, hne⟩
  show tSeq _ _ _ _ (upd H pd (.lst [.ref pn, .int (k + 1)]))
  generalize upd H pd (.lst [.ref pn, .int (k + 1)]) = H1 at g1 g2 m1 d1
  have hlen : (ns.map V.int).length = ns.length := List.length_map ..
  refine ⟨.ref pd, rfl, pd, _, 1, .int (k + 1), rfl, rfl, sq_lst g1, atI_nat (j := 1) rfl, .ref pn, rfl, pn, _, rfl, .inl (sq_lst g2), k + 1, _, rfl, rfl, (by rw [hlen]; omega), ?_⟩
  obtain ⟨m, hm, hm2⟩ : ∃ m : Nat, (k + 1) % ((ns.map V.int).length : Int) = (m : Int) ∧ m < ns.length := by
    have a := Int.emod_nonneg (k + 1) (show ((ns.map V.int).length : Int) ≠ 0 by rw [hlen]; omega)
    have b := Int.emod_lt_of_pos (k + 1) (show (0 : Int) < ((ns.map V.int).length : Int) by rw [hlen]; omega)
    exact ⟨((k + 1) % ((ns.map V.int).length : Int)).toNat, by omega, by rw [hlen] at b ⊢; omega⟩
  have hc : (ns.map V.int)[m]? = some (.int ns[m]) := by rw [List.getElem?_map, List.getElem?_eq_getElem hm2]; rfl
  refine ⟨.ref pn, rfl, .int ((k + 1) % ((ns.map V.int).length : Int)), rfl, pn, _, _, _, rfl, rfl, sq_lst g2, at_of hm hc, ?_⟩
  refine ⟨.int ns[m], rfl, ns[m], 1000000000000000000, rfl, rfl, _, rfl, ite2 (fun _ => ?_) (fun _ => ?_)⟩
  · refine ⟨.int ns[m], rfl, .int lim, rfl, ns[m], lim, rfl, rfl, ⟨l0, by omega⟩, .ref pn, rfl, .int ((k + 1) % ((ns.map V.int).length : Int)), rfl, pn, _, _, m, rfl, rfl, g2, ?_, ?_⟩
    · rw [hm, hlen]; unfold ixN; rw [if_pos (by omega), if_pos (by omega)]; simp
    · refine ⟨.int ns[m], rfl, .int lim, rfl, ns[m], lim, rfl, rfl, l0, ?_⟩
      have e : (ns.map V.int).set m (.int (ns[m] / lim)) = (ns.set m (ns[m] / lim)).map V.int := by rw [List.map_set]
      rw [e]
      refine q _ _ (Int.emod_nonneg _ (by omega)) (Int.emod_lt_of_pos _ l0) (m1.trans ⟨SF.lst g2, fun q o _ n e => upd_get e n⟩) ⟨_, k + 1, upd_get g1 hne, upd_same, by rw [List.length_set]; exact hl, by rw [List.length_set]; exact hl2, by omega, hne⟩
  · refine ⟨.int ns[m], rfl, .ref pd, rfl, pd, _, 1, .int (k + 1), rfl, rfl, sq_lst g1, atI_nat (j := 1) rfl, 104729, k + 1, rfl, rfl, .inl ⟨by decide, by decide⟩, ns[m], _, rfl, rfl, _, _, rfl, rfl, (show (0 : Int) < 4294967291 by decide), ?_⟩
    have x0 : 0 ≤ (ns[m] + 104729 * (k + 1)) % 4294967291 := Int.emod_nonneg _ (by decide)
    have x1 : (ns[m] + 104729 * (k + 1)) % 4294967291 < 4294967291 := Int.emod_lt_of_pos _ (by decide)
    refine ⟨_, rfl, (ns[m] + 104729 * (k + 1)) % 4294967291, 5, rfl, rfl, ⟨by decide, by decide, by omega⟩, _, _, rfl, rfl, (show (0 : Int) < 4294967279 by decide), ?_⟩
    refine ⟨_, rfl, _, 64, rfl, rfl, ⟨by decide, by decide⟩, _, 69621, rfl, rfl, .inr ⟨by decide, by decide⟩, _, rfl, _, _, rfl, rfl, _, _, rfl, rfl, (show (0 : Int) < 4294967231 by decide), _, 8, rfl, rfl, ⟨by decide, by decide⟩, .int lim, rfl, _, lim, rfl, rfl, l0, ?_⟩
    exact q _ _ (Int.emod_nonneg _ (by omega)) (Int.emod_lt_of_pos _ l0) m1 d1
theorem ok__law_pick {α : Type} [Rp α] (T : Txt K mg) : Ok P w K mg base CX0 2 "_law_pick" ["_law_draws", "_law_choices"] (spPick K (α := α)) := by
  refine ok_of T.d__law_pick sc__law_pick (bi2 fun _ _ _ _ _ _ _ _ => rfl) (fun vs H Q E h => by obtain ⟨_, _, _, _, rfl, _⟩ := h; rfl) (fun f cdv A outer s H vs Q E hr h => ?_)
  have nd := sc__law_pick.nd
  obtain ⟨pd, pn, v, l, rfl, dr, r1, h0, h1, q⟩ := h
  refine ⟨_, (pss_one (ps_ret (pe_ix (k_ixl K rfl) (pv 1) (pe_fn (ok__law_draw T) (hr.mono (by decide)) pass0 (pa_cons (pv 0) (pa_cons (pe_callB (k_len K rfl) (by rfl) T.n_len PySem.boot_len (pa_cons (pv 1) pa_nil)) pa_nil))) (fun _ _ => rfl)))), ?_⟩
  refine s_retP (K := K) (pd := pd) (pn := pn) dr (ep_op (P := fun (x : List α) => x = l) (P2 := fun _ (y : Int) => 0 ≤ y ∧ y < (l.length : Int)) (f := fun _ (y : Int) => if h : y.toNat < l.length then l[y.toNat] else l[0]) (ep_of fun _ m => er_var rfl (Rp.mono m.sf r1)) (fun _ _ => ep_draw (fun _ m => er_up (er_len (er_var rfl (Rp.mono m.sf r1)))) (sub_dr rfl) (by omega) (by omega)) (fun x y hx hy => by
      subst hx
      have hl : y.toNat < x.length := by omega
      rw [dif_pos hl]
      exact rr_ixI (n := y.toNat) (by omega) (List.getElem?_eq_getElem hl))) (fun v H1 z m d hz r => ?_)
  obtain ⟨x, y, hx, hy, rfl⟩ := hz
  have hl : y.toNat < l.length := by omega
  rw [dif_pos hl] at r
  exact q _ v H1 (List.getElem_mem hl) m d r
abbrev kindsOf (e : Xn) : List Bool := [decide (e.n = "BadBounds"), decide (e.n = "BadNumber"), decide (e.n = "BadOrder")] ++ [decide (e.n = "BadText"), decide (e.n = "NotFound")]
theorem errs_cases {c : Str} {p : Str → Prop} (h : c ∈ errs) (h1 : p "BadBounds") (h2 : p "BadNumber") (h3 : p "BadOrder") (h4 : p "BadText") (h5 : p "NotFound") : p c := by
  simp only [errs, List.mem_cons, List.mem_nil_iff, or_false] at h
  rcases h with rfl | rfl | rfl | rfl | rfl <;> assumption
theorem law_kinds {e : Xn} (h : e.n ∈ errs) : true ∈ kindsOf e := by
  obtain ⟨c⟩ := e
  exact errs_cases (p := fun c => true ∈ kindsOf ⟨c⟩) h (by decide) (by decide) (by decide) (by decide) (by decide)
theorem law_kinds_lt {e : Xn} (h : e.n ∈ errs) : (kindsOf e).idxOf true < (["bounds", "number", "order", "text", "none"] : List Str).length := by
  obtain ⟨c⟩ := e
  exact errs_cases (p := fun c => (kindsOf ⟨c⟩).idxOf true < (["bounds", "number", "order", "text", "none"] : List Str).length) h (by decide) (by decide) (by decide) (by decide) (by decide)
def m__law_error (x0 : Xn) : Str := (if ((!(decide ((((([(decide (x0.n = "BadBounds")), (decide (x0.n = "BadNumber")), (decide (x0.n = "BadOrder"))] ++ [(decide (x0.n = "BadText")), (decide (x0.n = "NotFound"))]).count true) : Nat) : Int) = (((1 : Nat) : Nat) : Int)))) || ((!true) || (!true))) = true then ("odd" : Str) else (([("bounds" : Str), ("number" : Str), ("order" : Str), ("text" : Str), ("none" : Str)]).getD ((([(decide (x0.n = "BadBounds")), (decide (x0.n = "BadNumber")), (decide (x0.n = "BadOrder"))] ++ [(decide (x0.n = "BadText")), (decide (x0.n = "NotFound"))]).idxOf true)) Str.empty))
theorem ok__law_error (T : Txt K mg) : Ok P w K mg base CX0 1 "_law_error" ["_law_caught"] (sp1 K ((fun e => e.n ∈ errs) : Xn → Prop) m__law_error) := by
  refine ok_of T.d__law_error sc__law_error (bi1 fun _ _ _ _ _ _ _ => rfl) len_sp1 (fun f cdv A outer s H vs Q E hr h => ?_)
  have nd := sc__law_error.nd
  obtain ⟨v0, x0, rfl, r0, hp, q⟩ := h
  refine ⟨_, (pss_cons (ps_set (i := 1) nd rfl (.inl rfl) (pe_frz (pe_lst (pa_cons (pe_callB (k_isx K rfl) (by rfl) T.n_isinstance (by decide +kernel) (pa_cons (pv 0) (pa_cons (pe_glob (v := .ref (He.ga K "BadBounds")) rfl (T.x.e "BadBounds" (by decide)).g rfl) pa_nil))) (pa_cons (pe_callB (k_isx K rfl) (by rfl) T.n_isinstance (by decide +kernel) (pa_cons (pv 0) (pa_cons (pe_glob (v := .ref (He.ga K "BadNumber")) rfl (T.x.e "BadNumber" (by decide)).g rfl) pa_nil))) (pa_cons (pe_callB (k_isx K rfl) (by rfl) T.n_isinstance (by decide +kernel) (pa_cons (pv 0) (pa_cons (pe_glob (v := .ref (He.ga K "BadOrder")) rfl (T.x.e "BadOrder" (by decide)).g rfl) pa_nil))) pa_nil))))))
      (pss_cons (ps_set (i := 1) nd rfl (.inl rfl) (pe_frz (pe_op op_catR (pv 1) (pe_frz (pe_lst (pa_cons (pe_callB (k_isx K rfl) (by rfl) T.n_isinstance (by decide +kernel) (pa_cons (pv 0) (pa_cons (pe_glob (v := .ref (He.ga K "BadText")) rfl (T.x.e "BadText" (by decide)).g rfl) pa_nil))) (pa_cons (pe_callB (k_isx K rfl) (by rfl) T.n_isinstance (by decide +kernel) (pa_cons (pv 0) (pa_cons (pe_glob (v := .ref (He.ga K "NotFound")) rfl (T.x.e "NotFound" (by decide)).g rfl) pa_nil))) pa_nil)))))))
      (pss_cons (ps_if (PW.pt (pw_or (pt_cmpR op_ne (k_bm1 K rfl PySem.F.plainAttrs_list PySem.F.slot_list_count PySem.F.type_list_count (k_countB K rfl) (pv 1) pe_bl) pe_int (nomark _)) (pw_or (pt_not (pt_val (pe_callB (k_isx K rfl) (by rfl) T.n_isinstance (by decide +kernel) (pa_cons (pv 0) (pa_cons (pe_glob (v := .ref (He.ga K "BoundError")) rfl T.x.b rfl) pa_nil))))) (pw_or1 (pt_not (pt_val (pe_callB (k_isx K rfl) (by rfl) T.n_isinstance (by decide +kernel) (pa_cons (pv 0) (pa_cons (pe_bltn (v := .ty "ValueError") (by rfl) T.n_ValueError (by decide +kernel) rfl) pa_nil))))))))) (pss_one (ps_ret pe_str)) pss_nil)
      (pss_one (ps_ret (pe_ix (k_ixl K rfl) (pe_frz (pe_lst (pa_cons pe_str (pa_cons pe_str (pa_cons pe_str (pa_cons pe_str (pa_cons pe_str pa_nil))))))) (k_bm1 K rfl PySem.F.plainAttrs_list PySem.F.slot_list_index PySem.F.type_list_index (k_index K rfl) (pv 1) pe_bl) (fun _ _ => rfl))))))), ?_⟩
  refine q_set (K := K) (er_frz (erl_lst (ea_cons (er_isE (d := "BadBounds") (T.x.e _ (by exact hp)) (by decide) (er_var rfl r0)) (ea_cons (er_isE (d := "BadNumber") (T.x.e _ (by exact hp)) (by decide) (er_var rfl r0)) (ea_cons (er_isE (d := "BadOrder") (T.x.e _ (by exact hp)) (by decide) (er_var rfl r0)) ea_nil))))) (fun v454 _ e452 r453 => ?_)
  refine q_set (K := K) (er_frz (erl_cat (er_var rfl r453) (er_frz (erl_lst (ea_cons (er_isE (d := "BadText") (T.x.e _ (by exact hp)) (by decide) (er_var rfl (Rp.mono (SF.of e452) r0))) (ea_cons (er_isE (d := "NotFound") (T.x.e _ (by exact hp)) (by decide) (er_var rfl (Rp.mono (SF.of e452) r0))) ea_nil)))) (by simp))) (fun v457 _ e455 r456 => ?_)
  refine q_if (K := K) (et_or (et_test (er_op (er_up (er_countB (er_var rfl r456) er_bl)) (er_up (er_c (x := (1 : Nat)) fun _ => rfl)) rr_neI)) (fun hsc => (et_or (et_not (et_B (er_isBd (T.x.e _ (by exact hp)) (er_var rfl (Rp.mono ((SF.of e452).trans (SF.of e455)) r0))))) (fun hsc => (et_not (et_B (er_isVE (T.x.e _ (by exact hp)) (er_var rfl (Rp.mono ((SF.of e452).trans (SF.of e455)) r0))))))))) (fun hc459 _ e458 => ?_) (fun hc459 _ e458 => ?_)
  ·
    exact s_ret (K := K) er_str (fun u _ e460 rr => q u _ (((e452.trans e455).trans e458).trans e460) (by rw [(show m__law_error x0 = ("odd" : Str) from by unfold m__law_error; rw [if_pos hc459])]; exact rr))
  ·
    refine s_nxz ?_
    exact s_ret (K := K) (er_op (er_frz (erl_lst (ea_cons er_str (ea_cons er_str (ea_cons er_str (ea_cons er_str (ea_cons er_str ea_nil))))))) (er_up (er_indexB (er_var rfl (Rp.mono (SF.of e458) r456)) er_bl (by exact law_kinds hp))) (rr_ixL (x := (([("bounds" : Str), ("number" : Str), ("order" : Str), ("text" : Str), ("none" : Str)]).getD ((([(decide (x0.n = "BadBounds")), (decide (x0.n = "BadNumber")), (decide (x0.n = "BadOrder"))] ++ [(decide (x0.n = "BadText")), (decide (x0.n = "NotFound"))]).idxOf true)) Str.empty)) (by exact getD_at (law_kinds_lt hp)))) (fun u _ e461 rr => q u _ (((e452.trans e455).trans e458).trans e461) (by rw [(show m__law_error x0 = (([("bounds" : Str), ("number" : Str), ("order" : Str), ("text" : Str), ("none" : Str)]).getD ((([(decide (x0.n = "BadBounds")), (decide (x0.n = "BadNumber")), (decide (x0.n = "BadOrder"))] ++ [(decide (x0.n = "BadText")), (decide (x0.n = "NotFound"))]).idxOf true)) Str.empty) from by unfold m__law_error; rw [if_neg (nff hc459)])]; exact rr))
theorem err_bounds : m__law_error ⟨"BadBounds"⟩ = "bounds" := by decide
theorem err_number : m__law_error ⟨"BadNumber"⟩ = "number" := by decide
theorem err_order : m__law_error ⟨"BadOrder"⟩ = "order" := by decide
theorem err_text : m__law_error ⟨"BadText"⟩ = "text" := by decide
theorem err_none : m__law_error ⟨"NotFound"⟩ = "none" := by decide
def m__law_true (x0 : Bool) (x1 : Bool) : Bool := (true && (decide (x0 = x1)))
theorem ok__law_true (T : Txt K mg) : Ok P w K mg base CX0 1 "_law_true" ["_law_value", "_law_expected"] (sp2 K ((fun _ _ => True) : Bool → Bool → Prop) m__law_true) := by
  refine ok_of T.d__law_true sc__law_true (bi2 fun _ _ _ _ _ _ _ _ => rfl) len_sp2 (fun f cdv A outer s H vs Q E hr h => ?_)
  have nd := sc__law_true.nd
  obtain ⟨v0, v1, x0, x1, rfl, r0, r1, hp, q⟩ := h
  refine ⟨_, (pss_one (ps_ret (pe_and (pe_callB (k_isi K rfl) (by rfl) T.n_isinstance (by decide +kernel) (pa_cons (pv 0) (pa_cons (pe_bltn (v := .ty "bool") (by rfl) T.n_bool (by decide +kernel) rfl) pa_nil))) (pe_one (pe_cmpR op_eq (pv 0) (pv 1) (nomark _)))))), ?_⟩
  exact s_ret (K := K) (er_andV (er_isi (b := true) (er_var rfl r0) (show kitB "bool" "bool" = some true from by decide)) (fun hsc => (er_op (er_var rfl r0) (er_var rfl r1) rr_eqB))) (fun u _ e462 rr => q u _ e462 rr)
theorem ok__law_bounds (T : Txt K mg) : Ok P w K mg base CX0 3 "_law_bounds" ["_law_draws", "_law_most"] (spDraws K (fun n => 1 ≤ n ∧ n ≤ 100) BndP) := by
  refine ok_of T.d__law_bounds sc__law_bounds (bi2 fun _ _ _ _ _ _ _ _ => rfl) (fun vs H Q E h => by obtain ⟨_, _, _, rfl, _⟩ := h; rfl) (fun f cdv A outer s H vs Q E hr h => ?_)
  have nd := sc__law_bounds.nd
  obtain ⟨pd, pn, n, rfl, dr, hn, q⟩ := h
  refine ⟨_, (pss_cons (ps_par (i := 2) (j := 3) (by rfl) nd rfl rfl (by decide) rfl rfl (pa_cons (pe_fn (ok__law_pick (α := Int) T) (hr.mono (by decide)) pass0 (pa_cons (pv 0) (pa_cons (pe_frz (pe_lst (pa_cons pe_int (pa_cons pe_int (pa_cons pe_int pa_nil))))) pa_nil))) (pa_cons (pe_fn (ok__law_pick (α := Int) T) (hr.mono (by decide)) pass0 (pa_cons (pv 0) (pa_cons (pe_frz (pe_lst (pa_cons pe_int (pa_cons pe_int (pa_cons pe_int pa_nil))))) pa_nil))) pa_nil)) (by rfl))
      (pss_cons (ps_set (i := 4) nd rfl (.inl rfl) (pe_lst pa_nil))
      (pss_cons (ps_for PassesOwn.never rfl (pi_range1 (by rfl) T.n_range (pa_cons (pe_op op_add pe_int (pe_fn (ok__law_draw T) (hr.mono (by decide)) pass0 (pa_cons (pv 0) (pa_cons (pv 1) pa_nil)))) pa_nil)) (pg_name (i := 5) nd rfl (.inl rfl) (.inr rfl)) (pss_cons (ps_set (i := 6) nd rfl (.inl rfl) (pe_op op_sub (pe_fn (ok__law_draw T) (hr.mono (by decide)) pass0 (pa_cons (pv 0) (pa_cons (pe_op op_mul pe_int (pv 2)) pa_nil))) (pv 2)))
      (pss_one (ps_expr (k_app K rfl (pv 4) (pe_tup (pa_cons (pv 6) (pa_cons (pe_op op_add (pv 6) (pe_fn (ok__law_draw T) (hr.mono (by decide)) pass0 (pa_cons (pv 0) (pa_cons (pv 3) pa_nil)))) pa_nil))))))))
      (pss_one (ps_ret (pv 4)))))), ?_⟩
  refine q_parP (K := K) dr (ep_pick (l := [(3 : Int), 8, 30]) (fun _ _ => er_frz (erl_lst (ea_cons er_int (ea_cons er_int (ea_cons er_int ea_nil))))) (sub_dr rfl) (by decide) (by decide)) (fun _ _ => ep_pick (l := [(2 : Int), 4, 20]) (fun _ _ => er_frz (erl_lst (ea_cons er_int (ea_cons er_int (ea_cons er_int ea_nil))))) (sub_dr rfl) (by decide) (by decide)) (fun vf vw H0 far wide m0 d0 hf hw rf rw' => ?_)
  have hf : 3 ≤ far ∧ far ≤ 30 := by
    rcases List.mem_cons.mp hf with h | h
    · omega
    · rcases List.mem_cons.mp h with h | h
      · omega
      · have := List.mem_singleton.mp h; omega
  have hw : 2 ≤ wide ∧ wide ≤ 20 := by
    rcases List.mem_cons.mp hw with h | h
    · omega
    · rcases List.mem_cons.mp h with h | h
      · omega
      · have := List.mem_singleton.mp h; omega
  refine q_setL (K := K) (l := ([] : List (Int × Int))) (erl_lst ea_nil) (fun p vs H1 e1 hp h1 rl => ?_)
  have n1 : p ≠ pd := (d0.pd_ne hp).symm
  have n2 : p ≠ pn := (d0.pn_ne hp).symm
  cases (show vf = .int far from rf); cases (show vw = .int wide from rw')
  refine q_forR (K := K) (d0.mono e1) (ep_op (ep_of fun _ _ => er_int) (fun _ _ => ep_draw (fun _ _ => er_var (x := n) rfl rfl) (sub_dr rfl) (by omega) (by omega)) (fun _ _ _ _ => rr_add)) (fun x hx => by obtain ⟨_, y, rfl, hy, rfl⟩ := hx; omega)
    (fun x i σ' H' => ∃ (l : List (Int × Int)) (a b : Option V), σ' = [some (.ref pd), some (.int n), some (.int far), some (.int wide), some (.ref p), a, b] ∧ l.length = i ∧ (∀ t ∈ l, -30 ≤ t.1 ∧ t.1 < 30 ∧ t.1 ≤ t.2 ∧ t.2 < t.1 + 20) ∧ DM pd pn H0 H' ∧ Dr H' pd pn ∧ Un K H' p l)
    (fun x H2 m d _ => ⟨[], none, none, rfl, rfl, (fun _ h => by cases h), (DM.of e1).trans m, d, Un.dm m n1 n2 (Un.of h1 rl)⟩) (fun x i σ' H' hx hi hP => ?_) (fun x σ' H' hx hP => ?_)
  · obtain ⟨l, a, b, rfl, hl, hok, m, d, u⟩ := hP
    obtain ⟨_, y, rfl, hy, rfl⟩ := hx
    refine q_setP (K := K) d (ep_op (ep_draw (i := 2 * far) (fun _ _ => er_op er_int (er_var (x := far) rfl rfl) (rr_mul (.inl ⟨by decide, by decide⟩))) (sub_dr rfl) (by omega) (by omega)) (fun _ _ => ep_of (x := far) fun _ _ => er_var rfl rfl) (fun _ _ _ _ => rr_sub)) (fun v H2 x m2 d2 hx r => ?_)
    obtain ⟨z, _, hz, rfl, rfl⟩ := hx
    refine s_appP (K := K) d2 rfl (Un.dm m2 n1 n2 u) n1 n2 (ep_pair (ep_of fun _ m => er_var rfl (Rp.mono m.sf r)) (fun x hx => ep_op (ep_of fun _ m => er_var rfl (Rp.mono m.sf r)) (fun _ _ => ep_draw (i := wide) (fun _ _ => er_var rfl rfl) (sub_dr rfl) (by omega) (by omega)) (fun _ _ _ _ => rr_add))) (by omega) (fun H3 t hb d3 ht u3 => ?_)
    refine ⟨l ++ [t], _, _, rfl, by rw [List.length_append, hl]; rfl, fun s hs => ?_, hb _ (m.trans m2) hp, d3, u3⟩
    rcases List.mem_append.mp hs with hs | hs
    · exact hok s hs
    · rw [List.mem_singleton.mp hs]
      obtain ⟨h1, w, k, rfl, hk, h2⟩ := ht
      omega
  · obtain ⟨l, a, b, rfl, hl, hok, m, d, u⟩ := hP
    obtain ⟨_, y, rfl, hy, rfl⟩ := hx
    obtain ⟨us, hu, ru⟩ := u
    exact ⟨.ref p, rfl, q p us l H' ⟨by omega, by omega, hok⟩ (m0.trans m) d (m0.free dr hp d0) hu ru⟩
theorem ok__law_small (T : Txt K mg) : Ok P w K mg base CX0 2 "_law_small" ["_law_draws", "_law_most"] (spDraws K (fun n => 1 ≤ n ∧ n ≤ 100) SmallP) := by
  refine ok_of T.d__law_small sc__law_small (bi2 fun _ _ _ _ _ _ _ _ => rfl) (fun vs H Q E h => by obtain ⟨_, _, _, rfl, _⟩ := h; rfl) (fun f cdv A outer s H vs Q E hr h => ?_)
  have nd := sc__law_small.nd
  obtain ⟨pd, pn, n, rfl, dr, hn, q⟩ := h
  refine ⟨_, (pss_cons (ps_set (i := 2) nd rfl (.inl rfl) (pe_lst pa_nil))
      (pss_cons (ps_for PassesOwn.never rfl (pi_range1 (by rfl) T.n_range (pa_cons (pe_op op_add pe_int (pe_fn (ok__law_draw T) (hr.mono (by decide)) pass0 (pa_cons (pv 0) (pa_cons (pv 1) pa_nil)))) pa_nil)) (pg_name (i := 3) nd rfl (.inl rfl) (.inr rfl)) (pss_cons (ps_set (i := 4) nd rfl (.inl rfl) (pe_op op_sub (pe_fn (ok__law_draw T) (hr.mono (by decide)) pass0 (pa_cons (pv 0) (pa_cons pe_int pa_nil))) pe_int))
      (pss_one (ps_expr (k_app K rfl (pv 2) (pe_tup (pa_cons (pv 4) (pa_cons (pe_op op_add (pv 4) (pe_fn (ok__law_draw T) (hr.mono (by decide)) pass0 (pa_cons (pv 0) (pa_cons pe_int pa_nil)))) pa_nil))))))))
      (pss_one (ps_ret (pv 2))))), ?_⟩
  refine q_setL (K := K) (l := ([] : List (Int × Int))) (erl_lst ea_nil) (fun p vs H1 e1 hp h1 rl => ?_)
  have n1 : p ≠ pd := (dr.pd_ne hp).symm
  have n2 : p ≠ pn := (dr.pn_ne hp).symm
  refine q_forR (K := K) (dr.mono e1) (ep_op (ep_of fun _ _ => er_int) (fun _ _ => ep_draw (fun _ _ => er_var (x := n) rfl rfl) (sub_dr rfl) (by omega) (by omega)) (fun _ _ _ _ => rr_add)) (fun x hx => by obtain ⟨_, y, rfl, hy, rfl⟩ := hx; omega)
    (fun x i σ' H' => ∃ (l : List (Int × Int)) (a b : Option V), σ' = [some (.ref pd), some (.int n), some (.ref p), a, b] ∧ l.length = i ∧ (∀ t ∈ l, -4 ≤ t.1 ∧ t.1 < 4 ∧ t.1 ≤ t.2 ∧ t.2 < t.1 + 4) ∧ DM pd pn H H' ∧ Dr H' pd pn ∧ Un K H' p l)
    (fun x H2 m d _ => ⟨[], none, none, rfl, rfl, (fun _ h => by cases h), (DM.of e1).trans m, d, Un.dm m n1 n2 (Un.of h1 rl)⟩) (fun x i σ' H' hx hi hP => ?_) (fun x σ' H' hx hP => ?_)
  · obtain ⟨l, a, b, rfl, hl, hok, m, d, u⟩ := hP
    obtain ⟨_, y, rfl, hy, rfl⟩ := hx
    refine q_setP (K := K) d (ep_op (ep_draw (fun _ _ => er_int) (sub_dr rfl) (by decide) (by decide)) (fun _ _ => ep_of fun _ _ => er_int) (fun _ _ _ _ => rr_sub)) (fun v H2 x m2 d2 hx r => ?_)
    obtain ⟨z, _, hz, rfl, rfl⟩ := hx
    refine s_appP (K := K) d2 rfl (Un.dm m2 n1 n2 u) n1 n2 (ep_pair (ep_of fun _ m => er_var rfl (Rp.mono m.sf r)) (fun x hx => ep_op (ep_of fun _ m => er_var rfl (Rp.mono m.sf r)) (fun _ _ => ep_draw (fun _ _ => er_int) (sub_dr rfl) (by decide) (by decide)) (fun _ _ _ _ => rr_add))) (by omega) (fun H3 t hb d3 ht u3 => ?_)
    refine ⟨l ++ [t], _, _, rfl, by rw [List.length_append, hl]; rfl, fun s hs => ?_, hb _ (m.trans m2) hp, d3, u3⟩
    rcases List.mem_append.mp hs with hs | hs
    · exact hok s hs
    · rw [List.mem_singleton.mp hs]
      obtain ⟨h1, w, k, rfl, hk, h2⟩ := ht
      omega
  · obtain ⟨l, a, b, rfl, hl, hok, m, d, u⟩ := hP
    obtain ⟨_, y, rfl, hy, rfl⟩ := hx
    obtain ⟨us, hu, ru⟩ := u
    exact ⟨.ref p, rfl, q p us l H' ⟨by omega, by omega, hok⟩ m d hp hu ru⟩
def m__law_inside (x0 : (List (Int × Int))) (x1 : (List Int)) : Bool := ((decide (((x1.length : Nat) : Int) = ((x0.length : Nat) : Int))) && (decide ((mapIf (fun (x469 : Nat) => (!((decide (((x0).getD (x469) (0, 0)).1 ≤ ((x1).getD (x469) 0))) && (decide (((x1).getD (x469) 0) ≤ ((x0).getD (x469) (0, 0)).2))))) (fun (x469 : Nat) => x469) (List.range x1.length)) = ([] : (List Nat)))))
theorem ok__law_inside (T : Txt K mg) : Ok P w K mg base CX0 1 "_law_inside" ["_law_bounds_here", "_law_row"] (sp2 K ((fun b r => b.length ≤ 1000 ∧ r.length ≤ 1000) : (List (Int × Int)) → (List Int) → Prop) m__law_inside) := by
  refine ok_of T.d__law_inside sc__law_inside (bi2 fun _ _ _ _ _ _ _ _ => rfl) len_sp2 (fun f cdv A outer s H vs Q E hr h => ?_)
  have nd := sc__law_inside.nd
  obtain ⟨v0, v1, x0, x1, rfl, r0, r1, hp, q⟩ := h
  refine ⟨_, (pss_one (ps_ret (pe_and (pe_cmpR op_eq (pe_callB (k_len K rfl) (by rfl) T.n_len PySem.boot_len (pa_cons (pv 1) pa_nil)) (pe_callB (k_len K rfl) (by rfl) T.n_len PySem.boot_len (pa_cons (pv 0) pa_nil)) (nomark _)) (pe_one (pe_cmpR (k_eqD K rfl hr.units) (pe_frz (pe_lc (own := [("_law_k", 2)]) rfl nd (pi_range1 (by rfl) T.n_range (pa_cons (pe_callB (k_len K rfl) (by rfl) T.n_len PySem.boot_len (pa_cons (pv 1) pa_nil)) pa_nil)) (blkOk_by (N := N__law_inside) (sc := defScope s__law_inside) (by decide +kernel)) (fun _ _ _ _ _ => (pg_name (i := 2) nd rfl (.inl rfl) (.inr rfl))) (fun _ _ _ _ _ => (pts_one (pt_not (pt_chain op_le op_le (pe_ix (k_ixt K rfl) (pe_ix (k_ixl K rfl) (pv 0) (pv 2) (fun _ _ => rfl)) pe_int (fun _ _ => rfl)) (pe_ix (k_ixl K rfl) (pv 1) (pv 2) (fun _ _ => rfl)) (pe_ix (k_ixt K rfl) (pe_ix (k_ixl K rfl) (pv 0) (pv 2) (fun _ _ => rfl)) pe_int (fun _ _ => rfl)))))) (fun _ _ _ _ _ => (pv 2)))) (pe_frz (pe_lst pa_nil)) (nomark _)))))), ?_⟩
  exact s_ret (K := K) (er_andV (er_op (er_up (er_len (er_var rfl r1))) (er_up (er_len (er_var rfl r0))) rr_eqI) (fun hsc => (er_op (er_frz (erl_lc1 (c := fun (x469 : Nat) => (!((decide (((x0).getD (x469) (0, 0)).1 ≤ ((x1).getD (x469) 0))) && (decide (((x1).getD (x469) 0) ≤ ((x0).getD (x469) (0, 0)).2))))) (f := fun (x469 : Nat) => x469) (src_range1 (er_len (er_var rfl r1)) (by have := hp.2; first | omega | (rw [List.length_range]; omega))) (by have := hp.2; first | omega | (rw [List.length_range]; omega)) (by intros; rfl) (fun x469 hx470 v471 _ e468 r472 => ⟨(et_not (et_test (er_chain (er_op (er_op (er_var rfl (Rp.mono (SF.of e468) r0)) (er_up (er_var rfl r472)) (rr_ixL (x := ((x0).getD (x469) (0, 0))) (by first | exact getD_at (by have := List.mem_range.mp (by assumption); omega) | exact getD_at (by have h1 := List.mem_range.mp (by assumption); have h2 := of_decide_eq_true hsc; omega)))) er_int rr_ixP0) (er_op (er_var rfl (Rp.mono (SF.of e468) r1)) (er_up (er_var rfl r472)) (rr_ixL (x := ((x1).getD (x469) 0)) (by first | exact getD_at (by have := List.mem_range.mp (by assumption); omega) | exact getD_at (by have h1 := List.mem_range.mp (by assumption); have h2 := of_decide_eq_true hsc; omega)))) (er_op (er_op (er_var rfl (Rp.mono (SF.of e468) r0)) (er_up (er_var rfl r472)) (rr_ixL (x := ((x0).getD (x469) (0, 0))) (by first | exact getD_at (by have := List.mem_range.mp (by assumption); omega) | exact getD_at (by have h1 := List.mem_range.mp (by assumption); have h2 := of_decide_eq_true hsc; omega)))) er_int rr_ixP1) rr_le rr_le))), fun _ => (er_var rfl r472)⟩))) (er_frz (erl_lst (α := Nat) ea_nil)) rr_eqT))) (fun u _ e473 rr => q u _ e473 rr)
theorem fold_if {α β : Type} (c : α → Bool) (f : α → β) : ∀ (l : List α) (s : List β), l.foldl (fun s x => if c x = true then s ++ [f x] else s) s = s ++ mapIf c f l
  | [], s => by simp [mapIf]
  | x :: l, s => by
    rw [List.foldl_cons, fold_if c f l]
    by_cases h : c x = true
    · rw [if_pos h]; simp [mapIf, List.filter_cons, h]
    · rw [if_neg h]; simp [mapIf, List.filter_cons, h]
theorem fold_flat {α β : Type} {g : List β → α → List β} {f : α → List β} (h : ∀ s x, g s x = s ++ f x) : ∀ (l : List α) (s : List β), l.foldl g s = s ++ l.flatMap f
  | [], s => by simp
  | x :: l, s => by rw [List.foldl_cons, fold_flat h l, h, List.flatMap_cons, List.append_assoc]
theorem flat_le {α β : Type} {f : α → List β} {n : Nat} (h : ∀ x, (f x).length ≤ n) : ∀ l : List α, (l.flatMap f).length ≤ l.length * n
  | [] => by simp
  | x :: l => by
    rw [List.flatMap_cons, List.length_append, List.length_cons, Nat.succ_mul]
    have := h x; have := flat_le h l; omega
/-- all orders of places, row by row -/
def pExt (n : Nat) (row : List Int) : List (List Int) := mapIf (fun p : Nat => neg true (decide (((p : Nat) : Int) ∈ row))) (fun p : Nat => row ++ [((p : Nat) : Int)]) (List.range n)
def pN (n : Nat) : Nat → List (List Int)
  | 0 => [[]]
  | k + 1 => (pN n k).flatMap (pExt n)
theorem pN_fold (n : Nat) : ∀ (l : List Nat) (j : Nat), l.foldl (fun s (_ : Nat) => s.foldl (fun s row => s ++ pExt n row) []) (pN n j) = pN n (j + l.length)
  | [], j => rfl
  | x :: l, j => by
    rw [List.foldl_cons, fold_flat (fun _ _ => rfl), List.nil_append]
    have := pN_fold n l (j + 1)
    rw [List.length_cons, Nat.add_comm l.length 1, ← Nat.add_assoc]
    exact this
theorem p_at {n : Nat} {l : List Nat} {s : List (List Int)} (h : s = l.foldl (fun s (_ : Nat) => s.foldl (fun s row => s ++ pExt n row) []) [[]]) : s = pN n l.length := by
  have := pN_fold n l 0
  rw [Nat.zero_add] at this
  exact h.trans this
theorem p2_at {n : Nat} {l s : List (List Int)} (h : s = l.foldl (fun s row => s ++ pExt n row) []) : s = l.flatMap (pExt n) := by
  rw [h, fold_flat (fun _ _ => rfl), List.nil_append]
theorem pExt_le (n : Nat) (row : List Int) : (pExt n row).length ≤ n := Nat.le_trans mapIf_le (by rw [List.length_range]; exact Nat.le_refl _)
theorem pN_len (n : Nat) : ∀ k, (pN n k).length ≤ n ^ k
  | 0 => by simp [pN]
  | k + 1 => by
    have h1 := flat_le (pExt_le n) (pN n k)
    have h2 := Nat.mul_le_mul_right n (pN_len n k)
    rw [Nat.pow_succ]
    exact Nat.le_trans h1 h2
theorem pN_mem {n : Nat} : ∀ (k : Nat) {r : List Int}, r ∈ pN n k → r.length = k ∧ RowK n r
  | 0, r, h => by
    rw [List.mem_singleton.mp h]; exact ⟨rfl, List.nodup_nil, fun _ h => by cases h⟩
  | k + 1, r, h => by
    obtain ⟨s, hs, hr⟩ := List.mem_flatMap.mp h
    obtain ⟨h1, h2⟩ := pN_mem k hs
    unfold pExt mapIf at hr
    obtain ⟨p, hp, rfl⟩ := List.mem_map.mp hr
    obtain ⟨hp, hc⟩ := List.mem_filter.mp hp
    have hp := List.mem_range.mp hp
    have hc : ((p : Nat) : Int) ∉ s := fun q => by unfold neg at hc; simp [q] at hc
    refine ⟨by rw [List.length_append, List.length_singleton, h1], ?_, fun y hy => ?_⟩
    · refine List.nodup_append.mpr ⟨h2.1, by simp, fun x hx y hy => ?_⟩
      rw [List.mem_singleton.mp hy]
      intro e; exact hc (e ▸ hx)
    · rcases List.mem_append.mp hy with q | q
      · exact h2.2 y q
      · rw [List.mem_singleton.mp q]; omega
theorem pow5 {n k : Nat} (hn : n ≤ 5) (hk : k ≤ 5) : n ^ k ≤ 3125 := by
  have h1 := Nat.pow_le_pow_left hn k
  have h2 := Nat.pow_le_pow_right (show 0 < 5 by decide) hk
  have h3 : (5 : Nat) ^ 5 = 3125 := by decide
  omega
theorem p_row {n k : Nat} {s : List (List Int)} {r : List Int} (hn : n ≤ 5) (h : s = pN n ((List.range n).take k).length) (hr : r ∈ s) : r.length ≤ 5 := by
  rw [h] at hr
  have h1 := (pN_mem _ hr).1
  have h2 : ((List.range n).take k).length ≤ n := by rw [List.length_take, List.length_range]; omega
  omega
theorem p_sz {n k j : Nat} {s s2 : List (List Int)} {row : List Int} (hn : n ≤ 5) (h : s = pN n ((List.range n).take k).length) (h2 : s2 = (s.take j).flatMap (pExt n)) : s2.length + (pExt n row).length ≤ 1000000 := by
  have e1 : ((List.range n).take k).length ≤ 5 := by rw [List.length_take, List.length_range]; omega
  have e2 := pN_len n ((List.range n).take k).length
  have e3 := pow5 hn e1
  have e4 := flat_le (pExt_le n) (s.take j)
  have e5 : (s.take j).length ≤ s.length := by rw [List.length_take]; exact Nat.min_le_right _ _
  have e6 := pExt_le n row
  have e7 : (s.take j).length * n ≤ 3125 * 5 := Nat.mul_le_mul (by rw [h] at e5 ⊢; omega) hn
  rw [h2]; omega

def m__law_orders (x0 : Nat) : (List (List Int)) := (List.foldl (fun (s_l1 : (List (List Int))) (k_l1 : Nat) => ((List.foldl (fun (s_l2 : (List (List Int))) (row_l2 : (List Int)) => ((s_l2 ++ (mapIf (fun (x516 : Nat) => (neg true (decide (((x516 : Nat) : Int) ∈ row_l2)))) (fun (x516 : Nat) => (row_l2 ++ ([((x516 : Nat) : Int)] : (List Int)))) (List.range x0))) : (List (List Int)))) ([] : (List (List Int))) s_l1) : (List (List Int)))) ([([] : (List Int))] : (List (List Int))) (List.range x0))
theorem ok__law_orders (T : Txt K mg) : Ok P w K mg base CX0 1 "_law_orders" ["_law_size"] (sp1 K ((fun n => n ≤ 5) : Nat → Prop) m__law_orders) := by
  refine ok_of T.d__law_orders sc__law_orders (bi1 fun _ _ _ _ _ _ _ => rfl) len_sp1 (fun f cdv A outer s H vs Q E hr h => ?_)
  have nd := sc__law_orders.nd
  obtain ⟨v0, x0, rfl, r0, hp, q⟩ := h
  refine ⟨_, (pss_cons (ps_set (i := 1) nd rfl (.inl rfl) (pe_frz (pe_lst (pa_cons (pe_frz (pe_lst pa_nil)) pa_nil))))
      (pss_cons (ps_for PassesOwn.never rfl (pi_range1 (by rfl) T.n_range (pa_cons (pv 0) pa_nil)) (pg_name (i := 2) nd rfl (.inl rfl) (.inr rfl)) (pss_cons (ps_set (i := 3) nd rfl (.inl rfl) (pe_frz (pe_lst pa_nil)))
      (pss_cons (ps_for PassesOwn.never rfl (k_pl K rfl (pv 1)) (pg_name (i := 4) nd rfl (.inr rfl) (.inl rfl)) (pss_one (ps_set (i := 3) nd rfl (.inl rfl) (pe_frz (pe_op op_catR (pv 3) (pe_frz (pe_lc (own := [("_law_place", 5)]) rfl nd (pi_range1 (by rfl) T.n_range (pa_cons (pv 0) pa_nil)) (blkOk_by (N := N__law_orders) (sc := defScope s__law_orders) (by decide +kernel)) (fun _ _ _ _ _ => (pg_name (i := 5) nd rfl (.inl rfl) (.inr rfl))) (fun _ _ _ _ _ => (pts_one (pt_cmpR (k_notIn K rfl) (pv 5) (pv 4) (by rfl)))) (fun _ _ _ _ _ => (pe_frz (pe_op op_catR (pv 4) (pe_frz (pe_lst (pa_cons (pv 5) pa_nil)))))))))))))
      (pss_one (ps_set (i := 1) nd rfl (.inl rfl) (pv 3))))))
      (pss_one (ps_ret (pv 1))))), ?_⟩
  refine q_set (K := K) (er_frz (erl_lst (α := (List Int)) (ea_cons (er_frz (erl_lst (α := Int) ea_nil)) ea_nil))) (fun v481 _ e479 r480 => ?_)
  -- for _law_k in range(_law_size)
  refine q_for (K := K) (src_range1 (er_var rfl (Rp.mono (SF.of e479) r0)) (by first | omega | (rw [List.length_range]; omega) | (have := p_row hp (p_at (n := x0) hturn1) (by assumption); simp only [List.length_singleton]; omega) | exact p_sz hp (p_at hturn1) (p2_at hturn2))) (fun H1 k σ' H' => ∃ (s_l1 : (List (List Int))) (w483 : V) (y484 : Option V) (y485 : Option V) (y486 : Option V), σ' = [some v0, some w483, y484, y485, y486, none] ∧ s_l1 = (List.take k (List.range x0)).foldl (fun (s_l1 : (List (List Int))) (k_l1 : Nat) => ((List.foldl (fun (s_l2 : (List (List Int))) (row_l2 : (List Int)) => ((s_l2 ++ (mapIf (fun (x516 : Nat) => (neg true (decide (((x516 : Nat) : Int) ∈ row_l2)))) (fun (x516 : Nat) => (row_l2 ++ ([((x516 : Nat) : Int)] : (List Int)))) (List.range x0))) : (List (List Int)))) ([] : (List (List Int))) s_l1) : (List (List Int)))) ([([] : (List Int))] : (List (List Int))) ∧ Mus [] H1 H' ∧ Rp.rep K H' w483 s_l1) (fun H1 e => ⟨([([] : (List Int))] : (List (List Int))), _, _, _, _, rfl, rfl, Mus.refl _, (Rp.mono (SF.of e) r480)⟩) (fun _ _ _ _ h => by obtain ⟨_, _, _, _, _, _, _, m, _⟩ := h; exact m.sf) (fun H1 k493 k_l1 σ' H' vk_l1 _ e490 hx489 hP e491 rk_l1 => ?_) (fun H1 σ' H' e490 hP => ?_)
  ·
    obtain ⟨s_l1, w483, y484, y485, y486, rfl, hs487, m492, r494⟩ := hP
    refine s_gn ?_
    have hk_l1 := List.mem_of_getElem? hx489
    have hturn1 := hs487
    have r496 := (Rp.mono ((((SF.of e479).trans (SF.of e490)).trans m492.sf).trans (SF.of e491)) r0)
    refine q_set (K := K) (er_frz (erl_lst (α := (List Int)) ea_nil)) (fun v499 _ e497 r498 => ?_)
    -- for _law_row in _law_rows
    refine q_for (K := K) (src_list (er_var rfl (Rp.mono ((SF.of e491).trans (SF.of e497)) r494))) (fun H1 k σ' H' => ∃ (s_l2 : (List (List Int))) (w501 : V) (y502 : Option V), σ' = [some v0, some w483, some vk_l1, some w501, y502, none] ∧ s_l2 = (List.take k s_l1).foldl (fun (s_l2 : (List (List Int))) (row_l2 : (List Int)) => ((s_l2 ++ (mapIf (fun (x516 : Nat) => (neg true (decide (((x516 : Nat) : Int) ∈ row_l2)))) (fun (x516 : Nat) => (row_l2 ++ ([((x516 : Nat) : Int)] : (List Int)))) (List.range x0))) : (List (List Int)))) ([] : (List (List Int))) ∧ Mus [] H1 H' ∧ Rp.rep K H' w501 s_l2) (fun H1 e => ⟨([] : (List (List Int))), _, _, rfl, rfl, Mus.refl _, (Rp.mono (SF.of e) r498)⟩) (fun _ _ _ _ h => by obtain ⟨_, _, _, _, _, m, _⟩ := h; exact m.sf) (fun H1 k509 row_l2 σ' H' vrow_l2 _ e506 hx505 hP e507 rrow_l2 => ?_) (fun H1 σ' H' e506 hP => ?_)
    ·
      obtain ⟨s_l2, w501, y502, rfl, hs503, m508, r510⟩ := hP
      refine s_gn ?_
      have hrow_l2 := List.mem_of_getElem? hx505
      have hturn2 := hs503
      refine q_last ?_
      have r512 := (Rp.mono ((((SF.of e497).trans (SF.of e506)).trans m508.sf).trans (SF.of e507)) r496)
      have r513 := (Rp.mono (((((SF.of e491).trans (SF.of e497)).trans (SF.of e506)).trans m508.sf).trans (SF.of e507)) r494)
      have r514 := (Rp.mono ((((SF.of e497).trans (SF.of e506)).trans m508.sf).trans (SF.of e507)) rk_l1)
      refine q_set (K := K) (er_frz (erl_cat (er_var rfl (Rp.mono (SF.of e507) r510)) (er_frz (erl_lc1 (c := fun (x516 : Nat) => (neg true (decide (((x516 : Nat) : Int) ∈ row_l2)))) (f := fun (x516 : Nat) => (row_l2 ++ ([((x516 : Nat) : Int)] : (List Int)))) (src_range1 (er_var rfl r512) (by first | omega | (rw [List.length_range]; omega) | (have := p_row hp (p_at (n := x0) hturn1) (by assumption); simp only [List.length_singleton]; omega) | exact p_sz hp (p_at hturn1) (p2_at hturn2))) (by first | omega | (rw [List.length_range]; omega) | (have := p_row hp (p_at (n := x0) hturn1) (by assumption); simp only [List.length_singleton]; omega) | exact p_sz hp (p_at hturn1) (p2_at hturn2)) (by intros; rfl) (fun x516 hx517 v518 _ e515 r519 => ⟨(et_test (er_op (er_up (er_var rfl r519)) (er_var rfl (Rp.mono (SF.of e515) rrow_l2)) (rr_inI (n := true)))), fun _ => (er_frz (erl_cat (er_var rfl (Rp.mono (SF.of e515) rrow_l2)) (er_frz (erl_lst (α := Int) (ea_cons (er_up (er_var rfl r519)) ea_nil))) (by first | omega | (rw [List.length_range]; omega) | (have := p_row hp (p_at (n := x0) hturn1) (by assumption); simp only [List.length_singleton]; omega) | exact p_sz hp (p_at hturn1) (p2_at hturn2))))⟩))) (by first | omega | (rw [List.length_range]; omega) | (have := p_row hp (p_at (n := x0) hturn1) (by assumption); simp only [List.length_singleton]; omega) | exact p_sz hp (p_at hturn1) (p2_at hturn2)))) (fun v522 _ e520 r521 => ?_)
      refine s_nx ?_
      exact ⟨(s_l2 ++ (mapIf (fun (x516 : Nat) => (neg true (decide (((x516 : Nat) : Int) ∈ row_l2)))) (fun (x516 : Nat) => (row_l2 ++ ([((x516 : Nat) : Int)] : (List Int)))) (List.range x0))), _, _, rfl, (fold_step hx505 hs503), (((Mus.baseS (Mus.refl _) m508 all0).trans (Mus.of e507)).trans (Mus.of e520)), r521⟩
    ·
      obtain ⟨s_l2, w501, y502, rfl, hs503, m508, r510⟩ := hP
      replace hs503 := fold_all hs503
      subst hs503
      refine q_last ?_
      have r523 := (Rp.mono ((((SF.of e491).trans (SF.of e497)).trans (SF.of e506)).trans m508.sf) r494)
      refine q_set (K := K) (er_var rfl r510) (fun v526 _ e524 r525 => ?_)
      refine s_nx ?_
      exact ⟨(List.foldl (fun (s_l2 : (List (List Int))) (row_l2 : (List Int)) => ((s_l2 ++ (mapIf (fun (x516 : Nat) => (neg true (decide (((x516 : Nat) : Int) ∈ row_l2)))) (fun (x516 : Nat) => (row_l2 ++ ([((x516 : Nat) : Int)] : (List Int)))) (List.range x0))) : (List (List Int)))) ([] : (List (List Int))) s_l1), _, _, _, _, rfl, (fold_step hx489 hs487), ((Mus.baseS ((((Mus.baseS (Mus.refl _) m492 all0).trans (Mus.of e491)).trans (Mus.of e497)).trans (Mus.of e506)) m508 all0).trans (Mus.of e524)), r525⟩
  ·
    obtain ⟨s_l1, w483, y484, y485, y486, rfl, hs487, m492, r494⟩ := hP
    replace hs487 := fold_all hs487
    subst hs487
    exact s_ret (K := K) (er_var rfl r494) (fun u _ e527 rr => q u _ (Mus.same0 ((Mus.baseS (((Mus.refl _).trans (Mus.of e479)).trans (Mus.of e490)) m492 all0).trans (Mus.of e527))) rr)
def m_call_choice (x0 : Int) (x1 : (List (Int × Int))) (x2 : (List Int)) : (Sum (List Int) Str) := (elimX (m_choice_for x1 x2) (fun c536 => (Sum.inr (m__law_error (Xn.mk c536)) : (Sum (List Int) Str))) (fun (z539 : (List Int)) => (Sum.inl z539 : (Sum (List Int) Str))))
theorem ok__law_call (T : Txt K mg) : Ok P w K mg base CX0 12 "_law_call" ["_law_kind", "_law_bounds_here", "_law_thing"] (sp3 K ((fun k b o => k = 0 ∧ BOk b ∧ o.length = b.length ∧ (∀ y ∈ o, 0 ≤ y ∧ y < (b.length : Int)) ∧ o.Nodup) : Int → (List (Int × Int)) → (List Int) → Prop) m_call_choice) := by
  refine ok_of T.d__law_call sc__law_call (bi3 fun _ _ _ _ _ _ _ _ _ => rfl) len_sp3 (fun f cdv A outer s H vs Q E hr h => ?_)
  have nd := sc__law_call.nd
  obtain ⟨v0, v1, v2, x0, x1, x2, rfl, r0, r1, r2, hp, q⟩ := h
  refine ⟨_, (pss_cons (ps_set (i := 3) nd rfl (.inl rfl) pe_non)
      (pss_cons (ps_set (i := 4) nd rfl (.inl rfl) pe_non)
      (pss_cons (ps_try_kept (i := 5) (c := erC K "BoundError") rfl rfl nd rfl rfl ⟨rfl, by decide, .inl T.x.b⟩ rfl (fun W pn xe tk _ => (pss_one (ps_if (pt_cmpR op_eq (pv 0) pe_int (nomark _)) (pss_one (ps_set (i := 3) nd rfl (.inl rfl) (pe_frz (pe_fnX (ok_choice_forX T) (hr.mono (by decide)) tk (pa_cons (pv 1) (pa_cons (pv 2) pa_nil)))))) (pss_one (ps_if (pt_cmpR op_eq (pv 0) pe_int (nomark _)) (pss_one (ps_set (i := 3) nd rfl (.inl rfl) (pe_fnX (ok_rank_of_orderX T) (hr.mono (by decide)) tk (pa_cons (pv 1) (pa_cons (pv 2) pa_nil))))) (pss_one (ps_set (i := 3) nd rfl (.inl rfl) (pe_fnX (ok_order_atX T) (hr.mono (by decide)) tk (pa_cons (pv 1) (pa_cons (pv 2) pa_nil)))))))))) (fun a oe cls pn hz => (pss_one (ps_set (i := 4) nd rfl (.inl rfl) (pv 5)))))
      (pss_one (ps_ret (pe_ifExp (pt_cmpR op_isN1 (pv 4) pe_non (nomark _)) (pv 3) (pe_fn (ok__law_error T) (hr.mono (by decide)) pass0 (pa_cons (pv 4) pa_nil)))))))), ?_⟩
  refine q_set (K := K) er_non (fun v530 _ e528 r529 => ?_)
  refine q_set (K := K) (er_O0 (α := Xn)) (fun v533 _ e531 r532 => ?_)
  -- try
  refine q_tryK ?_
  refine q_last ?_
  refine q_if (K := K) (et_test (er_op (er_var rfl (Rp.mono ((SF.of e528).trans (SF.of e531)) r0)) er_int rr_eqI)) (fun hc535 _ e534 => ?_) (fun hc535 _ e534 => ?_)
  ·
    refine q_last ?_
    refine q_setX (K := K) (ex_frz (exl_call2 (er_var rfl (Rp.mono (((SF.of e528).trans (SF.of e531)).trans (SF.of e534)) r1)) (er_var rfl (Rp.mono (((SF.of e528).trans (SF.of e531)).trans (SF.of e534)) r2)) (by exact hp.2))) (fun c536 hE537 hM538 _ e541 => ⟨rfl, (T.x.e _ hM538).ex, fun a_ ha_ => ⟨.ref a_, rfl, fun hna_ => ?_⟩⟩) (fun z539 v542 _ hy540 e541 r543 => ?_)
    ·
      have r544 := (Rp.mono (((((SF.of e528).trans (SF.of e531)).trans (SF.of e534)).trans (SF.of e541)).trans (SF.of (same_new (o := ExT (erC K c536) a_) hna_))) r0)
      have r545 := (Rp.mono (((((SF.of e528).trans (SF.of e531)).trans (SF.of e534)).trans (SF.of e541)).trans (SF.of (same_new (o := ExT (erC K c536) a_) hna_))) r1)
      have r546 := (Rp.mono (((((SF.of e528).trans (SF.of e531)).trans (SF.of e534)).trans (SF.of e541)).trans (SF.of (same_new (o := ExT (erC K c536) a_) hna_))) r2)
      have r547 := (Rp.mono ((((SF.of e531).trans (SF.of e534)).trans (SF.of e541)).trans (SF.of (same_new (o := ExT (erC K c536) a_) hna_))) r529)
      exact s_ret (K := K) (er_inr (α := (List Int)) (er_ifF (et_test (Er.to (er_isN (er_var rfl rep_err)) (show _ = false from rfl))) (er_call1 (er_Oget (er_var rfl rep_err) rfl) (by assumption)))) (fun u _ e548 rr => q u _ (((((e528.trans e531).trans e534).trans e541).trans (same_new (o := ExT (erC K c536) a_) hna_)).trans e548) (by rw [(show m_call_choice x0 x1 x2 = (Sum.inr (m__law_error (Xn.mk c536)) : (Sum (List Int) Str)) from by unfold m_call_choice; rw [elimX_err hE537])]; exact rr))
    ·
      refine s_nxz ?_
      refine s_nxz ?_
      have r549 := (Rp.mono ((((SF.of e528).trans (SF.of e531)).trans (SF.of e534)).trans (SF.of e541)) r0)
      have r550 := (Rp.mono ((((SF.of e528).trans (SF.of e531)).trans (SF.of e534)).trans (SF.of e541)) r1)
      have r551 := (Rp.mono ((((SF.of e528).trans (SF.of e531)).trans (SF.of e534)).trans (SF.of e541)) r2)
      exact s_ret (K := K) (er_inl (β := Str) (er_ifT (et_test (Er.to (er_isN (er_var rfl (Rp.mono ((SF.of e534).trans (SF.of e541)) r532))) (show _ = true from rfl))) (er_var rfl r543))) (fun u _ e552 rr => q u _ ((((e528.trans e531).trans e534).trans e541).trans e552) (by rw [(show m_call_choice x0 x1 x2 = (Sum.inl z539 : (Sum (List Int) Str)) from by unfold m_call_choice; rw [elimX_ok hy540])]; exact rr))
  · exact absurd hc535 (by rw [show x0 = _ from hp.1]; decide)
def m_call_rank (x0 : Int) (x1 : (List (Int × Int))) (x2 : (List Int)) : (Sum Int Str) := (elimX (m_rank_of_order x1 x2) (fun c566 => (Sum.inr (m__law_error (Xn.mk c566)) : (Sum Int Str))) (fun (z569 : Int) => (Sum.inl z569 : (Sum Int Str))))
theorem ok__law_call_2 (T : Txt K mg) : Ok P w K mg base CX0 12 "_law_call" ["_law_kind", "_law_bounds_here", "_law_thing"] (sp3 K ((fun k b o => k = 1 ∧ BOk b ∧ o.length = b.length ∧ (∀ y ∈ o, 0 ≤ y ∧ y < (b.length : Int)) ∧ o.Nodup) : Int → (List (Int × Int)) → (List Int) → Prop) m_call_rank) := by
  refine ok_of T.d__law_call sc__law_call (bi3 fun _ _ _ _ _ _ _ _ _ => rfl) len_sp3 (fun f cdv A outer s H vs Q E hr h => ?_)
  have nd := sc__law_call.nd
  obtain ⟨v0, v1, v2, x0, x1, x2, rfl, r0, r1, r2, hp, q⟩ := h
  refine ⟨_, (pss_cons (ps_set (i := 3) nd rfl (.inl rfl) pe_non)
      (pss_cons (ps_set (i := 4) nd rfl (.inl rfl) pe_non)
      (pss_cons (ps_try_kept (i := 5) (c := erC K "BoundError") rfl rfl nd rfl rfl ⟨rfl, by decide, .inl T.x.b⟩ rfl (fun W pn xe tk _ => (pss_one (ps_if (pt_cmpR op_eq (pv 0) pe_int (nomark _)) (pss_one (ps_set (i := 3) nd rfl (.inl rfl) (pe_frz (pe_fnX (ok_choice_forX T) (hr.mono (by decide)) tk (pa_cons (pv 1) (pa_cons (pv 2) pa_nil)))))) (pss_one (ps_if (pt_cmpR op_eq (pv 0) pe_int (nomark _)) (pss_one (ps_set (i := 3) nd rfl (.inl rfl) (pe_fnX (ok_rank_of_orderX T) (hr.mono (by decide)) tk (pa_cons (pv 1) (pa_cons (pv 2) pa_nil))))) (pss_one (ps_set (i := 3) nd rfl (.inl rfl) (pe_fnX (ok_order_atX T) (hr.mono (by decide)) tk (pa_cons (pv 1) (pa_cons (pv 2) pa_nil)))))))))) (fun a oe cls pn hz => (pss_one (ps_set (i := 4) nd rfl (.inl rfl) (pv 5)))))
      (pss_one (ps_ret (pe_ifExp (pt_cmpR op_isN1 (pv 4) pe_non (nomark _)) (pv 3) (pe_fn (ok__law_error T) (hr.mono (by decide)) pass0 (pa_cons (pv 4) pa_nil)))))))), ?_⟩
  refine q_set (K := K) er_non (fun v555 _ e553 r554 => ?_)
  refine q_set (K := K) (er_O0 (α := Xn)) (fun v558 _ e556 r557 => ?_)
  -- try
  refine q_tryK ?_
  refine q_last ?_
  refine q_if (K := K) (et_test (er_op (er_var rfl (Rp.mono ((SF.of e553).trans (SF.of e556)) r0)) er_int rr_eqI)) (fun hc560 _ e559 => ?_) (fun hc560 _ e559 => ?_)
  · exact absurd hc560 (by rw [show x0 = _ from hp.1]; decide)
  ·
    refine q_last ?_
    refine q_if (K := K) (et_test (er_op (er_var rfl (Rp.mono (((SF.of e553).trans (SF.of e556)).trans (SF.of e559)) r0)) er_int rr_eqI)) (fun hc562 _ e561 => ?_) (fun hc562 _ e561 => ?_)
    ·
      refine q_last ?_
      have r563 := (Rp.mono ((((SF.of e553).trans (SF.of e556)).trans (SF.of e559)).trans (SF.of e561)) r0)
      have r564 := (Rp.mono ((((SF.of e553).trans (SF.of e556)).trans (SF.of e559)).trans (SF.of e561)) r1)
      have r565 := (Rp.mono ((((SF.of e553).trans (SF.of e556)).trans (SF.of e559)).trans (SF.of e561)) r2)
      refine q_setX (K := K) (ex_call2 (er_var rfl r564) (er_var rfl r565) (by exact hp.2)) (fun c566 hE567 hM568 _ e571 => ⟨rfl, (T.x.e _ hM568).ex, fun a_ ha_ => ⟨.ref a_, rfl, fun hna_ => ?_⟩⟩) (fun z569 v572 _ hy570 e571 r573 => ?_)
      ·
        have r574 := (Rp.mono (((((SF.of e556).trans (SF.of e559)).trans (SF.of e561)).trans (SF.of e571)).trans (SF.of (same_new (o := ExT (erC K c566) a_) hna_))) r554)
        exact s_ret (K := K) (er_inr (α := Int) (er_ifF (et_test (Er.to (er_isN (er_var rfl rep_err)) (show _ = false from rfl))) (er_call1 (er_Oget (er_var rfl rep_err) rfl) (by assumption)))) (fun u _ e575 rr => q u _ ((((((e553.trans e556).trans e559).trans e561).trans e571).trans (same_new (o := ExT (erC K c566) a_) hna_)).trans e575) (by rw [(show m_call_rank x0 x1 x2 = (Sum.inr (m__law_error (Xn.mk c566)) : (Sum Int Str)) from by unfold m_call_rank; rw [elimX_err hE567])]; exact rr))
      ·
        refine s_nxz ?_
        refine s_nxz ?_
        refine s_nxz ?_
        exact s_ret (K := K) (er_inl (β := Str) (er_ifT (et_test (Er.to (er_isN (er_var rfl (Rp.mono (((SF.of e559).trans (SF.of e561)).trans (SF.of e571)) r557))) (show _ = true from rfl))) (er_var rfl r573))) (fun u _ e576 rr => q u _ (((((e553.trans e556).trans e559).trans e561).trans e571).trans e576) (by rw [(show m_call_rank x0 x1 x2 = (Sum.inl z569 : (Sum Int Str)) from by unfold m_call_rank; rw [elimX_ok hy570])]; exact rr))
    · exact absurd hc562 (by rw [show x0 = _ from hp.1]; decide)
def m_call_at (x0 : Int) (x1 : (List (Int × Int))) (x2 : Int) : (Sum (List Int) Str) := (elimX (m_order_at x1 x2) (fun c590 => (Sum.inr (m__law_error (Xn.mk c590)) : (Sum (List Int) Str))) (fun (z593 : (List Int)) => (Sum.inl z593 : (Sum (List Int) Str))))
theorem ok__law_call_3 (T : Txt K mg) : Ok P w K mg base CX0 12 "_law_call" ["_law_kind", "_law_bounds_here", "_law_thing"] (sp3 K ((fun k b _ => k = 2 ∧ BOk b) : Int → (List (Int × Int)) → Int → Prop) m_call_at) := by
  refine ok_of T.d__law_call sc__law_call (bi3 fun _ _ _ _ _ _ _ _ _ => rfl) len_sp3 (fun f cdv A outer s H vs Q E hr h => ?_)
  have nd := sc__law_call.nd
  obtain ⟨v0, v1, v2, x0, x1, x2, rfl, r0, r1, r2, hp, q⟩ := h
  refine ⟨_, (pss_cons (ps_set (i := 3) nd rfl (.inl rfl) pe_non)
      (pss_cons (ps_set (i := 4) nd rfl (.inl rfl) pe_non)
      (pss_cons (ps_try_kept (i := 5) (c := erC K "BoundError") rfl rfl nd rfl rfl ⟨rfl, by decide, .inl T.x.b⟩ rfl (fun W pn xe tk _ => (pss_one (ps_if (pt_cmpR op_eq (pv 0) pe_int (nomark _)) (pss_one (ps_set (i := 3) nd rfl (.inl rfl) (pe_frz (pe_fnX (ok_choice_forX T) (hr.mono (by decide)) tk (pa_cons (pv 1) (pa_cons (pv 2) pa_nil)))))) (pss_one (ps_if (pt_cmpR op_eq (pv 0) pe_int (nomark _)) (pss_one (ps_set (i := 3) nd rfl (.inl rfl) (pe_fnX (ok_rank_of_orderX T) (hr.mono (by decide)) tk (pa_cons (pv 1) (pa_cons (pv 2) pa_nil))))) (pss_one (ps_set (i := 3) nd rfl (.inl rfl) (pe_fnX (ok_order_atX T) (hr.mono (by decide)) tk (pa_cons (pv 1) (pa_cons (pv 2) pa_nil)))))))))) (fun a oe cls pn hz => (pss_one (ps_set (i := 4) nd rfl (.inl rfl) (pv 5)))))
      (pss_one (ps_ret (pe_ifExp (pt_cmpR op_isN1 (pv 4) pe_non (nomark _)) (pv 3) (pe_fn (ok__law_error T) (hr.mono (by decide)) pass0 (pa_cons (pv 4) pa_nil)))))))), ?_⟩
  refine q_set (K := K) er_non (fun v579 _ e577 r578 => ?_)
  refine q_set (K := K) (er_O0 (α := Xn)) (fun v582 _ e580 r581 => ?_)
  -- try
  refine q_tryK ?_
  refine q_last ?_
  refine q_if (K := K) (et_test (er_op (er_var rfl (Rp.mono ((SF.of e577).trans (SF.of e580)) r0)) er_int rr_eqI)) (fun hc584 _ e583 => ?_) (fun hc584 _ e583 => ?_)
  · exact absurd hc584 (by rw [show x0 = _ from hp.1]; decide)
  ·
    refine q_last ?_
    refine q_if (K := K) (et_test (er_op (er_var rfl (Rp.mono (((SF.of e577).trans (SF.of e580)).trans (SF.of e583)) r0)) er_int rr_eqI)) (fun hc586 _ e585 => ?_) (fun hc586 _ e585 => ?_)
    · exact absurd hc586 (by rw [show x0 = _ from hp.1]; decide)
    ·
      refine q_last ?_
      have r587 := (Rp.mono ((((SF.of e577).trans (SF.of e580)).trans (SF.of e583)).trans (SF.of e585)) r0)
      have r588 := (Rp.mono ((((SF.of e577).trans (SF.of e580)).trans (SF.of e583)).trans (SF.of e585)) r1)
      have r589 := (Rp.mono ((((SF.of e577).trans (SF.of e580)).trans (SF.of e583)).trans (SF.of e585)) r2)
      refine q_setX (K := K) (ex_call2 (er_var rfl r588) (er_var rfl r589) (by exact hp.2)) (fun c590 hE591 hM592 _ e595 => ⟨rfl, (T.x.e _ hM592).ex, fun a_ ha_ => ⟨.ref a_, rfl, fun hna_ => ?_⟩⟩) (fun z593 v596 _ hy594 e595 r597 => ?_)
      ·
        have r598 := (Rp.mono (((((SF.of e580).trans (SF.of e583)).trans (SF.of e585)).trans (SF.of e595)).trans (SF.of (same_new (o := ExT (erC K c590) a_) hna_))) r578)
        exact s_ret (K := K) (er_inr (α := (List Int)) (er_ifF (et_test (Er.to (er_isN (er_var rfl rep_err)) (show _ = false from rfl))) (er_call1 (er_Oget (er_var rfl rep_err) rfl) (by assumption)))) (fun u _ e599 rr => q u _ ((((((e577.trans e580).trans e583).trans e585).trans e595).trans (same_new (o := ExT (erC K c590) a_) hna_)).trans e599) (by rw [(show m_call_at x0 x1 x2 = (Sum.inr (m__law_error (Xn.mk c590)) : (Sum (List Int) Str)) from by unfold m_call_at; rw [elimX_err hE591])]; exact rr))
      ·
        refine s_nxz ?_
        refine s_nxz ?_
        refine s_nxz ?_
        exact s_ret (K := K) (er_inl (β := Str) (er_ifT (et_test (Er.to (er_isN (er_var rfl (Rp.mono (((SF.of e583).trans (SF.of e585)).trans (SF.of e595)) r581))) (show _ = true from rfl))) (er_var rfl r597))) (fun u _ e600 rr => q u _ (((((e577.trans e580).trans e583).trans e585).trans e595).trans e600) (by rw [(show m_call_at x0 x1 x2 = (Sum.inl z593 : (Sum (List Int) Str)) from by unfold m_call_at; rw [elimX_ok hy594])]; exact rr))
end
end BL

set_option Elab.async false
set_option linter.all false
set_option maxRecDepth 100000
set_option maxHeartbeats 2000000
namespace BL
open PySem PySem.Spec PyProof.Rows L2
/-- narrower bounds -/
def Nw : List (Int × Int) → List (Int × Int) → Prop
  | [], [] => True
  | p :: b, q :: s => (p.1 ≤ q.1 ∧ q.1 ≤ q.2 ∧ q.2 ≤ p.2) ∧ Nw b s
  | _, _ => False
theorem nw_len : ∀ {b s : List (Int × Int)}, Nw b s → b.length = s.length
  | [], [], _ => rfl
  | _ :: _, _ :: _, h => by rw [List.length_cons, List.length_cons, nw_len h.2]
  | [], _ :: _, h => h.elim
  | _ :: _, [], h => h.elim
theorem nw_snoc : ∀ {b s : List (Int × Int)} {p q : Int × Int}, Nw b s → p.1 ≤ q.1 ∧ q.1 ≤ q.2 ∧ q.2 ≤ p.2 → Nw (b ++ [p]) (s ++ [q])
  | [], [], _, _, _, h => ⟨h, trivial⟩
  | _ :: _, _ :: _, _, _, h, h2 => ⟨h.1, nw_snoc h.2 h2⟩
  | [], _ :: _, _, _, h, _ => h.elim
  | _ :: _, [], _, _, h, _ => h.elim
theorem nw_mem : ∀ {b s : List (Int × Int)}, Nw b s → ∀ q ∈ s, ∃ p ∈ b, p.1 ≤ q.1 ∧ q.1 ≤ q.2 ∧ q.2 ≤ p.2
  | [], [], _, _, hq => by cases hq
  | p :: b, z :: s, h, q, hq => by
    rcases List.mem_cons.mp hq with e | e
    · rw [e]; exact ⟨p, List.mem_cons_self .., h.1⟩
    · obtain ⟨p', h1, h2⟩ := nw_mem h.2 q e
      exact ⟨p', List.mem_cons_of_mem _ h1, h2⟩
  | [], _ :: _, h, _, _ => h.elim
  | _ :: _, [], h, _, _ => h.elim
theorem nw_bok {b s : List (Int × Int)} (hB : BOk b) (h : Nw b s) : BOk s := by
  refine ⟨by rw [← nw_len h]; exact hB.1, by rw [← nw_len h]; exact hB.2.1, fun q hq => ?_⟩
  obtain ⟨p, hp, h2⟩ := nw_mem h q hq
  have := hB.2.2 p hp
  omega
/-! ### orders of places: all that go on from some, those that are possible -/
theorem mapIf_id {α : Type} {c : α → Bool} {l : List α} : mapIf c (fun x : α => x) l = l.filter c := by unfold mapIf; rw [List.map_id']
def LE1 (b : List (Int × Int)) (x y : Int) : Prop := (b.getD x.toNat (0, 0)).1 ≤ (b.getD y.toNat (0, 0)).2
/-- the places that are left -/
def lf (n : Nat) (d : List Int) : List Nat := (List.range n).filter fun k : Nat => neg true (decide (((k : Nat) : Int) ∈ d))
theorem lf_mem {n : Nat} {d : List Int} {k : Nat} : k ∈ lf n d ↔ k < n ∧ ((k : Nat) : Int) ∉ d := by
  unfold lf neg
  rw [List.mem_filter, List.mem_range]
  simp
def AO (n : Nat) : Nat → List Int → List (List Int)
  | 0, _ => [[]]
  | m + 1, d => (lf n d).flatMap fun k : Nat => (AO n m (d ++ [((k : Nat) : Int)])).map (((k : Nat) : Int) :: ·)
def CO (b : List (Int × Int)) : Nat → List Int → List (List Int)
  | 0, _ => [[]]
  | m + 1, d => (m_next_places b d).flatMap fun k : Nat => (CO b m (d ++ [((k : Nat) : Int)])).map (((k : Nat) : Int) :: ·)
def ps (b : List (Int × Int)) : List Int → Bool
  | [] => true
  | x :: t => (t.all fun j => decide ((b.getD x.toNat (0, 0)).1 ≤ (b.getD j.toNat (0, 0)).2)) && ps b t
theorem ps_pair {b : List (Int × Int)} : ∀ {o : List Int}, ps b o = true ↔ o.Pairwise (LE1 b)
  | [] => by simp [ps]
  | x :: t => by
    unfold ps
    rw [Bool.and_eq_true, List.pairwise_cons, ps_pair, List.all_eq_true]
    simp only [decide_eq_true_eq, LE1]
theorem flatMap_filter_if {α β : Type} {c : α → Bool} {g : α → List β} : ∀ {l : List α}, (l.flatMap fun k => if c k = true then g k else []) = (l.filter c).flatMap g
  | [] => rfl
  | x :: l => by
    rw [List.flatMap_cons, List.filter_cons, flatMap_filter_if]
    by_cases h : c x = true
    · rw [if_pos h, if_pos h, List.flatMap_cons]
    · rw [if_neg h, if_neg h, List.nil_append]
theorem all_congrL {α : Type} {f g : α → Bool} : ∀ {l : List α}, (∀ x ∈ l, f x = g x) → l.all f = l.all g
  | [], _ => rfl
  | x :: l, h => by rw [List.all_cons, List.all_cons, h x (List.mem_cons_self ..), all_congrL fun y hy => h y (List.mem_cons_of_mem _ hy)]
theorem flatMap_ext {α β : Type} {f g : α → List β} : ∀ {l : List α}, (∀ x ∈ l, f x = g x) → l.flatMap f = l.flatMap g
  | [], _ => rfl
  | x :: l, h => by rw [List.flatMap_cons, List.flatMap_cons, h x (List.mem_cons_self ..), flatMap_ext fun y hy => h y (List.mem_cons_of_mem _ hy)]
theorem filter_flat {α β : Type} {f : α → List β} {p : β → Bool} : ∀ {l : List α}, (l.flatMap f).filter p = l.flatMap fun x => (f x).filter p
  | [] => rfl
  | x :: l => by rw [List.flatMap_cons, List.flatMap_cons, List.filter_append, filter_flat]
theorem np_lf (b : List (Int × Int)) (d : List Int) : m_next_places b d = (lf b.length d).filter fun k : Nat => (lf b.length d).all fun j : Nat => decide ((b.getD k (0, 0)).1 ≤ (b.getD j (0, 0)).2) := by
  unfold m_next_places
  simp only [mapIf_id]
  show (lf b.length d).filter _ = _
  congr 1
  funext k
  rw [List.all_map]; rfl
theorem AO_mem {n : Nat} : ∀ (m : Nat) {d t : List Int}, t ∈ AO n m d → t.length = m ∧ t.Nodup ∧ ∀ y ∈ t, (0 ≤ y ∧ y < (n : Int)) ∧ y ∉ d
  | 0, d, t, h => by rw [List.mem_singleton.mp h]; exact ⟨rfl, List.nodup_nil, fun _ h => by cases h⟩
  | m + 1, d, t, h => by
    obtain ⟨k, hk, ht⟩ := List.mem_flatMap.mp h
    obtain ⟨t', ht', rfl⟩ := List.mem_map.mp ht
    obtain ⟨h1, h2⟩ := lf_mem.mp hk
    obtain ⟨a1, a2, a3⟩ := AO_mem m ht'
    refine ⟨by rw [List.length_cons, a1], List.nodup_cons.mpr ⟨fun q => (a3 _ q).2 (List.mem_append_right _ (List.mem_singleton.mpr rfl)), a2⟩, fun y hy => ?_⟩
    rcases List.mem_cons.mp hy with q | q
    · rw [q]; exact ⟨by omega, h2⟩
    · exact ⟨(a3 y q).1, fun c => (a3 y q).2 (List.mem_append_left _ c)⟩
/-- none twice, as many as there are: all -/
theorem row_all {n : Nat} {o : List Int} (h : RowK n o) (hl : o.length = n) {k : Nat} (hk : k < n) : ((k : Nat) : Int) ∈ o := by
  have h1 := co_srt hl h.2 h.1
  have h2 : ((k : Nat) : Int) ∈ srt o := by rw [h1]; exact co_mem.mpr (by omega)
  exact (srt_perm o).mem_iff.mp h2
theorem AO_row {n m : Nat} {d t : List Int} (hd : RowK n d) (ht : t ∈ AO n m d) : RowK n (d ++ t) := by
  obtain ⟨a1, a2, a3⟩ := AO_mem m ht
  refine ⟨List.nodup_append.mpr ⟨hd.1, a2, fun x hx y hy e => (a3 y hy).2 (e ▸ hx)⟩, fun y hy => ?_⟩
  rcases List.mem_append.mp hy with q | q
  · exact hd.2 y q
  · exact (a3 y q).1
theorem AO_filter {b : List (Int × Int)} (hb : ∀ p ∈ b, p.1 ≤ p.2) : ∀ (m : Nat) {d : List Int}, RowK b.length d → d.length + m = b.length → (AO b.length m d).filter (ps b) = CO b m d
  | 0, _, _, _ => rfl
  | m + 1, d, hd, hl => by
    show ((lf b.length d).flatMap fun k : Nat => (AO b.length m (d ++ [((k : Nat) : Int)])).map (((k : Nat) : Int) :: ·)).filter (ps b) = (m_next_places b d).flatMap _
    rw [filter_flat, np_lf, ← flatMap_filter_if]
    refine flatMap_ext fun k hk => ?_
    obtain ⟨k1, k2⟩ := lf_mem.mp hk
    have hd2 := rowK_snoc hd k1 k2
    have ih := AO_filter hb m hd2 (by rw [List.length_append, List.length_singleton]; omega)
    rw [List.filter_map]
    by_cases c : ((lf b.length d).all fun j : Nat => decide ((b.getD k (0, 0)).1 ≤ (b.getD j (0, 0)).2)) = true
    · rw [if_pos c, ← ih]
      congr 1
      refine List.filter_congr fun t ht => ?_
      obtain ⟨a1, a2, a3⟩ := AO_mem m ht
      show (ps b (((k : Nat) : Int) :: t)) = ps b t
      unfold ps
      rw [show (t.all fun j => decide ((b.getD (((k : Nat) : Int)).toNat (0, 0)).1 ≤ (b.getD j.toNat (0, 0)).2)) = true from ?_, Bool.true_and]
      · cases t <;> rfl
      · rw [List.all_eq_true] at c ⊢
        intro y hy
        have h3 := a3 y hy
        have := c y.toNat (lf_mem.mpr ⟨by omega, fun q => h3.2 (List.mem_append_left _ (by rw [Int.toNat_of_nonneg h3.1.1] at q; exact q))⟩)
        rw [Int.toNat_natCast]; exact this
    · rw [if_neg c, List.filter_eq_nil_iff.mpr, List.map_nil]
      intro t ht hp
      apply c
      have hr := AO_row hd2 ht
      obtain ⟨a1, a2, a3⟩ := AO_mem m ht
      have hall := fun j hj => row_all hr (by rw [List.length_append, List.length_append, List.length_singleton, a1]; omega) (k := j) hj
      have hp2 : ps b (((k : Nat) : Int) :: t) = true := hp
      unfold ps at hp2
      have hp3 := List.all_eq_true.mp (Bool.and_eq_true_iff.mp hp2).1
      rw [List.all_eq_true]
      intro j hj
      obtain ⟨j1, j2⟩ := lf_mem.mp hj
      rcases List.mem_append.mp (hall j j1) with q | q
      · rcases List.mem_append.mp q with q | q
        · exact absurd q j2
        · have e : j = k := by have := List.mem_singleton.mp q; omega
          rw [e]; exact decide_eq_true (hb _ (at_mem k1))
      · have := hp3 _ q
        rw [Int.toNat_natCast, Int.toNat_natCast] at this
        exact this
/-- breadth first, depth first -/
theorem pN_AO {n : Nat} : ∀ (m k : Nat), ((pN n k).flatMap fun row => (AO n m row).map (row ++ ·)) = pN n (k + m)
  | 0, k => by
    show ((pN n k).flatMap fun row => [row ++ []]) = _
    simp
  | m + 1, k => by
    have ih := pN_AO (n := n) m (k + 1)
    rw [show k + (m + 1) = k + 1 + m by omega, ← ih]
    show _ = ((pN n k).flatMap (pExt n)).flatMap _
    rw [List.flatMap_assoc]
    refine flatMap_ext fun row _ => ?_
    show (((lf n row).flatMap fun k : Nat => (AO n m (row ++ [((k : Nat) : Int)])).map (((k : Nat) : Int) :: ·)).map (row ++ ·)) = ((lf n row).map fun p : Nat => row ++ [((p : Nat) : Int)]).flatMap _
    rw [List.map_flatMap, List.flatMap_map]
    refine flatMap_ext fun p _ => ?_
    rw [List.map_map]
    refine List.map_congr_left fun t _ => ?_
    simp
theorem pN_all (n : Nat) : pN n n = AO n n [] := by
  have := pN_AO (n := n) n 0
  rw [Nat.zero_add] at this
  rw [← this]
  show ([[]] : List (List Int)).flatMap _ = _
  simp
theorem AO_pos {n : Nat} : ∀ (m : Nat) {d : List Int}, RowK n d → d.length + m = n → 0 < (AO n m d).length
  | 0, _, _, _ => Nat.one_pos
  | m + 1, d, hd, hl => by
    obtain ⟨k, hk⟩ : ∃ k, k ∈ lf n d := by
      cases e : lf n d with
      | cons k _ => exact ⟨k, List.mem_cons_self ..⟩
      | nil =>
        exfalso
        have h1 := nodup_sub (l := rgI 0 n) (m := d) (List.Pairwise.imp (fun h => by omega) (co_rg n)) fun y hy => by
          have hy := co_mem.mp hy
          by_cases c : y ∈ d
          · exact c
          · have : y.toNat ∈ lf n d := lf_mem.mpr ⟨by omega, by rw [Int.toNat_of_nonneg hy.1]; exact c⟩
            rw [e] at this; cases this
        unfold rgI at h1
        rw [List.length_map, List.length_range] at h1
        omega
    obtain ⟨k1, k2⟩ := lf_mem.mp hk
    have ih := AO_pos m (rowK_snoc hd k1 k2) (by rw [List.length_append, List.length_singleton]; omega)
    obtain ⟨t, ht⟩ := List.exists_mem_of_length_pos ih
    exact List.length_pos_of_mem (List.mem_flatMap.mpr ⟨k, hk, List.mem_map.mpr ⟨t, ht, rfl⟩⟩)
/-! ### how many, with which rank -/
theorem W_len (b : List (Int × Int)) : ∀ (m : Nat) (d : List Int), W b m d = ((CO b m d).length : Int)
  | 0, _ => rfl
  | m + 1, d => by
    show ((m_next_places b d).map fun k : Nat => W b m (d ++ [((k : Nat) : Int)])).sum = (((m_next_places b d).flatMap fun k : Nat => (CO b m (d ++ [((k : Nat) : Int)])).map (((k : Nat) : Int) :: ·)).length : Int)
    generalize m_next_places b d = ks
    induction ks with
    | nil => rfl
    | cons k ks ih =>
      rw [List.map_cons, List.sum_cons, List.flatMap_cons, List.length_append, List.length_map, ih, W_len b m]; omega
theorem pick_at {b : List (Int × Int)} {m : Nat} {d : List Int} : ∀ {ks : List Nat} {r : Int}, 0 ≤ r → (ks.flatMap fun k : Nat => (CO b m (d ++ [((k : Nat) : Int)])).map (((k : Nat) : Int) :: ·))[r.toNat]? = (match pickW b m d ks r with
    | some p => ((CO b m (d ++ [((p.1 : Nat) : Int)]))[p.2.toNat]?).map (((p.1 : Nat) : Int) :: ·)
    | none => none)
  | [], _, _ => by simp [pickW]
  | k :: ks, r, h => by
    rw [List.flatMap_cons]
    unfold pickW
    have hw := W_len b m (d ++ [((k : Nat) : Int)])
    by_cases c : r < W b m (d ++ [((k : Nat) : Int)])
    · rw [if_pos c, List.getElem?_append_left (by rw [List.length_map]; omega), List.getElem?_map]
    · rw [if_neg c, List.getElem?_append_right (by rw [List.length_map]; omega), List.length_map, ← pick_at (by omega)]
      congr 1
      omega
theorem pick_le {b : List (Int × Int)} {m : Nat} {d : List Int} : ∀ {ks : List Nat} {r : Int} {p : Nat × Int}, 0 ≤ r → pickW b m d ks r = some p → 0 ≤ p.2
  | [], _, _, _, h => by cases h
  | k :: ks, r, p, h0, h => by
    unfold pickW at h
    by_cases c : r < W b m (d ++ [((k : Nat) : Int)])
    · rw [if_pos c] at h; cases h; exact h0
    · rw [if_neg c] at h; exact pick_le (by omega) h
theorem OA_at {b : List (Int × Int)} : ∀ (m : Nat) {d : List Int} {r : Int} {t : List Int}, 0 ≤ r → (CO b m d)[r.toNat]? = some t → OA b m d r = d ++ t
  | 0, d, r, t, _, h => by
    have h2 := List.mem_of_getElem? h
    rw [List.mem_singleton.mp h2, List.append_nil]; rfl
  | m + 1, d, r, t, h0, h => by
    have h1 : ((m_next_places b d).flatMap fun k : Nat => (CO b m (d ++ [((k : Nat) : Int)])).map (((k : Nat) : Int) :: ·))[r.toNat]? = some t := h
    rw [pick_at h0] at h1
    show (match pickW b m d (m_next_places b d) r with | some p => OA b m (d ++ [((p.1 : Nat) : Int)]) p.2 | none => d) = _
    cases e : pickW b m d (m_next_places b d) r with
    | none => rw [e] at h1; cases h1
    | some p =>
      rw [e] at h1
      obtain ⟨t', h2, h3⟩ := Option.map_eq_some_iff.mp h1
      show OA b m (d ++ [((p.1 : Nat) : Int)]) p.2 = _
      rw [OA_at m (pick_le h0 e) h2, ← h3]
      simp
theorem np_asc (b : List (Int × Int)) (d : List Int) : (m_next_places b d).Pairwise (· < ·) := by
  rw [np_lf]
  exact (List.pairwise_lt_range.filter _).filter _
theorem RK_sum {b : List (Int × Int)} {m : Nat} {d : List Int} : ∀ {ks : List Nat} {r : Nat} {k : Int} {t : List Int}, ks.Pairwise (· < ·) → (ks.flatMap fun k : Nat => (CO b m (d ++ [((k : Nat) : Int)])).map (((k : Nat) : Int) :: ·))[r]? = some (k :: t) →
    ∃ r' : Nat, (CO b m (d ++ [k]))[r']? = some t ∧ (r : Int) = (mapIf (fun j : Nat => decide (((j : Nat) : Int) < k)) (fun j : Nat => W b m (d ++ [((j : Nat) : Int)])) ks).sum + (r' : Int) ∧ ∃ j : Nat, j ∈ ks ∧ k = (j : Int)
  | [], r, k, t, _, h => by simp at h
  | j :: ks, r, k, t, hs, h => by
    obtain ⟨s1, s2⟩ := List.pairwise_cons.mp hs
    rw [List.flatMap_cons] at h
    have hw := W_len b m (d ++ [((j : Nat) : Int)])
    by_cases c : r < (CO b m (d ++ [((j : Nat) : Int)])).length
    · rw [List.getElem?_append_left (by rw [List.length_map]; exact c), List.getElem?_map] at h
      obtain ⟨t', h2, h3⟩ := Option.map_eq_some_iff.mp h
      injection h3 with h3 h4
      subst h3 h4
      refine ⟨r, h2, ?_, j, List.mem_cons_self .., rfl⟩
      unfold mapIf
      rw [List.filter_eq_nil_iff.mpr]
      · simp
      · intro x hx
        rcases List.mem_cons.mp hx with q | q
        · rw [q]; simp
        · have := s1 x q; simp; omega
    · rw [List.getElem?_append_right (by rw [List.length_map]; omega), List.length_map] at h
      obtain ⟨r', h1, h2, i, h3, h4⟩ := RK_sum s2 h
      refine ⟨r', h1, ?_, i, List.mem_cons_of_mem _ h3, h4⟩
      have := s1 i h3
      unfold mapIf at h2 ⊢
      rw [List.filter_cons, if_pos (decide_eq_true (by omega)), List.map_cons, List.sum_cons]
      omega
theorem RK_at {b : List (Int × Int)} : ∀ (m : Nat) {d : List Int} {r : Nat} {t : List Int}, (CO b m d)[r]? = some t → RK b m d t = (r : Int)
  | 0, d, r, t, h => by
    have h2 := List.mem_of_getElem? h
    have h3 := (List.getElem?_eq_some_iff.mp h).1
    rw [List.mem_singleton.mp h2]
    have h4 : r < 1 := h3
    have : r = 0 := by omega
    subst this
    rfl
  | m + 1, d, r, t, h => by
    have h1 : ((m_next_places b d).flatMap fun k : Nat => (CO b m (d ++ [((k : Nat) : Int)])).map (((k : Nat) : Int) :: ·))[r]? = some t := h
    obtain ⟨k0, hk0, ht⟩ := List.mem_flatMap.mp (List.mem_of_getElem? h1)
    obtain ⟨t', _, rfl⟩ := List.mem_map.mp ht
    obtain ⟨r', h2, h3, _⟩ := RK_sum (np_asc b d) h1
    show (mapIf _ _ _).sum + RK b m (d ++ [((k0 : Nat) : Int)]) t' = _
    rw [RK_at m h2, ← h3]
/-! ### some order is possible -/
theorem np_pos {b : List (Int × Int)} (hb : ∀ p ∈ b, p.1 ≤ p.2) {d : List Int} (h : lf b.length d ≠ []) : m_next_places b d ≠ [] := by
  have h1 : ((lf b.length d).map fun k : Nat => (b.getD k (0, 0)).1) ≠ [] := fun e => h (List.map_eq_nil_iff.mp e)
  obtain ⟨k, hk, e⟩ := List.mem_map.mp (mnl_mem h1)
  intro c
  have : k ∈ m_next_places b d := by
    rw [np_lf]
    refine List.mem_filter.mpr ⟨hk, List.all_eq_true.mpr fun j hj => decide_eq_true ?_⟩
    have h2 := mnl_le (List.mem_map.mpr ⟨j, hj, rfl⟩ : (b.getD j (0, 0)).1 ∈ (lf b.length d).map fun k : Nat => (b.getD k (0, 0)).1)
    have h3 := hb _ (at_mem (d := (0, 0)) (lf_mem.mp hj).1)
    omega
  rw [c] at this; cases this
theorem CO_pos {b : List (Int × Int)} (hb : ∀ p ∈ b, p.1 ≤ p.2) : ∀ (m : Nat) {d : List Int}, RowK b.length d → d.length + m = b.length → 0 < (CO b m d).length
  | 0, _, _, _ => Nat.one_pos
  | m + 1, d, hd, hl => by
    have h0 : lf b.length d ≠ [] := by
      have h1 := AO_pos (m + 1) hd hl
      intro e
      have : AO b.length (m + 1) d = [] := by show (lf b.length d).flatMap _ = _; rw [e]; rfl
      rw [this] at h1; cases h1
    cases e : m_next_places b d with
    | nil => exact absurd e (np_pos hb h0)
    | cons k ks =>
      have hk : k ∈ m_next_places b d := by rw [e]; exact List.mem_cons_self ..
      obtain ⟨k1, k2⟩ := np_mem hk
      have ih := CO_pos hb m (rowK_snoc hd k1 k2) (by rw [List.length_append, List.length_singleton]; omega)
      obtain ⟨t, ht⟩ := List.exists_mem_of_length_pos ih
      exact List.length_pos_of_mem (List.mem_flatMap.mpr ⟨k, hk, List.mem_map.mpr ⟨t, ht, rfl⟩⟩)
/-! ### the places called otherwise -/
theorem sum_perm {f : Nat → Int} {l r : List Nat} (h : l.Perm r) : (l.map f).sum = (r.map f).sum := by
  induction h with
  | nil => rfl
  | cons x _ ih => rw [List.map_cons, List.map_cons, List.sum_cons, List.sum_cons, ih]
  | swap x y l => simp only [List.map_cons, List.sum_cons]; omega
  | trans _ _ a b => exact a.trans b
/-- c's values are b's, at the places that r names -/
structure Ren (b c : List (Int × Int)) (r : Nat → Nat) : Prop where
  len : c.length = b.length
  lt : ∀ k, k < b.length → r k < b.length
  inj : ∀ j k, j < b.length → k < b.length → r j = r k → j = k
  at_ : ∀ k, k < b.length → c.getD k (0, 0) = b.getD (r k) (0, 0)
theorem ren_lf {b c : List (Int × Int)} {r : Nat → Nat} (h : Ren b c r) {d e : List Int} (hde : ∀ k, k < b.length → (((k : Nat) : Int) ∈ d ↔ ((r k : Nat) : Int) ∈ e)) : ((lf c.length d).map r).Perm (lf b.length e) := by
  have n1 : (lf c.length d).Nodup := List.Pairwise.filter _ List.nodup_range
  have n2 : (lf b.length e).Nodup := List.Pairwise.filter _ List.nodup_range
  have n3 : ((lf c.length d).map r).Nodup := by
    refine List.pairwise_map.mpr (List.Pairwise.imp_of_mem (fun {x y} hx hy hne q => hne ?_) n1)
    have a := (lf_mem.mp hx).1
    have b' := (lf_mem.mp hy).1
    rw [h.len] at a b'
    exact h.inj _ _ a b' q
  have sur : ∀ y, y < b.length → ∃ k, k < b.length ∧ r k = y := fun y hy => by
    have m1 : ((List.range b.length).map r).Nodup := by
      refine List.pairwise_map.mpr (List.Pairwise.imp_of_mem (fun {x y} hx hy hne q => hne (h.inj _ _ (List.mem_range.mp hx) (List.mem_range.mp hy) q)) List.nodup_range)
    by_cases c' : y ∈ (List.range b.length).map r
    · obtain ⟨k, hk, e⟩ := List.mem_map.mp c'
      exact ⟨k, List.mem_range.mp hk, e⟩
    · have := nodup_sub (m := (List.range b.length).erase y) m1 fun x hx => by
        obtain ⟨k, hk, e⟩ := List.mem_map.mp hx
        refine (List.mem_erase_of_ne fun q => c' (by rw [← q]; exact hx)).mpr (List.mem_range.mpr ?_)
        rw [← e]; exact h.lt k (List.mem_range.mp hk)
      rw [List.length_map, List.length_erase_of_mem (List.mem_range.mpr hy), List.length_range] at this
      omega
  refine (List.perm_ext_iff_of_nodup n3 n2).mpr fun y => ?_
  rw [List.mem_map]
  constructor
  · rintro ⟨k, hk, rfl⟩
    obtain ⟨k1, k2⟩ := lf_mem.mp hk
    rw [h.len] at k1
    exact lf_mem.mpr ⟨h.lt k k1, fun q => k2 ((hde k k1).mpr q)⟩
  · intro hy
    obtain ⟨y1, y2⟩ := lf_mem.mp hy
    obtain ⟨k, hk, rfl⟩ := sur y y1
    exact ⟨k, lf_mem.mpr ⟨by rw [h.len]; exact hk, fun q => y2 ((hde k hk).mp q)⟩, rfl⟩
theorem ren_np {b c : List (Int × Int)} {r : Nat → Nat} (h : Ren b c r) {d e : List Int} (hde : ∀ k, k < b.length → (((k : Nat) : Int) ∈ d ↔ ((r k : Nat) : Int) ∈ e)) : ((m_next_places c d).map r).Perm (m_next_places b e) := by
  have hp := ren_lf h hde
  rw [np_lf, np_lf]
  have h1 : ((lf c.length d).filter fun k : Nat => (lf c.length d).all fun j : Nat => decide ((c.getD k (0, 0)).1 ≤ (c.getD j (0, 0)).2)) = (lf c.length d).filter ((fun k : Nat => (lf b.length e).all fun j : Nat => decide ((b.getD k (0, 0)).1 ≤ (b.getD j (0, 0)).2)) ∘ r) := by
    refine List.filter_congr fun k hk => ?_
    have k1 := (lf_mem.mp hk).1
    rw [h.len] at k1
    show _ = (lf b.length e).all _
    rw [← hp.all_eq, List.all_map]
    refine all_congrL fun j hj => ?_
    have j1 := (lf_mem.mp hj).1
    rw [h.len] at j1
    show _ = decide ((b.getD (r k) (0, 0)).1 ≤ (b.getD (r j) (0, 0)).2)
    rw [h.at_ k k1, h.at_ j j1]
  rw [h1, ← List.filter_map]
  exact hp.filter _
theorem W_ren {b c : List (Int × Int)} {r : Nat → Nat} (h : Ren b c r) : ∀ (m : Nat) {d e : List Int}, (∀ k, k < b.length → (((k : Nat) : Int) ∈ d ↔ ((r k : Nat) : Int) ∈ e)) → W c m d = W b m e
  | 0, _, _, _ => rfl
  | m + 1, d, e, hde => by
    show ((m_next_places c d).map fun k : Nat => W c m (d ++ [((k : Nat) : Int)])).sum = ((m_next_places b e).map fun k : Nat => W b m (e ++ [((k : Nat) : Int)])).sum
    rw [← sum_perm (ren_np h hde), List.map_map]
    congr 1
    refine List.map_congr_left fun k hk => ?_
    have hk1 := (np_mem hk).1
    rw [h.len] at hk1
    refine W_ren h m fun j hj => ?_
    rw [List.mem_append, List.mem_append, hde j hj, List.mem_singleton, List.mem_singleton]
    refine or_congr Iff.rfl ?_
    constructor
    · intro q; have : j = k := by omega
      rw [this]
    · intro q
      have := h.inj j k hj hk1 (by omega)
      rw [this]
theorem ren_rev (b : List (Int × Int)) : Ren b b.reverse fun k => b.length - 1 - k where
  len := List.length_reverse
  lt k hk := by omega
  inj j k hj hk e := by omega
  at_ k hk := by rw [List.getD_eq_getElem?_getD, List.getElem?_reverse hk, List.getD_eq_getElem?_getD]
theorem co_rev (b : List (Int × Int)) : m_count_orders b.reverse = m_count_orders b := by
  unfold m_count_orders
  rw [List.length_reverse]
  exact W_ren (ren_rev b) b.length (fun _ _ => by simp)
theorem W_nn (b : List (Int × Int)) (m : Nat) (d : List Int) : 0 ≤ W b m d := by rw [W_len]; omega
/-! wider bounds, more orders -/
theorem nw_at : ∀ {b s : List (Int × Int)}, Nw b s → ∀ k, k < b.length → (b.getD k (0, 0)).1 ≤ (s.getD k (0, 0)).1 ∧ (s.getD k (0, 0)).1 ≤ (s.getD k (0, 0)).2 ∧ (s.getD k (0, 0)).2 ≤ (b.getD k (0, 0)).2
  | [], [], _, k, hk => by cases hk
  | p :: b, q :: s, h, k, hk => by
    cases k with
    | zero => exact h.1
    | succ k => exact nw_at h.2 k (Nat.lt_of_succ_lt_succ hk)
  | [], _ :: _, h, _, _ => h.elim
  | _ :: _, [], h, _, _ => h.elim
theorem sum_filter {f g : Nat → Int} (hf : ∀ k, 0 ≤ g k) (hfg : ∀ k, f k ≤ g k) (c d : Nat → Bool) : ∀ l : List Nat, (∀ k ∈ l, c k = true → d k = true) → ((l.filter c).map f).sum ≤ ((l.filter d).map g).sum
  | [], _ => Int.le_refl _
  | k :: l, h => by
    have ih := sum_filter hf hfg c d l fun z hz => h z (List.mem_cons_of_mem _ hz)
    have h1 := h k (List.mem_cons_self ..)
    have h2 := hf k
    have h3 := hfg k
    rw [List.filter_cons, List.filter_cons]
    cases e1 : c k with
    | true => rw [h1 e1]; simp only [if_true, List.map_cons, List.sum_cons]; omega
    | false =>
      cases e2 : d k with
      | true => simp only [if_true, Bool.false_eq_true, if_false, List.map_cons, List.sum_cons]; omega
      | false => simpa using ih
theorem W_le {b s : List (Int × Int)} (h : Nw b s) : ∀ (m : Nat) (d : List Int), W s m d ≤ W b m d
  | 0, _ => Int.le_refl _
  | m + 1, d => by
    show ((m_next_places s d).map fun k : Nat => W s m (d ++ [((k : Nat) : Int)])).sum ≤ ((m_next_places b d).map fun k : Nat => W b m (d ++ [((k : Nat) : Int)])).sum
    unfold m_next_places mapIf
    simp only [List.map_id']
    rw [nw_len h]
    refine sum_filter (fun k => W_nn b m _) (fun k => W_le h m _) _ _ _ fun k hk hc => ?_
    have hk2 := List.mem_range.mp (List.mem_filter.mp hk).1
    rw [List.all_map, List.all_eq_true] at hc ⊢
    intro j hj
    have hj2 := List.mem_range.mp (List.mem_filter.mp hj).1
    have h1 := hc j hj
    have a1 := nw_at h k (by have := nw_len h; omega)
    have a2 := nw_at h j (by have := nw_len h; omega)
    simp only [Function.comp, id, decide_eq_true_eq] at h1 ⊢
    omega
theorem pick5 {x y c : List (Int × Int)} (hx : SmallP 5 x) (hy : BndP 5 y) (hc : c ∈ [x, y]) : c.length ≤ 5 := by
  rcases List.mem_cons.mp hc with e | e
  · rw [e]; have := hx.2.1; omega
  · rw [List.mem_singleton.mp e]; have := hy.2.1; omega
theorem pick30 {x y c : List (Int × Int)} (hx : SmallP 5 x) (hy : BndP 5 y) (hc : c ∈ [x, y]) : ∀ t ∈ c, -50 ≤ t.1 - 1 ∧ t.2 + 1 ≤ 50 := by
  rcases List.mem_cons.mp hc with e | e
  · rw [e]; exact fun t ht => by have := hx.2.2 t ht; omega
  · rw [List.mem_singleton.mp e]; exact fun t ht => by have := hy.2.2 t ht; omega
section
variable {b : List (Int × Int)}
theorem orders_is (n : Nat) : m__law_orders n = AO n n [] := by
  have h := p_at (n := n) (l := List.range n) (s := m__law_orders n) rfl
  rw [h, List.length_range, pN_all]
theorem pair_at {R : Int → Int → Prop} {o : List Int} : o.Pairwise R ↔ ∀ k j, j < k → k < o.length → R (o.getD j 0) (o.getD k 0) := by
  rw [List.pairwise_iff_getElem]
  constructor
  · intro h k j hj hk
    have := h j k (by omega) hk hj
    rw [List.getD_eq_getElem?_getD, List.getD_eq_getElem?_getD, List.getElem?_eq_getElem hk, List.getElem?_eq_getElem (show j < o.length by omega)]
    exact this
  · intro h i j hi hj hij
    have := h j i hij hj
    rw [List.getD_eq_getElem?_getD, List.getD_eq_getElem?_getD, List.getElem?_eq_getElem hi, List.getElem?_eq_getElem hj] at this
    exact this
def lbad (b : List (Int × Int)) (row : List Int) : Bool := decide (mapIf (fun k : Nat => !decide (mapIf (fun j : Int => decide ((b.getD j.toNat (0, 0)).1 > (b.getD (row.getD k 0).toNat (0, 0)).2)) (fun j : Int => j) (cutL row none (some ((k : Nat) : Int))) = ([] : List Int))) (fun k : Nat => k) (List.range b.length) = ([] : List Nat))
theorem lbad_ps {row : List Int} (hl : row.length = b.length) : lbad b row = ps b row := by
  rw [Bool.eq_iff_iff, ps_pair, pair_at]
  unfold lbad
  rw [decide_eq_true_eq, mapIf_id, List.filter_eq_nil_iff]
  constructor
  · intro h k j hj hk
    have h1 := h k (List.mem_range.mpr (by omega))
    rw [cutL_to, mapIf_id] at h1
    simp only [Bool.not_eq_true', decide_eq_false_iff_not, Classical.not_not] at h1
    have h2 := List.filter_eq_nil_iff.mp h1 (row.getD j 0) (by
      have : (row.take k).getD j 0 = row.getD j 0 := by rw [List.getD_eq_getElem?_getD, List.getElem?_take_of_lt hj, List.getD_eq_getElem?_getD]
      rw [← this]
      exact at_mem (by rw [List.length_take]; omega))
    unfold LE1
    simp only [decide_eq_true_eq] at h2
    omega
  · intro h k hk
    have hk := List.mem_range.mp hk
    rw [cutL_to, mapIf_id]
    simp only [Bool.not_eq_true', decide_eq_false_iff_not, Classical.not_not]
    rw [List.filter_eq_nil_iff]
    intro x hx
    obtain ⟨j, hj, e⟩ := mem_at (d := (0 : Int)) hx
    rw [List.length_take] at hj
    have e2 : (row.take k).getD j 0 = row.getD j 0 := by rw [List.getD_eq_getElem?_getD, List.getElem?_take_of_lt (by omega), List.getD_eq_getElem?_getD]
    have := h k j (by omega) (by omega)
    unfold LE1 at this
    rw [← e, e2]
    simp only [decide_eq_true_eq]; omega
theorem good_is (hB : BOk b) {s : List (List Int)} (h : s = List.foldl (fun s row => if lbad b row = true then s ++ [row] else s) [] (m__law_orders b.length)) : s = CO b b.length [] := by
  rw [h, fold_if (lbad b) (fun x => x), List.nil_append, mapIf_id, orders_is, ← AO_filter (ord_of hB) b.length ⟨List.nodup_nil, fun _ h => by cases h⟩ (by simp)]
  exact List.filter_congr fun t ht => lbad_ps (AO_mem _ ht).1
theorem or_row (h5 : b.length ≤ 5) {r : List Int} (h : r ∈ m__law_orders b.length) : r.length = b.length ∧ RowK b.length r := by
  rw [orders_is] at h
  obtain ⟨h1, h2, h3⟩ := AO_mem _ h
  exact ⟨h1, h2, fun y hy => (h3 y hy).1⟩
theorem or_few (h5 : b.length ≤ 5) : (m__law_orders b.length).length ≤ 3125 := by
  have h := p_at (n := b.length) (l := List.range b.length) (s := m__law_orders b.length) rfl
  rw [h, List.length_range]
  exact Nat.le_trans (pN_len _ _) (pow5 h5 h5)
theorem or_pos (b : List (Int × Int)) : 0 < (m__law_orders b.length).length := by
  rw [orders_is]
  exact AO_pos _ ⟨List.nodup_nil, fun _ h => by cases h⟩ (by simp)
theorem good_pos (hB : BOk b) {s : List (List Int)} (h : s = CO b b.length []) : 0 < s.length := by
  rw [h]; exact CO_pos (ord_of hB) _ ⟨List.nodup_nil, fun _ h => by cases h⟩ (by simp)
theorem co_sub (hB : BOk b) : CO b b.length [] = (m__law_orders b.length).filter (ps b) := by
  rw [orders_is, AO_filter (ord_of hB) b.length ⟨List.nodup_nil, fun _ h => by cases h⟩ (by simp)]
theorem good_few (hB : BOk b) (h5 : b.length ≤ 5) {s : List (List Int)} (h : s = CO b b.length []) : s.length ≤ 3125 := by
  rw [h, co_sub hB]; exact Nat.le_trans (List.length_filter_le _ _) (or_few h5)
theorem good_mem (hB : BOk b) {s : List (List Int)} (h : s = CO b b.length []) {r : List Int} : r ∈ s ↔ r ∈ m__law_orders b.length ∧ ps b r = true := by
  rw [h, co_sub hB, List.mem_filter]
theorem find_any {α : Type} {c : α → Bool} : ∀ {l : List α}, l.findSome? (fun j => if c j = true then some false else none) = if l.any c = true then some false else none
  | [] => rfl
  | x :: l => by
    rw [List.findSome?_cons, List.any_cons]
    cases e : c x with
    | true => simp
    | false => simp only [Bool.false_eq_true, if_false, Bool.false_or]; exact find_any
theorem poss_any (b : List (Int × Int)) (o : List Int) : m_is_possible b o = !((List.range o.length).any fun k => (List.range k).any fun j => decide ((b.getD (o.getD j 0).toNat (0, 0)).1 > (b.getD (o.getD k 0).toNat (0, 0)).2)) := by
  unfold m_is_possible
  have e : (fun k_l1 : Nat => ((match List.findSome? (fun (j_l2 : Nat) => ((if (decide ((b.getD ((o.getD (j_l2) 0)).toNat (0, 0)).1 > (b.getD ((o.getD (k_l1) 0)).toNat (0, 0)).2)) = true then (some false) else none) : Option Bool)) (List.range k_l1) with | some r => some r | none => none) : Option Bool)) = fun k : Nat => if ((List.range k).any fun j => decide ((b.getD (o.getD j 0).toNat (0, 0)).1 > (b.getD (o.getD k 0).toNat (0, 0)).2)) = true then some false else none := by
    funext k
    rw [find_any]
    cases ((List.range k).any fun j => decide ((b.getD (o.getD j 0).toNat (0, 0)).1 > (b.getD (o.getD k 0).toNat (0, 0)).2)) <;> rfl
  refine (congrArg (fun F : Nat → Option Bool => match List.findSome? F (List.range o.length) with | some r => r | none => true) e).trans ?_
  rw [find_any]
  cases ((List.range o.length).any fun k => (List.range k).any fun j => decide ((b.getD (o.getD j 0).toNat (0, 0)).1 > (b.getD (o.getD k 0).toNat (0, 0)).2)) <;> rfl
theorem poss_ps (b : List (Int × Int)) (o : List Int) : m_is_possible b o = ps b o := by
  rw [Bool.eq_iff_iff, ps_pair, pair_at, poss_any, Bool.not_eq_true', List.any_eq_false]
  constructor
  · intro h k j hj hk
    have h1 := h k (List.mem_range.mpr hk)
    rw [Bool.not_eq_true, List.any_eq_false] at h1
    have h2 := h1 j (List.mem_range.mpr hj)
    unfold LE1
    simp only [decide_eq_true_eq] at h2; omega
  · intro h k hk
    rw [Bool.not_eq_true, List.any_eq_false]
    intro j hj
    have := h k j (List.mem_range.mp hj) (List.mem_range.mp hk)
    unfold LE1 at this
    simp only [decide_eq_true_eq]; omega
theorem at_ok (hB : BOk b) {r : Int} (h0 : 0 ≤ r) (h : r < (CO b b.length []).length) : m_order_at b r = .ok ((CO b b.length []).getD r.toNat []) := by
  unfold m_order_at
  have h1 := W_len b b.length []
  rw [if_neg (by unfold m_is_int; simp; omega)]
  rw [OA_at b.length h0 (getD_at (d := []) (by omega)), List.nil_append]
theorem at_no (hB : BOk b) {r : Int} (h : r = (CO b b.length []).length) : m_order_at b r = .error "BadNumber" := by
  unfold m_order_at
  have h1 := W_len b b.length []
  rw [if_pos (by unfold m_is_int; simp; omega)]
theorem rank_ok (hB : BOk b) {r : Nat} (h : r < (CO b b.length []).length) : m_rank_of_order b ((CO b b.length []).getD r []) = .ok (r : Int) := by
  unfold m_rank_of_order
  have hm : (CO b b.length []).getD r [] ∈ CO b b.length [] := at_mem h
  rw [poss_ps, ((good_mem hB rfl).mp hm).2, if_neg (by simp), RK_at b.length (getD_at (d := []) h)]
theorem le_num : m__law_error (Xn.mk "BadNumber") = "number" := by decide +kernel
theorem le_none : m__law_error (Xn.mk "NotFound") = "none" := by decide +kernel
/-- the least choice, along the order -/
def rmx (b : List (Int × Int)) : Int → List Int → List Int
  | _, [] => []
  | t, p :: o => max t (b.getD p.toNat (0, 0)).1 :: rmx b (max t (b.getD p.toNat (0, 0)).1) o
def cfs (b : List (Int × Int)) (s : Int × List Int) (p : Int) : Int × List Int := (max s.1 (b.getD p.toNat (0, 0)).1, s.2.set p.toNat (max s.1 (b.getD p.toNat (0, 0)).1))
theorem cfs_len : ∀ (o : List Int) (s : Int × List Int), (o.foldl (cfs b) s).2.length = s.2.length
  | [], _ => rfl
  | p :: o, s => by rw [List.foldl_cons, cfs_len o]; exact List.length_set
theorem cfs_out : ∀ (o : List Int) (s : Int × List Int) {q : Nat}, (∀ p ∈ o, p.toNat ≠ q) → (o.foldl (cfs b) s).2.getD q 0 = s.2.getD q 0
  | [], _, _, _ => rfl
  | p :: o, s, q, h => by
    rw [List.foldl_cons, cfs_out o _ fun x hx => h x (List.mem_cons_of_mem _ hx)]
    show (s.2.set p.toNat _).getD q 0 = _
    rw [List.getD_eq_getElem?_getD, List.getElem?_set_ne (h p (List.mem_cons_self ..)), List.getD_eq_getElem?_getD]
theorem cfs_vals : ∀ (o : List Int) (s : Int × List Int), o.Nodup → (∀ p ∈ o, 0 ≤ p ∧ p < (s.2.length : Int)) → (o.map fun p => (o.foldl (cfs b) s).2.getD p.toNat 0) = rmx b s.1 o
  | [], _, _, _ => rfl
  | p :: o, s, hn, hr => by
    obtain ⟨n1, n2⟩ := List.nodup_cons.mp hn
    have hp := hr p (List.mem_cons_self ..)
    rw [List.map_cons, List.foldl_cons]
    have h2 := cfs_vals o (cfs b s p) n2 fun x hx => by
      have := hr x (List.mem_cons_of_mem _ hx)
      show 0 ≤ x ∧ x < ((s.2.set p.toNat _).length : Int)
      rw [List.length_set]; exact this
    rw [h2, cfs_out o _ fun x hx e => n1 (by have := hr x (List.mem_cons_of_mem _ hx); have : x = p := by omega
                                             rw [← this]; exact hx)]
    show (s.2.set p.toNat (max s.1 (b.getD p.toNat (0, 0)).1)).getD p.toNat 0 :: rmx b _ o = _
    rw [List.getD_eq_getElem?_getD, List.getElem?_set_self (by omega)]; rfl
theorem rmx_len : ∀ (t : Int) (o : List Int), (rmx b t o).length = o.length
  | _, [] => rfl
  | t, p :: o => by unfold rmx; rw [List.length_cons, List.length_cons, rmx_len]
theorem rmx_ge : ∀ (t : Int) (o : List Int), ∀ y ∈ rmx b t o, t ≤ y
  | t, p :: o, y, h => by
    unfold rmx at h
    rcases List.mem_cons.mp h with e | e
    · omega
    · have := rmx_ge _ o y e; omega
theorem rmx_asc : ∀ (t : Int) (o : List Int), (rmx b t o).Pairwise (· ≤ ·)
  | _, [] => .nil
  | t, p :: o => by
    unfold rmx
    exact List.pairwise_cons.mpr ⟨rmx_ge _ o, rmx_asc _ o⟩
theorem rmx_at : ∀ (t : Int) (o : List Int) {k : Nat} {p : Int}, o[k]? = some p → (rmx b t o)[k]? = some (max ((o.take k).foldl (fun s q => max s (b.getD q.toNat (0, 0)).1) t) (b.getD p.toNat (0, 0)).1)
  | t, [], k, p, h => by simp at h
  | t, q :: o, 0, p, h => by
    rw [List.getElem?_cons_zero] at h; cases h
    rfl
  | t, q :: o, k + 1, p, h => by
    rw [List.getElem?_cons_succ] at h
    unfold rmx
    rw [List.getElem?_cons_succ, rmx_at _ o h]; rfl
theorem rmx_in (hb : ∀ p ∈ b, p.1 ≤ p.2) : ∀ (t : Int) (o : List Int), ps b o = true → (∀ p ∈ o, p.toNat < b.length ∧ t ≤ (b.getD p.toNat (0, 0)).2) → ∀ (k : Nat) (p : Int), o[k]? = some p → ∃ y, (rmx b t o)[k]? = some y ∧ (b.getD p.toNat (0, 0)).1 ≤ y ∧ y ≤ (b.getD p.toNat (0, 0)).2
  | t, [], _, _, k, p, h => by simp at h
  | t, q :: o, hp, ht, 0, p, h => by
    rw [List.getElem?_cons_zero] at h; cases h
    have h1 := ht q (List.mem_cons_self ..)
    have h2 := hb _ (at_mem (d := (0, 0)) h1.1)
    exact ⟨_, rfl, by omega, by omega⟩
  | t, q :: o, hp, ht, k + 1, p, h => by
    rw [List.getElem?_cons_succ] at h
    unfold ps at hp
    obtain ⟨p1, p2⟩ := Bool.and_eq_true_iff.mp hp
    obtain ⟨y, h1, h2⟩ := rmx_in hb (max t (b.getD q.toNat (0, 0)).1) o p2 (fun x hx => ⟨(ht x (List.mem_cons_of_mem _ hx)).1, by
      have h3 := (ht x (List.mem_cons_of_mem _ hx)).2
      have h4 := of_decide_eq_true (List.all_eq_true.mp p1 x hx)
      omega⟩) k p h
    refine ⟨y, ?_, h2⟩
    unfold rmx
    rw [List.getElem?_cons_succ]; exact h1
def told (b : List (Int × Int)) (o : List Int) : List Int := (o.foldl (cfs b) (-(51 : Int), (List.replicate ((b.length : Nat) : Int).toNat [(0 : Int)]).flatten)).2
theorem zeros_len (n : Nat) : ((List.replicate ((n : Nat) : Int).toNat [(0 : Int)]).flatten).length = n := by simp
theorem told_len (b : List (Int × Int)) (o : List Int) : (told b o).length = b.length := by unfold told; rw [cfs_len]; exact zeros_len _
theorem told_vals {o : List Int} (ho : RowK b.length o) : (o.map fun p => (told b o).getD p.toNat 0) = rmx b (-51) o := cfs_vals o _ ho.1 fun p hp => by rw [zeros_len]; exact ho.2 p hp
theorem choice_ok (b : List (Int × Int)) (o : List Int) : m_choice_for b o = if (!ps b o) = true then .error "NotFound" else .ok (told b o) := by
  unfold m_choice_for
  rw [poss_ps]; rfl
theorem okL {l : List Int} : Rq.ok (Sum.inl l : Sum (List Int) Str) := fun _ _ => trivial
theorem okI {i : Int} : Rq.ok (Sum.inl i : Sum Int Str) := trivial
theorem okW {α : Type} [Rp α] [Rq α] [Dj α Str] {s : Str} (h : s = "number" ∨ s = "none") : Rq.ok (Sum.inr s : Sum α Str) := by
  show (PyData.str s).canLay0 = true
  rcases h with rfl | rfl <;> (simp only [PyData.canLay0]; decide +kernel)
theorem call_at_ok (hB : BOk b) {s : List (List Int)} (h : s = CO b b.length []) {k r : Int} (h0 : 0 ≤ r) (h1 : r < s.length) : m_call_at k b r = Sum.inl (s.getD r.toNat []) := by
  unfold m_call_at
  subst h
  rw [at_ok hB h0 h1]; rfl
theorem call_at_no (hB : BOk b) {s : List (List Int)} (h : s = CO b b.length []) {k : Int} : m_call_at k b (s.length : Int) = Sum.inr ("number" : Str) := by
  unfold m_call_at
  subst h
  rw [at_no hB rfl]
  show Sum.inr _ = _
  rw [le_num]
theorem call_rank_ok (hB : BOk b) {s : List (List Int)} (h : s = CO b b.length []) {k r : Int} (h0 : 0 ≤ r) (h1 : r < s.length) : m_call_rank k b (s.getD r.toNat []) = Sum.inl r := by
  unfold m_call_rank
  subst h
  rw [rank_ok hB (by omega)]
  show Sum.inl _ = _
  congr 1; omega
theorem call_rank_no {o : List Int} {k : Int} (h : ps b o = false) : m_call_rank k b o = Sum.inr ("none" : Str) := by
  unfold m_call_rank m_rank_of_order
  rw [poss_ps, h, if_pos (by rfl)]
  show Sum.inr _ = _
  rw [le_none]
theorem call_choice_no {o : List Int} {k : Int} (h : ps b o = false) : m_call_choice k b o = Sum.inr ("none" : Str) := by
  unfold m_call_choice
  rw [choice_ok, h, if_pos (by rfl)]
  show Sum.inr _ = _
  rw [le_none]
theorem call_choice_ok {o : List Int} {k : Int} (h : ps b o = true) : m_call_choice k b o = Sum.inl (told b o) := by
  unfold m_call_choice
  rw [choice_ok, h, if_neg (by simp)]; rfl
theorem rank_in {l : List Int} {n : Nat} {r : Int} (hn : 0 < n) (h : ∃ x y z : Int, x = 0 ∧ y = (n : Int) - 1 ∧ (0 ≤ z ∧ z < (n : Int)) ∧ l = [x, y, z]) (hr : r ∈ l) : 0 ≤ r ∧ r < (n : Int) := by
  obtain ⟨x, y, z, rfl, rfl, hz, rfl⟩ := h
  simp only [List.mem_cons, List.mem_nil_iff, or_false] at hr
  omega
theorem good_row (hB : BOk b) (h5 : b.length ≤ 5) {s : List (List Int)} (h : s = CO b b.length []) {r : Int} (h0 : 0 ≤ r) (h1 : r < s.length) : (s.getD r.toNat []).length = b.length ∧ (∀ y ∈ s.getD r.toNat [], 0 ≤ y ∧ y < (b.length : Int)) ∧ (s.getD r.toNat []).Nodup := by
  have hm : s.getD r.toNat [] ∈ s := at_mem (by omega)
  obtain ⟨e, hr⟩ := or_row h5 ((good_mem hB h).mp hm).1
  exact ⟨e, hr.2, hr.1⟩
theorem k07_1 (hB : BOk b) {s : List (List Int)} (h : s = CO b b.length []) : (!decide (m_count_orders b = (s.length : Int)) || !decide (m_call_at 2 b (s.length : Int) = Sum.inr ("number" : Str))) = false := by
  rw [call_at_no hB h]
  unfold m_count_orders
  rw [W_len, ← h]; simp
theorem k07_2 (hB : BOk b) {s : List (List Int)} (h : s = CO b b.length []) {r : Int} (h0 : 0 ≤ r ∧ r < s.length) : (!decide (m_call_at 2 b r = Sum.inl (s.getD r.toNat [])) || !decide (m_call_rank 1 b (s.getD r.toNat []) = Sum.inl r)) = false := by
  rw [call_at_ok hB h h0.1 h0.2, call_rank_ok hB h h0.1 h0.2]; simp
theorem k07_3 (hB : BOk b) {s : List (List Int)} (h : s = CO b b.length []) {o : List Int} (ho : o ∈ m__law_orders b.length) {inst : Decidable (o ∈ s)} : (!m__law_true (m_can_be_order b o) (@decide (o ∈ s) inst)) = false := by
  unfold m__law_true m_can_be_order
  rw [poss_ps]
  have : @decide (o ∈ s) inst = ps b o := by
    rw [Bool.eq_iff_iff, decide_eq_true_eq, good_mem hB h]
    exact ⟨fun q => q.2, fun q => ⟨ho, q⟩⟩
  rw [this]; simp
theorem ps_not (hB : BOk b) {s : List (List Int)} (h : s = CO b b.length []) {o : List Int} (ho : o ∈ m__law_orders b.length) {inst : Decidable (o ∈ s)} (hn : (!@decide (o ∈ s) inst) = true) : ps b o = false := by
  cases e : ps b o with
  | false => rfl
  | true =>
    rw [Bool.not_eq_true', decide_eq_false_iff_not] at hn
    exact absurd ((good_mem hB h).mpr ⟨ho, e⟩) hn
theorem ps_yes (hB : BOk b) {s : List (List Int)} (h : s = CO b b.length []) {o : List Int} {inst : Decidable (o ∈ s)} (hn : (!@decide (o ∈ s) inst) = false) : ps b o = true := by
  rw [Bool.not_eq_false', decide_eq_true_eq] at hn
  exact ((good_mem hB h).mp hn).2
theorem k07_e {o : List Int} (h : ps b o = false) : (decide (m_call_choice 0 b o = Sum.inr ("none" : Str)) && decide (m_call_rank 1 b o = Sum.inr ("none" : Str))) = true := by
  rw [call_choice_no h, call_rank_no h]; simp
theorem cut_mem {l : List Int} {a z : Option Int} {x : Int} (h : x ∈ cutL l a z) : x ∈ l := List.mem_of_mem_drop (List.mem_of_mem_take h)
theorem told_is {o l : List Int} (h : ps b o = true) (hl : l = sumL [] (m_call_choice 0 b o)) : l = told b o := by rw [hl, call_choice_ok h]; rfl
theorem told_left {o : List Int} (h : ps b o = true) : m_call_choice 0 b o = Sum.inl (sumL [] (m_call_choice 0 b o)) := by rw [call_choice_ok h]; rfl
theorem told_inside (hB : BOk b) {o : List Int} (ho : o.length = b.length ∧ RowK b.length o) (h : ps b o = true) : m__law_inside b (told b o) = true := by
  unfold m__law_inside
  rw [told_len, decide_eq_true rfl, Bool.true_and, mapIf_id, decide_eq_true_eq, List.filter_eq_nil_iff]
  intro k hk
  have hk := List.mem_range.mp hk
  obtain ⟨i, hi, e⟩ := List.getElem_of_mem (row_all ho.2 ho.1 hk)
  have h1 : o[i]? = some ((k : Nat) : Int) := by rw [List.getElem?_eq_getElem hi, e]
  obtain ⟨y, h2, h3, h4⟩ := rmx_in (ord_of hB) (-51) o h (fun p hp => by
    have := ho.2.2 p hp
    have h5 : p.toNat < b.length := by omega
    have := hB.2.2 _ (at_mem (d := (0, 0)) h5)
    exact ⟨h5, by omega⟩) i _ h1
  rw [← told_vals ho.2, List.getElem?_map, h1] at h2
  have h2 : (told b o).getD k 0 = y := by
    have := Option.some.inj h2
    exact this
  rw [Int.toNat_natCast] at h3 h4
  rw [h2, decide_eq_true h3, decide_eq_true h4]; decide
theorem k07_4 (hB : BOk b) {o l vals : List Int} (ho : o.length = b.length ∧ RowK b.length o) (h : ps b o = true) (hl : l = told b o) (hv : vals = o.map fun p => l.getD p.toNat 0) : (!m__law_inside b l || !decide (vals = srt vals)) = false := by
  subst hl
  rw [told_inside hB ho h, hv, told_vals ho.2, decide_eq_true (srt_eq (.refl _) (rmx_asc _ _))]; rfl
theorem k07_5 {o l : List Int} {s : Int} {k : Nat} {p : Int} (ho : o.length = b.length ∧ RowK b.length o) (hl : l = told b o) (hp : o[k]? = some p) (hs : s = List.foldl (fun s p => max s (b.getD p.toNat (0, 0)).1) (0 - 51) (o.take k)) : (!decide (l.getD p.toNat 0 = max s (b.getD p.toNat (0, 0)).1)) = false := by
  have h1 := rmx_at (b := b) (-51) o hp
  rw [← told_vals ho.2, List.getElem?_map, hp] at h1
  have h1 : (told b o).getD p.toNat 0 = _ := Option.some.inj h1
  rw [hl, h1, hs]
  show (!decide (max (List.foldl (fun s p => max s (b.getD p.toNat (0, 0)).1) (-51) (o.take k)) (b.getD p.toNat (0, 0)).1 = _)) = false
  rw [show ((0 : Int) - 51) = -51 from rfl, decide_eq_true rfl]; rfl
theorem wide_nw : ∀ {b : List (Int × Int)}, (∀ p ∈ b, p.1 ≤ p.2) → Nw (m_widened b 1) b
  | [], _ => trivial
  | p :: b, h => ⟨by have := h p (List.mem_cons_self ..); show p.1 - 1 ≤ p.1 ∧ p.1 ≤ p.2 ∧ p.2 ≤ p.2 + 1; omega, wide_nw fun q hq => h q (List.mem_cons_of_mem _ hq)⟩
theorem rev_bok (hB : BOk b) : BOk b.reverse := ⟨by rw [List.length_reverse]; exact hB.1, by rw [List.length_reverse]; exact hB.2.1, fun p hp => hB.2.2 p (List.mem_reverse.mp hp)⟩
theorem k07_6 (hB : BOk b) {s : List (List Int)} (h : s = CO b b.length []) : (decide (m_count_orders (m_widened b 1) ≥ (s.length : Int)) && decide (m_count_orders b.reverse = (s.length : Int))) = true := by
  have h1 : m_count_orders b = (s.length : Int) := by unfold m_count_orders; rw [W_len, ← h]
  have h2 : m_count_orders (m_widened b 1) ≥ m_count_orders b := by
    have hw := wide_nw (ord_of hB)
    have := W_le hw b.length []
    unfold m_count_orders
    rw [nw_len hw]; exact this
  rw [co_rev, h1, decide_eq_true rfl, Bool.and_true, decide_eq_true_eq]
  omega
end
section
variable {P : Program} {w : World} {K : Fg} {mg : Str → Option Value} {base : Heap}
theorem ok_law (T : Txt K mg) {f : Addr} {fd : FuncData} (F : FunD K "law" "law" (defArgs s_law) (defBody s_law) (defScope s_law) [] [] f fd) : FnOk P w K mg base CX0 13 f fd ["_law_script"] (spLaw K) := by
  refine fnok_of F sc_law len_law (fun cdv A outer s H vs Q E hr h => ?_)
  have nd := sc_law.nd
  obtain ⟨a, ns, rfl, hs, hz, q⟩ := h
  refine ⟨_, (pss_cons (ps_set (i := 1) nd rfl (.inl rfl) (pe_fn (ok__law_start T) (hr.mono (by decide)) pass0 (pa_cons (pv 0) pa_nil)))
      (pss_cons (ps_set (i := 2) nd rfl (.inr rfl) (pe_fn (ok__law_pick (α := (List (Int × Int))) T) (hr.mono (by decide)) pass0 (pa_cons (pv 1) (pa_cons (pe_frz (pe_lst (pa_cons (pe_frz (pe_fn (ok__law_small T) (hr.mono (by decide)) pass0 (pa_cons (pv 1) (pa_cons pe_int pa_nil)))) (pa_cons (pe_frz (pe_fn (ok__law_bounds T) (hr.mono (by decide)) pass0 (pa_cons (pv 1) (pa_cons pe_int pa_nil)))) pa_nil)))) pa_nil))))
      (pss_cons (ps_set (i := 3) nd rfl (.inl rfl) (pe_callB (k_len K rfl) (by rfl) T.n_len PySem.boot_len (pa_cons (pv 2) pa_nil)))
      (pss_cons (ps_set (i := 4) nd rfl (.inl rfl) (pe_lst pa_nil))
      (pss_cons (ps_for PassesOwn.never rfl (k_pl K rfl (pe_fn (ok__law_orders T) (hr.mono (by decide)) pass0 (pa_cons (pv 3) pa_nil))) (pg_name (i := 5) nd rfl (.inr rfl) (.inl rfl)) (pss_cons (ps_setLc (i := 6) (own := [("_law_k", 7)]) rfl nd rfl rfl (sw_true rfl rfl rfl (by decide +kernel)) (pi_range1 (by rfl) T.n_range (pa_cons (pv 3) pa_nil)) (blkOk_by (N := N_law) (sc := defScope s_law) (by decide +kernel)) (fun _ _ _ _ _ => (pg_name (i := 7) nd rfl (.inr rfl) (.inl rfl))) (fun _ _ _ _ _ => (pts_one (pt_cmpR (k_neD K rfl hr.units) (pe_frz (pe_lc (own := [("_law_j", 8)]) rfl nd (k_pl K rfl (pe_frz (pe_slice (k_sl K rfl) (pv 5) po_none (po_some (pv 7))))) (blkOk_by (N := N_law) rfl) (fun _ _ _ _ _ => (pg_name (i := 8) nd rfl (.inl rfl) (.inr rfl))) (fun _ _ _ _ _ => (pts_one (pt_cmpR op_gt (pe_ix (k_ixt K rfl) (pe_ix (k_ixl K rfl) (pv 2) (pv 8) (fun _ _ => rfl)) pe_int (fun _ _ => rfl)) (pe_ix (k_ixt K rfl) (pe_ix (k_ixl K rfl) (pv 2) (pe_ix (k_ixl K rfl) (pv 5) (pv 7) (fun _ _ => rfl)) (fun _ _ => rfl)) pe_int (fun _ _ => rfl)) (nomark _)))) (fun _ _ _ _ _ => (pv 8)))) (pe_frz (pe_lst pa_nil)) (nomark _)))) (fun _ _ _ _ _ => (pv 7)))
      (pss_frz 6 (pss_one (ps_if (pt_cmpR (k_eqD K rfl hr.units) (pv 6) (pe_frz (pe_lst pa_nil)) (nomark _)) (pss_one (ps_expr (k_app K rfl (pv 4) (pv 5)))) pss_nil)))))
      (pss_frz 4 (pss_cons (ps_if (PW.pt (pw_or (pt_cmpR op_ne (pe_fn (ok_count_orders T) (hr.mono (by decide)) pass0 (pa_cons (pv 2) pa_nil)) (pe_callB (k_len K rfl) (by rfl) T.n_len PySem.boot_len (pa_cons (pv 4) pa_nil)) (nomark _)) (pw_or1 (pt_cmpR (k_neD K rfl hr.units) (pe_fn (ok__law_call_3 T) (hr.mono (by decide)) pass0 (pa_cons pe_int (pa_cons (pv 2) (pa_cons (pe_callB (k_len K rfl) (by rfl) T.n_len PySem.boot_len (pa_cons (pv 4) pa_nil)) pa_nil)))) pe_str (nomark _))))) (pss_one (ps_ret pe_bl)) pss_nil)
      (pss_cons (ps_for PassesOwn.never rfl (k_pl K rfl (pe_frz (pe_lst (pa_cons pe_int (pa_cons (pe_op op_sub (pe_callB (k_len K rfl) (by rfl) T.n_len PySem.boot_len (pa_cons (pv 4) pa_nil)) pe_int) (pa_cons (pe_fn (ok__law_draw T) (hr.mono (by decide)) pass0 (pa_cons (pv 1) (pa_cons (pe_callB (k_len K rfl) (by rfl) T.n_len PySem.boot_len (pa_cons (pv 4) pa_nil)) pa_nil))) pa_nil)))))) (pg_name (i := 9) nd rfl (.inl rfl) (.inr rfl)) (pss_one (ps_if (PW.pt (pw_or (pt_cmpR (k_neD K rfl hr.units) (pe_fn (ok__law_call_3 T) (hr.mono (by decide)) pass0 (pa_cons pe_int (pa_cons (pv 2) (pa_cons (pv 9) pa_nil)))) (pe_ix (k_ixl K rfl) (pv 4) (pv 9) (fun _ _ => rfl)) (nomark _)) (pw_or1 (pt_cmpR (k_neD K rfl hr.units) (pe_fn (ok__law_call_2 T) (hr.mono (by decide)) pass0 (pa_cons pe_int (pa_cons (pv 2) (pa_cons (pe_ix (k_ixl K rfl) (pv 4) (pv 9) (fun _ _ => rfl)) pa_nil)))) (pv 9) (nomark _))))) (pss_one (ps_ret pe_bl)) pss_nil)))
      (pss_cons (ps_set (i := 10) nd rfl (.inl rfl) (pe_fn (ok__law_pick (α := (List Int)) T) (hr.mono (by decide)) pass0 (pa_cons (pv 1) (pa_cons (pe_fn (ok__law_orders T) (hr.mono (by decide)) pass0 (pa_cons (pv 3) pa_nil)) pa_nil))))
      (pss_cons (ps_if (pt_not (pt_val (pe_fn (ok__law_true T) (hr.mono (by decide)) pass0 (pa_cons (pe_fn (ok_can_be_order T) (hr.mono (by decide)) pass0 (pa_cons (pv 2) (pa_cons (pv 10) pa_nil))) (pa_cons (pe_cmpR (k_inD K rfl (u65 hr)) (pv 10) (pv 4) (by rfl)) pa_nil))))) (pss_one (ps_ret pe_bl)) pss_nil)
      (pss_cons (ps_if (pt_cmpR (k_ninD K rfl (u65 hr)) (pv 10) (pv 4) (by rfl)) (pss_one (ps_ret (pe_and (pe_cmpR (k_eqD K rfl hr.units) (pe_fn (ok__law_call T) (hr.mono (by decide)) pass0 (pa_cons pe_int (pa_cons (pv 2) (pa_cons (pv 10) pa_nil)))) pe_str (nomark _)) (pe_one (pe_cmpR (k_eqD K rfl hr.units) (pe_fn (ok__law_call_2 T) (hr.mono (by decide)) pass0 (pa_cons pe_int (pa_cons (pv 2) (pa_cons (pv 10) pa_nil)))) pe_str (nomark _)))))) pss_nil)
      (pss_cons (ps_set (i := 11) nd rfl (.inr rfl) (pe_fn (ok__law_call T) (hr.mono (by decide)) pass0 (pa_cons pe_int (pa_cons (pv 2) (pa_cons (pv 10) pa_nil)))))
      (pss_cons (ps_setLc (i := 12) (own := [("_law_place", 13)]) rfl nd rfl rfl (sw_true rfl rfl rfl (by decide +kernel)) (k_pl K rfl (pv 10)) (blkOk_by (N := N_law) (sc := defScope s_law) (by decide +kernel)) (fun _ _ _ _ _ => (pg_name (i := 13) nd rfl (.inl rfl) (.inr rfl))) (fun _ _ _ _ _ => pts_nil) (fun _ _ _ _ _ => (pe_ix (k_ixl K rfl) (pv 11) (pv 13) (fun _ _ => rfl))))
      (pss_frz 12 (pss_cons (ps_if (PW.pt (pw_or (pt_not (pt_val (pe_fn (ok__law_inside T) (hr.mono (by decide)) pass0 (pa_cons (pv 2) (pa_cons (pv 11) pa_nil))))) (pw_or1 (pt_cmpR (k_neD K rfl hr.units) (pv 12) (pe_frz (pe_callB (k_sorted K rfl) (by rfl) T.n_sorted (by decide +kernel) (pa_cons (pv 12) pa_nil))) (nomark _))))) (pss_one (ps_ret pe_bl)) pss_nil)
      (pss_cons (ps_set (i := 14) nd rfl (.inl rfl) (pe_op op_sub pe_int pe_int))
      (pss_cons (ps_for PassesOwn.never rfl (k_pl K rfl (pv 10)) (pg_name (i := 13) nd rfl (.inl rfl) (.inr rfl)) (pss_cons (ps_set (i := 14) nd rfl (.inl rfl) (pe_callB (call_max2 rfl) (by rfl) T.n_max (by decide +kernel) (pa_cons (pv 14) (pa_cons (pe_ix (k_ixt K rfl) (pe_ix (k_ixl K rfl) (pv 2) (pv 13) (fun _ _ => rfl)) pe_int (fun _ _ => rfl)) pa_nil))))
      (pss_one (ps_if (pt_cmpR op_ne (pe_ix (k_ixl K rfl) (pv 11) (pv 13) (fun _ _ => rfl)) (pv 14) (nomark _)) (pss_one (ps_ret pe_bl)) pss_nil))))
      (pss_one (ps_ret (pe_and (pe_cmpR op_ge (pe_fn (ok_count_orders T) (hr.mono (by decide)) pass0 (pa_cons (pe_frz (pe_fn (ok_widened T) (hr.mono (by decide)) pass0 (pa_cons (pv 2) (pa_cons pe_int pa_nil)))) pa_nil)) (pe_callB (k_len K rfl) (by rfl) T.n_len PySem.boot_len (pa_cons (pv 4) pa_nil)) (nomark _)) (pe_one (pe_cmpR op_eq (pe_fn (ok_count_orders T) (hr.mono (by decide)) pass0 (pa_cons (pe_frz (k_revL K rfl (pv 2))) pa_nil)) (pe_callB (k_len K rfl) (by rfl) T.n_len PySem.boot_len (pa_cons (pv 4) pa_nil)) (nomark _))))))))))))))))))))))), ?_⟩
  refine q_start (K := K) rfl hs hz (fun pd pn _ e616 dr0 => ?_)
  have hpdpn : pd ≠ pn := by obtain ⟨_, _, _, _, _, _, _, h⟩ := dr0; exact h
  refine q_setP (K := K) dr0 (ep_pickP (ep_frz (epl_lst2 (ep_frz (epl_draws (fun _ m617 => er_int) (sub_dr rfl) (by first | decide | (have := good_pos hB hgood; omega) | (have := good_few hB h5 hgood; omega) | exact or_pos _ | exact Nat.lt_of_le_of_lt (or_few h5) (by decide)))) (fun _ _ => (ep_frz (epl_draws (fun _ m618 => er_int) (sub_dr rfl) (by first | decide | (have := good_pos hB hgood; omega) | (have := good_few hB h5 hgood; omega) | exact or_pos _ | exact Nat.lt_of_le_of_lt (or_few h5) (by decide))))))) (sub_dr rfl) (by rintro l ⟨_, _, _, _, rfl⟩; exact ⟨by simp, by simp⟩)) (fun v620 _ bounds_here_c m622 dr623 h624 r621 => ?_)
  obtain ⟨_, ⟨bounds_here_b2, bounds_here_b3, hbounds_here_b2, hbounds_here_b3, rfl⟩, hbounds_here_c⟩ := h624
  have hB := pick_bok hbounds_here_b2 (by decide) hbounds_here_b3 (by decide) hbounds_here_c
  have h5 := pick5 hbounds_here_b2 hbounds_here_b3 hbounds_here_c
  have hw30 := pick30 hbounds_here_b2 hbounds_here_b3 hbounds_here_c
  refine q_set (K := K) (er_len (er_var rfl r621)) (fun v627 _ e625 r626 => ?_)
  refine q_setL (K := K) (erl_lst (α := (List Int)) ea_nil) (fun p628 _ _ e629 hn630 h631 rl632 => ?_)
  have n634 := Dr.pd_ne (Dr.mono e625 dr623) hn630
  have n635 := Dr.pn_ne (Dr.mono e625 dr623) hn630
  have u633 := Un.of h631 rl632
  -- for _law_row in _law_orders(_law_size)
  refine q_for (K := K) (src_list (er_call1 (er_var rfl (Rp.mono (SF.of e629) r626)) (by exact h5))) (fun H1 k σ' H' => ∃ (s_l1 : (List (List Int))) (y637 : Option V) (y638 : Option V), σ' = [some (.ref a), some (.ref pd), some v620, some v627, some (.ref p628), y637, y638, none, none, none, none, none, none, none, none] ∧ s_l1 = (List.take k (m__law_orders bounds_here_c.length)).foldl (fun (s_l1 : (List (List Int))) (row : (List Int)) => ((if (decide ((mapIf (fun (x652 : Nat) => (!(decide ((mapIf (fun (x657 : Int) => (decide (((bounds_here_c).getD (x657).toNat (0, 0)).1 > ((bounds_here_c).getD (((row).getD (x652) 0)).toNat (0, 0)).2))) (fun (x657 : Int) => x657) (cutL row none (some ((x652 : Nat) : Int)))) = ([] : (List Int)))))) (fun (x652 : Nat) => x652) (List.range bounds_here_c.length)) = ([] : (List Nat)))) = true then (s_l1 ++ [row]) else s_l1) : (List (List Int)))) ([] : (List (List Int))) ∧ Mus [p628] H1 H' ∧ Un K H' p628 s_l1) (fun H1 e => ⟨([] : (List (List Int))), _, _, rfl, rfl, Mus.refl _, (Un.mono e u633)⟩) (fun _ _ _ _ h => by obtain ⟨_, _, _, _, _, m, _⟩ := h; exact m.sf) (fun H1 k645 row σ' H' vrow _ e642 hx641 hP e643 rrow => ?_) (fun H1 σ' H' e642 hP => ?_)
  ·
    obtain ⟨s_l1, y637, y638, rfl, hs639, m644, u646⟩ := hP
    refine s_gn ?_
    have hrow := List.mem_of_getElem? hx641
    have hturn1 := hs639
    have r648 := (Rp.mono (((((SF.of e625).trans (SF.of e629)).trans (SF.of e642)).trans m644.sf).trans (SF.of e643)) r621)
    have r649 := (Rp.mono ((((SF.of e629).trans (SF.of e642)).trans m644.sf).trans (SF.of e643)) r626)
    have dr650 := (Dr.mono e643 (Dr.mus m644 (nin n634 nin0) (nin n635 nin0) (Dr.mono e642 (Dr.mono e629 (Dr.mono e625 dr623)))))
    refine q_setL (K := K) (erl_lc1 (c := fun (x652 : Nat) => (!(decide ((mapIf (fun (x657 : Int) => (decide (((bounds_here_c).getD (x657).toNat (0, 0)).1 > ((bounds_here_c).getD (((row).getD (x652) 0)).toNat (0, 0)).2))) (fun (x657 : Int) => x657) (cutL row none (some ((x652 : Nat) : Int)))) = ([] : (List Int)))))) (f := fun (x652 : Nat) => x652) (src_range1 (er_var rfl r649) (by have := hB.2.1; first | omega | (rw [List.length_range]; omega) | (have := (or_row h5 hrow).1; rw [cutL_to, List.length_take]; omega) | (have g1 := fold_growE 1 hturn1 (fun s x _ => by split <;> simp); have g2 := or_few h5; simp only [List.length_take, List.length_nil] at g1; omega) | (have := (or_row h5 hdrawn_c).1; omega))) (by have := hB.2.1; first | omega | (rw [List.length_range]; omega) | (have := (or_row h5 hrow).1; rw [cutL_to, List.length_take]; omega) | (have g1 := fold_growE 1 hturn1 (fun s x _ => by split <;> simp); have g2 := or_few h5; simp only [List.length_take, List.length_nil] at g1; omega) | (have := (or_row h5 hdrawn_c).1; omega)) (by intros; rfl) (fun x652 hx653 v654 _ e651 r655 => ⟨(et_test (er_op (er_frz (erl_lc1 (c := fun (x657 : Int) => (decide (((bounds_here_c).getD (x657).toNat (0, 0)).1 > ((bounds_here_c).getD (((row).getD (x652) 0)).toNat (0, 0)).2))) (f := fun (x657 : Int) => x657) (src_list (er_frz (erl_sl (er_var rfl (Rp.mono (SF.of e651) rrow)) eo_none (eo_some (er_up (er_var rfl r655)))))) (by have := hB.2.1; first | omega | (rw [List.length_range]; omega) | (have := (or_row h5 hrow).1; rw [cutL_to, List.length_take]; omega) | (have g1 := fold_growE 1 hturn1 (fun s x _ => by split <;> simp); have g2 := or_few h5; simp only [List.length_take, List.length_nil] at g1; omega) | (have := (or_row h5 hdrawn_c).1; omega)) (by intros; rfl) (fun x657 hx658 v659 _ e656 r660 => ⟨(et_test (er_op (er_op (er_op (er_var rfl (Rp.mono (SF.of (e651.trans e656)) r648)) (er_var rfl r660) (rr_ixI (x := ((bounds_here_c).getD (x657).toNat (0, 0))) (n := (x657).toNat) (by first | (have := (or_row h5 hrow).2.2 _ (cut_mem (by assumption)); omega) | (have := (or_row h5 hrow).2.2 _ (at_mem (d := 0) (show _ < row.length from by rw [(or_row h5 hrow).1]; exact List.mem_range.mp (by assumption))); omega) | (have := (rank_in (good_pos hB hgood) hlist2 hrank); omega) | (have := (or_row h5 hdrawn_c).2.2 _ (by assumption); omega)) (by first | exact getD_at (by have := (or_row h5 hrow).2.2 _ (cut_mem (by assumption)); omega) | exact getD_at (show _ < row.length from by rw [(or_row h5 hrow).1]; exact List.mem_range.mp (by assumption)) | exact getD_at (by have := (or_row h5 hrow).2.2 _ (at_mem (d := 0) (show _ < row.length from by rw [(or_row h5 hrow).1]; exact List.mem_range.mp (by assumption))); omega) | exact getD_at (by have := (rank_in (good_pos hB hgood) hlist2 hrank); omega) | exact getD_at (by have := (or_row h5 hdrawn_c).2.2 _ (by assumption); omega) | exact getD_at (by rw [htold, told_len]; have := (or_row h5 hdrawn_c).2.2 _ (by assumption); omega)))) er_int rr_ixP0) (er_op (er_op (er_var rfl (Rp.mono (SF.of (e651.trans e656)) r648)) (er_op (er_var rfl (Rp.mono (SF.of (e651.trans e656)) rrow)) (er_up (er_var rfl (Rp.mono (SF.of e656) r655))) (rr_ixL (x := ((row).getD (x652) 0)) (by first | exact getD_at (by have := (or_row h5 hrow).2.2 _ (cut_mem (by assumption)); omega) | exact getD_at (show _ < row.length from by rw [(or_row h5 hrow).1]; exact List.mem_range.mp (by assumption)) | exact getD_at (by have := (or_row h5 hrow).2.2 _ (at_mem (d := 0) (show _ < row.length from by rw [(or_row h5 hrow).1]; exact List.mem_range.mp (by assumption))); omega) | exact getD_at (by have := (rank_in (good_pos hB hgood) hlist2 hrank); omega) | exact getD_at (by have := (or_row h5 hdrawn_c).2.2 _ (by assumption); omega) | exact getD_at (by rw [htold, told_len]; have := (or_row h5 hdrawn_c).2.2 _ (by assumption); omega)))) (rr_ixI (x := ((bounds_here_c).getD (((row).getD (x652) 0)).toNat (0, 0))) (n := (((row).getD (x652) 0)).toNat) (by first | (have := (or_row h5 hrow).2.2 _ (cut_mem (by assumption)); omega) | (have := (or_row h5 hrow).2.2 _ (at_mem (d := 0) (show _ < row.length from by rw [(or_row h5 hrow).1]; exact List.mem_range.mp (by assumption))); omega) | (have := (rank_in (good_pos hB hgood) hlist2 hrank); omega) | (have := (or_row h5 hdrawn_c).2.2 _ (by assumption); omega)) (by first | exact getD_at (by have := (or_row h5 hrow).2.2 _ (cut_mem (by assumption)); omega) | exact getD_at (show _ < row.length from by rw [(or_row h5 hrow).1]; exact List.mem_range.mp (by assumption)) | exact getD_at (by have := (or_row h5 hrow).2.2 _ (at_mem (d := 0) (show _ < row.length from by rw [(or_row h5 hrow).1]; exact List.mem_range.mp (by assumption))); omega) | exact getD_at (by have := (rank_in (good_pos hB hgood) hlist2 hrank); omega) | exact getD_at (by have := (or_row h5 hdrawn_c).2.2 _ (by assumption); omega) | exact getD_at (by rw [htold, told_len]; have := (or_row h5 hdrawn_c).2.2 _ (by assumption); omega)))) er_int rr_ixP1) rr_gt)), fun _ => (er_var rfl r660)⟩))) (er_frz (erl_lst (α := Int) ea_nil)) rr_neT)), fun _ => (er_var rfl r655)⟩)) (fun p665 _ _ e661 hn666 hp667 rl668 => ?_)
    refine q_frz (K := K) rfl (Un.of hp667 rl668) (fun _ m664 r662 => ?_)
    replace e661 := Mu.base m664 e661 hn666
    refine q_last ?_
    refine q_if (K := K) (et_test (er_op (er_var rfl r662) (er_frz (erl_lst (α := Nat) ea_nil)) rr_eqT)) (fun hc670 _ e669 => ?_) (fun hc670 _ e669 => ?_)
    ·
      refine q_last ?_
      refine q_app (K := K) rfl (Un.mono e669 (Un.mono e661 (Un.mono e643 u646))) (er_var rfl (Rp.mono ((SF.of e661).trans (SF.of e669)) rrow)) (by have := hB.2.1; first | omega | (rw [List.length_range]; omega) | (have := (or_row h5 hrow).1; rw [cutL_to, List.length_take]; omega) | (have g1 := fold_growE 1 hturn1 (fun s x _ => by split <;> simp); have g2 := or_few h5; simp only [List.length_take, List.length_nil] at g1; omega) | (have := (or_row h5 hdrawn_c).1; omega)) (fun _ m671 u672 => ?_)
      refine s_nxz ?_
      refine s_nx ?_
      exact ⟨(s_l1 ++ [row]), _, _, rfl, (Eq.trans (show (s_l1 ++ [row]) = (if (decide ((mapIf (fun (x652 : Nat) => (!(decide ((mapIf (fun (x657 : Int) => (decide (((bounds_here_c).getD (x657).toNat (0, 0)).1 > ((bounds_here_c).getD (((row).getD (x652) 0)).toNat (0, 0)).2))) (fun (x657 : Int) => x657) (cutL row none (some ((x652 : Nat) : Int)))) = ([] : (List Int)))))) (fun (x652 : Nat) => x652) (List.range bounds_here_c.length)) = ([] : (List Nat)))) = true then (s_l1 ++ [row]) else s_l1) from by rw [if_pos hc670]) (fold_step hx641 hs639)), (((((Mus.baseS (Mus.refl _) m644 (allC (.inr (.head _)) all0)).trans (Mus.of e643)).trans (Mus.of e661)).trans (Mus.of e669)).trans (Mus.mu m671 (.head _))), u672⟩
    ·
      refine s_nxz ?_
      refine s_nx ?_
      exact ⟨s_l1, _, _, rfl, (Eq.trans (show s_l1 = (if (decide ((mapIf (fun (x652 : Nat) => (!(decide ((mapIf (fun (x657 : Int) => (decide (((bounds_here_c).getD (x657).toNat (0, 0)).1 > ((bounds_here_c).getD (((row).getD (x652) 0)).toNat (0, 0)).2))) (fun (x657 : Int) => x657) (cutL row none (some ((x652 : Nat) : Int)))) = ([] : (List Int)))))) (fun (x652 : Nat) => x652) (List.range bounds_here_c.length)) = ([] : (List Nat)))) = true then (s_l1 ++ [row]) else s_l1) from by rw [if_neg (nff hc670)]) (fold_step hx641 hs639)), ((((Mus.baseS (Mus.refl _) m644 (allC (.inr (.head _)) all0)).trans (Mus.of e643)).trans (Mus.of e661)).trans (Mus.of e669)), (Un.mono e669 (Un.mono e661 (Un.mono e643 u646)))⟩
  ·
    obtain ⟨s_l1, y637, y638, rfl, hs639, m644, u646⟩ := hP
    replace hs639 := fold_all hs639
    have hfold1 := hs639
    refine q_frz (K := K) rfl u646 (fun _ m673 r674 => ?_)
    have hgood := good_is hB hfold1
    have r675 := (Rp.mono (((((SF.of e625).trans (SF.of e629)).trans (SF.of e642)).trans m644.sf).trans m673.sf) r621)
    have r676 := (Rp.mono ((((SF.of e629).trans (SF.of e642)).trans m644.sf).trans m673.sf) r626)
    have dr677 := (Dr.of_mu m673 n634 n635 (Dr.mus m644 (nin n634 nin0) (nin n635 nin0) (Dr.mono e642 (Dr.mono e629 (Dr.mono e625 dr623)))))
    -- 1: count_orders(_law_bounds_here) != len(_law_good) or _law_call(2, _law_bounds_here, len(_law_good)) != 'number'
    refine q_not (K := K) (et_or (et_test (er_op (er_call1 (er_var rfl r675) (by first | exact hB | exact wd_ok ⟨hB, by decide, hw30⟩ | exact rev_bok hB)) (er_up (er_len (er_var rfl r674))) rr_neI)) (fun hsc => (et_test (er_op (er_call3 er_int (er_var rfl r675) (er_up (er_len (er_var rfl r674))) (by first | exact ⟨rfl, hB⟩ | (have ho := or_row h5 hdrawn_c; exact ⟨rfl, hB, ho.1, ho.2.2, ho.2.1⟩) | (have hr := (rank_in (good_pos hB hgood) hlist2 hrank); exact ⟨rfl, hB, good_row hB h5 hgood hr.1 hr.2⟩))) (er_inr (α := (List Int)) er_str) (rr_neD (by first | exact okL | exact okI | exact okW (.inl rfl) | exact okW (.inr rfl) | (rw [call_at_no hB hgood]; exact okW (.inl rfl)) | (have hr := (rank_in (good_pos hB hgood) hlist2 hrank); rw [call_at_ok hB hgood hr.1 hr.2]; exact okL) | (have hr := (rank_in (good_pos hB hgood) hlist2 hrank); rw [call_rank_ok hB hgood hr.1 hr.2]; exact okI) | (rw [call_choice_no (ps_not hB hgood hdrawn_c (by assumption))]; exact okW (.inr rfl)) | (rw [call_rank_no (ps_not hB hgood hdrawn_c (by assumption))]; exact okW (.inr rfl))) (by first | exact okL | exact okI | exact okW (.inl rfl) | exact okW (.inr rfl) | (rw [call_at_no hB hgood]; exact okW (.inl rfl)) | (have hr := (rank_in (good_pos hB hgood) hlist2 hrank); rw [call_at_ok hB hgood hr.1 hr.2]; exact okL) | (have hr := (rank_in (good_pos hB hgood) hlist2 hrank); rw [call_rank_ok hB hgood hr.1 hr.2]; exact okI) | (rw [call_choice_no (ps_not hB hgood hdrawn_c (by assumption))]; exact okW (.inr rfl)) | (rw [call_rank_no (ps_not hB hgood hdrawn_c (by assumption))]; exact okW (.inr rfl)))))))) (by exact k07_1 hB hgood) (fun _ e678 => ?_)
    -- for _law_rank in [0, len(_law_good) - 1, _law_draw(_law_draws, len(_law_good))]
    refine q_forP (K := K) (srcP_list (ep_frz (epl_lst3 (ep_of (fun _ m679 => er_int)) (fun _ _ => (ep_of (fun _ m680 => (er_op (er_up (er_len (er_var rfl (Rp.mono ((SF.of e678).trans m680.sf) r674)))) er_int rr_sub)))) (fun _ _ _ _ => (ep_draw (fun _ m681 => (er_up (er_len (er_var rfl (Rp.mono ((SF.of e678).trans m681.sf) r674))))) (sub_dr rfl) (by first | decide | (have := good_pos hB hgood; omega) | (have := good_few hB h5 hgood; omega) | exact or_pos _ | exact Nat.lt_of_le_of_lt (or_few h5) (by decide)) (by first | decide | (have := good_pos hB hgood; omega) | (have := good_few hB h5 hgood; omega) | exact or_pos _ | exact Nat.lt_of_le_of_lt (or_few h5) (by decide))))))) (Dr.mono e678 dr677) (fun l_682 H1 k σ' H' => ∃ (y684 : Option V), σ' = [some (.ref a), some (.ref pd), some v620, some v627, some (.ref p628), y637, y638, none, none, y684, none, none, none, none, none] ∧ Mus [pd, pn] H1 H' ∧ Dr H' pd pn) (fun l_682 H1 hlist2 e d_ => ⟨_, rfl, Mus.refl _, d_⟩) (fun _ _ _ _ _ h => by obtain ⟨_, _, m, _⟩ := h; exact m.sf) (fun l_682 H1 k691 rank σ' H' vrank _ hlist2 e688 dq_ hx687 hP e689 rrank => ?_) (fun l_682 H1 σ' H' hlist2 e688 dq_ hP => ?_)
    ·
      obtain ⟨y684, rfl, m690, dr692⟩ := hP
      refine s_gn ?_
      have hrank := List.mem_of_getElem? hx687
      refine q_last ?_
      have r693 := (Rp.mono ((((SF.of e678).trans e688.sf).trans m690.sf).trans (SF.of e689)) r675)
      have r694 := (Rp.mono ((((SF.of e678).trans e688.sf).trans m690.sf).trans (SF.of e689)) r676)
      have r695 := (Rp.mono ((((SF.of e678).trans e688.sf).trans m690.sf).trans (SF.of e689)) r674)
      -- 2: _law_call(2, _law_bounds_here, _law_rank) != _law_good[_law_rank] or _law_call(1, _law_bounds_here, _law_good[_law_rank]) != _law_rank
      refine q_not (K := K) (et_or (et_test (er_op (er_call3 er_int (er_var rfl r693) (er_var rfl rrank) (by first | exact ⟨rfl, hB⟩ | (have ho := or_row h5 hdrawn_c; exact ⟨rfl, hB, ho.1, ho.2.2, ho.2.1⟩) | (have hr := (rank_in (good_pos hB hgood) hlist2 hrank); exact ⟨rfl, hB, good_row hB h5 hgood hr.1 hr.2⟩))) (er_inl (β := Str) (er_op (er_var rfl r695) (er_var rfl rrank) (rr_ixI (x := ((s_l1).getD (rank).toNat [])) (n := (rank).toNat) (by first | (have := (or_row h5 hrow).2.2 _ (cut_mem (by assumption)); omega) | (have := (or_row h5 hrow).2.2 _ (at_mem (d := 0) (show _ < row.length from by rw [(or_row h5 hrow).1]; exact List.mem_range.mp (by assumption))); omega) | (have := (rank_in (good_pos hB hgood) hlist2 hrank); omega) | (have := (or_row h5 hdrawn_c).2.2 _ (by assumption); omega)) (by first | exact getD_at (by have := (or_row h5 hrow).2.2 _ (cut_mem (by assumption)); omega) | exact getD_at (show _ < row.length from by rw [(or_row h5 hrow).1]; exact List.mem_range.mp (by assumption)) | exact getD_at (by have := (or_row h5 hrow).2.2 _ (at_mem (d := 0) (show _ < row.length from by rw [(or_row h5 hrow).1]; exact List.mem_range.mp (by assumption))); omega) | exact getD_at (by have := (rank_in (good_pos hB hgood) hlist2 hrank); omega) | exact getD_at (by have := (or_row h5 hdrawn_c).2.2 _ (by assumption); omega) | exact getD_at (by rw [htold, told_len]; have := (or_row h5 hdrawn_c).2.2 _ (by assumption); omega))))) (rr_neD (by first | exact okL | exact okI | exact okW (.inl rfl) | exact okW (.inr rfl) | (rw [call_at_no hB hgood]; exact okW (.inl rfl)) | (have hr := (rank_in (good_pos hB hgood) hlist2 hrank); rw [call_at_ok hB hgood hr.1 hr.2]; exact okL) | (have hr := (rank_in (good_pos hB hgood) hlist2 hrank); rw [call_rank_ok hB hgood hr.1 hr.2]; exact okI) | (rw [call_choice_no (ps_not hB hgood hdrawn_c (by assumption))]; exact okW (.inr rfl)) | (rw [call_rank_no (ps_not hB hgood hdrawn_c (by assumption))]; exact okW (.inr rfl))) (by first | exact okL | exact okI | exact okW (.inl rfl) | exact okW (.inr rfl) | (rw [call_at_no hB hgood]; exact okW (.inl rfl)) | (have hr := (rank_in (good_pos hB hgood) hlist2 hrank); rw [call_at_ok hB hgood hr.1 hr.2]; exact okL) | (have hr := (rank_in (good_pos hB hgood) hlist2 hrank); rw [call_rank_ok hB hgood hr.1 hr.2]; exact okI) | (rw [call_choice_no (ps_not hB hgood hdrawn_c (by assumption))]; exact okW (.inr rfl)) | (rw [call_rank_no (ps_not hB hgood hdrawn_c (by assumption))]; exact okW (.inr rfl)))))) (fun hsc => (et_test (er_op (er_call3 er_int (er_var rfl r693) (er_op (er_var rfl r695) (er_var rfl rrank) (rr_ixI (x := ((s_l1).getD (rank).toNat [])) (n := (rank).toNat) (by first | (have := (or_row h5 hrow).2.2 _ (cut_mem (by assumption)); omega) | (have := (or_row h5 hrow).2.2 _ (at_mem (d := 0) (show _ < row.length from by rw [(or_row h5 hrow).1]; exact List.mem_range.mp (by assumption))); omega) | (have := (rank_in (good_pos hB hgood) hlist2 hrank); omega) | (have := (or_row h5 hdrawn_c).2.2 _ (by assumption); omega)) (by first | exact getD_at (by have := (or_row h5 hrow).2.2 _ (cut_mem (by assumption)); omega) | exact getD_at (show _ < row.length from by rw [(or_row h5 hrow).1]; exact List.mem_range.mp (by assumption)) | exact getD_at (by have := (or_row h5 hrow).2.2 _ (at_mem (d := 0) (show _ < row.length from by rw [(or_row h5 hrow).1]; exact List.mem_range.mp (by assumption))); omega) | exact getD_at (by have := (rank_in (good_pos hB hgood) hlist2 hrank); omega) | exact getD_at (by have := (or_row h5 hdrawn_c).2.2 _ (by assumption); omega) | exact getD_at (by rw [htold, told_len]; have := (or_row h5 hdrawn_c).2.2 _ (by assumption); omega)))) (by first | exact ⟨rfl, hB⟩ | (have ho := or_row h5 hdrawn_c; exact ⟨rfl, hB, ho.1, ho.2.2, ho.2.1⟩) | (have hr := (rank_in (good_pos hB hgood) hlist2 hrank); exact ⟨rfl, hB, good_row hB h5 hgood hr.1 hr.2⟩))) (er_inl (β := Str) (er_var rfl rrank)) (rr_neD (by first | exact okL | exact okI | exact okW (.inl rfl) | exact okW (.inr rfl) | (rw [call_at_no hB hgood]; exact okW (.inl rfl)) | (have hr := (rank_in (good_pos hB hgood) hlist2 hrank); rw [call_at_ok hB hgood hr.1 hr.2]; exact okL) | (have hr := (rank_in (good_pos hB hgood) hlist2 hrank); rw [call_rank_ok hB hgood hr.1 hr.2]; exact okI) | (rw [call_choice_no (ps_not hB hgood hdrawn_c (by assumption))]; exact okW (.inr rfl)) | (rw [call_rank_no (ps_not hB hgood hdrawn_c (by assumption))]; exact okW (.inr rfl))) (by first | exact okL | exact okI | exact okW (.inl rfl) | exact okW (.inr rfl) | (rw [call_at_no hB hgood]; exact okW (.inl rfl)) | (have hr := (rank_in (good_pos hB hgood) hlist2 hrank); rw [call_at_ok hB hgood hr.1 hr.2]; exact okL) | (have hr := (rank_in (good_pos hB hgood) hlist2 hrank); rw [call_rank_ok hB hgood hr.1 hr.2]; exact okI) | (rw [call_choice_no (ps_not hB hgood hdrawn_c (by assumption))]; exact okW (.inr rfl)) | (rw [call_rank_no (ps_not hB hgood hdrawn_c (by assumption))]; exact okW (.inr rfl)))))))) (by exact k07_2 hB hgood (rank_in (good_pos hB hgood) hlist2 hrank)) (fun _ e696 => ?_)
      refine s_nx ?_
      exact ⟨_, rfl, (((Mus.baseS (Mus.refl _) m690 (allC (.inr (.head _)) (allC (.inr (.tail _ (.head _))) all0))).trans (Mus.of e689)).trans (Mus.of e696)), (Dr.mono e696 (Dr.mono e689 dr692))⟩
    ·
      obtain ⟨y684, rfl, m690, dr692⟩ := hP
      refine q_setP (K := K) dr692 (ep_pick (fun _ m697 => (er_call1 (er_var rfl (Rp.mono ((((SF.of e678).trans e688.sf).trans m690.sf).trans m697.sf) r676)) (by exact h5))) (sub_dr rfl) (by first | decide | (have := good_pos hB hgood; omega) | (have := good_few hB h5 hgood; omega) | exact or_pos _ | exact Nat.lt_of_le_of_lt (or_few h5) (by decide)) (by first | decide | (have := good_pos hB hgood; omega) | (have := good_few hB h5 hgood; omega) | exact or_pos _ | exact Nat.lt_of_le_of_lt (or_few h5) (by decide))) (fun v699 _ drawn_c m701 dr702 hdrawn_c r700 => ?_)
      have r704 := (Rp.mono ((((SF.of e678).trans e688.sf).trans m690.sf).trans m701.sf) r675)
      have r705 := (Rp.mono ((((SF.of e678).trans e688.sf).trans m690.sf).trans m701.sf) r676)
      have r706 := (Rp.mono ((((SF.of e678).trans e688.sf).trans m690.sf).trans m701.sf) r674)
      -- 3: not _law_true(can_be_order(_law_bounds_here, _law_drawn), _law_drawn in _law_good)
      refine q_not (K := K) (et_not (et_B (er_call2 (er_call2 (er_var rfl r704) (er_var rfl r700) (by have ho := or_row h5 hdrawn_c; exact ⟨hB, ho.1, ho.2.2, ho.2.1⟩)) (er_op (er_var rfl r700) (er_var rfl r706) (rr_inD (α := (List Int)))) trivial))) (by exact k07_3 hB hgood hdrawn_c) (fun _ e707 => ?_)
      refine q_if (K := K) (et_test (er_op (er_var rfl (Rp.mono (SF.of e707) r700)) (er_var rfl (Rp.mono (SF.of e707) r706)) (rr_ninD (α := (List Int))))) (fun hc709 _ e708 => ?_) (fun hc709 _ e708 => ?_)
      ·
        -- end: _law_call(0, _law_bounds_here, _law_drawn) == 'none' and _law_call(1, _law_bounds_here, _law_drawn) == 'none'
        exact s_true (K := K) (er_andV (er_op (er_call3 er_int (er_var rfl (Rp.mono ((SF.of e707).trans (SF.of e708)) r704)) (er_var rfl (Rp.mono ((SF.of e707).trans (SF.of e708)) r700)) (by first | exact ⟨rfl, hB⟩ | (have ho := or_row h5 hdrawn_c; exact ⟨rfl, hB, ho.1, ho.2.2, ho.2.1⟩) | (have hr := (rank_in (good_pos hB hgood) hlist2 hrank); exact ⟨rfl, hB, good_row hB h5 hgood hr.1 hr.2⟩))) (er_inr (α := (List Int)) er_str) (rr_eqD (by first | exact okL | exact okI | exact okW (.inl rfl) | exact okW (.inr rfl) | (rw [call_at_no hB hgood]; exact okW (.inl rfl)) | (have hr := (rank_in (good_pos hB hgood) hlist2 hrank); rw [call_at_ok hB hgood hr.1 hr.2]; exact okL) | (have hr := (rank_in (good_pos hB hgood) hlist2 hrank); rw [call_rank_ok hB hgood hr.1 hr.2]; exact okI) | (rw [call_choice_no (ps_not hB hgood hdrawn_c (by assumption))]; exact okW (.inr rfl)) | (rw [call_rank_no (ps_not hB hgood hdrawn_c (by assumption))]; exact okW (.inr rfl))) (by first | exact okL | exact okI | exact okW (.inl rfl) | exact okW (.inr rfl) | (rw [call_at_no hB hgood]; exact okW (.inl rfl)) | (have hr := (rank_in (good_pos hB hgood) hlist2 hrank); rw [call_at_ok hB hgood hr.1 hr.2]; exact okL) | (have hr := (rank_in (good_pos hB hgood) hlist2 hrank); rw [call_rank_ok hB hgood hr.1 hr.2]; exact okI) | (rw [call_choice_no (ps_not hB hgood hdrawn_c (by assumption))]; exact okW (.inr rfl)) | (rw [call_rank_no (ps_not hB hgood hdrawn_c (by assumption))]; exact okW (.inr rfl))))) (fun hsc => (er_op (er_call3 er_int (er_var rfl (Rp.mono ((SF.of e707).trans (SF.of e708)) r704)) (er_var rfl (Rp.mono ((SF.of e707).trans (SF.of e708)) r700)) (by first | exact ⟨rfl, hB⟩ | (have ho := or_row h5 hdrawn_c; exact ⟨rfl, hB, ho.1, ho.2.2, ho.2.1⟩) | (have hr := (rank_in (good_pos hB hgood) hlist2 hrank); exact ⟨rfl, hB, good_row hB h5 hgood hr.1 hr.2⟩))) (er_inr (α := Int) er_str) (rr_eqD (by first | exact okL | exact okI | exact okW (.inl rfl) | exact okW (.inr rfl) | (rw [call_at_no hB hgood]; exact okW (.inl rfl)) | (have hr := (rank_in (good_pos hB hgood) hlist2 hrank); rw [call_at_ok hB hgood hr.1 hr.2]; exact okL) | (have hr := (rank_in (good_pos hB hgood) hlist2 hrank); rw [call_rank_ok hB hgood hr.1 hr.2]; exact okI) | (rw [call_choice_no (ps_not hB hgood hdrawn_c (by assumption))]; exact okW (.inr rfl)) | (rw [call_rank_no (ps_not hB hgood hdrawn_c (by assumption))]; exact okW (.inr rfl))) (by first | exact okL | exact okI | exact okW (.inl rfl) | exact okW (.inr rfl) | (rw [call_at_no hB hgood]; exact okW (.inl rfl)) | (have hr := (rank_in (good_pos hB hgood) hlist2 hrank); rw [call_at_ok hB hgood hr.1 hr.2]; exact okL) | (have hr := (rank_in (good_pos hB hgood) hlist2 hrank); rw [call_rank_ok hB hgood hr.1 hr.2]; exact okI) | (rw [call_choice_no (ps_not hB hgood hdrawn_c (by assumption))]; exact okW (.inr rfl)) | (rw [call_rank_no (ps_not hB hgood hdrawn_c (by assumption))]; exact okW (.inr rfl))))))) (by first | exact k07_6 hB hgood | exact k07_e (ps_not hB hgood hdrawn_c (by assumption))) q
      ·
        refine s_nxz ?_
        refine q_set (K := K) (er_getL (d := []) (er_call3 er_int (er_var rfl (Rp.mono ((SF.of e707).trans (SF.of e708)) r704)) (er_var rfl (Rp.mono ((SF.of e707).trans (SF.of e708)) r700)) (by first | exact ⟨rfl, hB⟩ | (have ho := or_row h5 hdrawn_c; exact ⟨rfl, hB, ho.1, ho.2.2, ho.2.1⟩) | (have hr := (rank_in (good_pos hB hgood) hlist2 hrank); exact ⟨rfl, hB, good_row hB h5 hgood hr.1 hr.2⟩))) (by exact told_left (ps_yes hB hgood (by assumption)))) (fun v712 _ e710 r711 => ?_)
        obtain ⟨told_713, htold_713⟩ : ∃ z, z = (sumL [] (m_call_choice (0 : Int) bounds_here_c drawn_c)) := ⟨_, rfl⟩
        replace r711 := Rp.cong r711 htold_713
        have hyes := (ps_yes hB hgood (by assumption))
        have htold := told_is hyes htold_713
        refine q_setL (K := K) (erl_lm1 (f := fun (x715 : Int) => ((told_713).getD (x715).toNat 0)) (src_list (er_var rfl (Rp.mono (((SF.of e707).trans (SF.of e708)).trans (SF.of e710)) r700))) (by have := hB.2.1; first | omega | (rw [List.length_range]; omega) | (have := (or_row h5 hrow).1; rw [cutL_to, List.length_take]; omega) | (have g1 := fold_growE 1 hturn1 (fun s x _ => by split <;> simp); have g2 := or_few h5; simp only [List.length_take, List.length_nil] at g1; omega) | (have := (or_row h5 hdrawn_c).1; omega)) (by intros; rfl) (fun x715 hx716 v717 _ e714 r718 => (er_op (er_var rfl (Rp.mono (SF.of e714) r711)) (er_var rfl r718) (rr_ixI (x := ((told_713).getD (x715).toNat 0)) (n := (x715).toNat) (by first | (have := (or_row h5 hrow).2.2 _ (cut_mem (by assumption)); omega) | (have := (or_row h5 hrow).2.2 _ (at_mem (d := 0) (show _ < row.length from by rw [(or_row h5 hrow).1]; exact List.mem_range.mp (by assumption))); omega) | (have := (rank_in (good_pos hB hgood) hlist2 hrank); omega) | (have := (or_row h5 hdrawn_c).2.2 _ (by assumption); omega)) (by first | exact getD_at (by have := (or_row h5 hrow).2.2 _ (cut_mem (by assumption)); omega) | exact getD_at (show _ < row.length from by rw [(or_row h5 hrow).1]; exact List.mem_range.mp (by assumption)) | exact getD_at (by have := (or_row h5 hrow).2.2 _ (at_mem (d := 0) (show _ < row.length from by rw [(or_row h5 hrow).1]; exact List.mem_range.mp (by assumption))); omega) | exact getD_at (by have := (rank_in (good_pos hB hgood) hlist2 hrank); omega) | exact getD_at (by have := (or_row h5 hdrawn_c).2.2 _ (by assumption); omega) | exact getD_at (by rw [htold, told_len]; have := (or_row h5 hdrawn_c).2.2 _ (by assumption); omega)))))) (fun p723 _ _ e719 hn724 hp725 rl726 => ?_)
        refine q_frz (K := K) rfl (Un.of hp725 rl726) (fun _ m722 r720 => ?_)
        replace e719 := Mu.base m722 e719 hn724
        obtain ⟨values_727, hvalues_727⟩ : ∃ z, z = (drawn_c.map (fun (x715 : Int) => ((told_713).getD (x715).toNat 0))) := ⟨_, rfl⟩
        replace r720 := Rp.cong r720 hvalues_727
        have hvalues := hvalues_727
        have r728 := (Rp.mono ((((SF.of e707).trans (SF.of e708)).trans (SF.of e710)).trans (SF.of e719)) r704)
        have r729 := (Rp.mono ((((SF.of e707).trans (SF.of e708)).trans (SF.of e710)).trans (SF.of e719)) r705)
        have r730 := (Rp.mono ((((SF.of e707).trans (SF.of e708)).trans (SF.of e710)).trans (SF.of e719)) r706)
        have r731 := (Rp.mono ((((SF.of e707).trans (SF.of e708)).trans (SF.of e710)).trans (SF.of e719)) r700)
        have dr732 := (Dr.mono e719 (Dr.mono e710 (Dr.mono e708 (Dr.mono e707 dr702))))
        -- 4: not _law_inside(_law_bounds_here, _law_told) or _law_values != sorted(_law_values)
        refine q_not (K := K) (et_or (et_not (et_B (er_call2 (er_var rfl r728) (er_var rfl (Rp.mono (SF.of e719) r711)) (by rw [htold, told_len]; exact ⟨by omega, by omega⟩)))) (fun hsc => (et_test (er_op (er_var rfl r720) (er_frz (erl_sorted (er_var rfl r720))) rr_neT)))) (by exact k07_4 hB (or_row h5 hdrawn_c) hyes htold hvalues) (fun _ e733 => ?_)
        refine q_set (K := K) (er_op er_int er_int rr_sub) (fun v736 _ e734 r735 => ?_)
        -- for _law_place in _law_drawn
        refine q_for (K := K) (src_list (er_var rfl (Rp.mono ((SF.of e733).trans (SF.of e734)) r731))) (fun H1 k σ' H' => ∃ (s_l3 : Int) (w738 : V) (y739 : Option V), σ' = [some (.ref a), some (.ref pd), some v620, some v627, some (.ref p628), y637, y638, none, none, y684, some v699, some v712, some (.ref p723), y739, some w738] ∧ s_l3 = (List.take k drawn_c).foldl (fun (s_l3 : Int) (place : Int) => ((max s_l3 (((bounds_here_c).getD (place).toNat (0, 0)).1)) : Int)) ((0 : Int) - (51 : Int)) ∧ Mus [] H1 H' ∧ Rp.rep K H' w738 s_l3) (fun H1 e => ⟨((0 : Int) - (51 : Int)), _, _, rfl, rfl, Mus.refl _, (Rp.mono (SF.of e) r735)⟩) (fun _ _ _ _ h => by obtain ⟨_, _, _, _, _, m, _⟩ := h; exact m.sf) (fun H1 k746 place σ' H' vplace _ e743 hx742 hP e744 rplace => ?_) (fun H1 σ' H' e743 hP => ?_)
        ·
          obtain ⟨s_l3, w738, y739, rfl, hs740, m745, r747⟩ := hP
          refine s_gn ?_
          have hplace := List.mem_of_getElem? hx742
          have hturn3 := hs740
          have r749 := (Rp.mono (((((SF.of e733).trans (SF.of e734)).trans (SF.of e743)).trans m745.sf).trans (SF.of e744)) r728)
          have r750 := (Rp.mono (((((SF.of e733).trans (SF.of e734)).trans (SF.of e743)).trans m745.sf).trans (SF.of e744)) r729)
          have r751 := (Rp.mono (((((SF.of e733).trans (SF.of e734)).trans (SF.of e743)).trans m745.sf).trans (SF.of e744)) r730)
          have r752 := (Rp.mono (((((SF.of e733).trans (SF.of e734)).trans (SF.of e743)).trans m745.sf).trans (SF.of e744)) r731)
          have r753 := (Rp.mono ((((((SF.of e719).trans (SF.of e733)).trans (SF.of e734)).trans (SF.of e743)).trans m745.sf).trans (SF.of e744)) r711)
          have r754 := (Rp.mono (((((SF.of e733).trans (SF.of e734)).trans (SF.of e743)).trans m745.sf).trans (SF.of e744)) r720)
          have dr755 := (Dr.mono e744 (Dr.mus m745 nin0 nin0 (Dr.mono e743 (Dr.mono e734 (Dr.mono e733 dr732)))))
          refine q_set (K := K) (er_max2 (er_var rfl (Rp.mono (SF.of e744) r747)) (er_op (er_op (er_var rfl r749) (er_var rfl rplace) (rr_ixI (x := ((bounds_here_c).getD (place).toNat (0, 0))) (n := (place).toNat) (by first | (have := (or_row h5 hrow).2.2 _ (cut_mem (by assumption)); omega) | (have := (or_row h5 hrow).2.2 _ (at_mem (d := 0) (show _ < row.length from by rw [(or_row h5 hrow).1]; exact List.mem_range.mp (by assumption))); omega) | (have := (rank_in (good_pos hB hgood) hlist2 hrank); omega) | (have := (or_row h5 hdrawn_c).2.2 _ (by assumption); omega)) (by first | exact getD_at (by have := (or_row h5 hrow).2.2 _ (cut_mem (by assumption)); omega) | exact getD_at (show _ < row.length from by rw [(or_row h5 hrow).1]; exact List.mem_range.mp (by assumption)) | exact getD_at (by have := (or_row h5 hrow).2.2 _ (at_mem (d := 0) (show _ < row.length from by rw [(or_row h5 hrow).1]; exact List.mem_range.mp (by assumption))); omega) | exact getD_at (by have := (rank_in (good_pos hB hgood) hlist2 hrank); omega) | exact getD_at (by have := (or_row h5 hdrawn_c).2.2 _ (by assumption); omega) | exact getD_at (by rw [htold, told_len]; have := (or_row h5 hdrawn_c).2.2 _ (by assumption); omega)))) er_int rr_ixP0)) (fun v758 _ e756 r757 => ?_)
          refine q_last ?_
          -- 5: _law_told[_law_place] != _law_last
          refine q_not (K := K) (et_test (er_op (er_op (er_var rfl (Rp.mono (SF.of e756) r753)) (er_var rfl (Rp.mono (SF.of e756) rplace)) (rr_ixI (x := ((told_713).getD (place).toNat 0)) (n := (place).toNat) (by first | (have := (or_row h5 hrow).2.2 _ (cut_mem (by assumption)); omega) | (have := (or_row h5 hrow).2.2 _ (at_mem (d := 0) (show _ < row.length from by rw [(or_row h5 hrow).1]; exact List.mem_range.mp (by assumption))); omega) | (have := (rank_in (good_pos hB hgood) hlist2 hrank); omega) | (have := (or_row h5 hdrawn_c).2.2 _ (by assumption); omega)) (by first | exact getD_at (by have := (or_row h5 hrow).2.2 _ (cut_mem (by assumption)); omega) | exact getD_at (show _ < row.length from by rw [(or_row h5 hrow).1]; exact List.mem_range.mp (by assumption)) | exact getD_at (by have := (or_row h5 hrow).2.2 _ (at_mem (d := 0) (show _ < row.length from by rw [(or_row h5 hrow).1]; exact List.mem_range.mp (by assumption))); omega) | exact getD_at (by have := (rank_in (good_pos hB hgood) hlist2 hrank); omega) | exact getD_at (by have := (or_row h5 hdrawn_c).2.2 _ (by assumption); omega) | exact getD_at (by rw [htold, told_len]; have := (or_row h5 hdrawn_c).2.2 _ (by assumption); omega)))) (er_var rfl r757) rr_neI)) (by exact k07_5 (or_row h5 hdrawn_c) htold (by assumption) hturn3) (fun _ e759 => ?_)
          refine s_nx ?_
          exact ⟨(max s_l3 (((bounds_here_c).getD (place).toNat (0, 0)).1)), _, _, rfl, (fold_step hx742 hs740), ((((Mus.baseS (Mus.refl _) m745 all0).trans (Mus.of e744)).trans (Mus.of e756)).trans (Mus.of e759)), (Rp.mono (SF.of e759) r757)⟩
        ·
          obtain ⟨s_l3, w738, y739, rfl, hs740, m745, r747⟩ := hP
          replace hs740 := fold_all hs740
          have hfold3 := hs740
          have r760 := (Rp.mono ((((SF.of e733).trans (SF.of e734)).trans (SF.of e743)).trans m745.sf) r728)
          have r761 := (Rp.mono ((((SF.of e733).trans (SF.of e734)).trans (SF.of e743)).trans m745.sf) r729)
          have r762 := (Rp.mono ((((SF.of e733).trans (SF.of e734)).trans (SF.of e743)).trans m745.sf) r730)
          have r763 := (Rp.mono ((((SF.of e733).trans (SF.of e734)).trans (SF.of e743)).trans m745.sf) r731)
          have r764 := (Rp.mono (((((SF.of e719).trans (SF.of e733)).trans (SF.of e734)).trans (SF.of e743)).trans m745.sf) r711)
          have r765 := (Rp.mono ((((SF.of e733).trans (SF.of e734)).trans (SF.of e743)).trans m745.sf) r720)
          have dr766 := (Dr.mus m745 nin0 nin0 (Dr.mono e743 (Dr.mono e734 (Dr.mono e733 dr732))))
          -- end: count_orders(widened(_law_bounds_here, 1)) >= len(_law_good) and count_orders(_law_bounds_here[::-1]) == len(_law_good)
          exact s_true (K := K) (er_andV (er_op (er_call1 (er_frz (erl_call2 (er_var rfl r760) er_int (by exact ⟨hB, by decide, hw30⟩))) (by first | exact hB | exact wd_ok ⟨hB, by decide, hw30⟩ | exact rev_bok hB)) (er_up (er_len (er_var rfl r762))) rr_ge) (fun hsc => (er_op (er_call1 (er_frz (erl_rev (er_var rfl r760))) (by first | exact hB | exact wd_ok ⟨hB, by decide, hw30⟩ | exact rev_bok hB)) (er_up (er_len (er_var rfl r762))) rr_eqI))) (by first | exact k07_6 hB hgood | exact k07_e (ps_not hB hgood hdrawn_c (by assumption))) q
end
end BL

set_option Elab.async false
set_option linter.all false
set_option maxRecDepth 100000
set_option maxHeartbeats 0
namespace BL
open PySem PySem.Spec PyProof.Rows L2
def dd_is_int : He.DefD := ⟨("is_int", none), "is_int", "is_int", defArgs s_is_int, defBody s_is_int, defScope s_is_int, [], []⟩
def dd_is_bound : He.DefD := ⟨("is_bound", none), "is_bound", "is_bound", defArgs s_is_bound, defBody s_is_bound, defScope s_is_bound, [], []⟩
def dd_is_bounds : He.DefD := ⟨("is_bounds", none), "is_bounds", "is_bounds", defArgs s_is_bounds, defBody s_is_bounds, defScope s_is_bounds, [], []⟩
def dd_check_bounds : He.DefD := ⟨("check_bounds", none), "check_bounds", "check_bounds", defArgs s_check_bounds, defBody s_check_bounds, defScope s_check_bounds, [], []⟩
def dd_check_order : He.DefD := ⟨("check_order", none), "check_order", "check_order", defArgs s_check_order, defBody s_check_order, defScope s_check_order, [], []⟩
def dd_is_possible : He.DefD := ⟨("is_possible", none), "is_possible", "is_possible", defArgs s_is_possible, defBody s_is_possible, defScope s_is_possible, [], []⟩
def dd_can_be_order : He.DefD := ⟨("can_be_order", none), "can_be_order", "can_be_order", defArgs s_can_be_order, defBody s_can_be_order, defScope s_can_be_order, [], []⟩
def dd_choice_for : He.DefD := ⟨("choice_for", none), "choice_for", "choice_for", defArgs s_choice_for, defBody s_choice_for, defScope s_choice_for, [], []⟩
def dd_next_places : He.DefD := ⟨("next_places", none), "next_places", "next_places", defArgs s_next_places, defBody s_next_places, defScope s_next_places, [], []⟩
def dd_ways_from : He.DefD := ⟨("ways_from", none), "ways_from", "ways_from", defArgs s_ways_from, defBody s_ways_from, defScope s_ways_from, [], []⟩
def dd_count_orders : He.DefD := ⟨("count_orders", none), "count_orders", "count_orders", defArgs s_count_orders, defBody s_count_orders, defScope s_count_orders, [], []⟩
def dd_order_at : He.DefD := ⟨("order_at", none), "order_at", "order_at", defArgs s_order_at, defBody s_order_at, defScope s_order_at, [], []⟩
def dd_rank_of_order : He.DefD := ⟨("rank_of_order", none), "rank_of_order", "rank_of_order", defArgs s_rank_of_order, defBody s_rank_of_order, defScope s_rank_of_order, [], []⟩
def dd_checked : He.DefD := ⟨("checked", none), "checked", "checked", defArgs s_checked, defBody s_checked, defScope s_checked, [], []⟩
def dd_widened : He.DefD := ⟨("widened", none), "widened", "widened", defArgs s_widened, defBody s_widened, defScope s_widened, [], []⟩
def dd__law_start : He.DefD := ⟨("_law_start", none), "_law_start", "_law_start", defArgs s__law_start, defBody s__law_start, defScope s__law_start, [], []⟩
def dd__law_draw : He.DefD := ⟨("_law_draw", none), "_law_draw", "_law_draw", defArgs s__law_draw, defBody s__law_draw, defScope s__law_draw, [], []⟩
def dd__law_pick : He.DefD := ⟨("_law_pick", none), "_law_pick", "_law_pick", defArgs s__law_pick, defBody s__law_pick, defScope s__law_pick, [], []⟩
def dd__law_error : He.DefD := ⟨("_law_error", none), "_law_error", "_law_error", defArgs s__law_error, defBody s__law_error, defScope s__law_error, [], []⟩
def dd__law_true : He.DefD := ⟨("_law_true", none), "_law_true", "_law_true", defArgs s__law_true, defBody s__law_true, defScope s__law_true, [], []⟩
def dd__law_bounds : He.DefD := ⟨("_law_bounds", none), "_law_bounds", "_law_bounds", defArgs s__law_bounds, defBody s__law_bounds, defScope s__law_bounds, [], []⟩
def dd__law_small : He.DefD := ⟨("_law_small", none), "_law_small", "_law_small", defArgs s__law_small, defBody s__law_small, defScope s__law_small, [], []⟩
def dd__law_inside : He.DefD := ⟨("_law_inside", none), "_law_inside", "_law_inside", defArgs s__law_inside, defBody s__law_inside, defScope s__law_inside, [], []⟩
def dd__law_orders : He.DefD := ⟨("_law_orders", none), "_law_orders", "_law_orders", defArgs s__law_orders, defBody s__law_orders, defScope s__law_orders, [], []⟩
def dd__law_call : He.DefD := ⟨("_law_call", none), "_law_call", "_law_call", defArgs s__law_call, defBody s__law_call, defScope s__law_call, [], []⟩
def dd_law : He.DefD := ⟨("law", none), "law", "law", defArgs s_law, defBody s_law, defScope s_law, [], []⟩
def fnD : List He.DefD := [dd_is_int, dd_is_bound, dd_is_bounds, dd_check_bounds, dd_check_order, dd_is_possible, dd_can_be_order, dd_choice_for, dd_next_places, dd_ways_from, dd_count_orders, dd_order_at, dd_rank_of_order, dd_checked, dd_widened, dd__law_start, dd__law_draw, dd__law_pick, dd__law_error, dd__law_true, dd__law_bounds, dd__law_small, dd__law_inside, dd__law_orders, dd__law_call, dd_law]
def faD : List He.Fa := [.glo "is_int", .glo "is_bound", .glo "is_bounds", .glo "check_bounds", .glo "check_order", .glo "is_possible", .glo "can_be_order", .glo "choice_for", .glo "next_places", .glo "ways_from", .glo "count_orders", .glo "order_at", .glo "rank_of_order", .glo "checked", .glo "widened", .glo "_law_start", .glo "_law_draw", .glo "_law_pick", .glo "_law_error", .glo "_law_true", .glo "_law_bounds", .glo "_law_small", .glo "_law_inside", .glo "_law_orders", .glo "_law_call", .glo "law", .free "ValueError", .free "all", .free "bool", .free "enumerate", .free "int", .free "isinstance", .free "len", .free "list", .free "max", .free "range", .free "sorted", .free "sum", .free "tuple", .int "MOST_BOUND" 50, .int "MOST_VALUES" 7, .glo "BadBounds", .glo "BadNumber", .glo "BadOrder", .glo "BadText", .glo "NotFound", .glo "BoundError"]
abbrev rowR : PySem.W.OpenRow := PySem.W.OpenLaw.row PySem.Challenge.rw_boundstats_k07_whole_orders
def exD (K : Fg) : Bool := (errs.all fun c => errB K c)
abbrev hkD : PySem.W.Hook := hookB 4 faD fnD exD
def obD (s : PySem.W.SharedT) : He.AlD × Bool := (He.obsDG 4 faD fnD (HandSHeadRun.getT s), exD (He.frG (HandSHeadRun.getT s) (He.asD (HandSHeadRun.getT s) 4)))
theorem obD_eq (s : PySem.W.SharedT) : obD s = hkD.obs s.abs := hookB_eq (HandSHeadRun.getT_eq s)
def looseD0 : List Str := ["BoundError", "BadBounds", "BadNumber", "BadOrder", "BadText", "NotFound", "MOST_VALUES", "MOST_BOUND", "is_int", "is_bound", "is_bounds", "check_bounds", "check_order", "is_possible", "can_be_order", "choice_for", "next_places", "ways_from", "count_orders", "order_at"]
def looseD1 : List Str := ["rank_of_order", "checked", "widened", "_law_start", "_law_draw", "_law_pick", "_law_error", "_law_true", "_law_bounds", "_law_small", "_law_inside", "_law_orders", "_law_call"]
def looseD : List Str := looseD0 ++ looseD1
theorem runD (w : World) : HandSHeadRun.RunEq rowR (PySem.W.view rowR.prog [37]) hkD obD 3000 looseD w := by
  intro os
  kernel_rfl
theorem txt_of {K : Fg} {h : Heap} {mg : Str → Option Value} (X : K.In h) (G : h.Ns mainGlobals mg) (c : He.SaysD faD fnD K) (cx : exD K = true) : Txt K mg where
  d_is_int := by
    obtain ⟨fd, F⟩ := c.def_ 0 (d := dd_is_int) rfl
    exact ⟨_, fd, F, He.glo_ok X G (c.fact 0 (f := .glo "is_int") rfl)⟩
  d_is_bound := by
    obtain ⟨fd, F⟩ := c.def_ 1 (d := dd_is_bound) rfl
    exact ⟨_, fd, F, He.glo_ok X G (c.fact 1 (f := .glo "is_bound") rfl)⟩
  d_is_bounds := by
    obtain ⟨fd, F⟩ := c.def_ 2 (d := dd_is_bounds) rfl
    exact ⟨_, fd, F, He.glo_ok X G (c.fact 2 (f := .glo "is_bounds") rfl)⟩
  d_check_bounds := by
    obtain ⟨fd, F⟩ := c.def_ 3 (d := dd_check_bounds) rfl
    exact ⟨_, fd, F, He.glo_ok X G (c.fact 3 (f := .glo "check_bounds") rfl)⟩
  d_check_order := by
    obtain ⟨fd, F⟩ := c.def_ 4 (d := dd_check_order) rfl
    exact ⟨_, fd, F, He.glo_ok X G (c.fact 4 (f := .glo "check_order") rfl)⟩
  d_is_possible := by
    obtain ⟨fd, F⟩ := c.def_ 5 (d := dd_is_possible) rfl
    exact ⟨_, fd, F, He.glo_ok X G (c.fact 5 (f := .glo "is_possible") rfl)⟩
  d_can_be_order := by
    obtain ⟨fd, F⟩ := c.def_ 6 (d := dd_can_be_order) rfl
    exact ⟨_, fd, F, He.glo_ok X G (c.fact 6 (f := .glo "can_be_order") rfl)⟩
  d_choice_for := by
    obtain ⟨fd, F⟩ := c.def_ 7 (d := dd_choice_for) rfl
    exact ⟨_, fd, F, He.glo_ok X G (c.fact 7 (f := .glo "choice_for") rfl)⟩
  d_next_places := by
    obtain ⟨fd, F⟩ := c.def_ 8 (d := dd_next_places) rfl
    exact ⟨_, fd, F, He.glo_ok X G (c.fact 8 (f := .glo "next_places") rfl)⟩
  d_ways_from := by
    obtain ⟨fd, F⟩ := c.def_ 9 (d := dd_ways_from) rfl
    exact ⟨_, fd, F, He.glo_ok X G (c.fact 9 (f := .glo "ways_from") rfl)⟩
  d_count_orders := by
    obtain ⟨fd, F⟩ := c.def_ 10 (d := dd_count_orders) rfl
    exact ⟨_, fd, F, He.glo_ok X G (c.fact 10 (f := .glo "count_orders") rfl)⟩
  d_order_at := by
    obtain ⟨fd, F⟩ := c.def_ 11 (d := dd_order_at) rfl
    exact ⟨_, fd, F, He.glo_ok X G (c.fact 11 (f := .glo "order_at") rfl)⟩
  d_rank_of_order := by
    obtain ⟨fd, F⟩ := c.def_ 12 (d := dd_rank_of_order) rfl
    exact ⟨_, fd, F, He.glo_ok X G (c.fact 12 (f := .glo "rank_of_order") rfl)⟩
  d_checked := by
    obtain ⟨fd, F⟩ := c.def_ 13 (d := dd_checked) rfl
    exact ⟨_, fd, F, He.glo_ok X G (c.fact 13 (f := .glo "checked") rfl)⟩
  d_widened := by
    obtain ⟨fd, F⟩ := c.def_ 14 (d := dd_widened) rfl
    exact ⟨_, fd, F, He.glo_ok X G (c.fact 14 (f := .glo "widened") rfl)⟩
  d__law_start := by
    obtain ⟨fd, F⟩ := c.def_ 15 (d := dd__law_start) rfl
    exact ⟨_, fd, F, He.glo_ok X G (c.fact 15 (f := .glo "_law_start") rfl)⟩
  d__law_draw := by
    obtain ⟨fd, F⟩ := c.def_ 16 (d := dd__law_draw) rfl
    exact ⟨_, fd, F, He.glo_ok X G (c.fact 16 (f := .glo "_law_draw") rfl)⟩
  d__law_pick := by
    obtain ⟨fd, F⟩ := c.def_ 17 (d := dd__law_pick) rfl
    exact ⟨_, fd, F, He.glo_ok X G (c.fact 17 (f := .glo "_law_pick") rfl)⟩
  d__law_error := by
    obtain ⟨fd, F⟩ := c.def_ 18 (d := dd__law_error) rfl
    exact ⟨_, fd, F, He.glo_ok X G (c.fact 18 (f := .glo "_law_error") rfl)⟩
  d__law_true := by
    obtain ⟨fd, F⟩ := c.def_ 19 (d := dd__law_true) rfl
    exact ⟨_, fd, F, He.glo_ok X G (c.fact 19 (f := .glo "_law_true") rfl)⟩
  d__law_bounds := by
    obtain ⟨fd, F⟩ := c.def_ 20 (d := dd__law_bounds) rfl
    exact ⟨_, fd, F, He.glo_ok X G (c.fact 20 (f := .glo "_law_bounds") rfl)⟩
  d__law_small := by
    obtain ⟨fd, F⟩ := c.def_ 21 (d := dd__law_small) rfl
    exact ⟨_, fd, F, He.glo_ok X G (c.fact 21 (f := .glo "_law_small") rfl)⟩
  d__law_inside := by
    obtain ⟨fd, F⟩ := c.def_ 22 (d := dd__law_inside) rfl
    exact ⟨_, fd, F, He.glo_ok X G (c.fact 22 (f := .glo "_law_inside") rfl)⟩
  d__law_orders := by
    obtain ⟨fd, F⟩ := c.def_ 23 (d := dd__law_orders) rfl
    exact ⟨_, fd, F, He.glo_ok X G (c.fact 23 (f := .glo "_law_orders") rfl)⟩
  d__law_call := by
    obtain ⟨fd, F⟩ := c.def_ 24 (d := dd__law_call) rfl
    exact ⟨_, fd, F, He.glo_ok X G (c.fact 24 (f := .glo "_law_call") rfl)⟩
  d_law := by
    obtain ⟨fd, F⟩ := c.def_ 25 (d := dd_law) rfl
    exact ⟨_, fd, F, He.glo_ok X G (c.fact 25 (f := .glo "law") rfl)⟩
  n_ValueError := He.free_ok X G (c.fact 26 (f := .free "ValueError") rfl)
  n_all := He.free_ok X G (c.fact 27 (f := .free "all") rfl)
  n_bool := He.free_ok X G (c.fact 28 (f := .free "bool") rfl)
  n_enumerate := He.free_ok X G (c.fact 29 (f := .free "enumerate") rfl)
  n_int := He.free_ok X G (c.fact 30 (f := .free "int") rfl)
  n_isinstance := He.free_ok X G (c.fact 31 (f := .free "isinstance") rfl)
  n_len := He.free_ok X G (c.fact 32 (f := .free "len") rfl)
  n_list := He.free_ok X G (c.fact 33 (f := .free "list") rfl)
  n_max := He.free_ok X G (c.fact 34 (f := .free "max") rfl)
  n_range := He.free_ok X G (c.fact 35 (f := .free "range") rfl)
  n_sorted := He.free_ok X G (c.fact 36 (f := .free "sorted") rfl)
  n_sum := He.free_ok X G (c.fact 37 (f := .free "sum") rfl)
  n_tuple := He.free_ok X G (c.fact 38 (f := .free "tuple") rfl)
  c_MOST_BOUND := He.int_ok X G (c.fact 39 (f := .int "MOST_BOUND" 50) rfl)
  c_MOST_VALUES := He.int_ok X G (c.fact 40 (f := .int "MOST_VALUES" 7) rfl)
  x := by
    have hx : (errs.all fun c => errB K c) = true := by first | exact cx | exact (Bool.and_eq_true_iff.mp cx).1 | exact (Bool.and_eq_true_iff.mp (Bool.and_eq_true_iff.mp cx).1).1
    refine ⟨fun d hd => errB_ok ?_ (List.all_eq_true.mp hx d hd), He.glo_ok X G (c.fact 46 (f := .glo "BoundError") rfl)⟩
    simp only [errs, List.mem_cons, List.mem_nil_iff, or_false] at hd
    rcases hd with rfl | rfl | rfl | rfl | rfl
    · exact He.glo_ok X G (c.fact 41 (f := .glo "BadBounds") rfl)
    · exact He.glo_ok X G (c.fact 42 (f := .glo "BadNumber") rfl)
    · exact He.glo_ok X G (c.fact 43 (f := .glo "BadOrder") rfl)
    · exact He.glo_ok X G (c.fact 44 (f := .glo "BadText") rfl)
    · exact He.glo_ok X G (c.fact 45 (f := .glo "NotFound") rfl)
theorem endD {P : Program} {w : World} {K : Fg} {h : Heap} {mg : Str → Option Value} {f : Addr} (X : K.In h) (G : h.Ns mainGlobals mg) (hfa : mg ("law" : Str) = some (.ref f)) (c : He.SaysD faD fnD K) (cx : exD K = true) :
    ∃ fd : FuncData, (∀ (s : Shared) (v : Value), BindsTo s fd ⟨[v], []⟩ [("_law_script", v)]) ∧ ∀ base : Heap, K.In base → base.Ns mainGlobals mg → FnOk P w K mg base CX0 13 f fd ["_law_script"] (spLaw K) := by
  have T := txt_of X G c cx
  obtain ⟨fd, F⟩ := c.def_ 25 (d := dd_law) rfl
  have e := hfa.symm.trans (He.glo_ok X G (c.fact 25 (f := .glo "law") rfl))
  cases e
  have b := FunD.bindsA (ps := ["_law_script"]) F fun _ _ _ _ _ _ us hl => match us, hl with | [_], _ => rfl
  exact ⟨fd, fun s v => b s [v] rfl, fun base _ _ => ok_law T F⟩
end BL
open PySem PySem.W PySem.Calls PyProof.Rows
set_option maxRecDepth 100000 in
set_option maxHeartbeats 0 in
theorem PySem.Challenge.cw_boundstats_k07_whole_orders_holds : PySem.Challenge.rw_boundstats_k07_whole_orders.Holds := by
  w_on; o_law
  refine HandSHeadRun.head_any (r := OpenLaw.row PySem.Challenge.rw_boundstats_k07_whole_orders) (q := view (OpenLaw.row PySem.Challenge.rw_boundstats_k07_whole_orders).prog [37]) (H := BL.hkD) (ob := BL.obD) (M := 3000) (loose := BL.looseD) (d := HandSHeadRun.topDef (OpenLaw.row PySem.Challenge.rw_boundstats_k07_whole_orders).prog 37) (kwd := []) BL.obD_eq
    (by kernel_rfl) (fun s => by kernel_rfl) BL.runD (by kernel_rfl) (by kernel_rfl) (by kernel_rfl) (by rfl) (by first | assumption | decide +kernel) (by decide +kernel) ⟨rfl, rfl, rfl, rfl, rfl, by decide +kernel⟩ ?hw ?hc
  case hw => w_witness2
  case hc =>
    refine L2.walk_ofE (l := PySem.Challenge.rw_boundstats_k07_whole_orders) (n := 63) (k := 13) (x := "_law_script") (CX := L2.CX0) rfl (by decide) (by kernel_rfl) ⟨rfl, by decide, by decide⟩ ?F (fun _ _ _ _ z => z)
    intro w mg fa h Y G hmg0
    obtain ⟨K, KX, c, cx⟩ := Y
    have hmg : mg ("law" : PySem.Str) = some (.ref fa) := by
      have e : (HandSHeadRun.topDef (OpenLaw.row PySem.Challenge.rw_boundstats_k07_whole_orders).prog 37).name = ("law" : PySem.Str) := by kernel_rfl
      rw [← e]
      exact hmg0
    obtain ⟨fd, hb, hF⟩ := BL.endD (P := (PySem.Challenge.rw_boundstats_k07_whole_orders).prog) (w := w) KX G hmg c cx
    exact ⟨K, fd, BL.spLaw K, KX, hb, fun H a ns hl _ hS => ⟨a, ns, rfl, hS, hl, fun _ => rfl⟩, hF⟩
#print axioms PySem.Challenge.cw_boundstats_k07_whole_orders_holds
