import PyProof.Rows.All
import Wide.All
import OpenK.AllK
import Wide.FinOn
import HandS.ForMost
import HandS.Evl
import HandS.Walk
import HandS.SortInts
import HandS.Wide
import HandS.IsInst
import HandS.Style
import HandS.Defaults
import HandS.Deep
import HandS.Conv
import HandS.NoneIn
import HandS.More
import HandS.Head0
import HandS.Head1
import HandS.Head2
import HandS.HeadEnd
import HandS.HeadHook1
import HandS.HeadHook2
import HandS.Steps
import HandS.SortRule
import HandS.SetFor
import HandS.TupSets
import HandS.Exc
import HandS.ExcOwn
import HandS.ExcIs
import HandS.ExcValue
import HandS.WordsExc
import PyProof.Rows.CountFlat
import KE.KStateDown
import Lean
import PySem.Challenge.RW_boundstats_k08_whole_facts
set_option Elab.async false
set_option linter.all false
set_option maxRecDepth 100000
set_option maxHeartbeats 2000000
/-! typed readings: values as plain data, lists locked once made -/
namespace BL
open PySem PySem.Spec PyProof.Rows L2
abbrev Fg := PySem.W.Frag
/-! ### what stays: tuples, locked things -/
inductive Sta : HO → Prop
  | tup (xs : List V) : Sta (.tup xs)
  | frz (o : Obj) (u : HO) : Sta (.frz o u)
  | ext (φ : Heap → Prop) : Sta (.ext φ)
theorem sta_lst {xs : List V} : ¬ Sta (.lst xs) := fun h => nomatch h
def SF (H H' : Hp) : Prop := ∀ a o, Sta o → H a = some o → H' a = some o
section
variable {H H1 H2 H' : Hp} {p a : Addr} {o u : HO} {xs ys : List V} {K : Fg}
theorem SF.refl (H : Hp) : SF H H := fun _ _ _ h => h
theorem SF.trans (a : SF H H1) (b : SF H1 H2) : SF H H2 := fun x o s h => b x o s (a x o s h)
theorem SF.of (e : Same H H') : SF H H' := fun a o _ h => e a o h
theorem SF.new (h : H p = none) : SF H (upd H p o) := fun a u _ e => by
  rw [upd_ne (ne_of_none e h)]; exact e
theorem SF.chg (h : H p = some u) (n : ¬ Sta u) : SF H (upd H p o) := fun a w s e => by
  by_cases q : a = p
  · subst q; rw [h] at e; cases e; exact absurd s n
  · rw [upd_ne q]; exact e
theorem SF.lst (h : H p = some (.lst xs)) : SF H (upd H p o) := SF.chg h sta_lst
theorem same_new (h : H p = none) : Same H (upd H p o) := fun a u e => by
  rw [upd_ne (ne_of_none e h)]; exact e
/-- what H does not know may change -/
theorem same_mut (e : Same H H') (h : H p = none) : Same H (upd H' p o) := fun a u ha => by
  rw [upd_ne (ne_of_none ha h)]; exact e a u ha
theorem sf_mut (e : SF H H') (h : H p = none) : SF H (upd H' p o) := fun a u s ha => by
  rw [upd_ne (ne_of_none ha h)]; exact e a u s ha
theorem none_back (e : Same H H') (h : H' p = none) : H p = none := e.free h
theorem upd_get (h : H a = some u) (n : a ≠ p) : upd H p o a = some u := by rw [upd_ne n]; exact h
def Fz (H : Hp) (a : Addr) (xs : List V) : Prop := ∃ o, H a = some (.frz o (.lst xs))
theorem Fz.seq (h : Fz H a xs) : SqL K H a xs := by
  obtain ⟨o, h⟩ := h; exact .inl (.inr ⟨o, h⟩)
theorem Fz.sf (e : SF H H') (h : Fz H a xs) : Fz H' a xs := by
  obtain ⟨o, h⟩ := h; exact ⟨o, e _ _ (.frz _ _) h⟩
theorem sqt_sf (e : SF H H') (h : SqT K H a xs) : SqT K H' a xs := by
  rcases h with (h | ⟨o, h⟩) | h
  · exact .inl (.inl (e _ _ (.tup _) h))
  · exact .inl (.inr ⟨o, e _ _ (.frz _ _) h⟩)
  · exact .inr h
theorem sq_lst (h : H a = some (.lst xs)) : SqL K H a xs := .inl (.inl h)
theorem sq_tup (h : H a = some (.tup xs)) : SqT K H a xs := .inl (.inl h)
end
theorem paired_mono {α β : Type} {F G : α → β → Prop} (h : ∀ a b, F a b → G a b) : ∀ {l : List α} {r : List β}, Paired F l r → Paired G l r
  | _, _, .nil => .nil
  | _, _, .cons a b => .cons (h _ _ a) (paired_mono h b)
theorem paired_len {α β : Type} {F : α → β → Prop} {l : List α} {r : List β} (h : Paired F l r) : l.length = r.length := Paired.length h
theorem paired_app {α β : Type} {F : α → β → Prop} : ∀ {l l' : List α} {r r' : List β}, Paired F l r → Paired F l' r' → Paired F (l ++ l') (r ++ r')
  | _, _, _, _, .nil, h => h
  | _, _, _, _, .cons a b, h => .cons a (paired_app b h)
theorem paired_get {α β : Type} {F : α → β → Prop} : ∀ {l : List α} {r : List β} {i : Nat} {y : β}, Paired F l r → r[i]? = some y → ∃ x, l[i]? = some x ∧ F x y
  | _, _, i, _, .nil, e => by simp at e
  | _, _, 0, _, .cons a _, e => by simp at e; subst e; exact ⟨_, rfl, a⟩
  | _, _, i + 1, y, .cons _ b, e => by
    obtain ⟨x, h1, h2⟩ := paired_get (i := i) (y := y) b (by simpa using e)
    exact ⟨x, by simpa using h1, h2⟩
theorem paired_get2 {α β : Type} {F : α → β → Prop} : ∀ {l : List α} {r : List β} {i : Nat} {x : α}, Paired F l r → l[i]? = some x → ∃ y, r[i]? = some y ∧ F x y
  | _, _, i, _, .nil, e => by simp at e
  | _, _, 0, _, .cons a _, e => by simp at e; subst e; exact ⟨_, rfl, a⟩
  | _, _, i + 1, y, .cons _ b, e => by
    obtain ⟨x, h1, h2⟩ := paired_get2 (i := i) (x := y) b (by simpa using e)
    exact ⟨x, by simpa using h1, h2⟩
theorem paired_set {α β : Type} {F : α → β → Prop} {x : α} {y : β} (f : F x y) : ∀ {l : List α} {r : List β} (i : Nat), Paired F l r → Paired F (l.set i x) (r.set i y)
  | _, _, _, .nil => .nil
  | _, _, 0, .cons _ b => .cons f b
  | _, _, i + 1, .cons a b => .cons a (paired_set f i b)
theorem paired_take {α β : Type} {F : α → β → Prop} : ∀ {l : List α} {r : List β} (n : Nat), Paired F l r → Paired F (l.take n) (r.take n)
  | _, _, 0, _ => .nil
  | _, _, _ + 1, .nil => .nil
  | _, _, n + 1, .cons a b => .cons a (paired_take n b)
theorem paired_drop {α β : Type} {F : α → β → Prop} : ∀ {l : List α} {r : List β} (n : Nat), Paired F l r → Paired F (l.drop n) (r.drop n)
  | _, _, 0, h => h
  | _, _, _ + 1, .nil => .nil
  | _, _, n + 1, .cons a b => paired_drop n b

/-! ### data -/
class Rp (α : Type) where
  rep : Fg → Hp → V → α → Prop
  mono : ∀ {K : Fg} {H H' : Hp} {v : V} {x : α}, SF H H' → rep K H v x → rep K H' v x
/-- a triple -/
structure T3 (α β γ : Type) where
  a : α
  b : β
  c : γ
  deriving DecidableEq
instance : Rp Int := ⟨fun _ _ v i => v = .int i, fun _ h => h⟩
instance : Rp Nat := ⟨fun _ _ v i => v = .int (i : Int), fun _ h => h⟩
instance : Rp Bool := ⟨fun _ _ v b => v = .bl b, fun _ h => h⟩
instance : Rp Str := ⟨fun _ _ v b => v = .str b, fun _ h => h⟩
instance : Rp Unit := ⟨fun _ _ v _ => v = .non, fun _ h => h⟩
instance {α β : Type} [Rp α] [Rp β] : Rp (α × β) := ⟨fun K H v p => ∃ a v1 v2, v = .ref a ∧ SqT K H a [v1, v2] ∧ Rp.rep K H v1 p.1 ∧ Rp.rep K H v2 p.2,
  fun e h => by obtain ⟨a, v1, v2, h1, h2, h3, h4⟩ := h; exact ⟨a, v1, v2, h1, sqt_sf e h2, Rp.mono e h3, Rp.mono e h4⟩⟩
instance {α β γ : Type} [Rp α] [Rp β] [Rp γ] : Rp (T3 α β γ) := ⟨fun K H v p => ∃ a v1 v2 v3, v = .ref a ∧ SqT K H a [v1, v2, v3] ∧ Rp.rep K H v1 p.a ∧ Rp.rep K H v2 p.b ∧ Rp.rep K H v3 p.c,
  fun e h => by obtain ⟨a, v1, v2, v3, h1, h2, h3, h4, h5⟩ := h; exact ⟨a, v1, v2, v3, h1, sqt_sf e h2, Rp.mono e h3, Rp.mono e h4, Rp.mono e h5⟩⟩
abbrev RL {α : Type} [Rp α] (K : Fg) (H : Hp) (vs : List V) (l : List α) : Prop := Paired (Rp.rep K H) vs l
theorem RL.mono {α : Type} [Rp α] {K : Fg} {H H' : Hp} {vs : List V} {l : List α} (e : SF H H') (h : RL K H vs l) : RL K H' vs l := paired_mono (fun _ _ => Rp.mono e) h
instance {α : Type} [Rp α] : Rp (List α) := ⟨fun K H v l => ∃ a vs, v = .ref a ∧ Fz H a vs ∧ RL K H vs l,
  fun e h => by obtain ⟨a, vs, h1, h2, h3⟩ := h; exact ⟨a, vs, h1, h2.sf e, h3.mono e⟩⟩
/-- None, or a thing that is not None -/
instance {α : Type} [Rp α] : Rp (Option α) := ⟨fun K H v o => match o with
  | none => v = .non
  | some x => v ≠ .non ∧ Rp.rep K H v x, fun {K H H' v o} e h => by
    cases o with
    | none => exact h
    | some x => exact ⟨h.1, Rp.mono e h.2⟩⟩
instance {α β : Type} [Rp α] [Rp β] : Rp (Sum α β) := ⟨fun K H v o => match o with
  | .inl x => Rp.rep K H v x
  | .inr x => Rp.rep K H v x, fun {K H H' v o} e h => by
    cases o with
    | inl x => exact Rp.mono e h
    | inr x => exact Rp.mono e h⟩
/-- a tuple of any length -/
structure Tp (α : Type) where
  l : List α
  deriving DecidableEq
instance {α : Type} [Rp α] : Rp (Tp α) := ⟨fun K H v t => ∃ a vs, v = .ref a ∧ SqT K H a vs ∧ RL K H vs t.l,
  fun e h => by obtain ⟨a, vs, h1, h2, h3⟩ := h; exact ⟨a, vs, h1, sqt_sf e h2, h3.mono e⟩⟩
section
variable {K : Fg} {H H' : Hp}
theorem rep_int {v : V} {i : Int} : Rp.rep K H v i ↔ v = .int i := Iff.rfl
theorem rl_ints : ∀ {vs : List V} {l : List Int}, RL K H vs l → vs = l.map V.int
  | _, _, .nil => rfl
  | _, _, .cons a b => by rw [List.map_cons, ← rl_ints b, rep_int.mp a]
theorem rl_nats : ∀ {vs : List V} {l : List Nat}, RL K H vs l → vs = (l.map fun n : Nat => (n : Int)).map V.int
  | _, _, .nil => rfl
  | _, _, .cons a b => by
    have e : _ = V.int _ := a
    rw [List.map_cons, List.map_cons, ← rl_nats b, e]
theorem rl_bools : ∀ {vs : List V} {l : List Bool}, RL K H vs l → vs = l.map V.bl
  | _, _, .nil => rfl
  | _, _, .cons a b => by
    have e : _ = V.bl _ := a
    rw [List.map_cons, ← rl_bools b, e]
theorem rl_strs : ∀ {vs : List V} {l : List Str}, RL K H vs l → vs = l.map V.str
  | _, _, .nil => rfl
  | _, _, .cons a b => by
    have e : _ = V.str _ := a
    rw [List.map_cons, ← rl_strs b, e]
theorem rl_of_ints : ∀ (l : List Int), RL K H (l.map V.int) l
  | [] => .nil
  | _ :: r => .cons rfl (rl_of_ints r)
theorem rl_of_nats : ∀ (l : List Nat), RL K H ((l.map fun n : Nat => (n : Int)).map V.int) l
  | [] => .nil
  | _ :: r => .cons rfl (rl_of_nats r)
theorem rl_of_bools : ∀ (l : List Bool), RL K H (l.map V.bl) l
  | [] => .nil
  | _ :: r => .cons rfl (rl_of_bools r)
theorem rl_of_strs : ∀ (l : List Str), RL K H (l.map V.str) l
  | [] => .nil
  | _ :: r => .cons rfl (rl_of_strs r)
end

/-! ### data compared: == of any depth -/
class Rq (α : Type) [Rp α] where
  toD : α → PyData
  dp : ∀ {K : Fg} {H : Hp} {v : V} {x : α}, Rp.rep K H v x → Dp K H v (toD x)
  ok : α → Prop
  dep : Nat
  lay : ∀ x, ok x → (toD x).canLay0 = true
  deep : ∀ x, (toD x).depth ≤ dep
  eqv : ∀ x y : α, PyData.eqv (toD x) (toD y) = true ↔ x = y
class Rt (α : Type) [Rp α] [Rq α] where
  all : ∀ x : α, Rq.ok x
theorem dp_all {α : Type} [Rp α] [Rq α] {K : Fg} {H : Hp} : ∀ {vs : List V} {l : List α}, RL K H vs l → DpAll K H vs (l.map Rq.toD)
  | _, _, .nil => .nil
  | _, _, .cons a b => .cons (Rq.dp a) (dp_all b)
theorem lay_all {α : Type} [Rp α] [Rq α] : ∀ {l : List α}, (∀ x ∈ l, Rq.ok x) → PyData.canLayAll0 (l.map Rq.toD) = true
  | [], _ => rfl
  | x :: r, h => by
    show (PyData.canLay0 (Rq.toD x) && PyData.canLayAll0 (r.map Rq.toD)) = true
    rw [Rq.lay x (h x (List.mem_cons_self ..)), lay_all (l := r) fun y hy => h y (List.mem_cons_of_mem _ hy)]; rfl
theorem deep_all {α : Type} [Rp α] [Rq α] : ∀ {l : List α}, PyData.depthAll (l.map Rq.toD) ≤ Rq.dep α
  | [] => Nat.zero_le _
  | x :: r => by
    show max (PyData.depth (Rq.toD x)) (PyData.depthAll (r.map Rq.toD)) ≤ _
    exact Nat.max_le.mpr ⟨Rq.deep x, deep_all⟩
theorem eqv_all {α : Type} [Rp α] [Rq α] : ∀ {l r : List α}, PyData.eqvAll (l.map Rq.toD) (r.map Rq.toD) = true ↔ l = r
  | [], [] => by simp [PyData.eqvAll]
  | [], _ :: _ => by simp [PyData.eqvAll]
  | _ :: _, [] => by simp [PyData.eqvAll]
  | x :: l, y :: r => by
    show (PyData.eqv (Rq.toD x) (Rq.toD y) && PyData.eqvAll (l.map Rq.toD) (r.map Rq.toD)) = true ↔ _
    rw [Bool.and_eq_true, Rq.eqv, eqv_all, List.cons.injEq]
instance : Rq Int := ⟨.int, fun {K H v x} h => by cases (show v = .int x from h); exact .int _, fun _ => True, 1, fun _ _ => rfl, fun _ => by show PyData.depth _ ≤ 1; simp [PyData.depth], fun x y => by simp [PyData.eqv]⟩
instance : Rq Nat := ⟨fun n => .int (n : Int), fun {K H v x} h => by cases (show v = .int (x : Int) from h); exact .int _, fun _ => True, 1, fun _ _ => rfl, fun _ => by show PyData.depth _ ≤ 1; simp [PyData.depth], fun x y => by simp [PyData.eqv]; omega⟩
instance : Rq Bool := ⟨.bool, fun {K H v x} h => by cases (show v = .bl x from h); exact .bl _, fun _ => True, 1, fun _ _ => rfl, fun _ => by show PyData.depth _ ≤ 1; simp [PyData.depth], fun x y => by simp [PyData.eqv]⟩
instance : Rq Str := ⟨.str, fun {K H v x} h => by cases (show v = .str x from h); exact .str _, fun x => (PyData.str x).canLay0 = true, 1, fun _ h => h, fun _ => by show PyData.depth _ ≤ 1; simp [PyData.depth], fun x y => by simp [PyData.eqv]⟩
instance {α β : Type} [Rp α] [Rp β] [Rq α] [Rq β] : Rq (α × β) := ⟨fun p => .tuple [Rq.toD p.1, Rq.toD p.2], fun {K H v x} h => by
    obtain ⟨a, v1, v2, rfl, h2, h3, h4⟩ := h; exact .tup h2 (.cons (Rq.dp h3) (.cons (Rq.dp h4) .nil)), fun p => Rq.ok p.1 ∧ Rq.ok p.2, max (Rq.dep α) (Rq.dep β) + 1,
  fun p h => by simp [PyData.canLay0, PyData.canLayAll0, Rq.lay p.1 h.1, Rq.lay p.2 h.2],
  fun p => by have := Rq.deep p.1; have := Rq.deep p.2; simp only [PyData.depth, PyData.depthAll]; omega,
  fun p q => by obtain ⟨p1, p2⟩ := p; obtain ⟨q1, q2⟩ := q; simp [PyData.eqv, PyData.eqvAll, Rq.eqv]⟩
instance {α β γ : Type} [Rp α] [Rp β] [Rp γ] [Rq α] [Rq β] [Rq γ] : Rq (T3 α β γ) := ⟨fun p => .tuple [Rq.toD p.a, Rq.toD p.b, Rq.toD p.c], fun {K H v x} h => by
    obtain ⟨a, v1, v2, v3, rfl, h2, h3, h4, h5⟩ := h; exact .tup h2 (.cons (Rq.dp h3) (.cons (Rq.dp h4) (.cons (Rq.dp h5) .nil))), fun p => Rq.ok p.a ∧ Rq.ok p.b ∧ Rq.ok p.c, max (Rq.dep α) (max (Rq.dep β) (Rq.dep γ)) + 1,
  fun p h => by simp [PyData.canLay0, PyData.canLayAll0, Rq.lay p.a h.1, Rq.lay p.b h.2.1, Rq.lay p.c h.2.2],
  fun p => by have := Rq.deep p.a; have := Rq.deep p.b; have := Rq.deep p.c; simp only [PyData.depth, PyData.depthAll]; omega,
  fun p q => by obtain ⟨p1, p2, p3⟩ := p; obtain ⟨q1, q2, q3⟩ := q; simp [PyData.eqv, PyData.eqvAll, Rq.eqv]⟩
instance {α : Type} [Rp α] [Rq α] : Rq (List α) := ⟨fun l => .list (l.map Rq.toD), fun {K H v x} h => by
    obtain ⟨a, vs, rfl, h2, h3⟩ := h; exact .lst h2.seq (dp_all h3), fun l => ∀ x ∈ l, Rq.ok x, Rq.dep α + 1,
  fun p h => by simp only [PyData.canLay0]; exact lay_all h,
  fun p => by have := deep_all (l := p); simp only [PyData.depth]; omega,
  fun p q => by simp only [PyData.eqv]; exact eqv_all⟩
instance {α : Type} [Rp α] [Rq α] : Rq (Tp α) := ⟨fun l => .tuple (l.l.map Rq.toD), fun {K H v x} h => by
    obtain ⟨a, vs, rfl, h2, h3⟩ := h; exact .tup h2 (dp_all h3), fun l => ∀ x ∈ l.l, Rq.ok x, Rq.dep α + 1,
  fun p h => by simp only [PyData.canLay0]; exact lay_all h,
  fun p => by have := deep_all (l := p.l); simp only [PyData.depth]; omega,
  fun p q => by obtain ⟨p⟩ := p; obtain ⟨q⟩ := q; simp only [PyData.eqv, Tp.mk.injEq]; exact eqv_all⟩
instance : Rt Int := ⟨fun _ => trivial⟩
instance : Rt Nat := ⟨fun _ => trivial⟩
instance : Rt Bool := ⟨fun _ => trivial⟩
instance {α β : Type} [Rp α] [Rp β] [Rq α] [Rq β] [Rt α] [Rt β] : Rt (α × β) := ⟨fun p => ⟨Rt.all p.1, Rt.all p.2⟩⟩
instance {α β γ : Type} [Rp α] [Rp β] [Rp γ] [Rq α] [Rq β] [Rq γ] [Rt α] [Rt β] [Rt γ] : Rt (T3 α β γ) := ⟨fun p => ⟨Rt.all p.a, Rt.all p.b, Rt.all p.c⟩⟩
instance {α : Type} [Rp α] [Rq α] [Rt α] : Rt (List α) := ⟨fun _ x _ => Rt.all x⟩
instance {α : Type} [Rp α] [Rq α] [Rt α] : Rt (Tp α) := ⟨fun _ x _ => Rt.all x⟩
theorem shaped_of {α : Type} [Rp α] [Rq α] {x : α} (h : Rq.ok x) (hd : Rq.dep α ≤ 64) : SeqAt.shaped (Rq.toD x) = true := by
  show (PyData.canLay0 (Rq.toD x) && decide (PyData.depth (Rq.toD x) ≤ 64)) = true
  rw [Rq.lay x h, decide_eq_true (Nat.le_trans (Rq.deep x) hd)]; rfl
end BL

set_option Elab.async false
set_option linter.all false
set_option maxRecDepth 100000
set_option maxHeartbeats 2000000
namespace BL
open PySem PySem.Spec PyProof.Rows L2
/-! lists, locked or not, joined and repeated -/
def rCatR : R2 := fun x y H Q => ∃ l b xs zs, x = .ref l ∧ y = .ref b ∧ L2.Rd H l (.lst xs) ∧ L2.Rd H b (.lst zs) ∧ xs.length + zs.length ≤ sizeLine ∧ ∀ p, H p = none → Q (.ref p) (upd H p (.lst (xs ++ zs)))
theorem rd_lst {X : Cx} {pins : List (Addr × Obj)} {σ : L2.St} {H : Hp} {s : Shared} {a : Addr} {xs : List V} (I : Inv X pins σ H s) (h : L2.Rd H a (.lst xs)) :
    xs.length ≤ sizeLine ∧ ∃ (its : List Value) (n : Nat), Vals xs its ∧ xs.length = its.length ∧ s.heap.get? a = some { cls := .type "list", data := .seq its.toArray n } := by
  obtain ⟨z, its, n, r, e⟩ := h.ok I.hok
  exact ⟨z, its, n, r, r.length, e⟩
theorem op_catR {X : Cx} : OpR X (binaryOp .Add) rCatR := by
  intro pins s σ H x y v u Q I rx ry h
  obtain ⟨l, b, xs, zs, rfl, rfl, hH, hB, hz, q⟩ := h
  cases rx
  cases ry
  obtain ⟨z, its, n, r, hl, e⟩ := rd_lst I hH
  obtain ⟨z2, its2, n2, r2, hl2, e2⟩ := rd_lst I hB
  refine PySem.P.add_list e e2 ?_ (by rw [List.size_toArray, List.size_toArray]; omega)
  have ea : its.toArray ++ its2.toArray = (its ++ its2).toArray := by simp
  rw [ea]
  exact ⟨.ref _, _, I.lnew (t' := s.toks) (r.append r2) (by rw [List.length_append]; omega), rfl, q _ I.fresh⟩
/-! ### readings: what an expression gives, all that was tracked kept -/
def Er (K : Fg) (te : TE) (σ : L2.St) (H : Hp) {α : Type} [Rp α] (x : α) : Prop := ∀ H1, Same H H1 → ∀ Q : VK, (∀ v H2, Same H1 H2 → Rp.rep K H2 v x → Q v H2) → te σ H1 Q
/-- a new list, not yet locked -/
def ErL (K : Fg) (te : TE) (σ : L2.St) (H : Hp) {α : Type} [Rp α] (l : List α) : Prop := ∀ H1, Same H H1 → ∀ Q : VK, (∀ p vs H2, Same H1 H2 → H1 p = none → H2 p = some (.lst vs) → RL K H2 vs l → Q (.ref p) H2) → te σ H1 Q
def Et (K : Fg) (tt : TT) (σ : L2.St) (H : Hp) (b : Bool) : Prop := ∀ H1, Same H H1 → ∀ Q : Bool → Hp → Prop, (∀ H2, Same H1 H2 → Q b H2) → tt σ H1 Q
def Ea (K : Fg) (ta : TA) (σ : L2.St) (H : Hp) {α : Type} [Rp α] (l : List α) : Prop := ∀ H1, Same H H1 → ∀ Q : List V → Hp → Prop, (∀ vs H2, Same H1 H2 → RL K H2 vs l → Q vs H2) → ta σ H1 Q
def tFrz (t : TE) : TE := fun σ H Q => t σ H fun v H1 => ∃ a xs, v = .ref a ∧ H1 a = some (.lst xs) ∧ ∀ od, Q v (upd H1 a (.frz od (.lst xs)))
theorem pe_frz {X : Cx} {e : Expr} {t : TE} (h : PE X e t) : PE X e (tFrz t) := ⟨fun pins s σ H Q I q => thn (h.run pins s σ H _ I q) fun u s1 hh => by
  obtain ⟨v, H1, I1, r, a, xs, ev, ha, q⟩ := hh
  obtain ⟨od, I2⟩ := I1.lock ha trivial
  exact ⟨v, _, I2, r, q od⟩⟩
section
variable {K : Fg} {σ : L2.St} {H H' H1 : Hp} {ta tb tc te : TE} {tt uu : TT} {α β γ δ : Type} [Rp α] [Rp β] [Rp γ] [Rp δ] {x : α} {y : β} {z : γ} {v u : V} {r r' : R2} {b c : Bool} {i j : Int}
theorem Er.mono (e : Same H H') (h : Er K te σ H x) : Er K te σ H' x := fun H1 a Q q => h H1 (e.trans a) Q q
theorem Et.mono (e : Same H H') (h : Et K tt σ H b) : Et K tt σ H' b := fun H1 a Q q => h H1 (e.trans a) Q q
theorem Er.to {x' : α} (h : Er K te σ H x) (e : x = x') : Er K te σ H x' := e ▸ h
theorem ErL.to {l l' : List α} (h : ErL K te σ H l) (e : l = l') : ErL K te σ H l' := e ▸ h
theorem Et.to {b' : Bool} (h : Et K tt σ H b) (e : b = b') : Et K tt σ H b' := e ▸ h
theorem er_var {k : Nat} (hv : σ[k]? = some (some v)) (h : Rp.rep K H v x) : Er K (tVar k) σ H x := fun H1 e Q q => ⟨v, hv, q v H1 (Same.refl _) (Rp.mono (SF.of e) h)⟩
/-- a constant -/
theorem er_c (h : ∀ H, Rp.rep K H v x) : Er K (tC v) σ H x := fun H1 _ Q q => q v H1 (Same.refl _) (h H1)
theorem er_int : Er K (tC (.int i)) σ H i := er_c fun _ => rfl
theorem er_str {s : Str} : Er K (tC (.str s)) σ H s := er_c fun _ => rfl
theorem er_bl : Er K (tC (.bl b)) σ H b := er_c fun _ => rfl
theorem er_non : Er K (tC .non) σ H () := er_c fun _ => rfl
/-- a place as a number -/
theorem er_up {n : Nat} (h : Er K te σ H n) : Er K te σ H (n : Int) := h
theorem er_dn {n : Nat} (h : Er K te σ H i) (e : i = (n : Int)) : Er K te σ H n := by subst e; exact h
theorem er_frz {l : List α} (h : ErL K te σ H l) : Er K (tFrz te) σ H l := fun H1 e Q q => h H1 e _ fun p vs H2 e2 hp h2 r =>
  ⟨p, vs, rfl, h2, fun od => q (.ref p) _ (same_mut e2 hp) ⟨p, vs, rfl, ⟨od, upd_same⟩, r.mono (SF.lst h2)⟩⟩
/-! operators by values -/
def R2r (K : Fg) (r : R2) (x : α) (y : β) (z : γ) : Prop := ∀ H v u, Rp.rep K H v x → Rp.rep K H u y → ∀ Q : VK, (∀ w H', Same H H' → Rp.rep K H' w z → Q w H') → r v u H Q
theorem er_op (ha : Er K ta σ H x) (hb : Er K tb σ H y) (hr : R2r K r x y z) : Er K (tOp r ta tb) σ H z := fun H1 e Q q =>
  ha H1 e _ fun v H2 e2 r2 => hb H2 (e.trans e2) _ fun u H3 e3 r3 => hr H3 v u (Rp.mono (SF.of e3) r2) r3 Q fun w H4 e4 r4 => q w H4 ((e2.trans e3).trans e4) r4
theorem rr_add : R2r K (rI0 fun i j => .int (i + j)) i j (i + j) := fun H v u e1 e2 Q q => ⟨i, j, e1, e2, q _ H (Same.refl _) rfl⟩
theorem rr_sub : R2r K (rI0 fun i j => .int (i - j)) i j (i - j) := fun H v u e1 e2 Q q => ⟨i, j, e1, e2, q _ H (Same.refl _) rfl⟩
theorem rr_mul (h : CMul i j) : R2r K (rI CMul fun i j => .int (i * j)) i j (i * j) := fun H v u e1 e2 Q q => ⟨i, j, e1, e2, h, q _ H (Same.refl _) rfl⟩
theorem rr_mulW (h : CMulW i j) : R2r K (rI CMulW fun i j => .int (i * j)) i j (i * j) := fun H v u e1 e2 Q q => ⟨i, j, e1, e2, h, q _ H (Same.refl _) rfl⟩
theorem rr_mod (h : 0 < j) : R2r K (rI (fun _ j => 0 < j) fun i j => .int (i % j)) i j (i % j) := fun H v u e1 e2 Q q => ⟨i, j, e1, e2, h, q _ H (Same.refl _) rfl⟩
theorem rr_div (h : CDiv i j) : R2r K (rI CDiv fun i j => .int (i / j)) i j (i / j) := fun H v u e1 e2 Q q => ⟨i, j, e1, e2, h, q _ H (Same.refl _) rfl⟩
theorem rr_divW (h : CDivW i j) : R2r K (rI CDivW fun i j => .int (i / j)) i j (i / j) := fun H v u e1 e2 Q q => ⟨i, j, e1, e2, h, q _ H (Same.refl _) rfl⟩
theorem rr_pow (h : CPow i j) : R2r K (rI CPow fun i j => .int (i ^ j.toNat)) i j (i ^ j.toNat) := fun H v u e1 e2 Q q => ⟨i, j, e1, e2, h, q _ H (Same.refl _) rfl⟩
theorem rr_lt : R2r K (rI0 fun i j => .bl (decide (i < j))) i j (decide (i < j)) := fun H v u e1 e2 Q q => ⟨i, j, e1, e2, q _ H (Same.refl _) rfl⟩
theorem rr_le : R2r K (rI0 fun i j => .bl (decide (i ≤ j))) i j (decide (i ≤ j)) := fun H v u e1 e2 Q q => ⟨i, j, e1, e2, q _ H (Same.refl _) rfl⟩
theorem rr_gt : R2r K (rI0 fun i j => .bl (decide (j < i))) i j (decide (j < i)) := fun H v u e1 e2 Q q => ⟨i, j, e1, e2, q _ H (Same.refl _) rfl⟩
theorem rr_ge : R2r K (rI0 fun i j => .bl (decide (j ≤ i))) i j (decide (j ≤ i)) := fun H v u e1 e2 Q q => ⟨i, j, e1, e2, q _ H (Same.refl _) rfl⟩
theorem rr_eqI : R2r K rEq i j (decide (i = j)) := fun H v u e1 e2 Q q => by
  cases (show v = .int i from e1); cases (show u = .int j from e2)
  exact ⟨rfl, q _ H (Same.refl _) (by show V.bl _ = V.bl _; simp)⟩
theorem rr_neI : R2r K rNe i j (!decide (i = j)) := fun H v u e1 e2 Q q => by
  cases (show v = .int i from e1); cases (show u = .int j from e2)
  exact ⟨rfl, q _ H (Same.refl _) (by show V.bl _ = V.bl _; simp)⟩
theorem rr_eqB : R2r K rEq b c (decide (b = c)) := fun H v u e1 e2 Q q => by
  cases (show v = .bl b from e1); cases (show u = .bl c from e2)
  exact ⟨rfl, q _ H (Same.refl _) (by show V.bl _ = V.bl _; simp)⟩
theorem rr_neB : R2r K rNe b c (!decide (b = c)) := fun H v u e1 e2 Q q => by
  cases (show v = .bl b from e1); cases (show u = .bl c from e2)
  exact ⟨rfl, q _ H (Same.refl _) (by show V.bl _ = V.bl _; simp)⟩
theorem rr_eqS {s t : Str} : R2r K rEq s t (decide (s = t)) := fun H v u e1 e2 Q q => by
  cases (show v = .str s from e1); cases (show u = .str t from e2)
  exact ⟨rfl, q _ H (Same.refl _) (by show V.bl _ = V.bl _; simp)⟩
theorem rr_neS {s t : Str} : R2r K rNe s t (!decide (s = t)) := fun H v u e1 e2 Q q => by
  cases (show v = .str s from e1); cases (show u = .str t from e2)
  exact ⟨rfl, q _ H (Same.refl _) (by show V.bl _ = V.bl _; simp)⟩
theorem eqv_dec [Rq α] [DecidableEq α] (x y : α) : PyData.eqv (Rq.toD x) (Rq.toD y) = decide (x = y) := by
  by_cases h : x = y
  · rw [(Rq.eqv x y).mpr h, decide_eq_true h]
  · rw [decide_eq_false h]
    cases e : PyData.eqv (Rq.toD x) (Rq.toD y) with
    | false => rfl
    | true => exact absurd ((Rq.eqv x y).mp e) h
theorem rr_eqD [Rq α] [DecidableEq α] {x y : α} (hx : Rq.ok x) (hy : Rq.ok y) (hd : Rq.dep α ≤ 64 := by decide) : R2r K (rEqD K) x y (decide (x = y)) := fun H v u e1 e2 Q q =>
  ⟨_, _, Rq.dp e1, Rq.dp e2, shaped_of hx hd, shaped_of hy hd, by rw [eqv_dec]; exact q _ H (Same.refl _) rfl⟩
theorem rr_neD [Rq α] [DecidableEq α] {x y : α} (hx : Rq.ok x) (hy : Rq.ok y) (hd : Rq.dep α ≤ 64 := by decide) : R2r K (rNeD K) x y (!decide (x = y)) := fun H v u e1 e2 Q q =>
  ⟨_, _, Rq.dp e1, Rq.dp e2, shaped_of hx hd, shaped_of hy hd, by rw [eqv_dec]; exact q _ H (Same.refl _) rfl⟩
theorem rr_eqT [Rq α] [Rt α] [DecidableEq α] {x y : α} (hd : Rq.dep α ≤ 64 := by decide) : R2r K (rEqD K) x y (decide (x = y)) := rr_eqD (Rt.all x) (Rt.all y) hd
theorem rr_neT [Rq α] [Rt α] [DecidableEq α] {x y : α} (hd : Rq.dep α ≤ 64 := by decide) : R2r K (rNeD K) x y (!decide (x = y)) := rr_neD (Rt.all x) (Rt.all y) hd
theorem rr_isB : R2r K (fun x y H Q => ∃ a b : Bool, x = .bl a ∧ y = .bl b ∧ Q (.bl (decide (a = b))) H) b c (decide (b = c)) := fun H v u e1 e2 Q q => ⟨b, c, e1, e2, q _ H (Same.refl _) rfl⟩
theorem rr_notB : R2r K (fun x y H Q => ∃ a b : Bool, x = .bl a ∧ y = .bl b ∧ Q (.bl (!decide (a = b))) H) b c (!decide (b = c)) := fun H v u e1 e2 Q q => ⟨b, c, e1, e2, q _ H (Same.refl _) rfl⟩
/-! items -/
theorem rr_ixL {l : List α} {n : Nat} {x : α} (hx : l[n]? = some x) : R2r K (rIxL K) l (n : Int) x := fun H v u e1 e2 Q q => by
  obtain ⟨a, vs, rfl, h2, h3⟩ := e1
  cases (show u = .int (n : Int) from e2)
  obtain ⟨w, hw, rw⟩ := paired_get h3 hx
  exact ⟨a, vs, n, w, rfl, rfl, h2.seq, atI_nat hw, q w H (Same.refl _) rw⟩
theorem rr_ixI {l : List α} {n : Nat} {x : α} (hi : i = (n : Int)) (hx : l[n]? = some x) : R2r K (rIxL K) l i x := by subst hi; exact rr_ixL hx
theorem rr_ixLast {l : List α} {x : α} (hx : l.getLast? = some x) : R2r K (rIxL K) l (-1 : Int) x := fun H v u e1 e2 Q q => by
  obtain ⟨a, vs, rfl, h2, h3⟩ := e1
  cases (show u = .int (-1) from e2)
  have hn : 0 < l.length := by cases l with
    | nil => cases hx
    | cons _ _ => exact Nat.succ_pos _
  rw [List.getLast?_eq_getElem?] at hx
  obtain ⟨w, hw, rw'⟩ := paired_get h3 hx
  have hl := paired_len h3
  refine ⟨a, vs, -1, w, rfl, rfl, h2.seq, ?_, q w H (Same.refl _) rw'⟩
  rw [← hl] at hw
  unfold atI ixN
  rw [if_neg (by omega), if_pos (by omega)]
  have e : ((-1 : Int) + (vs.length : Int)).toNat = vs.length - 1 := by omega
  rw [e]
  exact hw
theorem rr_ixP0 {p : α × β} : R2r K (rIxT K) p (0 : Int) p.1 := fun H v u e1 e2 Q q => by
  obtain ⟨a, v1, v2, rfl, h2, h3, h4⟩ := e1
  cases (show u = .int 0 from e2)
  exact ⟨a, _, 0, v1, rfl, rfl, h2, atI_nat (j := 0) rfl, q _ H (Same.refl _) h3⟩
theorem rr_ixP1 {p : α × β} : R2r K (rIxT K) p (1 : Int) p.2 := fun H v u e1 e2 Q q => by
  obtain ⟨a, v1, v2, rfl, h2, h3, h4⟩ := e1
  cases (show u = .int 1 from e2)
  exact ⟨a, _, 1, v2, rfl, rfl, h2, atI_nat (j := 1) rfl, q _ H (Same.refl _) h4⟩
theorem rr_ixA {p : T3 α β γ} : R2r K (rIxT K) p (0 : Int) p.a := fun H v u e1 e2 Q q => by
  obtain ⟨a, v1, v2, v3, rfl, h2, h3, h4, h5⟩ := e1
  cases (show u = .int 0 from e2)
  exact ⟨a, _, 0, v1, rfl, rfl, h2, atI_nat (j := 0) rfl, q _ H (Same.refl _) h3⟩
theorem rr_ixB {p : T3 α β γ} : R2r K (rIxT K) p (1 : Int) p.b := fun H v u e1 e2 Q q => by
  obtain ⟨a, v1, v2, v3, rfl, h2, h3, h4, h5⟩ := e1
  cases (show u = .int 1 from e2)
  exact ⟨a, _, 1, v2, rfl, rfl, h2, atI_nat (j := 1) rfl, q _ H (Same.refl _) h4⟩
theorem rr_ixC {p : T3 α β γ} : R2r K (rIxT K) p (2 : Int) p.c := fun H v u e1 e2 Q q => by
  obtain ⟨a, v1, v2, v3, rfl, h2, h3, h4, h5⟩ := e1
  cases (show u = .int 2 from e2)
  exact ⟨a, _, 2, v3, rfl, rfl, h2, atI_nat (j := 2) rfl, q _ H (Same.refl _) h5⟩
/-! one operand -/
theorem er_neg (h : Er K te σ H i) : Er K (tUn (rU fun i => .int (-i)) te) σ H (-i) := fun H1 e Q q => h H1 e _ fun v H2 e2 r => ⟨i, r, q _ H2 e2 rfl⟩
/-! chains, tests -/
theorem er_chain {b b' : Bool} (ha : Er K ta σ H x) (hb : Er K tb σ H y) (hc : Er K tc σ H z) (h1 : R2r K r x y b) (h2 : R2r K r' y z b') : Er K (tChain r r' ta tb tc) σ H (b && b') := fun H1 e Q q =>
  ha H1 e _ fun v H2 e2 r2 => hb H2 (e.trans e2) _ fun u H3 e3 r3 => h1 H3 v u (Rp.mono (SF.of e3) r2) r3 _ fun w H4 e4 r4 => ⟨b, r4, by
    cases b with
    | true =>
      refine iteT ?_
      exact hc H4 (((e.trans e2).trans e3).trans e4) _ fun w' H5 e5 r5 => h2 H5 u w' (Rp.mono (SF.of (e4.trans e5)) r3) r5 Q fun w2 H6 e6 r6 => q w2 H6 ((((e2.trans e3).trans e4).trans e5).trans e6) r6
    | false =>
      refine iteF ?_
      exact q _ H4 ((e2.trans e3).trans e4) rfl⟩
theorem et_test (h : Er K te σ H b) : Et K (tTest te) σ H b := fun H1 e _ q => h H1 e _ fun v H2 e2 r => ⟨b, r, q H2 e2⟩
theorem et_B (h : Er K te σ H b) : Et K (tB te) σ H b := fun H1 e _ q => h H1 e _ fun v H2 e2 r => ⟨b, r, q H2 e2⟩
theorem et_and (h1 : Et K tt σ H b) (h2 : b = true → Et K uu σ H c) : Et K (tAnd tt uu) σ H (b && c) := fun H1 e Q q => h1 H1 e _ fun H2 e2 => by
  cases b with
  | true => exact iteT (h2 rfl H2 (e.trans e2) Q fun H3 e3 => q H3 (e2.trans e3))
  | false => exact iteF (q H2 e2)
theorem et_or (h1 : Et K tt σ H b) (h2 : b = false → Et K uu σ H c) : Et K (tOr tt uu) σ H (b || c) := fun H1 e Q q => h1 H1 e _ fun H2 e2 => by
  cases b with
  | true => exact iteT (q H2 e2)
  | false => exact iteF (h2 rfl H2 (e.trans e2) Q fun H3 e3 => q H3 (e2.trans e3))
theorem et_not (h1 : Et K tt σ H b) : Et K (tNot tt) σ H (!b) := fun H1 e _ q => h1 H1 e _ fun H2 e2 => q H2 e2
theorem et_yes : Et K tYes σ H true := fun H1 e _ q => q H1 (Same.refl _)
theorem er_andV (h1 : Er K ta σ H b) (h2 : b = true → Er K tb σ H c) : Er K (tAndV ta tb) σ H (b && c) := fun H1 e Q q => h1 H1 e _ fun v H2 e2 r => ⟨b, r, by
  cases b with
  | true => exact iteT (h2 rfl H2 (e.trans e2) Q fun v H3 e3 r3 => q v H3 (e2.trans e3) r3)
  | false => exact iteF (q _ H2 e2 rfl)⟩
theorem er_orV (h1 : Er K ta σ H b) (h2 : b = false → Er K tb σ H c) : Er K (tOrV ta tb) σ H (b || c) := fun H1 e Q q => h1 H1 e _ fun v H2 e2 r => ⟨b, r, by
  cases b with
  | true => exact iteT (q _ H2 e2 rfl)
  | false => exact iteF (h2 rfl H2 (e.trans e2) Q fun v H3 e3 r3 => q v H3 (e2.trans e3) r3)⟩
theorem er_notV (h1 : Er K ta σ H b) : Er K (tNotV ta) σ H (!b) := fun H1 e Q q => h1 H1 e _ fun v H2 e2 r => ⟨b, r, q _ H2 e2 rfl⟩
theorem er_if {x' : α} (h : Et K tt σ H b) (h1 : b = true → Er K ta σ H x) (h2 : b = false → Er K tb σ H x') : Er K (tIf tt ta tb) σ H (if b = true then x else x') := fun H1 e Q q => h H1 e _ fun H2 e2 => by
  cases b with
  | true => exact iteT (h1 rfl H2 (e.trans e2) Q fun v H3 e3 r3 => q v H3 (e2.trans e3) (by rw [if_pos rfl]; exact r3))
  | false => exact iteF (h2 rfl H2 (e.trans e2) Q fun v H3 e3 r3 => q v H3 (e2.trans e3) (by rw [if_neg Bool.false_ne_true]; exact r3))
theorem erl_if {l l' : List α} (h : Et K tt σ H b) (h1 : b = true → ErL K ta σ H l) (h2 : b = false → ErL K tb σ H l') : ErL K (tIf tt ta tb) σ H (if b = true then l else l') := fun H1 e Q q => h H1 e _ fun H2 e2 => by
  cases b with
  | true => exact iteT (h1 rfl H2 (e.trans e2) Q fun p vs H3 e3 hp h3 r3 => q p vs H3 (e2.trans e3) (e2.free hp) h3 (by rw [if_pos rfl]; exact r3))
  | false => exact iteF (h2 rfl H2 (e.trans e2) Q fun p vs H3 e3 hp h3 r3 => q p vs H3 (e2.trans e3) (e2.free hp) h3 (by rw [if_neg Bool.false_ne_true]; exact r3))
/-! displays -/
theorem er_pair (h1 : Er K ta σ H x) (h2 : Er K tb σ H y) : Er K (tTup (tCons ta (tCons tb tNil))) σ H (x, y) := fun H1 e Q q =>
  h1 H1 e _ fun v H2 e2 r2 => h2 H2 (e.trans e2) _ fun u H3 e3 r3 => ⟨by show 2 ≤ sizeLine; decide, fun p hp =>
    q (.ref p) _ ((e2.trans e3).trans (same_new hp)) ⟨p, v, u, rfl, sq_tup upd_same, Rp.mono (SF.of (e3.trans (same_new hp))) r2, Rp.mono (SF.new hp) r3⟩⟩
theorem er_three (h1 : Er K ta σ H x) (h2 : Er K tb σ H y) (h3 : Er K tc σ H z) : Er K (tTup (tCons ta (tCons tb (tCons tc tNil)))) σ H (T3.mk x y z) := fun H1 e Q q =>
  h1 H1 e _ fun v H2 e2 r2 => h2 H2 (e.trans e2) _ fun u H3 e3 r3 => h3 H3 ((e.trans e2).trans e3) _ fun w H4 e4 r4 => ⟨by show 3 ≤ sizeLine; decide, fun p hp =>
    q (.ref p) _ (((e2.trans e3).trans e4).trans (same_new hp)) ⟨p, v, u, w, rfl, sq_tup upd_same, Rp.mono (SF.of ((e3.trans e4).trans (same_new hp))) r2, Rp.mono (SF.of (e4.trans (same_new hp))) r3, Rp.mono (SF.new hp) r4⟩⟩
theorem ea_nil : Ea K tNil σ H ([] : List α) := fun H1 _ _ q => q [] H1 (Same.refl _) .nil
theorem ea_cons {tr : TA} {l : List α} (h : Er K ta σ H x) (hr : Ea K tr σ H l) : Ea K (tCons ta tr) σ H (x :: l) := fun H1 e _ q =>
  h H1 e _ fun v H2 e2 r2 => hr H2 (e.trans e2) _ fun vs H3 e3 r3 => q _ H3 (e2.trans e3) (.cons (Rp.mono (SF.of e3) r2) r3)
theorem sz1000 {n : Nat} (h : n ≤ 1000000) : n ≤ sizeLine := Nat.le_trans h (by decide)
theorem erl_lst {t : TA} {l : List α} (h : Ea K t σ H l) (hz : l.length ≤ 1000000 := by first | decide | simp) : ErL K (tLst t) σ H l := fun H1 e Q q =>
  h H1 e _ fun vs H2 e2 r2 => ⟨by rw [paired_len r2]; exact sz1000 hz, fun p hp => q p vs _ (e2.trans (same_new hp)) (e2.free hp) upd_same (r2.mono (SF.new hp))⟩
theorem er_tuple {t : TA} {l : List α} (h : Ea K t σ H l) (hz : l.length ≤ 1000000 := by first | decide | simp) : Er K (tTup t) σ H (Tp.mk l) := fun H1 e Q q =>
  h H1 e _ fun vs H2 e2 r2 => ⟨by rw [paired_len r2]; exact sz1000 hz, fun p hp => q (.ref p) _ (e2.trans (same_new hp)) ⟨p, vs, rfl, sq_tup upd_same, r2.mono (SF.new hp)⟩⟩
theorem erl_cat {l l' : List α} (h1 : Er K ta σ H l) (h2 : Er K tb σ H l') (hz : l.length + l'.length ≤ 1000000) : ErL K (tOp rCatR ta tb) σ H (l ++ l') := fun H1 e Q q =>
  h1 H1 e _ fun v H2 e2 r2 => h2 H2 (e.trans e2) _ fun u H3 e3 r3 => by
    obtain ⟨a, vs, rfl, f1, p1⟩ := Rp.mono (SF.of e3) r2
    obtain ⟨b, us, rfl, f2, p2⟩ := r3
    refine ⟨a, b, vs, us, rfl, rfl, .inr f1, .inr f2, ?_, fun p hp => q p _ _ ((e2.trans e3).trans (same_new hp)) ((e2.trans e3).free hp) upd_same (RL.mono (SF.new hp) (paired_app p1 p2))⟩
    rw [paired_len p1, paired_len p2]; exact sz1000 hz
theorem paired_rep {F : V → α → Prop} {vs : List V} {l : List α} (h : Paired F vs l) : ∀ n : Nat, Paired F (List.replicate n vs).flatten (List.replicate n l).flatten
  | 0 => .nil
  | n + 1 => by
    rw [List.replicate_succ, List.replicate_succ, List.flatten_cons, List.flatten_cons]
    exact paired_app h (paired_rep h n)
theorem erl_rep {l : List α} {k : Int} (h1 : ErL K ta σ H l) (h2 : ∀ H', Same H H' → Er K tb σ H' k) (hk : -1000000 ≤ k ∧ k ≤ 1000000) (hz : l.length * k.toNat ≤ 1000000) : ErL K (tOp rRep ta tb) σ H (List.replicate k.toNat l).flatten := fun H1 e Q q =>
  h1 H1 e _ fun a vs H2 e2 hp h2' p1 => h2 H2 (e.trans e2) H2 (Same.refl _) _ fun u H3 e3 r3 => by
    cases (show u = .int k from r3)
    refine ⟨a, k, vs, rfl, rfl, e3 _ _ h2', by omega, by omega, ?_, fun p hp => q p _ _ ((e2.trans e3).trans (same_new hp)) ((e2.trans e3).free hp) upd_same (RL.mono ((SF.of e3).trans (SF.new hp)) (paired_rep p1 k.toNat))⟩
    rw [paired_len p1]; exact sz1000 hz
end
end BL

set_option Elab.async false
set_option linter.all false
set_option maxRecDepth 100000
set_option maxHeartbeats 2000000
namespace BL
open PySem PySem.Spec PyProof.Rows L2
/-! ### plain functions that the built-ins answer by -/
def mxl : List Int → Int
  | [] => 0
  | [x] => x
  | x :: y :: r => max x (mxl (y :: r))
def mnl : List Int → Int
  | [] => 0
  | [x] => x
  | x :: y :: r => min x (mnl (y :: r))
theorem mxl_mem : ∀ {l : List Int}, l ≠ [] → mxl l ∈ l
  | [x], _ => List.mem_singleton.mpr rfl
  | x :: y :: r, _ => by
    have ih := mxl_mem (l := y :: r) (by simp)
    show max x (mxl (y :: r)) ∈ _
    rcases Int.le_total x (mxl (y :: r)) with h | h
    · rw [Int.max_eq_right h]; exact List.mem_cons_of_mem _ ih
    · rw [Int.max_eq_left h]; exact List.mem_cons_self ..
theorem mxl_le : ∀ {l : List Int} {x : Int}, x ∈ l → x ≤ mxl l
  | [y], x, h => by rw [List.mem_singleton.mp h]; exact Int.le_refl _
  | y :: z :: r, x, h => by
    show x ≤ max y (mxl (z :: r))
    rcases List.mem_cons.mp h with h | h
    · subst h; exact Int.le_max_left ..
    · exact Int.le_trans (mxl_le h) (Int.le_max_right ..)
theorem mnl_mem : ∀ {l : List Int}, l ≠ [] → mnl l ∈ l
  | [x], _ => List.mem_singleton.mpr rfl
  | x :: y :: r, _ => by
    have ih := mnl_mem (l := y :: r) (by simp)
    show min x (mnl (y :: r)) ∈ _
    rcases Int.le_total x (mnl (y :: r)) with h | h
    · rw [Int.min_eq_left h]; exact List.mem_cons_self ..
    · rw [Int.min_eq_right h]; exact List.mem_cons_of_mem _ ih
theorem mnl_le : ∀ {l : List Int} {x : Int}, x ∈ l → mnl l ≤ x
  | [y], x, h => by rw [List.mem_singleton.mp h]; exact Int.le_refl _
  | y :: z :: r, x, h => by
    show min y (mnl (z :: r)) ≤ x
    rcases List.mem_cons.mp h with h | h
    · subst h; exact Int.min_le_left ..
    · exact Int.le_trans (Int.min_le_right ..) (mnl_le h)
theorem mxl_eq {l : List Int} {m : Int} (h1 : m ∈ l) (h2 : ∀ y ∈ l, y ≤ m) : m = mxl l := by
  have h3 := h2 _ (mxl_mem (l := l) (by rintro rfl; cases h1))
  have h4 := mxl_le h1
  omega
theorem mnl_eq {l : List Int} {m : Int} (h1 : m ∈ l) (h2 : ∀ y ∈ l, m ≤ y) : m = mnl l := by
  have h3 := h2 _ (mnl_mem (l := l) (by rintro rfl; cases h1))
  have h4 := mnl_le h1
  omega
/-- sorted, ascending -/
def ins (x : Int) : List Int → List Int
  | [] => [x]
  | y :: r => if x ≤ y then x :: y :: r else y :: ins x r
def srt : List Int → List Int
  | [] => []
  | x :: r => ins x (srt r)
theorem ins_perm (x : Int) : ∀ l : List Int, (ins x l).Perm (x :: l)
  | [] => .refl _
  | y :: r => by
    unfold ins
    split
    · exact .refl _
    · exact ((ins_perm x r).cons y).trans (.swap ..)
theorem srt_perm : ∀ l : List Int, (srt l).Perm l
  | [] => .refl _
  | x :: r => (ins_perm x (srt r)).trans ((srt_perm r).cons x)
theorem ins_sorted (x : Int) : ∀ {l : List Int}, l.Pairwise (· ≤ ·) → (ins x l).Pairwise (· ≤ ·)
  | [], _ => by simp [ins]
  | y :: r, h => by
    obtain ⟨h1, h2⟩ := List.pairwise_cons.mp h
    unfold ins
    split
    · rename_i hxy
      refine List.pairwise_cons.mpr ⟨fun z hz => ?_, h⟩
      rcases List.mem_cons.mp hz with hz | hz
      · subst hz; exact hxy
      · exact Int.le_trans hxy (h1 z hz)
    · rename_i hxy
      refine List.pairwise_cons.mpr ⟨fun z hz => ?_, ins_sorted x h2⟩
      rcases List.mem_cons.mp ((ins_perm x r).mem_iff.mp hz) with hz | hz
      · subst hz; omega
      · exact h1 z hz
theorem srt_sorted : ∀ l : List Int, (srt l).Pairwise (· ≤ ·)
  | [] => .nil
  | x :: r => ins_sorted x (srt_sorted r)
theorem srt_uniq : ∀ {l r : List Int}, l.Perm r → l.Pairwise (· ≤ ·) → r.Pairwise (· ≤ ·) → l = r
  | [], r, h, _, _ => (List.Perm.nil_eq h)
  | x :: l, [], h, _, _ => absurd h.length_eq (by simp)
  | x :: l, y :: r, h, h1, h2 => by
    obtain ⟨a1, a2⟩ := List.pairwise_cons.mp h1
    obtain ⟨b1, b2⟩ := List.pairwise_cons.mp h2
    have e : x = y := by
      have m1 : x ∈ y :: r := h.mem_iff.mp (List.mem_cons_self ..)
      have m2 : y ∈ x :: l := h.mem_iff.mpr (List.mem_cons_self ..)
      have q1 : y ≤ x := by
        rcases List.mem_cons.mp m1 with m | m
        · omega
        · exact b1 x m
      have q2 : x ≤ y := by
        rcases List.mem_cons.mp m2 with m | m
        · omega
        · exact a1 y m
      omega
    subst e
    rw [srt_uniq (List.Perm.cons_inv h) a2 b2]
theorem srt_eq {l r : List Int} (h : l.Perm r) (hs : l.Pairwise (· ≤ ·)) : l = srt r := srt_uniq (h.trans (srt_perm r).symm) hs (srt_sorted r)
theorem srt_len (l : List Int) : (srt l).length = l.length := (srt_perm l).length_eq
def iabs (i : Int) : Int := if i < 0 then -i else i
section
variable {K : Fg} {σ : L2.St} {H H' H1 : Hp} {ta tb tc td te : TE} {tt uu : TT} {α β γ δ : Type} [Rp α] [Rp β] [Rp γ] [Rp δ] {x : α} {y : β} {z : γ} {v u : V} {i j : Int} {b c : Bool}
/-! ### built-ins -/
theorem er_cb1 {r : List V → Hp → VK → Prop} (h : Er K ta σ H x) (hr : ∀ H v, Rp.rep K H v x → ∀ Q : VK, (∀ w H', Same H H' → Rp.rep K H' w y → Q w H') → r [v] H Q) : Er K (tCB r (tCons ta tNil)) σ H y := fun H1 e Q q =>
  h H1 e _ fun v H2 e2 r2 => hr H2 v r2 Q fun w H3 e3 r3 => q w H3 (e2.trans e3) r3
theorem er_cb2 {r : List V → Hp → VK → Prop} (h : Er K ta σ H x) (h' : Er K tb σ H y) (hr : ∀ H v u, Rp.rep K H v x → Rp.rep K H u y → ∀ Q : VK, (∀ w H', Same H H' → Rp.rep K H' w z → Q w H') → r [v, u] H Q) : Er K (tCB r (tCons ta (tCons tb tNil))) σ H z := fun H1 e Q q =>
  h H1 e _ fun v H2 e2 r2 => h' H2 (e.trans e2) _ fun u H3 e3 r3 => hr H3 v u (Rp.mono (SF.of e3) r2) r3 Q fun w H4 e4 r4 => q w H4 ((e2.trans e3).trans e4) r4
theorem erl_cb1 {r : List V → Hp → VK → Prop} {l : List β} (h : Er K ta σ H x) (hr : ∀ H v, Rp.rep K H v x → ∀ Q : VK, (∀ p vs H', Same H H' → H p = none → H' p = some (.lst vs) → RL K H' vs l → Q (.ref p) H') → r [v] H Q) : ErL K (tCB r (tCons ta tNil)) σ H l := fun H1 e Q q =>
  h H1 e _ fun v H2 e2 r2 => hr H2 v r2 Q fun p vs H3 e3 hp h3 r3 => q p vs H3 (e2.trans e3) (e2.free hp) h3 r3
theorem er_sum {l : List Int} (h : Er K ta σ H l) : Er K (tCB (rSum K) (tCons ta tNil)) σ H l.sum := er_cb1 h fun H v r Q q => by
  obtain ⟨a, vs, rfl, h2, h3⟩ := r
  exact ⟨a, l, rfl, by rw [← rl_ints h3]; exact h2.seq, q _ H (Same.refl _) rfl⟩
abbrev rLenC (K : Fg) : List V → Hp → VK → Prop := fun xs H Q => ∃ p ys, xs = [.ref p] ∧ (SqL K H p ys ∨ SqT K H p ys) ∧ Q (.int (ys.length : Int)) H
theorem er_len {l : List α} (h : Er K ta σ H l) : Er K (tCB (rLenC K) (tCons ta tNil)) σ H l.length := er_cb1 h fun H v r Q q => by
  obtain ⟨a, vs, rfl, h2, h3⟩ := r
  exact ⟨a, vs, rfl, .inl h2.seq, by rw [paired_len h3]; exact q _ H (Same.refl _) rfl⟩
theorem er_lenP {p : α × β} (h : Er K ta σ H p) : Er K (tCB (rLenC K) (tCons ta tNil)) σ H (2 : Int) := er_cb1 h fun H v r Q q => by
  obtain ⟨a, v1, v2, rfl, h2, _⟩ := r
  exact ⟨a, _, rfl, .inr h2, q _ H (Same.refl _) rfl⟩
theorem er_lenT {t : Tp α} (h : Er K ta σ H t) : Er K (tCB (rLenC K) (tCons ta tNil)) σ H t.l.length := er_cb1 h fun H v r Q q => by
  obtain ⟨a, vs, rfl, h2, h3⟩ := r
  exact ⟨a, vs, rfl, .inr h2, by rw [paired_len h3]; exact q _ H (Same.refl _) rfl⟩
theorem er_max {l : List Int} (h : Er K ta σ H l) (hn : l ≠ []) : Er K (tCB (rMax K) (tCons ta tNil)) σ H (mxl l) := er_cb1 h fun H v r Q q => by
  obtain ⟨a, vs, rfl, h2, h3⟩ := r
  exact ⟨a, l, rfl, by rw [← rl_ints h3]; exact h2.seq, List.length_pos_iff.mpr hn, fun m h1 h2 => q _ H (Same.refl _) (by rw [← mxl_eq h1 h2]; rfl)⟩
theorem er_min {l : List Int} (h : Er K ta σ H l) (hn : l ≠ []) : Er K (tCB (rMin K) (tCons ta tNil)) σ H (mnl l) := er_cb1 h fun H v r Q q => by
  obtain ⟨a, vs, rfl, h2, h3⟩ := r
  exact ⟨a, l, rfl, by rw [← rl_ints h3]; exact h2.seq, List.length_pos_iff.mpr hn, fun m h1 h2 => q _ H (Same.refl _) (by rw [← mnl_eq h1 h2]; rfl)⟩
abbrev rMax2C : List V → Hp → VK → Prop := fun xs H Q => ∃ i j, xs = [.int i, .int j] ∧ Q (.int (if j > i then j else i)) H
abbrev rMin2C : List V → Hp → VK → Prop := fun xs H Q => ∃ i j, xs = [.int i, .int j] ∧ Q (.int (if j < i then j else i)) H
abbrev rAbsC : List V → Hp → VK → Prop := fun xs H Q => ∃ i, xs = [.int i] ∧ Q (.int (if i < 0 then -i else i)) H
theorem er_max2 (h : Er K ta σ H i) (h' : Er K tb σ H j) : Er K (tCB rMax2C (tCons ta (tCons tb tNil))) σ H (max i j) := er_cb2 h h' fun H v u e1 e2 Q q => by
  cases (show v = .int i from e1); cases (show u = .int j from e2)
  refine ⟨i, j, rfl, q _ H (Same.refl _) (congrArg V.int ?_)⟩
  split <;> omega
theorem er_min2 (h : Er K ta σ H i) (h' : Er K tb σ H j) : Er K (tCB rMin2C (tCons ta (tCons tb tNil))) σ H (min i j) := er_cb2 h h' fun H v u e1 e2 Q q => by
  cases (show v = .int i from e1); cases (show u = .int j from e2)
  refine ⟨i, j, rfl, q _ H (Same.refl _) (congrArg V.int ?_)⟩
  split <;> omega
theorem er_abs (h : Er K ta σ H i) : Er K (tCB rAbsC (tCons ta tNil)) σ H (iabs i) := er_cb1 h fun H v e1 Q q => by
  cases (show v = .int i from e1)
  exact ⟨i, rfl, q _ H (Same.refl _) rfl⟩
theorem erl_sorted {l : List Int} (h : Er K ta σ H l) : ErL K (tCB (rSortedI K) (tCons ta tNil)) σ H (srt l) := erl_cb1 h fun H v r Q q => by
  obtain ⟨a, vs, rfl, h2, h3⟩ := r
  refine ⟨a, l, rfl, by rw [← rl_ints h3]; exact h2.seq, fun ns' p hp hs hn => q p _ _ (same_new hn) hn upd_same ?_⟩
  rw [srt_eq hp hs]; exact rl_of_ints _
theorem er_all {l : List Bool} (h : Er K ta σ H l) : Er K (tCB (rAll K) (tCons ta tNil)) σ H (l.all id) := er_cb1 h fun H v r Q q => by
  obtain ⟨a, vs, rfl, h2, h3⟩ := r
  exact ⟨a, l, rfl, by rw [← rl_bools h3]; exact h2.seq, q _ H (Same.refl _) rfl⟩
theorem er_any {l : List Bool} (h : Er K ta σ H l) : Er K (tCB (rAny K) (tCons ta tNil)) σ H (l.any id) := er_cb1 h fun H v r Q q => by
  obtain ⟨a, vs, rfl, h2, h3⟩ := r
  exact ⟨a, l, rfl, by rw [← rl_bools h3]; exact h2.seq, q _ H (Same.refl _) rfl⟩
abbrev rListC (K : Fg) : List V → Hp → VK → Prop := fun xs H Q => ∃ p ys, xs = [.ref p] ∧ (SqL K H p ys ∨ SqT K H p ys) ∧ ∀ l, H l = none → Q (.ref l) (upd H l (.lst ys))
theorem erl_list {l : List α} (h : Er K ta σ H l) : ErL K (tCB (rListC K) (tCons ta tNil)) σ H l := erl_cb1 h fun H v r Q q => by
  obtain ⟨a, vs, rfl, h2, h3⟩ := r
  exact ⟨a, vs, rfl, .inl h2.seq, fun p hp => q p vs _ (same_new hp) hp upd_same (h3.mono (SF.new hp))⟩
theorem erl_listT {t : Tp α} (h : Er K ta σ H t) : ErL K (tCB (rListC K) (tCons ta tNil)) σ H t.l := erl_cb1 h fun H v r Q q => by
  obtain ⟨a, vs, rfl, h2, h3⟩ := r
  exact ⟨a, vs, rfl, .inr h2, fun p hp => q p vs _ (same_new hp) hp upd_same (h3.mono (SF.new hp))⟩
/-! ### isinstance -/
class Ty (α : Type) [Rp α] where
  n : α → String
  ty : ∀ {K : Fg} {H : Hp} {v : V} {x : α}, Rp.rep K H v x → TyX K H v (.type (n x))
instance : Ty Int := ⟨fun _ => "int", fun {K H v x} h => by cases (show v = .int x from h); exact .base (.int _)⟩
instance : Ty Nat := ⟨fun _ => "int", fun {K H v x} h => by cases (show v = .int (x : Int) from h); exact .base (.int _)⟩
instance : Ty Bool := ⟨fun _ => "bool", fun {K H v x} h => by cases (show v = .bl x from h); exact .base (.bl _)⟩
instance : Ty Str := ⟨fun _ => "str", fun {K H v x} h => by cases (show v = .str x from h); exact .base (.str _)⟩
instance : Ty Unit := ⟨fun _ => "NoneType", fun {K H v x} h => by cases (show v = .non from h); exact .base .non⟩
theorem ty_tup {a : Addr} {vs : List V} (h : SqT K H a vs) : TyX K H (.ref a) (.type "tuple") := by
  rcases h with (h | ⟨o, h⟩) | ⟨o, its, n, h, hc, _⟩
  · exact .base (.tup h)
  · exact .fTuple h
  · exact .kTuple h hc
instance {α : Type} [Rp α] : Ty (List α) := ⟨fun _ => "list", fun {K H v x} h => by obtain ⟨a, vs, rfl, ⟨o, h2⟩, _⟩ := h; exact .base (.frz h2)⟩
instance {α β : Type} [Rp α] [Rp β] : Ty (α × β) := ⟨fun _ => "tuple", fun {K H v x} h => by obtain ⟨a, v1, v2, rfl, h2, _⟩ := h; exact ty_tup h2⟩
instance {α β γ : Type} [Rp α] [Rp β] [Rp γ] : Ty (T3 α β γ) := ⟨fun _ => "tuple", fun {K H v x} h => by obtain ⟨a, v1, v2, v3, rfl, h2, _⟩ := h; exact ty_tup h2⟩
instance {α : Type} [Rp α] : Ty (Tp α) := ⟨fun _ => "tuple", fun {K H v x} h => by obtain ⟨a, vs, rfl, h2, _⟩ := h; exact ty_tup h2⟩
theorem er_isi [Ty α] {s : String} {b : Bool} (h : Er K ta σ H x) (hb : kitB (Ty.n x) s = some b) : Er K (tCB (rIsi K) (tCons ta (tCons (tC (.ty s)) tNil))) σ H b := fun H1 e Q q =>
  h H1 e _ fun v H2 e2 r2 => ⟨v, .ty s, .type (Ty.n x), .type s, b, rfl, .ty s, Ty.ty r2, kit_ty hb, q _ H2 e2 rfl⟩
/-! ### slices -/
theorem paired_cut {F : V → α → Prop} {vs : List V} {l : List α} (h : Paired F vs l) (n m : Nat) : Paired F ((vs.drop n).take m) ((l.drop n).take m) := paired_take m (paired_drop n h)
def Eo (K : Fg) (to : TO) (σ : L2.St) (H : Hp) (o : Option Int) : Prop := ∀ H1, Same H H1 → ∀ Q : Option Int → Hp → Prop, (∀ H2, Same H1 H2 → Q o H2) → to σ H1 Q
theorem eo_none : Eo K tNoPart σ H none := fun H1 _ _ q => q H1 (Same.refl _)
theorem eo_some (h : Er K te σ H i) : Eo K (tPart te) σ H (some i) := fun H1 e _ q => h H1 e _ fun v H2 e2 r => ⟨i, r, q H2 e2⟩
def cutL (l : List α) (lo hi : Option Int) : List α := (l.drop (HT.sIx l.length 0 lo)).take (HT.sIx l.length l.length hi - HT.sIx l.length 0 lo)
theorem erl_sl {tl th : TO} {l : List α} {lo hi : Option Int} (h : Er K te σ H l) (h1 : Eo K tl σ H lo) (h2 : Eo K th σ H hi) : ErL K (tSl (rSlL K) te tl th) σ H (cutL l lo hi) := fun H1 e Q q =>
  h H1 e _ fun v H2 e2 r2 => h1 H2 (e.trans e2) _ fun H3 e3 => h2 H3 ((e.trans e2).trans e3) _ fun H4 e4 => by
    obtain ⟨a, vs, rfl, f, p⟩ := r2
    have f4 : Fz H4 a vs := f.sf (SF.of (e3.trans e4))
    have p4 : RL K H4 vs l := p.mono (SF.of (e3.trans e4))
    refine ⟨a, vs, rfl, f4.seq, fun n hn => q n _ _ (((e2.trans e3).trans e4).trans (same_new hn)) (((e2.trans e3).trans e4).free hn) upd_same ?_⟩
    have hc : RL K H4 (cutV vs lo hi) (cutL l lo hi) := by
      unfold cutV cutL
      rw [paired_len p4]
      exact paired_cut p4 _ _
    exact hc.mono (SF.new hn)
theorem cutL_from (l : List α) (n : Nat) : cutL l (some (n : Int)) none = l.drop n := by
  unfold cutL
  rw [HT.sIx_nat, HT.sIx_none]
  by_cases h : n ≤ l.length
  · rw [Nat.min_eq_left h, List.take_of_length_le (by rw [List.length_drop]; omega)]
  · rw [Nat.min_eq_right (by omega), List.drop_of_length_le (Nat.le_refl _), List.drop_of_length_le (by omega)]; simp
theorem cutL_to (l : List α) (n : Nat) : cutL l none (some (n : Int)) = l.take n := by
  unfold cutL
  rw [HT.sIx_nat, HT.sIx_none, List.drop_zero, Nat.sub_zero]
  by_cases h : n ≤ l.length
  · rw [Nat.min_eq_left h]
  · rw [Nat.min_eq_right (by omega), List.take_of_length_le (Nat.le_refl _), List.take_of_length_le (by omega)]
/-! ### promises: n arguments that stand for data, an answer, all that was tracked kept -/
def ansV (K : Fg) (y : β) (H : Hp) (Q : VK) : Prop := ∀ u H', Same H H' → Rp.rep K H' u y → Q u H'
def ansL (K : Fg) (l : List β) (H : Hp) (Q : VK) : Prop := ∀ p us H', Same H H' → H p = none → H' p = some (.lst us) → RL K H' us l → Q (.ref p) H'
def sp1 (K : Fg) (pre : α → Prop) (f : α → β) : Sp := fun vs H Q _ => ∃ v x, vs = [v] ∧ Rp.rep K H v x ∧ pre x ∧ ansV K (f x) H Q
def sp2 (K : Fg) (pre : α → β → Prop) (f : α → β → γ) : Sp := fun vs H Q _ => ∃ v u x y, vs = [v, u] ∧ Rp.rep K H v x ∧ Rp.rep K H u y ∧ pre x y ∧ ansV K (f x y) H Q
def sp3 (K : Fg) (pre : α → β → γ → Prop) (f : α → β → γ → δ) : Sp := fun vs H Q _ => ∃ v u w x y z, vs = [v, u, w] ∧ Rp.rep K H v x ∧ Rp.rep K H u y ∧ Rp.rep K H w z ∧ pre x y z ∧ ansV K (f x y z) H Q
def sl1 (K : Fg) (pre : α → Prop) (f : α → List β) : Sp := fun vs H Q _ => ∃ v x, vs = [v] ∧ Rp.rep K H v x ∧ pre x ∧ ansL K (f x) H Q
def sl2 (K : Fg) (pre : α → β → Prop) (f : α → β → List γ) : Sp := fun vs H Q _ => ∃ v u x y, vs = [v, u] ∧ Rp.rep K H v x ∧ Rp.rep K H u y ∧ pre x y ∧ ansL K (f x y) H Q
def sl3 (K : Fg) (pre : α → β → γ → Prop) (f : α → β → γ → List δ) : Sp := fun vs H Q _ => ∃ v u w x y z, vs = [v, u, w] ∧ Rp.rep K H v x ∧ Rp.rep K H u y ∧ Rp.rep K H w z ∧ pre x y z ∧ ansL K (f x y z) H Q
theorem er_call1 {pre : α → Prop} {f : α → β} {E : XK} (h : Er K ta σ H x) (hp : pre x) : Er K (tCall (sp1 K pre f) [] E (tCons ta tNil)) σ H (f x) := fun H1 e Q q =>
  h H1 e _ fun v H2 e2 r2 => ⟨v, x, rfl, r2, hp, fun u H3 e3 r3 => q u H3 (e2.trans e3) r3⟩
theorem er_call2 {pre : α → β → Prop} {f : α → β → γ} {E : XK} (h : Er K ta σ H x) (h' : Er K tb σ H y) (hp : pre x y) : Er K (tCall (sp2 K pre f) [] E (tCons ta (tCons tb tNil))) σ H (f x y) := fun H1 e Q q =>
  h H1 e _ fun v H2 e2 r2 => h' H2 (e.trans e2) _ fun u H3 e3 r3 => ⟨v, u, x, y, rfl, Rp.mono (SF.of e3) r2, r3, hp, fun u H4 e4 r4 => q u H4 ((e2.trans e3).trans e4) r4⟩
theorem er_call3 {pre : α → β → γ → Prop} {f : α → β → γ → δ} {E : XK} (h : Er K ta σ H x) (h' : Er K tb σ H y) (h'' : Er K tc σ H z) (hp : pre x y z) : Er K (tCall (sp3 K pre f) [] E (tCons ta (tCons tb (tCons tc tNil)))) σ H (f x y z) := fun H1 e Q q =>
  h H1 e _ fun v H2 e2 r2 => h' H2 (e.trans e2) _ fun u H3 e3 r3 => h'' H3 ((e.trans e2).trans e3) _ fun w H4 e4 r4 =>
    ⟨v, u, w, x, y, z, rfl, Rp.mono (SF.of (e3.trans e4)) r2, Rp.mono (SF.of e4) r3, r4, hp, fun u H5 e5 r5 => q u H5 (((e2.trans e3).trans e4).trans e5) r5⟩
theorem erl_call1 {pre : α → Prop} {f : α → List β} {E : XK} (h : Er K ta σ H x) (hp : pre x) : ErL K (tCall (sl1 K pre f) [] E (tCons ta tNil)) σ H (f x) := fun H1 e Q q =>
  h H1 e _ fun v H2 e2 r2 => ⟨v, x, rfl, r2, hp, fun p us H3 e3 hn h3 r3 => q p us H3 (e2.trans e3) (e2.free hn) h3 r3⟩
theorem erl_call2 {pre : α → β → Prop} {f : α → β → List γ} {E : XK} (h : Er K ta σ H x) (h' : Er K tb σ H y) (hp : pre x y) : ErL K (tCall (sl2 K pre f) [] E (tCons ta (tCons tb tNil))) σ H (f x y) := fun H1 e Q q =>
  h H1 e _ fun v H2 e2 r2 => h' H2 (e.trans e2) _ fun u H3 e3 r3 => ⟨v, u, x, y, rfl, Rp.mono (SF.of e3) r2, r3, hp, fun p us H4 e4 hn h4 r4 => q p us H4 ((e2.trans e3).trans e4) ((e2.trans e3).free hn) h4 r4⟩
theorem erl_call3 {pre : α → β → γ → Prop} {f : α → β → γ → List δ} {E : XK} (h : Er K ta σ H x) (h' : Er K tb σ H y) (h'' : Er K tc σ H z) (hp : pre x y z) : ErL K (tCall (sl3 K pre f) [] E (tCons ta (tCons tb (tCons tc tNil)))) σ H (f x y z) := fun H1 e Q q =>
  h H1 e _ fun v H2 e2 r2 => h' H2 (e.trans e2) _ fun u H3 e3 r3 => h'' H3 ((e.trans e2).trans e3) _ fun w H4 e4 r4 =>
    ⟨v, u, w, x, y, z, rfl, Rp.mono (SF.of (e3.trans e4)) r2, Rp.mono (SF.of e4) r3, r4, hp, fun p us H5 e5 hn h5 r5 => q p us H5 (((e2.trans e3).trans e4).trans e5) (((e2.trans e3).trans e4).free hn) h5 r5⟩
/-! ### statements -/
variable {D : Ends} {tu tw tz : TS} {g : TG}
theorem s_set {k : Nat} (h : Er K te σ H x) (q : ∀ v H1, Same H H1 → Rp.rep K H1 v x → D.nx (σ.set k (some v)) H1) : tAsg te (gName k) D σ H := h H (Same.refl _) _ q
theorem s_setL {k : Nat} {l : List α} (h : ErL K te σ H l) (q : ∀ p vs H1, Same H H1 → H p = none → H1 p = some (.lst vs) → RL K H1 vs l → D.nx (σ.set k (some (.ref p))) H1) : tAsg te (gName k) D σ H := h H (Same.refl _) _ q
theorem q_set {k : Nat} (h : Er K te σ H x) (q : ∀ v H1, Same H H1 → Rp.rep K H1 v x → tz D (σ.set k (some v)) H1) : tSeq (tAsg te (gName k)) tz D σ H := h H (Same.refl _) _ q
theorem q_setL {k : Nat} {l : List α} (h : ErL K te σ H l) (q : ∀ p vs H1, Same H H1 → H p = none → H1 p = some (.lst vs) → RL K H1 vs l → tz D (σ.set k (some (.ref p))) H1) : tSeq (tAsg te (gName k)) tz D σ H := h H (Same.refl _) _ q
theorem s_drop (h : Er K te σ H x) (q : ∀ H1, Same H H1 → D.nx σ H1) : tDrop te D σ H := h H (Same.refl _) _ fun _ H1 e _ => q H1 e
theorem q_drop (h : Er K te σ H x) (q : ∀ H1, Same H H1 → tz D σ H1) : tSeq (tDrop te) tz D σ H := h H (Same.refl _) _ fun _ H1 e _ => q H1 e
theorem s_par {k m : Nat} (h : Er K ta σ H x) (h' : Er K tb σ H y) (q : ∀ v u H1, Same H H1 → Rp.rep K H1 v x → Rp.rep K H1 u y → D.nx ((σ.set k (some v)).set m (some u)) H1) : tPar k m (tCons ta (tCons tb tNil)) D σ H :=
  h H (Same.refl _) _ fun v H1 e r => h' H1 e _ fun u H2 e2 r2 => ⟨v, u, rfl, q v u H2 (e.trans e2) (Rp.mono (SF.of e2) r) r2⟩
theorem q_par {k m : Nat} (h : Er K ta σ H x) (h' : Er K tb σ H y) (q : ∀ v u H1, Same H H1 → Rp.rep K H1 v x → Rp.rep K H1 u y → tz D ((σ.set k (some v)).set m (some u)) H1) : tSeq (tPar k m (tCons ta (tCons tb tNil))) tz D σ H :=
  s_par (D := { D with nx := tz D }) h h' q
theorem tg_pair {p : α × β} {k m : Nat} (h : Rp.rep K H v p) : ∃ v1 v2, Rp.rep K H v1 p.1 ∧ Rp.rep K H v2 p.2 ∧ ∀ Q : L2.St → Hp → Prop, Q ((σ.set k (some v1)).set m (some v2)) H → gTup K 2 (gCons (gName k) (gCons (gName m) gNil)) v σ H Q := by
  obtain ⟨a, v1, v2, rfl, h2, h3, h4⟩ := h
  exact ⟨v1, v2, h3, h4, fun Q q => ⟨a, _, rfl, h2, rfl, v1, _, rfl, v2, _, rfl, rfl, q⟩⟩
theorem tg_three {p : T3 α β γ} {k m n : Nat} (h : Rp.rep K H v p) : ∃ v1 v2 v3, Rp.rep K H v1 p.a ∧ Rp.rep K H v2 p.b ∧ Rp.rep K H v3 p.c ∧ ∀ Q : L2.St → Hp → Prop, Q (((σ.set k (some v1)).set m (some v2)).set n (some v3)) H → gTup K 3 (gCons (gName k) (gCons (gName m) (gCons (gName n) gNil))) v σ H Q := by
  obtain ⟨a, v1, v2, v3, rfl, h2, h3, h4, h5⟩ := h
  exact ⟨v1, v2, v3, h3, h4, h5, fun Q q => ⟨a, _, rfl, h2, rfl, v1, _, rfl, v2, _, rfl, v3, _, rfl, rfl, q⟩⟩
theorem s_unp {p : α × β} {k m : Nat} (h : Er K te σ H p) (q : ∀ v u H1, Same H H1 → Rp.rep K H1 v p.1 → Rp.rep K H1 u p.2 → D.nx ((σ.set k (some v)).set m (some u)) H1) : tAsg te (gTup K 2 (gCons (gName k) (gCons (gName m) gNil))) D σ H :=
  h H (Same.refl _) _ fun v H1 e r => by
    obtain ⟨v1, v2, r1, r2, f⟩ := tg_pair (σ := σ) (k := k) (m := m) r
    exact f _ (q v1 v2 H1 e r1 r2)
theorem q_unp {p : α × β} {k m : Nat} (h : Er K te σ H p) (q : ∀ v u H1, Same H H1 → Rp.rep K H1 v p.1 → Rp.rep K H1 u p.2 → tz D ((σ.set k (some v)).set m (some u)) H1) : tSeq (tAsg te (gTup K 2 (gCons (gName k) (gCons (gName m) gNil)))) tz D σ H :=
  s_unp (D := { D with nx := tz D }) h q
theorem s_ret (h : Er K te σ H x) (q : ∀ v H1, Same H H1 → Rp.rep K H1 v x → D.rt v H1) : tRet te D σ H := h H (Same.refl _) _ q
theorem s_retL {l : List α} (h : ErL K te σ H l) (q : ∀ p vs H1, Same H H1 → H p = none → H1 p = some (.lst vs) → RL K H1 vs l → D.rt (.ref p) H1) : tRet te D σ H := h H (Same.refl _) _ q
theorem s_if (h : Et K tt σ H b) (h1 : b = true → ∀ H1, Same H H1 → tu D σ H1) (h2 : b = false → ∀ H1, Same H H1 → tw D σ H1) : tIfS tt tu tw D σ H := h H (Same.refl _) _ fun H1 e => by
  cases b with
  | true => exact iteT (h1 rfl H1 e)
  | false => exact iteF (h2 rfl H1 e)
theorem q_if (h : Et K tt σ H b) (h1 : b = true → ∀ H1, Same H H1 → tu { D with nx := tz D } σ H1) (h2 : b = false → ∀ H1, Same H H1 → tw { D with nx := tz D } σ H1) : tSeq (tIfS tt tu tw) tz D σ H := s_if (D := { D with nx := tz D }) h h1 h2
theorem q_when (h : Et K tt σ H b) (h1 : b = true → ∀ H1, Same H H1 → tu { D with nx := tz D } σ H1) (h2 : b = false → ∀ H1, Same H H1 → tz D σ H1) : tSeq (tIfS tt tu tNext) tz D σ H := s_if (D := { D with nx := tz D }) h h1 h2
/-- the test is known not to hold -/
theorem q_not (h : Et K tt σ H b) (hb : b = false) (q : ∀ H1, Same H H1 → tz D σ H1) : tSeq (tIfS tt tu tNext) tz D σ H := q_when h (fun e => by rw [hb] at e; cases e) fun _ => q
theorem s_not (h : Et K tt σ H b) (hb : b = false) (q : ∀ H1, Same H H1 → D.nx σ H1) : tIfS tt tu tNext D σ H := s_if h (fun e => by rw [hb] at e; cases e) fun _ => q
/-! lists not locked yet -/
def Un (K : Fg) (H : Hp) (p : Addr) (l : List α) : Prop := ∃ vs, H p = some (.lst vs) ∧ RL K H vs l
theorem Un.of {p : Addr} {vs : List V} {l : List α} (h : H p = some (.lst vs)) (r : RL K H vs l) : Un K H p l := ⟨vs, h, r⟩
theorem Un.mono {p : Addr} {l : List α} (e : Same H H') (h : Un K H p l) : Un K H' p l := by
  obtain ⟨vs, h, r⟩ := h; exact ⟨vs, e _ _ h, r.mono (SF.of e)⟩
/-- from H to H' the list at p alone has changed, new things are there -/
structure Mu (p : Addr) (H H' : Hp) : Prop where
  sf : SF H H'
  ne : ∀ q o, q ≠ p → H q = some o → H' q = some o
theorem Mu.base {p : Addr} {H0 : Hp} (m : Mu p H H') (e : Same H0 H) (h : H0 p = none) : Same H0 H' := fun a o ha => m.ne a o (ne_of_none ha h) (e a o ha)
theorem Mu.trans {p : Addr} {H2 : Hp} (m : Mu p H H') (n : Mu p H' H2) : Mu p H H2 := ⟨m.sf.trans n.sf, fun q o h e => n.ne q o h (m.ne q o h e)⟩
theorem Mu.of {p : Addr} (e : Same H H') : Mu p H H' := ⟨SF.of e, fun q o _ h => e q o h⟩
theorem mu_upd {p : Addr} {vs : List V} {o : HO} (e : Same H H1) (h : H p = some (.lst vs)) : Mu p H (upd H1 p o) := ⟨(SF.of e).trans (SF.lst (e _ _ h)), fun q u n hq => by rw [upd_ne n]; exact e _ _ hq⟩
theorem Un.ne {p q : Addr} {l : List α} (m : Mu p H H') (n : q ≠ p) (h : Un K H q l) : Un K H' q l := by
  obtain ⟨vs, h, r⟩ := h; exact ⟨vs, m.ne _ _ n h, r.mono m.sf⟩
theorem s_app {k : Nat} {p : Addr} {l : List α} (hσ : σ[k]? = some (some (.ref p))) (hu : Un K H p l) (h : Er K te σ H x) (hz : l.length < 1000000) (q : ∀ H2, Mu p H H2 → Un K H2 p (l ++ [x]) → D.nx σ H2) :
    tDrop (tBM K "list" rAppend (tVar k) (tCons te tNil)) D σ H := by
  obtain ⟨vs, hp, r⟩ := hu
  refine ⟨.ref p, hσ, Or.inl ⟨rfl, vs, sq_lst hp⟩, ?_⟩
  refine h H (Same.refl _) _ fun v H2 e2 r2 => ⟨p, vs, v, rfl, rfl, e2 _ _ hp, ?_, q _ (mu_upd e2 hp) ⟨_, upd_same, RL.mono (SF.lst (e2 _ _ hp)) (paired_app (r.mono (SF.of e2)) (.cons r2 .nil))⟩⟩
  rw [paired_len r]; exact Nat.lt_of_lt_of_le hz (by decide)
theorem q_app {k : Nat} {p : Addr} {l : List α} (hσ : σ[k]? = some (some (.ref p))) (hu : Un K H p l) (h : Er K te σ H x) (hz : l.length < 1000000) (q : ∀ H2, Mu p H H2 → Un K H2 p (l ++ [x]) → tz D σ H2) :
    tSeq (tDrop (tBM K "list" rAppend (tVar k) (tCons te tNil))) tz D σ H := s_app (D := { D with nx := tz D }) hσ hu h hz q
theorem s_setI {k : Nat} {p : Addr} {l : List α} {n : Nat} (hσ : σ[k]? = some (some (.ref p))) (hu : Un K H p l) (h : Er K te σ H x) (hi : Er K tb σ H n) (hn : n < l.length) (q : ∀ H2, Mu p H H2 → Un K H2 p (l.set n x) → D.nx σ H2) :
    tAsg te (gSub (tVar k) tb rSetL) D σ H := by
  obtain ⟨vs, hp, r⟩ := hu
  refine h H (Same.refl _) _ fun v H2 e2 r2 => ⟨.ref p, hσ, hi H2 e2 _ fun u H3 e3 r3 => ?_⟩
  cases (show u = .int (n : Int) from r3)
  refine ⟨p, vs, (n : Int), n, rfl, rfl, (e2.trans e3) _ _ hp, ?_, q _ (mu_upd (e2.trans e3) hp) ⟨_, upd_same, RL.mono (SF.lst ((e2.trans e3) _ _ hp)) (paired_set (Rp.mono (SF.of e3) r2) n (r.mono (SF.of (e2.trans e3))))⟩⟩
  rw [paired_len r]
  unfold ixN
  rw [if_pos (by omega), if_pos (by omega)]; simp
theorem q_setI {k : Nat} {p : Addr} {l : List α} {n : Nat} (hσ : σ[k]? = some (some (.ref p))) (hu : Un K H p l) (h : Er K te σ H x) (hi : Er K tb σ H n) (hn : n < l.length) (q : ∀ H2, Mu p H H2 → Un K H2 p (l.set n x) → tz D σ H2) :
    tSeq (tAsg te (gSub (tVar k) tb rSetL)) tz D σ H := s_setI (D := { D with nx := tz D }) hσ hu h hi hn q
theorem er_ixU {k : Nat} {p : Addr} {l : List α} {n : Nat} {x : α} (hσ : σ[k]? = some (some (.ref p))) (hu : Un K H p l) (hi : Er K tb σ H (n : Int)) (hx : l[n]? = some x) : Er K (tOp (rIxL K) (tVar k) tb) σ H x := fun H1 e Q q => by
  obtain ⟨vs, hp, r⟩ := hu
  refine ⟨.ref p, hσ, hi H1 e _ fun u H2 e2 r2 => ?_⟩
  cases (show u = .int (n : Int) from r2)
  obtain ⟨w, hw, rw'⟩ := paired_get r hx
  exact ⟨p, vs, n, w, rfl, rfl, sq_lst ((e.trans e2) _ _ hp), atI_nat hw, q w H2 e2 (Rp.mono (SF.of (e.trans e2)) rw')⟩
theorem er_lenU {k : Nat} {p : Addr} {l : List α} (hσ : σ[k]? = some (some (.ref p))) (hu : Un K H p l) : Er K (tCB (rLenC K) (tCons (tVar k) tNil)) σ H l.length := fun H1 e Q q => by
  obtain ⟨vs, hp, r⟩ := hu
  exact ⟨.ref p, hσ, p, vs, rfl, .inl (sq_lst (e _ _ hp)), by rw [paired_len r]; exact q _ H1 (Same.refl _) rfl⟩
/-- the list in a slot is locked from here on -/
def tFzS (k : Nat) (t : TS) : TS := fun D σ H => ∃ p vs, σ[k]? = some (some (.ref p)) ∧ H p = some (.lst vs) ∧ ∀ od, t D σ (upd H p (.frz od (.lst vs)))
theorem pss_frz {X : Cx} {rest : List Stmt} {t : TS} (k : Nat) (h : PSs X rest t) : PSs X rest (tFzS k t) := ⟨fun pins s σ H D I q => by
  obtain ⟨p, vs, hs, hp, q⟩ := q
  obtain ⟨od, I2⟩ := I.lock hp trivial
  exact h.run pins s σ _ D I2 (q od)⟩
theorem q_frz {k : Nat} {p : Addr} {l : List α} (hσ : σ[k]? = some (some (.ref p))) (hu : Un K H p l) (q : ∀ H2, Mu p H H2 → Rp.rep K H2 (.ref p) l → tz D σ H2) : tFzS k tz D σ H := by
  obtain ⟨vs, hp, r⟩ := hu
  exact ⟨p, vs, hσ, hp, fun od => q _ (mu_upd (Same.refl _) hp) ⟨p, vs, rfl, ⟨od, upd_same⟩, r.mono (SF.lst hp)⟩⟩
theorem s_aug {k : Nat} {f : Int → Int → Int} (hσ : σ[k]? = some (some (.int i))) (h : Er K te σ H j) (q : ∀ H1, Same H H1 → D.nx (σ.set k (some (.int (f i j)))) H1) : tAug k te (ipI f) D σ H :=
  ⟨.int i, hσ, h H (Same.refl _) _ fun v H1 e r => ⟨i, j, rfl, r, q H1 e⟩⟩
theorem q_aug {k : Nat} {f : Int → Int → Int} (hσ : σ[k]? = some (some (.int i))) (h : Er K te σ H j) (q : ∀ H1, Same H H1 → tz D (σ.set k (some (.int (f i j)))) H1) : tSeq (tAug k te (ipI f)) tz D σ H := s_aug (D := { D with nx := tz D }) hσ h q
end
end BL

set_option Elab.async false
set_option linter.all false
set_option maxRecDepth 100000
set_option maxHeartbeats 2000000
namespace BL
open PySem PySem.Spec PyProof.Rows L2
/-! ### what is walked -/
def Src (K : Fg) (wi : TI) (σ : L2.St) (H : Hp) {α : Type} [Rp α] (l : List α) : Prop := ∀ H1, Same H H1 → ∀ RR : It → Hp → Prop,
  (∀ (J : It) (H2 : Hp) (G : Hp → Prop) (Y : Nat → Hp → V → Hp → Prop), Same H1 H2 → Walk J l.length G Y → (∀ H', SF H2 H' → G H') →
    (∀ i x, l[i]? = some x → ∀ H', SF H2 H' → ∀ v H'', Y i H' v H'' → Same H' H'' ∧ Rp.rep K H'' v x) → RR J H2) → wi σ H1 RR
def enumL {α : Type} (l : List α) : List (Nat × α) := (List.range l.length).zip l
def rgI (lo : Int) (n : Nat) : List Int := (List.range n).map fun k : Nat => lo + (k : Int)
section
variable {K : Fg} {σ : L2.St} {H H' H1 : Hp} {ta tb tc td te : TE} {tt uu : TT} {α β γ δ : Type} [Rp α] [Rp β] [Rp γ] [Rp δ] {x : α} {y : β} {z : γ} {v u : V} {i j : Int} {b c : Bool}
theorem src_list {l : List α} (h : Er K te σ H l) : Src K (iList K te) σ H l := fun H1 e RR k => h H1 e _ fun v H2 e2 r => by
  obtain ⟨a, vs, rfl, f, p⟩ := r
  refine ⟨a, rfl, ⟨vs, f.seq⟩, k _ H2 (fun H => SqL K H a vs) (YAt vs) e2 (by rw [← paired_len p]; exact walk_list) (fun H' s => (f.sf s).seq) fun i x hx H' s v H'' y => ?_⟩
  obtain ⟨rfl, hv⟩ := y
  obtain ⟨w, hw, r⟩ := paired_get p hx
  rw [hv] at hw; cases hw
  exact ⟨Same.refl _, Rp.mono s r⟩
theorem src_tup {t : Tp α} (h : Er K te σ H t) : Src K (iTup K te) σ H t.l := fun H1 e RR k => h H1 e _ fun v H2 e2 r => by
  obtain ⟨a, vs, rfl, f, p⟩ := r
  refine ⟨a, rfl, ⟨vs, f⟩, k _ H2 (fun H => SqT K H a vs) (YAt vs) e2 (by rw [← paired_len p]; exact walk_tup) (fun H' s => sqt_sf s f) fun i x hx H' s v H'' y => ?_⟩
  obtain ⟨rfl, hv⟩ := y
  obtain ⟨w, hw, r⟩ := paired_get p hx
  rw [hv] at hw; cases hw
  exact ⟨Same.refl _, Rp.mono s r⟩
theorem src_two {p : α × α} (h : Er K te σ H p) : Src K (iTup K te) σ H [p.1, p.2] := src_tup (t := ⟨[p.1, p.2]⟩) fun H1 e Q q => h H1 e Q fun v H2 e2 r => q v H2 e2 (by
  obtain ⟨a, v1, v2, rfl, h2, h3, h4⟩ := r
  exact ⟨a, _, rfl, h2, .cons h3 (.cons h4 .nil)⟩)
theorem src_range1 {n : Nat} (h : Er K te σ H n) (hz : n ≤ 1000000) : Src K (iRng1 (tCons te tNil)) σ H (List.range n) := fun H1 e RR k => h H1 e _ fun v H2 e2 r => by
  cases (show v = .int (n : Int) from r)
  refine ⟨(n : Int), rfl, by omega, by omega, k _ H2 (fun _ => True) (YFn fun i => .int (0 + i)) e2 ?_ (fun _ _ => trivial) fun i x hx H' s v H'' y => ?_⟩
  · rw [List.length_range, Int.toNat_natCast]; exact walk_range
  · obtain ⟨rfl, rfl⟩ := y
    have hi : i < n := by
      have := (List.getElem?_eq_some_iff.mp hx).1
      rwa [List.length_range] at this
    rw [List.getElem?_range hi] at hx
    cases hx
    exact ⟨Same.refl _, by show V.int _ = V.int _; rw [Int.zero_add]⟩
theorem src_range2 {lo hi : Int} (h : Er K ta σ H lo) (h' : Er K tb σ H hi) (h1 : -1000000 ≤ lo ∧ lo ≤ 1000000) (h2 : -1000000 ≤ hi ∧ hi ≤ 1000000) : Src K (iRng2 (tCons ta (tCons tb tNil))) σ H (rgI lo (hi - lo).toNat) := fun H1 e RR k =>
  h H1 e _ fun v H2 e2 r2 => h' H2 (e.trans e2) _ fun u H3 e3 r3 => by
  cases (show v = .int lo from r2)
  cases (show u = .int hi from r3)
  refine ⟨lo, hi, rfl, ⟨by omega, by omega, by omega, by omega⟩, k _ H3 (fun _ => True) (YFn fun i => .int (lo + i)) (e2.trans e3) ?_ (fun _ _ => trivial) fun i x hx H' s v H'' y => ?_⟩
  · unfold rgI; rw [List.length_map, List.length_range]; exact walk_range
  · obtain ⟨rfl, rfl⟩ := y
    have hi : i < (hi - lo).toNat := by
      have := (List.getElem?_eq_some_iff.mp hx).1
      unfold rgI at this
      rwa [List.length_map, List.length_range] at this
    unfold rgI at hx
    rw [List.getElem?_map, List.getElem?_range hi] at hx
    cases hx
    exact ⟨Same.refl _, rfl⟩
theorem enumL_get {l : List α} {i : Nat} {p : Nat × α} (h : (enumL l)[i]? = some p) : l[i]? = some p.2 ∧ p.1 = i := by
  unfold enumL at h
  rw [List.getElem?_zip_eq_some] at h
  obtain ⟨h1, h2⟩ := h
  have hi : i < l.length := (List.getElem?_eq_some_iff.mp h2).1
  rw [List.getElem?_range hi] at h1
  exact ⟨h2, (Option.some.inj h1).symm⟩
theorem enumL_len (l : List α) : (enumL l).length = l.length := by unfold enumL; rw [List.length_zip, List.length_range, Nat.min_self]
theorem src_enum {l : List α} (h : Er K te σ H l) : Src K (iEnum K (tCons te tNil)) σ H (enumL l) := fun H1 e RR k => h H1 e _ fun v H2 e2 r => by
  obtain ⟨a, vs, rfl, f, p⟩ := r
  refine ⟨a, vs, rfl, f.seq, k _ H2 (fun H => SqL K H a vs) _ e2 (by rw [enumL_len, ← paired_len p]; exact walk_enum) (fun H' s => (f.sf s).seq) fun i x hx H' s v H'' y => ?_⟩
  obtain ⟨T, w1, w2, rfl, hT, rfl, h1, h2⟩ := y
  obtain ⟨g1, g2⟩ := enumL_get hx
  obtain ⟨w, hw, r⟩ := paired_get p g1
  have h2' : vs[i]? = some w2 := h2
  rw [h2'] at hw; cases hw
  refine ⟨same_new hT, T, w1, w2, rfl, sq_tup upd_same, ?_, Rp.mono (s.trans (SF.new hT)) r⟩
  cases h1
  show V.int _ = V.int _
  rw [g2]
theorem src_zip {l : List α} {m : List β} (h : Er K ta σ H l) (h' : Er K tb σ H m) : Src K (iZip K (tCons ta (tCons tb tNil))) σ H (l.zip m) := fun H1 e RR k => h H1 e _ fun v H2 e2 r2 => h' H2 (e.trans e2) _ fun u H3 e3 r3 => by
  obtain ⟨a, vs, rfl, f, p⟩ := r2
  obtain ⟨b, us, rfl, f', p'⟩ := r3
  have f3 := f.sf (SF.of e3)
  have p3 := p.mono (SF.of e3)
  refine ⟨a, b, vs, us, rfl, f3.seq, f'.seq, k _ H3 (fun H => SqL K H a vs ∧ SqL K H b us) _ (e2.trans e3) (walk_zip (by rw [List.length_zip, paired_len p, paired_len p'])) (fun H' s => ⟨(f3.sf s).seq, (f'.sf s).seq⟩) fun i x hx H' s v H'' y => ?_⟩
  obtain ⟨T, w1, w2, rfl, hT, rfl, h1, h2⟩ := y
  rw [List.getElem?_zip_eq_some] at hx
  obtain ⟨w, hw, r⟩ := paired_get p3 hx.1
  obtain ⟨w', hw', r'⟩ := paired_get p' hx.2
  have h1' : vs[i]? = some w1 := h1
  have h2' : us[i]? = some w2 := h2
  rw [h1'] at hw; cases hw
  rw [h2'] at hw'; cases hw'
  exact ⟨same_new hT, T, w1, w2, rfl, sq_tup upd_same, Rp.mono (s.trans (SF.new hT)) r, Rp.mono (s.trans (SF.new hT)) r'⟩
/-! ### for -/
variable {D : Ends} {tu tw tz : TS} {g : TG} {wi : TI}
theorem s_for {l : List α} (hs : Src K wi σ H l) (Pv : Hp → Nat → L2.St → Hp → Prop) (h0 : ∀ H1, Same H H1 → Pv H1 0 σ H1) (hf : ∀ H1 k σ' H', Pv H1 k σ' H' → SF H1 H')
    (turn : ∀ H1 k x σ' H' v H'', Same H H1 → l[k]? = some x → Pv H1 k σ' H' → Same H' H'' → Rp.rep K H'' v x → g v σ' H'' fun σ2 H2 => tu { D with nx := Pv H1 (k + 1), ct := Pv H1 (k + 1), bk := D.nx } σ2 H2)
    (hd : ∀ H1 σ' H', Same H H1 → Pv H1 l.length σ' H' → D.nx σ' H') : tFor wi g tu D σ H := hs H (Same.refl _) _ fun J H2 G Y e2 w hG hY =>
  for_it w (Pv H2) (h0 H2 e2) (fun k σ' H' _ p => hG H' (hf _ _ _ _ p)) (fun k v σ' H' H'' hk p y => by
    obtain ⟨x, hx⟩ : ∃ x, l[k]? = some x := ⟨l[k], List.getElem?_eq_getElem hk⟩
    obtain ⟨s, r⟩ := hY k x hx H' (hf _ _ _ _ p) v H'' y
    exact turn H2 k x σ' H' v H'' e2 hx p s r) fun σ' H' p => hd H2 σ' H' e2 p
theorem q_for {l : List α} (hs : Src K wi σ H l) (Pv : Hp → Nat → L2.St → Hp → Prop) (h0 : ∀ H1, Same H H1 → Pv H1 0 σ H1) (hf : ∀ H1 k σ' H', Pv H1 k σ' H' → SF H1 H')
    (turn : ∀ H1 k x σ' H' v H'', Same H H1 → l[k]? = some x → Pv H1 k σ' H' → Same H' H'' → Rp.rep K H'' v x → g v σ' H'' fun σ2 H2 => tu { D with nx := Pv H1 (k + 1), ct := Pv H1 (k + 1), bk := tz D } σ2 H2)
    (hd : ∀ H1 σ' H', Same H H1 → Pv H1 l.length σ' H' → tz D σ' H') : tSeq (tFor wi g tu) tz D σ H := s_for (D := { D with nx := tz D }) hs Pv h0 hf turn hd
theorem s_while (Pv : L2.St → Hp → Prop) (μ : L2.St → Hp → Nat) (h0 : Pv σ H)
    (hs : ∀ σ' H', Pv σ' H' → ∃ b, Et K tt σ' H' b ∧ (b = true → ∀ H1, Same H' H1 → tu { D with nx := fun σ2 H2 => Pv σ2 H2 ∧ μ σ2 H2 < μ σ' H', ct := fun σ2 H2 => Pv σ2 H2 ∧ μ σ2 H2 < μ σ' H', bk := D.nx } σ' H1) ∧ (b = false → ∀ H1, Same H' H1 → D.nx σ' H1)) : tWhile tt tu D σ H := by
  refine ⟨fun m σ H => m = μ σ H ∧ Pv σ H, ⟨_, rfl, h0⟩, ?_⟩
  rintro m σ' H' ⟨rfl, p⟩
  obtain ⟨b, hb, h1, h2⟩ := hs σ' H' p
  refine hb H' (Same.refl _) _ fun H2 e => ?_
  cases b with
  | true => exact ⟨_, fun σ2 H2 ⟨p', l⟩ => ⟨_, l, rfl, p'⟩, h1 rfl H2 e⟩
  | false => exact h2 rfl H2 e
theorem q_while (Pv : L2.St → Hp → Prop) (μ : L2.St → Hp → Nat) (h0 : Pv σ H)
    (hs : ∀ σ' H', Pv σ' H' → ∃ b, Et K tt σ' H' b ∧ (b = true → ∀ H1, Same H' H1 → tu { D with nx := fun σ2 H2 => Pv σ2 H2 ∧ μ σ2 H2 < μ σ' H', ct := fun σ2 H2 => Pv σ2 H2 ∧ μ σ2 H2 < μ σ' H', bk := tz D } σ' H1) ∧ (b = false → ∀ H1, Same H' H1 → tz D σ' H1)) : tSeq (tWhile tt tu) tz D σ H :=
  s_while (D := { D with nx := tz D }) Pv μ h0 hs
/-! ### comprehensions -/
def mapIf (c : α → Bool) (f : α → β) (l : List α) : List β := (l.filter c).map f
theorem erl_lc {l : List α} {vs : List Nat} {c : α → Bool} {f : α → β} (hs : Src K wi σ H l) (hz : l.length ≤ 1000000)
    (turn : ∀ x, x ∈ l → ∀ v H1, Same H H1 → Rp.rep K H1 v x → ∃ σ2, (∀ Q : L2.St → Hp → Prop, Q σ2 H1 → g v (wipe σ vs) H1 Q) ∧ wipe σ2 vs = wipe σ vs ∧ Et K tt σ2 H1 (c x) ∧ (c x = true → Er K te σ2 H1 (f x))) :
    ErL K (tLc wi g tt te vs) σ H (mapIf c f l) := fun H1 e Q q => hs H1 e _ fun J H2 G Y e2 w hG hY D hD => by
  refine lc_it w (fun k H' => Same H2 H' ∧ ∃ us, H' D = some (.lst us) ∧ RL K H' us (mapIf c f (l.take k))) ⟨same_new hD, [], upd_same, .nil⟩ (fun k H' _ p => hG H' (SF.of p.1)) (fun k v H' H'' hk p y => ?_) fun H' p => ?_
  · obtain ⟨p1, us, p2, p3⟩ := p
    have hx : l[k]? = some l[k] := List.getElem?_eq_getElem hk
    obtain ⟨s, r⟩ := hY k _ hx H' (SF.of p1) v H'' y
    obtain ⟨σ2, hg, hw, ht, he⟩ := turn l[k] (List.mem_of_getElem? hx) v H'' ((e.trans e2).trans (p1.trans s)) r
    refine hg _ ⟨hw, ht H'' (Same.refl _) _ fun H3 e3 => ?_⟩
    have htake : l.take (k + 1) = l.take k ++ [l[k]] := by rw [List.take_add_one, hx]; rfl
    cases hc : c l[k] with
    | true =>
      refine iteT (he hc H3 e3 _ fun w' H4 e4 r4 => ?_)
      have hm : mapIf c f (l.take (k + 1)) = mapIf c f (l.take k) ++ [f l[k]] := by
        unfold mapIf
        rw [htake, List.filter_append, List.map_append]; simp [hc]
      refine ⟨us, (s.trans (e3.trans e4)) _ _ p2, ?_, same_mut (p1.trans (s.trans (e3.trans e4))) hD, us ++ [w'], upd_same, ?_⟩
      · rw [paired_len p3]
        have : (mapIf c f (l.take k)).length ≤ l.length := by
          unfold mapIf
          rw [List.length_map]
          exact Nat.le_trans (List.length_filter_le _ _) (by rw [List.length_take]; exact Nat.min_le_right _ _)
        exact Nat.lt_of_le_of_lt (Nat.le_trans this hz) (by decide)
      · rw [hm]
        exact RL.mono (SF.lst ((s.trans (e3.trans e4)) _ _ p2)) (paired_app (p3.mono (SF.of (s.trans (e3.trans e4)))) (.cons r4 .nil))
    | false =>
      refine iteF ?_
      have hm : mapIf c f (l.take (k + 1)) = mapIf c f (l.take k) := by
        unfold mapIf
        rw [htake, List.filter_append, List.map_append]; simp [hc]
      exact ⟨p1.trans (s.trans e3), us, (s.trans e3) _ _ p2, by rw [hm]; exact p3.mono (SF.of (s.trans e3))⟩
  · obtain ⟨p1, us, p2, p3⟩ := p
    rw [List.take_length] at p3
    exact q D us H' (e2.trans p1) (e2.free hD) p2 p3
/-- for x in ..: one name -/
theorem erl_lc1 {l : List α} {vs : List Nat} {k : Nat} {c : α → Bool} {f : α → β} (hs : Src K wi σ H l) (hz : l.length ≤ 1000000) (hw : ∀ v : V, wipe ((wipe σ vs).set k (some v)) vs = wipe σ vs)
    (turn : ∀ x, x ∈ l → ∀ v H1, Same H H1 → Rp.rep K H1 v x → Et K tt ((wipe σ vs).set k (some v)) H1 (c x) ∧ (c x = true → Er K te ((wipe σ vs).set k (some v)) H1 (f x))) :
    ErL K (tLc wi (gName k) tt te vs) σ H (mapIf c f l) := erl_lc hs hz fun x hx v H1 e r => ⟨_, fun Q q => q, hw v, turn x hx v H1 e r⟩
/-- for x, y in .. -/
theorem erl_lc2 {l : List (α × β)} {vs : List Nat} {k m : Nat} {c : α × β → Bool} {f : α × β → γ} (hs : Src K wi σ H l) (hz : l.length ≤ 1000000) (hw : ∀ v u : V, wipe (((wipe σ vs).set k (some v)).set m (some u)) vs = wipe σ vs)
    (turn : ∀ x, x ∈ l → ∀ v u H1, Same H H1 → Rp.rep K H1 v x.1 → Rp.rep K H1 u x.2 → Et K tt (((wipe σ vs).set k (some v)).set m (some u)) H1 (c x) ∧ (c x = true → Er K te (((wipe σ vs).set k (some v)).set m (some u)) H1 (f x))) :
    ErL K (tLc wi (gTup K 2 (gCons (gName k) (gCons (gName m) gNil))) tt te vs) σ H (mapIf c f l) := erl_lc hs hz fun x hx v H1 e r => by
  obtain ⟨v1, v2, r1, r2, f⟩ := tg_pair (σ := wipe σ vs) (k := k) (m := m) r
  exact ⟨_, f, hw v1 v2, turn x hx v1 v2 H1 e r1 r2⟩
theorem mapIf_all {f : α → β} {l : List α} : mapIf (fun _ => true) f l = l.map f := by unfold mapIf; rw [List.filter_eq_self.mpr fun _ _ => rfl]
/-- no test -/
theorem erl_lm1 {l : List α} {vs : List Nat} {k : Nat} {f : α → β} (hs : Src K wi σ H l) (hz : l.length ≤ 1000000) (hw : ∀ v : V, wipe ((wipe σ vs).set k (some v)) vs = wipe σ vs)
    (turn : ∀ x, x ∈ l → ∀ v H1, Same H H1 → Rp.rep K H1 v x → Er K te ((wipe σ vs).set k (some v)) H1 (f x)) :
    ErL K (tLc wi (gName k) tYes te vs) σ H (l.map f) := (erl_lc1 (c := fun _ => true) hs hz hw fun x hx v H1 e r => ⟨et_yes, fun _ => turn x hx v H1 e r⟩).to mapIf_all
theorem erl_lm2 {l : List (α × β)} {vs : List Nat} {k m : Nat} {f : α × β → γ} (hs : Src K wi σ H l) (hz : l.length ≤ 1000000) (hw : ∀ v u : V, wipe (((wipe σ vs).set k (some v)).set m (some u)) vs = wipe σ vs)
    (turn : ∀ x, x ∈ l → ∀ v u H1, Same H H1 → Rp.rep K H1 v x.1 → Rp.rep K H1 u x.2 → Er K te (((wipe σ vs).set k (some v)).set m (some u)) H1 (f x)) :
    ErL K (tLc wi (gTup K 2 (gCons (gName k) (gCons (gName m) gNil))) tYes te vs) σ H (l.map f) := (erl_lc2 (c := fun _ => true) hs hz hw fun x hx v u H1 e r r' => ⟨et_yes, fun _ => turn x hx v u H1 e r r'⟩).to mapIf_all
end
/-! ### the rules that name the written part, the part given by name (a comprehension's block has the same) -/
section
variable {X : Cx} (K : Fg) (h : X.K = K)
include h
theorem k_ixl : IxR X (rIxL K) := by subst h; exact ix_list
theorem k_ixt : IxR X (rIxT K) := by subst h; exact ix_tup
theorem k_sum (hc : X.calm = true) : CallR X (.builtin "sum") (rSum K) := by subst h; exact cr_sum hc
theorem k_max (hc : X.calm = true) : CallR X (.builtin "max") (rMax K) := by subst h; exact cr_max hc
theorem k_min (hc : X.calm = true) : CallR X (.builtin "min") (rMin K) := by subst h; exact cr_min hc
theorem k_all (hc : X.calm = true) : CallR X (.builtin "all") (rAll K) := by subst h; exact cr_all hc
theorem k_any (hc : X.calm = true) : CallR X (.builtin "any") (rAny K) := by subst h; exact cr_any hc
theorem k_sorted : CallR X (.builtin "sorted") (rSortedI K) := by subst h; exact cr_sortedI
theorem k_len : CallR X (.builtin "len") (rLenC K) := by subst h; exact call_len_seq
theorem k_list : CallR X (.type "list") (rListC K) := by subst h; exact call_list_of
theorem k_isi : CallR X (.builtin "isinstance") (rIsi K) := by subst h; exact call_isi
theorem k_eqD (hu : X.A.units + 64 < cLine) : OpR X (compareOp .Eq) (rEqD K) := by subst h; exact op_eqD hu
theorem k_neD (hu : X.A.units + 64 < cLine) : OpR X (compareOp .NotEq) (rNeD K) := by subst h; exact op_neD hu
theorem k_in : OpR X (compareOp .In) (rIn K false) := by subst h; exact op_in_seq
theorem k_notIn : OpR X (compareOp .NotIn) (rIn K true) := by subst h; exact op_notIn_seq
theorem k_sl : SlR X (rSlL K) := by subst h; exact sl_list
theorem k_pl {tg l : Expr} {tl : TE} (hl : PE X l tl) : PI X tg l (iList K tl) := by subst h; exact pi_list hl
theorem k_pt {tg l : Expr} {tl : TE} (hl : PE X l tl) : PI X tg l (iTup K tl) := by subst h; exact pi_tup hl
theorem k_pe {e : Expr} {ta : TA} {p pos tpos : Pos} {elts : List Expr} {kk : Nat} (hg : Gl X "enumerate") (hm : X.mg "enumerate" = none) (ha : PA X [e] ta) (hs : starEach [e] X.env = [(false, eval e X.env)] := by rfl) :
    PI X (.Tuple elts kk tpos) (.Call (.Name "enumerate" p) [e] [] pos) (iEnum K ta) := by subst h; exact pi_enum hg hm ha hs
theorem k_pz {e e2 : Expr} {ta : TA} {p pos tpos : Pos} {elts : List Expr} {kk : Nat} (hg : Gl X "zip") (hm : X.mg "zip" = none) (ha : PA X [e, e2] ta)
    (hs : starEach [e, e2] X.env = (false, eval e X.env) :: starEach [e2] X.env := by rfl) (hpl : (backTo pos (starEach [e2] X.env)).any (·.1) = false := by rfl) :
    PI X (.Tuple elts kk tpos) (.Call (.Name "zip" p) [e, e2] [] pos) (iZip K ta) := by subst h; exact pi_zip hg hm ha hs hpl
theorem k_gt (n : Nat) {es : List Expr} {k : Nat} {t : TGs} {pos : Pos} (hc : X.calm = true) (hp : PGs X es t)
    (hn : (assignEach es X.env).length = n := by rfl) (hst : (assignEach es X.env).findIdx? (·.1) = none := by rfl) : PG X (.Tuple es k pos) (gTup K n t) := by subst h; exact pg_tup hc hp hn hst
theorem k_app {o e : Expr} {to te : TE} {apos cpos : Pos} (ho : PE X o to) (he : PE X e te)
    (hbase : attributeBase o "append" X.env (eval o X.env) = eval o X.env := by rfl)
    (hfew : ((backTo cpos (starEach [e] X.env)).all (fun x => !x.1) && (backToKw cpos (keywordEach [] X.env)).all (fun x => x.1.isSome)
      && decide ([e].length + ([] : List Keyword).length + (if ([] : List Keyword).isEmpty then 0 else 1) < 30)) = true := by rfl)
    (hline : (apos.endLine == cpos.line) = true := by rfl) (hs : starEach [e] X.env = (false, eval e X.env) :: starEach [] X.env := by rfl) (hplain : (backTo cpos (starEach [] X.env)).any (·.1) = false := by rfl) :
    PE X (.Call (.Attribute o "append" apos) [e] [] cpos) (tBM K "list" rAppend to (tCons te tNil)) := by
  subst h; exact pe_bm PySem.F.plainAttrs_list PySem.F.slot_list_append PySem.F.type_list_append mt_append ho (pa_cons he pa_nil hs) hbase hfew hline hs hplain
end
/-! ### a def by its name -/
def Ok (P : Program) (w : World) (K : Fg) (mg : Str → Option Value) (base : Heap) (CX : CXT) (k : Nat) (x : Str) (ps : List Str) (sp : Sp) : Prop :=
  ∃ f fd, mg x = some (.ref f) ∧ PySem.W.keepIn K (.ref f) = true ∧ Binds K fd ps [] ∧ FnOk P w K mg base CX k f fd ps sp
section
variable {X : Cx} {CX : CXT} {k : Nat} {x : Str} {ps : List Str} {sp : Sp} {E : XK} {t : TA} {e : Expr} {es : List Expr} {p pos : Pos}
theorem pe_fn (G : Ok X.prog X.w X.K X.mg X.base CX k x ps sp) (hr : Room k X.A) (hx : Passes CX X E) (ha : PA X (e :: es) t) (hg : Gl X x := by rfl) (hdb : (x == ("__debug__" : Str)) = false := by decide)
    (he : starEach (e :: es) X.env = (false, eval e X.env) :: starEach es X.env := by rfl) (hpl : (backTo pos (starEach es X.env)).any (·.1) = false := by rfl) : PE X (.Call (.Name x p) (e :: es) [] pos) (tCall sp [] E t) := by
  obtain ⟨f, fd, h1, h2, h3, h4⟩ := G
  exact pe_call h4 hr hg h1 h2 h3 .nil hx ha hdb he hpl
theorem pe_fn0 (G : Ok X.prog X.w X.K X.mg X.base CX k x ps sp) (hr : Room k X.A) (hx : Passes CX X E) (hg : Gl X x := by rfl) (hdb : (x == ("__debug__" : Str)) = false := by decide) : PE X (.Call (.Name x p) [] [] pos) (tCall sp [] E tNil) := by
  obtain ⟨f, fd, h1, h2, h3, h4⟩ := G
  exact pe_call0 h4 hr hg h1 h2 h3 .nil hx hdb
end
theorem Ok.mono {P : Program} {w : World} {K : Fg} {mg : Str → Option Value} {base : Heap} {CX : CXT} {j k : Nat} {x : Str} {ps : List Str} {sp : Sp} (F : Ok P w K mg base CX j x ps sp) (h : j ≤ k) : Ok P w K mg base CX k x ps sp := by
  obtain ⟨f, fd, h1, h2, h3, h4⟩ := F
  exact ⟨f, fd, h1, h2, h3, h4.mono h⟩
/-- a module's number -/
theorem pe_gint {X : Cx} {x : Str} {i : Int} {pos : Pos} (h : ∃ t, X.mg x = some (.int i t)) (hg : Gl X x := by rfl) (hd : (x == ("__debug__" : Str)) = false := by decide) : PE X (.Name x pos) (tC (.int i)) := by
  obtain ⟨t, h⟩ := h
  exact pe_glob hg h ⟨t, rfl⟩ hd
/-- a def of the text: what the head tells -/
def Fd (K : Fg) (mg : Str → Option Value) (x : Str) (st : Stmt) : Prop := ∃ f fd, FunD K x x (defArgs st) (defBody st) (defScope st) [] [] f fd ∧ mg x = some (.ref f)
section
variable {P : Program} {w : World} {K : Fg} {mg : Str → Option Value} {base : Heap}
theorem fnok_of {x : Str} {st : Stmt} {N ps : List Str} {k : Nat} {sp : Sp} {f : Addr} {fd : FuncData} (F : FunD K x x (defArgs st) (defBody st) (defScope st) [] [] f fd) (S : FnScope N ps (defScope st))
    (len : ∀ vs H Q E, sp vs H Q E → vs.length = ps.length)
    (hbody : ∀ (cdv : Value) (A : Around) (outer : List Env) (s : Shared) (H : Hp) (vs : List V) (Q : VK) (E : XK), Room k (A.deeper (envOfC x (defScope st) s.heap.objs.size f cdv)) → sp vs H Q E →
      ∃ t, PSs (cxOf CX0 P w K mg base N x (defScope st) f cdv A outer s H E).nox (defBody st) t ∧ t { nx := fun _ H' => Q .non H', rt := Q } (start N vs) H) : FnOk P w K mg base CX0 (k + 1) f fd ps sp :=
  F.ok S len fun cdv A outer s H vs Q E hr h => by
    obtain ⟨t, h1, h2⟩ := hbody cdv A outer s H vs Q E hr h
    exact ⟨t, PSs.nox h1, h2⟩
/-- a def keeps its promise: its body as a term of rules, and the reading of that term; nothing it raises leaves it -/
theorem ok_of {x : Str} {st : Stmt} {N ps : List Str} {k : Nat} {sp : Sp} (F : Fd K mg x st) (S : FnScope N ps (defScope st))
    (hb : ∀ (kV doc pm : Value) (an : Option Addr) (cdv ct : Value) (us : List Value), us.length = ps.length → bindArgs (PySem.W.fnOf x x (defArgs st) (defBody st) (defScope st) .none kV doc pm an cdv ct) ⟨us, []⟩ = pure (ps.zip us))
    (len : ∀ vs H Q E, sp vs H Q E → vs.length = ps.length)
    (hbody : ∀ (f : Addr) (cdv : Value) (A : Around) (outer : List Env) (s : Shared) (H : Hp) (vs : List V) (Q : VK) (E : XK), Room k (A.deeper (envOfC x (defScope st) s.heap.objs.size f cdv)) → sp vs H Q E →
      ∃ t, PSs (cxOf CX0 P w K mg base N x (defScope st) f cdv A outer s H E).nox (defBody st) t ∧ t { nx := fun _ H' => Q .non H', rt := Q } (start N vs) H) : Ok P w K mg base CX0 (k + 1) x ps sp := by
  obtain ⟨f, fd, F, g⟩ := F
  refine ⟨f, fd, g, F.kp, ?_, F.ok S len fun cdv A outer s H vs Q E hr h => ?_⟩
  · exact F.bindsN hb
  · obtain ⟨t, h1, h2⟩ := hbody f cdv A outer s H vs Q E hr h
    exact ⟨t, PSs.nox h1, h2⟩
end
section
variable {K : Fg} {α β γ δ : Type} [Rp α] [Rp β] [Rp γ] [Rp δ]
theorem len_sp1 {pre : α → Prop} {f : α → β} : ∀ vs H Q E, sp1 K pre f vs H Q E → vs.length = 1 := fun vs H Q E h => by obtain ⟨_, _, rfl, _⟩ := h; rfl
theorem len_sp2 {pre : α → β → Prop} {f : α → β → γ} : ∀ vs H Q E, sp2 K pre f vs H Q E → vs.length = 2 := fun vs H Q E h => by obtain ⟨_, _, _, _, rfl, _⟩ := h; rfl
theorem len_sp3 {pre : α → β → γ → Prop} {f : α → β → γ → δ} : ∀ vs H Q E, sp3 K pre f vs H Q E → vs.length = 3 := fun vs H Q E h => by obtain ⟨_, _, _, _, _, _, rfl, _⟩ := h; rfl
theorem len_sl1 {pre : α → Prop} {f : α → List β} : ∀ vs H Q E, sl1 K pre f vs H Q E → vs.length = 1 := fun vs H Q E h => by obtain ⟨_, _, rfl, _⟩ := h; rfl
theorem len_sl2 {pre : α → β → Prop} {f : α → β → List γ} : ∀ vs H Q E, sl2 K pre f vs H Q E → vs.length = 2 := fun vs H Q E h => by obtain ⟨_, _, _, _, rfl, _⟩ := h; rfl
theorem len_sl3 {pre : α → β → γ → Prop} {f : α → β → γ → List δ} : ∀ vs H Q E, sl3 K pre f vs H Q E → vs.length = 3 := fun vs H Q E h => by obtain ⟨_, _, _, _, _, _, rfl, _⟩ := h; rfl
end
theorem bi1 {x : Str} {a : Arguments} {b : List Stmt} {sc : Scope} {p : Str} (h : ∀ (kV doc pm : Value) (an : Option Addr) (cdv ct u : Value), bindArgs (PySem.W.fnOf x x a b sc .none kV doc pm an cdv ct) ⟨[u], []⟩ = pure [(p, u)]) :
    ∀ (kV doc pm : Value) (an : Option Addr) (cdv ct : Value) (us : List Value), us.length = [p].length → bindArgs (PySem.W.fnOf x x a b sc .none kV doc pm an cdv ct) ⟨us, []⟩ = pure ([p].zip us)
  | kV, doc, pm, an, cdv, ct, [u], _ => h kV doc pm an cdv ct u
theorem bi2 {x : Str} {a : Arguments} {b : List Stmt} {sc : Scope} {p q : Str} (h : ∀ (kV doc pm : Value) (an : Option Addr) (cdv ct u v : Value), bindArgs (PySem.W.fnOf x x a b sc .none kV doc pm an cdv ct) ⟨[u, v], []⟩ = pure [(p, u), (q, v)]) :
    ∀ (kV doc pm : Value) (an : Option Addr) (cdv ct : Value) (us : List Value), us.length = [p, q].length → bindArgs (PySem.W.fnOf x x a b sc .none kV doc pm an cdv ct) ⟨us, []⟩ = pure ([p, q].zip us)
  | kV, doc, pm, an, cdv, ct, [u, v], _ => h kV doc pm an cdv ct u v
theorem bi3 {x : Str} {a : Arguments} {b : List Stmt} {sc : Scope} {p q r : Str} (h : ∀ (kV doc pm : Value) (an : Option Addr) (cdv ct u v w : Value), bindArgs (PySem.W.fnOf x x a b sc .none kV doc pm an cdv ct) ⟨[u, v, w], []⟩ = pure [(p, u), (q, v), (r, w)]) :
    ∀ (kV doc pm : Value) (an : Option Addr) (cdv ct : Value) (us : List Value), us.length = [p, q, r].length → bindArgs (PySem.W.fnOf x x a b sc .none kV doc pm an cdv ct) ⟨us, []⟩ = pure ([p, q, r].zip us)
  | kV, doc, pm, an, cdv, ct, [u, v, w], _ => h kV doc pm an cdv ct u v w
end BL

set_option Elab.async false
set_option linter.all false
set_option maxRecDepth 100000
set_option maxHeartbeats 2000000
namespace BL
open PySem PySem.Spec PyProof.Rows L2
/-! ### draws: the list of numbers at pn and the count, in the list at pd; nothing else changes -/
def Dr (H : Hp) (pd pn : Addr) : Prop := ∃ (ns : List Int) (k : Int), H pd = some (.lst [.ref pn, .int k]) ∧ H pn = some (.lst (ns.map V.int)) ∧ 0 < ns.length ∧ ns.length ≤ 1000 ∧ 0 ≤ k ∧ pd ≠ pn
structure DM (pd pn : Addr) (H H' : Hp) : Prop where
  sf : SF H H'
  ne : ∀ q o, q ≠ pd → q ≠ pn → H q = some o → H' q = some o
section
variable {K : Fg} {σ : L2.St} {H H' H1 : Hp} {pd pn : Addr} {ta tb tc td te : TE} {tt uu : TT} {α β γ δ : Type} [Rp α] [Rp β] [Rp γ] [Rp δ] {x : α} {y : β} {z : γ} {v u : V} {i j : Int} {b c : Bool}
theorem Dr.mono (e : Same H H') (h : Dr H pd pn) : Dr H' pd pn := by
  obtain ⟨ns, k, h1, h2, h3⟩ := h; exact ⟨ns, k, e _ _ h1, e _ _ h2, h3⟩
theorem DM.of (e : Same H H') : DM pd pn H H' := ⟨SF.of e, fun q o _ _ h => e q o h⟩
theorem DM.refl (H : Hp) : DM pd pn H H := DM.of (Same.refl H)
theorem DM.trans {H2 : Hp} (a : DM pd pn H H1) (b : DM pd pn H1 H2) : DM pd pn H H2 := ⟨a.sf.trans b.sf, fun q o n m h => b.ne q o n m (a.ne q o n m h)⟩
theorem Dr.of_mu {p : Addr} (m : Mu p H H') (h1 : pd ≠ p) (h2 : pn ≠ p) (h : Dr H pd pn) : Dr H' pd pn := by
  obtain ⟨ns, k, g1, g2, g3⟩ := h; exact ⟨ns, k, m.ne _ _ h1 g1, m.ne _ _ h2 g2, g3⟩
theorem Dr.pd_ne {p : Addr} (h : Dr H pd pn) (n : H p = none) : pd ≠ p := by obtain ⟨_, _, g1, _⟩ := h; exact ne_of_none g1 n
theorem Dr.pn_ne {p : Addr} (h : Dr H pd pn) (n : H p = none) : pn ≠ p := by obtain ⟨_, _, _, g1, _⟩ := h; exact ne_of_none g1 n
theorem Un.dm {p : Addr} {l : List α} (m : DM pd pn H H') (h1 : p ≠ pd) (h2 : p ≠ pn) (h : Un K H p l) : Un K H' p l := by
  obtain ⟨vs, g, r⟩ := h; exact ⟨vs, m.ne _ _ h1 h2 g, r.mono m.sf⟩
theorem DM.free (m : DM pd pn H H') (dr : Dr H pd pn) {p : Addr} (h : H' p = none) (dr' : Dr H' pd pn) : H p = none := by
  have h1 : p ≠ pd := (dr'.pd_ne h).symm
  have h2 : p ≠ pn := (dr'.pn_ne h).symm
  cases e : H p with
  | none => rfl
  | some o => rw [m.ne p o h1 h2 e] at h; cases h
/-! an expression that may draw: P tells what it can be -/
def Ep (K : Fg) (pd pn : Addr) (te : TE) (σ : L2.St) (H : Hp) {α : Type} [Rp α] (P : α → Prop) : Prop := ∀ H1, DM pd pn H H1 → Dr H1 pd pn → ∀ Q : VK, (∀ v H2 x, DM pd pn H1 H2 → Dr H2 pd pn → P x → Rp.rep K H2 v x → Q v H2) → te σ H1 Q
def EpL (K : Fg) (pd pn : Addr) (te : TE) (σ : L2.St) (H : Hp) {α : Type} [Rp α] (P : List α → Prop) : Prop := ∀ H1, DM pd pn H H1 → Dr H1 pd pn → ∀ Q : VK, (∀ p vs H2 l, DM pd pn H1 H2 → Dr H2 pd pn → P l → H1 p = none → H2 p = some (.lst vs) → RL K H2 vs l → Q (.ref p) H2) → te σ H1 Q
theorem ep_of (h : ∀ H1, DM pd pn H H1 → Er K te σ H1 x) : Ep K pd pn te σ H (fun y => y = x) := fun H1 m dr Q q => h H1 m H1 (Same.refl _) Q fun v H2 e r => q v H2 x (DM.of e) (dr.mono e) rfl r
theorem epl_of {l : List α} (h : ∀ H1, DM pd pn H H1 → ErL K te σ H1 l) : EpL K pd pn te σ H (fun y => y = l) := fun H1 m dr Q q => h H1 m H1 (Same.refl _) Q fun p vs H2 e hp h2 r => q p vs H2 l (DM.of e) (dr.mono e) rfl hp h2 r
theorem dm_frz {p : Addr} {vs : List V} {od : Obj} (m : DM pd pn H H') (dr : Dr H pd pn) (h : H p = none) : DM pd pn H (upd H' p (.frz od (.lst vs))) := ⟨sf_mut m.sf h, fun q o n1 n2 e => by rw [upd_ne (ne_of_none e h)]; exact m.ne q o n1 n2 e⟩
theorem ep_frz {P : List α → Prop} (h : EpL K pd pn te σ H P) : Ep K pd pn (tFrz te) σ H P := fun H1 m dr Q q => h H1 m dr _ fun p vs H2 l m2 dr2 hP hp h2 r => ⟨p, vs, rfl, h2, fun od => by
  have n1 := dr.pd_ne hp
  have n2 := dr.pn_ne hp
  refine q (.ref p) _ l (dm_frz m2 dr hp) ?_ hP ⟨p, vs, rfl, ⟨od, upd_same⟩, RL.mono (SF.lst h2) r⟩
  obtain ⟨ns, k, g1, g2, g3⟩ := dr2
  exact ⟨ns, k, upd_get g1 n1, upd_get g2 n2, g3⟩⟩
theorem ep_op {r : R2} {P : α → Prop} {P2 : α → β → Prop} {f : α → β → γ} (ha : Ep K pd pn ta σ H P) (hb : ∀ x, P x → Ep K pd pn tb σ H (P2 x)) (hr : ∀ x y, P x → P2 x y → R2r K r x y (f x y)) : Ep K pd pn (tOp r ta tb) σ H (fun z => ∃ x y, P x ∧ P2 x y ∧ z = f x y) := fun H1 m dr Q q =>
  ha H1 m dr _ fun v H2 x m2 dr2 hx r2 => hb x hx H2 (m.trans m2) dr2 _ fun u H3 y m3 dr3 hy r3 => hr x y hx hy H3 v u (Rp.mono m3.sf r2) r3 Q fun w H4 e4 r4 => q w H4 _ ((m2.trans m3).trans (DM.of e4)) (dr3.mono e4) ⟨x, y, hx, hy, rfl⟩ r4
theorem ep_pair {P : α → Prop} {P2 : α → β → Prop} (ha : Ep K pd pn ta σ H P) (hb : ∀ x, P x → Ep K pd pn tb σ H (P2 x)) : Ep K pd pn (tTup (tCons ta (tCons tb tNil))) σ H (fun z : α × β => P z.1 ∧ P2 z.1 z.2) := fun H1 m dr Q q =>
  ha H1 m dr _ fun v H2 x m2 dr2 hx r2 => hb x hx H2 (m.trans m2) dr2 _ fun u H3 y m3 dr3 hy r3 => ⟨by show 2 ≤ sizeLine; decide, fun p hp =>
    q (.ref p) _ (x, y) ((m2.trans m3).trans (DM.of (same_new hp))) (dr3.mono (same_new hp)) ⟨hx, hy⟩ ⟨p, v, u, rfl, sq_tup upd_same, Rp.mono (m3.sf.trans (SF.new hp)) r2, Rp.mono (SF.new hp) r3⟩⟩
theorem Ep.imp {P P' : α → Prop} (h : Ep K pd pn te σ H P) (hi : ∀ x, P x → P' x) : Ep K pd pn te σ H P' := fun H1 m dr Q q => h H1 m dr Q fun v H2 x m2 dr2 hx r => q v H2 x m2 dr2 (hi x hx) r
variable {D : Ends} {tu tw tz : TS} {g : TG}
theorem q_setP {k : Nat} {P : α → Prop} (dr : Dr H pd pn) (h : Ep K pd pn te σ H P) (q : ∀ v H1 x, DM pd pn H H1 → Dr H1 pd pn → P x → Rp.rep K H1 v x → tz D (σ.set k (some v)) H1) : tSeq (tAsg te (gName k)) tz D σ H := h H (DM.refl _) dr _ fun v H1 x m d p r => q v H1 x m d p r
theorem q_parP {k n : Nat} {P : α → Prop} {P2 : α → β → Prop} (dr : Dr H pd pn) (h : Ep K pd pn ta σ H P) (h' : ∀ x, P x → Ep K pd pn tb σ H (P2 x)) (q : ∀ v u H1 x y, DM pd pn H H1 → Dr H1 pd pn → P x → P2 x y → Rp.rep K H1 v x → Rp.rep K H1 u y → tz D ((σ.set k (some v)).set n (some u)) H1) :
    tSeq (tPar k n (tCons ta (tCons tb tNil))) tz D σ H := h H (DM.refl _) dr _ fun v H1 x m d p r => h' x p H1 m d _ fun u H2 y m2 d2 p2 r2 => ⟨v, u, rfl, q v u H2 x y (m.trans m2) d2 p p2 (Rp.mono m2.sf r) r2⟩
theorem s_retP {P : α → Prop} (dr : Dr H pd pn) (h : Ep K pd pn te σ H P) (q : ∀ v H1 x, DM pd pn H H1 → Dr H1 pd pn → P x → Rp.rep K H1 v x → D.rt v H1) : tRet te D σ H := h H (DM.refl _) dr _ fun v H1 x m d p r => q v H1 x m d p r
/-! the promises of the draws' defs -/
def spDraw : Sp := fun vs H Q _ => ∃ (pd pn : Addr) (lim : Int), vs = [.ref pd, .int lim] ∧ Dr H pd pn ∧ 0 < lim ∧ lim < 1000000 ∧ ∀ (d : Int) H', 0 ≤ d → d < lim → DM pd pn H H' → Dr H' pd pn → Q (.int d) H'
def spStart (K : Fg) : Sp := fun vs H Q _ => ∃ (a : Addr) (ns : List Int), vs = [.ref a] ∧ SqL K H a (ns.map V.int) ∧ ns.length ≤ 63 ∧ ∀ (pd pn : Addr) H', Same H H' → H pd = none → H pn = none → Dr H' pd pn → Q (.ref pd) H'
def spPick (K : Fg) {α : Type} [Rp α] : Sp := fun vs H Q _ => ∃ (pd pn : Addr) (v : V) (l : List α), vs = [.ref pd, v] ∧ Dr H pd pn ∧ Rp.rep K H v l ∧ 0 < l.length ∧ l.length < 1000000 ∧ ∀ (x : α) u H', x ∈ l → DM pd pn H H' → Dr H' pd pn → Rp.rep K H' u x → Q u H'
/-- a def that draws a list: P of its number tells what comes -/
def spDraws (K : Fg) {α : Type} [Rp α] (pre : Int → Prop) (P : Int → List α → Prop) : Sp := fun vs H Q _ => ∃ (pd pn : Addr) (n : Int), vs = [.ref pd, .int n] ∧ Dr H pd pn ∧ pre n ∧ ∀ p us l H', P n l → DM pd pn H H' → Dr H' pd pn → H p = none → H' p = some (.lst us) → RL K H' us l → Q (.ref p) H'
theorem ep_draw {E : XK} (h : ∀ H1, DM pd pn H H1 → Er K tb σ H1 i) (hσ : ∃ k : Nat, ta = tVar k ∧ σ[k]? = some (some (.ref pd))) (h0 : 0 < i) (h1 : i < 1000000) : Ep K pd pn (tCall spDraw [] E (tCons ta (tCons tb tNil))) σ H (fun d : Int => 0 ≤ d ∧ d < i) := fun H1 m dr Q q => by
  obtain ⟨k, rfl, hk⟩ := hσ
  refine ⟨.ref pd, hk, h H1 m H1 (Same.refl _) _ fun u H2 e r => ?_⟩
  cases (show u = .int i from r)
  exact ⟨pd, pn, i, rfl, dr.mono e, h0, h1, fun d H3 a b m3 d3 => q (.int d) H3 d ((DM.of e).trans m3) d3 ⟨a, b⟩ rfl⟩
theorem ep_pick {E : XK} {l : List α} (h : ∀ H1, DM pd pn H H1 → Er K tb σ H1 l) (hσ : ∃ k : Nat, ta = tVar k ∧ σ[k]? = some (some (.ref pd))) (h0 : 0 < l.length) (h1 : l.length < 1000000) : Ep K pd pn (tCall (spPick K (α := α)) [] E (tCons ta (tCons tb tNil))) σ H (fun x => x ∈ l) := fun H1 m dr Q q => by
  obtain ⟨k, rfl, hk⟩ := hσ
  refine ⟨.ref pd, hk, h H1 m H1 (Same.refl _) _ fun u H2 e r => ?_⟩
  exact ⟨pd, pn, u, l, rfl, dr.mono e, r, h0, h1, fun x w H3 a m3 d3 r3 => q w H3 x ((DM.of e).trans m3) d3 a r3⟩
/-- .. the list's items drawn too -/
theorem ep_pickP {E : XK} {P : List α → Prop} (h : Ep K pd pn tb σ H P) (hσ : ∃ k : Nat, ta = tVar k ∧ σ[k]? = some (some (.ref pd))) (h0 : ∀ l, P l → 0 < l.length ∧ l.length < 1000000) : Ep K pd pn (tCall (spPick K (α := α)) [] E (tCons ta (tCons tb tNil))) σ H (fun x => ∃ l, P l ∧ x ∈ l) := fun H1 m dr Q q => by
  obtain ⟨k, rfl, hk⟩ := hσ
  refine ⟨.ref pd, hk, h H1 m dr _ fun u H2 l m2 d2 hl r => ?_⟩
  exact ⟨pd, pn, u, l, rfl, d2, r, (h0 l hl).1, (h0 l hl).2, fun x w H3 a m3 d3 r3 => q w H3 x (m2.trans m3) d3 ⟨l, hl, a⟩ r3⟩
theorem epl_draws {E : XK} {pre : Int → Prop} {P : Int → List α → Prop} (h : ∀ H1, DM pd pn H H1 → Er K tb σ H1 i) (hσ : ∃ k : Nat, ta = tVar k ∧ σ[k]? = some (some (.ref pd))) (hp : pre i) : EpL K pd pn (tCall (spDraws K pre P) [] E (tCons ta (tCons tb tNil))) σ H (P i) := fun H1 m dr Q q => by
  obtain ⟨k, rfl, hk⟩ := hσ
  refine ⟨.ref pd, hk, h H1 m H1 (Same.refl _) _ fun u H2 e r => ?_⟩
  cases (show u = .int i from r)
  exact ⟨pd, pn, i, rfl, dr.mono e, hp, fun p us l H3 hl m3 d3 hn h3 r3 => q p us H3 l ((DM.of e).trans m3) d3 hl (e.free hn) h3 r3⟩
theorem s_appP {k : Nat} {p : Addr} {l : List α} {P : α → Prop} (dr : Dr H pd pn) (hσ : σ[k]? = some (some (.ref p))) (hu : Un K H p l) (n1 : p ≠ pd) (n2 : p ≠ pn) (h : Ep K pd pn te σ H P) (hz : l.length < 1000000)
    (q : ∀ H2 x, (∀ H0, DM pd pn H0 H → H0 p = none → DM pd pn H0 H2) → Dr H2 pd pn → P x → Un K H2 p (l ++ [x]) → D.nx σ H2) : tDrop (tBM K "list" rAppend (tVar k) (tCons te tNil)) D σ H := by
  obtain ⟨vs, hp, r⟩ := hu
  refine ⟨.ref p, hσ, Or.inl ⟨rfl, vs, sq_lst hp⟩, ?_⟩
  refine h H (DM.refl _) dr _ fun v H2 x m2 d2 hx r2 => ⟨p, vs, v, rfl, rfl, m2.ne _ _ n1 n2 hp, ?_, q _ x (fun H0 m0 h0 => ?_) ?_ hx ⟨_, upd_same, RL.mono (SF.lst (m2.ne _ _ n1 n2 hp)) (paired_app (r.mono m2.sf) (.cons r2 .nil))⟩⟩
  · rw [paired_len r]; exact Nat.lt_of_lt_of_le hz (by decide)
  · exact ⟨sf_mut (m0.sf.trans m2.sf) h0, fun q o a b e => by rw [upd_ne (ne_of_none e h0)]; exact (m0.trans m2).ne q o a b e⟩
  · obtain ⟨ns, k, g1, g2, g3⟩ := d2
    exact ⟨ns, k, upd_get g1 n1.symm, upd_get g2 n2.symm, g3⟩
theorem q_appP {k : Nat} {p : Addr} {l : List α} {P : α → Prop} (dr : Dr H pd pn) (hσ : σ[k]? = some (some (.ref p))) (hu : Un K H p l) (n1 : p ≠ pd) (n2 : p ≠ pn) (h : Ep K pd pn te σ H P) (hz : l.length < 1000000)
    (q : ∀ H2 x, (∀ H0, DM pd pn H0 H → H0 p = none → DM pd pn H0 H2) → Dr H2 pd pn → P x → Un K H2 p (l ++ [x]) → tz D σ H2) : tSeq (tDrop (tBM K "list" rAppend (tVar k) (tCons te tNil))) tz D σ H := s_appP (D := { D with nx := tz D }) dr hσ hu n1 n2 h hz q
/-- for k in range(e), e drawn -/
theorem s_forR {k : Nat} {P : Int → Prop} (dr : Dr H pd pn) (h : Ep K pd pn te σ H P) (hz : ∀ x, P x → -1000000 ≤ x ∧ x ≤ 1000000) (Pv : Int → Nat → L2.St → Hp → Prop) (h0 : ∀ x H1, DM pd pn H H1 → Dr H1 pd pn → P x → Pv x 0 σ H1)
    (turn : ∀ (x : Int) (i : Nat) σ' H', P x → (i : Int) < x → Pv x i σ' H' → tu { D with nx := Pv x (i + 1), ct := Pv x (i + 1), bk := D.nx } (σ'.set k (some (.int (i : Int)))) H') (hd : ∀ x σ' H', P x → Pv x x.toNat σ' H' → D.nx σ' H') : tFor (iRng1 (tCons te tNil)) (gName k) tu D σ H :=
  h H (DM.refl _) dr _ fun v H1 x m d hx r => by
    cases (show v = .int x from r)
    refine ⟨x, rfl, by have := hz x hx; omega, by have := hz x hx; omega, for_range (lo := 0) (n := x.toNat) (Pv x) (h0 x H1 m d hx) (fun i σ' H' hi p => ?_) fun σ' H' p => hd x σ' H' hx p⟩
    have e : (0 : Int) + (i : Int) = (i : Int) := Int.zero_add _
    show tu { D with nx := Pv x (i + 1), ct := Pv x (i + 1), bk := D.nx } (σ'.set k (some (.int ((0 : Int) + (i : Int))))) H'
    rw [e]
    exact turn x i σ' H' hx (by omega) p
theorem q_forR {k : Nat} {P : Int → Prop} (dr : Dr H pd pn) (h : Ep K pd pn te σ H P) (hz : ∀ x, P x → -1000000 ≤ x ∧ x ≤ 1000000) (Pv : Int → Nat → L2.St → Hp → Prop) (h0 : ∀ x H1, DM pd pn H H1 → Dr H1 pd pn → P x → Pv x 0 σ H1)
    (turn : ∀ (x : Int) (i : Nat) σ' H', P x → (i : Int) < x → Pv x i σ' H' → tu { D with nx := Pv x (i + 1), ct := Pv x (i + 1), bk := tz D } (σ'.set k (some (.int (i : Int)))) H') (hd : ∀ x σ' H', P x → Pv x x.toNat σ' H' → tz D σ' H') : tSeq (tFor (iRng1 (tCons te tNil)) (gName k) tu) tz D σ H :=
  s_forR (D := { D with nx := tz D }) dr h hz Pv h0 turn hd
theorem epl_lst2 {P : α → Prop} {P2 : α → α → Prop} (ha : Ep K pd pn ta σ H P) (hb : ∀ x, P x → Ep K pd pn tb σ H (P2 x)) : EpL K pd pn (tLst (tCons ta (tCons tb tNil))) σ H (fun l => ∃ x y, P x ∧ P2 x y ∧ l = [x, y]) := fun H1 m dr Q q =>
  ha H1 m dr _ fun v H2 x m2 dr2 hx r2 => hb x hx H2 (m.trans m2) dr2 _ fun u H3 y m3 dr3 hy r3 => ⟨by show 2 ≤ sizeLine; decide, fun p hp =>
    q p _ _ [x, y] ((m2.trans m3).trans (DM.of (same_new hp))) (dr3.mono (same_new hp)) ⟨x, y, hx, hy, rfl⟩ ((m2.trans m3).free dr hp dr3) upd_same (.cons (Rp.mono (m3.sf.trans (SF.new hp)) r2) (.cons (Rp.mono (SF.new hp) r3) .nil))⟩
/-- the law's own promise -/
def spLaw (K : Fg) : Sp := fun vs H Q _ => ∃ (a : Addr) (ns : List Int), vs = [.ref a] ∧ SqL K H a (ns.map V.int) ∧ ns.length ≤ 63 ∧ ∀ H', Q (.bl true) H'
theorem len_law : ∀ vs H Q E, spLaw K vs H Q E → vs.length = 1 := fun vs H Q E h => by obtain ⟨_, _, rfl, _⟩ := h; rfl
/-- _law_draws = _law_start(_law_script) -/
theorem q_start {k m : Nat} {E : XK} {a : Addr} {ns : List Int} (hσ : σ[m]? = some (some (.ref a))) (hs : SqL K H a (ns.map V.int)) (hz : ns.length ≤ 63) (q : ∀ pd pn H1, Same H H1 → Dr H1 pd pn → tz D (σ.set k (some (.ref pd))) H1) :
    tSeq (tAsg (tCall (spStart K) [] E (tCons (tVar m) tNil)) (gName k)) tz D σ H := ⟨.ref a, hσ, a, ns, rfl, hs, hz, fun pd pn H1 e _ _ d => q pd pn H1 e d⟩
theorem s_true {D : Ends} (h : Er K te σ H b) (hb : b = true) (hQ : ∀ H', D.rt (.bl true) H') : tRet te D σ H := h H (Same.refl _) _ fun v H1 e r => by
  cases (show v = .bl b from r); rw [hb]; exact hQ H1
theorem sub_dr {k : Nat} (h : σ[k]? = some (some (.ref pd))) : ∃ m : Nat, tVar k = tVar m ∧ σ[m]? = some (some (.ref pd)) := ⟨k, rfl, h⟩
end
end BL

set_option Elab.async false
set_option linter.all false
set_option maxRecDepth 100000
set_option maxHeartbeats 2000000
namespace BL
open PySem PySem.Spec PyProof.Rows L2
/-! ### a <= b <= c <= d -/
def tTest3 (r r' r'' : R2) (ta tb tc td : TE) : TT := fun σ H Q => ta σ H fun x H1 => tb σ H1 fun y H2 => r x y H2 fun z H3 => ∃ k, z = .bl k ∧
  (if k = true then tc σ H3 fun x' H4 => r' y x' H4 fun z' H5 => ∃ k', z' = .bl k' ∧ (if k' = true then td σ H5 fun w' H6 => r'' x' w' H6 fun z2 H7 => ∃ k2, z2 = .bl k2 ∧ Q k2 H7 else Q false H5) else Q false H3)
theorem pt_chain3 {X : Cx} {a b c d : Expr} {ta tb tc td : TE} {pos : Pos} {op op' op'' : CmpOp} {r r' r'' : R2} (ho : OpR X (compareOp op) r) (ho' : OpR X (compareOp op') r') (ho'' : OpR X (compareOp op'') r'') (ha : PE X a ta) (hb : PE X b tb) (hc : PE X c tc) (hd : PE X d td)
    (hm : lastMarks [op, op', op''] [b, c, d] = false := by with_unfolding_all rfl) : PT X (.Compare a [op, op', op''] [b, c, d] pos) (tTest3 r r' r'' ta tb tc td) := by
  refine ⟨fun pins s σ H Q I h => ?_⟩
  refine isTrue_chain (thn (ha.run pins s σ H _ I h) fun v s1 ⟨x, H1, I1, r1, q1⟩ => test_link (thn (hb.run pins s1 σ H1 _ I1 q1) fun u s2 ⟨y, H2, I2, r2, q2⟩ =>
    thn (ho pins s2 σ H2 x y v u _ I2 r1 r2 q2) fun d s3 ⟨z, H3, I3, r3, k, e, q3⟩ => ?_)) hm
  subst e
  cases r3
  refine wpAny_truthy_bool ?_
  cases k with
  | false => exact ite_ff ⟨H3, I3, q3⟩
  | true =>
    refine ite_tt (test_link (thn (hc.run pins s3 σ H3 _ I3 q3) fun w' s4 ⟨z', H4, I4, r4, q4⟩ => thn (ho' pins s4 σ H4 y z' u w' _ I4 r2 r4 q4) fun d' s5 ⟨z2, H5, I5, r5, k2, e2, q5⟩ => ?_))
    subst e2
    cases r5
    refine wpAny_truthy_bool ?_
    cases k2 with
    | false => exact ite_ff ⟨H5, I5, q5⟩
    | true =>
      refine ite_tt (test_last (thn (hd.run pins s5 σ H5 _ I5 q5) fun w2 s6 ⟨z3, H6, I6, r6, q6⟩ => thn (ho'' pins s6 σ H6 z' z3 w' w2 _ I6 r4 r6 q6) fun d2 s7 ⟨z4, H7, I7, r7, k3, e3, q7⟩ => ?_))
      subst e3
      cases r7
      exact wpAny_truthy_bool ⟨H7, I7, q7⟩
section
variable {K : Fg} {σ : L2.St} {H H' H1 : Hp} {ta tb tc td te : TE} {tt uu : TT} {α β γ δ : Type} [Rp α] [Rp β] [Rp γ] [Rp δ] {x : α} {y : β} {z : γ} {z2 : δ} {v u : V} {i j : Int} {b c : Bool} {r r' r'' : R2}
theorem et_chain3 {b b' b'' : Bool} (ha : Er K ta σ H x) (hb : Er K tb σ H y) (hc : Er K tc σ H z) (hd : Er K td σ H z2) (h1 : R2r K r x y b) (h2 : R2r K r' y z b') (h3 : R2r K r'' z z2 b'') : Et K (tTest3 r r' r'' ta tb tc td) σ H (b && (b' && b'')) := fun H1 e Q q =>
  ha H1 e _ fun v H2 e2 r2 => hb H2 (e.trans e2) _ fun u H3 e3 r3 => h1 H3 v u (Rp.mono (SF.of e3) r2) r3 _ fun w H4 e4 r4 => ⟨b, r4, by
    have c4 := ((e.trans e2).trans e3).trans e4
    cases b with
    | false => exact iteF (q H4 ((e2.trans e3).trans e4))
    | true =>
      refine iteT (hc H4 c4 _ fun w' H5 e5 r5 => h2 H5 u w' (Rp.mono (SF.of (e4.trans e5)) r3) r5 _ fun w2 H6 e6 r6 => ⟨b', r6, ?_⟩)
      cases b' with
      | false => exact iteF (q H6 (((e2.trans e3).trans e4).trans (e5.trans e6)))
      | true =>
        refine iteT (hd H6 (c4.trans (e5.trans e6)) _ fun w3 H7 e7 r7 => h3 H7 w' w3 (Rp.mono (SF.of (e6.trans e7)) r5) r7 _ fun w4 H8 e8 r8 => ⟨b'', r8, ?_⟩)
        exact q H8 ((((e2.trans e3).trans e4).trans (e5.trans e6)).trans (e7.trans e8))⟩
/-! ### in -/
theorem flat_bls (l : List Bool) : (l.map V.bl).all flatV = true := by rw [List.all_map, List.all_eq_true]; intro x _; rfl
theorem flat_ints (l : List Int) : (l.map V.int).all flatV = true := by rw [List.all_map, List.all_eq_true]; intro x _; rfl
theorem flat_strs' (l : List Str) : (l.map V.str).all flatV = true := by rw [List.all_map, List.all_eq_true]; intro x _; rfl
theorem inV_bl (b : Bool) (l : List Bool) : inV (.bl b) (l.map V.bl) = decide (b ∈ l) := by
  unfold inV
  rw [List.any_map]
  induction l with
  | nil => rfl
  | cons x r ih =>
    rw [List.any_cons, ih]
    show ((x == b) || _) = _
    by_cases e : b = x
    · subst e; simp
    · simp [e]; intro h; exact absurd h.symm e
theorem inV_int (b : Int) (l : List Int) : inV (.int b) (l.map V.int) = decide (b ∈ l) := by
  unfold inV
  rw [List.any_map]
  induction l with
  | nil => rfl
  | cons x r ih =>
    rw [List.any_cons, ih]
    show ((x == b) || _) = _
    by_cases e : b = x
    · subst e; simp
    · simp [e]; intro h; exact absurd h.symm e
theorem inV_str (b : Str) (l : List Str) : inV (.str b) (l.map V.str) = decide (b ∈ l) := by
  unfold inV
  rw [List.any_map]
  induction l with
  | nil => rfl
  | cons x r ih =>
    rw [List.any_cons, ih]
    show ((x == b) || _) = _
    by_cases e : b = x
    · subst e; simp
    · simp [e]; intro h; exact absurd h.symm e
def neg (n b : Bool) : Bool := if n then !b else b
theorem rr_inB {n : Bool} {l : List Bool} : R2r K (rIn K n) b l (neg n (decide (b ∈ l))) := fun H v u e1 e2 Q q => by
  obtain ⟨a, vs, rfl, h2, h3⟩ := e2
  cases (show v = .bl b from e1)
  rw [rl_bools h3] at h2
  exact ⟨a, _, rfl, .inl h2.seq, rfl, flat_bls l, by rw [inV_bl]; exact q _ H (Same.refl _) (by cases n <;> rfl)⟩
theorem rr_inI {n : Bool} {l : List Int} : R2r K (rIn K n) i l (neg n (decide (i ∈ l))) := fun H v u e1 e2 Q q => by
  obtain ⟨a, vs, rfl, h2, h3⟩ := e2
  cases (show v = .int i from e1)
  rw [rl_ints h3] at h2
  exact ⟨a, _, rfl, .inl h2.seq, rfl, flat_ints l, by rw [inV_int]; exact q _ H (Same.refl _) (by cases n <;> rfl)⟩
theorem rr_inS {n : Bool} {s : Str} {l : List Str} : R2r K (rIn K n) s l (neg n (decide (s ∈ l))) := fun H v u e1 e2 Q q => by
  obtain ⟨a, vs, rfl, h2, h3⟩ := e2
  cases (show v = .str s from e1)
  rw [rl_strs h3] at h2
  exact ⟨a, _, rfl, .inl h2.seq, rfl, flat_strs' l, by rw [inV_str]; exact q _ H (Same.refl _) (by cases n <;> rfl)⟩
theorem rr_inST {n : Bool} {s : Str} {t : Tp Str} : R2r K (rIn K n) s t (neg n (decide (s ∈ t.l))) := fun H v u e1 e2 Q q => by
  obtain ⟨a, vs, rfl, h2, h3⟩ := e2
  cases (show v = .str s from e1)
  rw [rl_strs h3] at h2
  exact ⟨a, _, rfl, .inr h2, rfl, flat_strs' t.l, by rw [inV_str]; exact q _ H (Same.refl _) (by cases n <;> rfl)⟩
theorem any_eqv [Rq α] [DecidableEq α] (x : α) (l : List α) : ((l.map Rq.toD).any fun w => PyData.eqv w (Rq.toD x)) = decide (x ∈ l) := by
  rw [List.any_map]
  induction l with
  | nil => rfl
  | cons y r ih =>
    rw [List.any_cons, ih]
    show (PyData.eqv (Rq.toD y) (Rq.toD x) || _) = _
    rw [eqv_dec]
    by_cases e : x = y
    · subst e; simp
    · simp [e]; intro h; exact absurd h.symm e
theorem rr_inD [Rq α] [Rt α] [DecidableEq α] {l : List α} (hd : Rq.dep α + 1 ≤ 64 := by decide) : R2r K (rInD K) x l (decide (x ∈ l)) := fun H v u e1 e2 Q q => by
  have h2 : Dp K H u (.list (l.map Rq.toD)) := Rq.dp e2
  exact ⟨_, _, Rq.dp e1, h2, shaped_of (Rt.all x) (by omega), shaped_of (α := List α) (Rt.all l) hd, by rw [any_eqv]; exact q _ H (Same.refl _) rfl⟩
theorem rr_ninD [Rq α] [Rt α] [DecidableEq α] {l : List α} (hd : Rq.dep α + 1 ≤ 64 := by decide) : R2r K (rNotInD K) x l (!decide (x ∈ l)) := fun H v u e1 e2 Q q => by
  have h2 : Dp K H u (.list (l.map Rq.toD)) := Rq.dp e2
  exact ⟨_, _, Rq.dp e1, h2, shaped_of (Rt.all x) (by omega), shaped_of (α := List α) (Rt.all l) hd, by rw [any_eqv]; exact q _ H (Same.refl _) rfl⟩
/-- a constant tuple of the module -/
theorem er_kt {t : Tp α} {a : Addr} (h : ∀ H, Rp.rep K H (.ref a) t) : Er K (tC (.ref a)) σ H t := er_c h
/-! ### the if's answer is known -/
theorem er_ifT (h : Et K tt σ H true) (ha : Er K ta σ H x) : Er K (tIf tt ta tb) σ H x := fun H1 e Q q => h H1 e _ fun H2 e2 => iteT (ha H2 (e.trans e2) Q fun v H3 e3 r => q v H3 (e2.trans e3) r)
theorem er_ifF (h : Et K tt σ H false) (hb : Er K tb σ H x) : Er K (tIf tt ta tb) σ H x := fun H1 e Q q => h H1 e _ fun H2 e2 => iteF (hb H2 (e.trans e2) Q fun v H3 e3 r => q v H3 (e2.trans e3) r)
/-! ### a list not locked, handed through a check -/
def spThru (K : Fg) (pre : List α → Prop) : Sp := fun vs H Q _ => ∃ (p : Addr) (us : List V) (l : List α), vs = [.ref p] ∧ H p = some (.lst us) ∧ RL K H us l ∧ pre l ∧ ∀ H', Same H H' → Q (.ref p) H'
theorem erl_thru {E : XK} {pre : List α → Prop} {l : List α} (h : ErL K ta σ H l) (hp : pre l) : ErL K (tCall (spThru K pre) [] E (tCons ta tNil)) σ H l := fun H1 e Q q =>
  h H1 e _ fun p vs H2 e2 hn h2 r2 => ⟨p, vs, l, rfl, h2, r2, hp, fun H3 e3 => q p vs H3 (e2.trans e3) hn (e3 _ _ h2) (r2.mono (SF.of e3))⟩
theorem s_retThru {E : XK} {pre : List α → Prop} {l : List α} {D : Ends} {k : Nat} {p : Addr} (hσ : σ[k]? = some (some (.ref p))) (hu : Un K H p l) (hp : pre l) (q : ∀ H1 us, Same H H1 → H1 p = some (.lst us) → RL K H1 us l → D.rt (.ref p) H1) :
    tRet (tCall (spThru K pre) [] E (tCons (tVar k) tNil)) D σ H := by
  obtain ⟨us, h1, r⟩ := hu
  exact ⟨.ref p, hσ, p, us, l, rfl, h1, r, hp, fun H1 e => q H1 us e (e _ _ h1) (r.mono (SF.of e))⟩
/-- a check that runs while its list is locked -/
theorem q_lockd {p : Addr} {us : List V} {l : List α} {D : Ends} {tu tz : TS} (hp : H p = some (.lst us)) (hr : RL K H us l)
    (q : ∀ (od : Obj), Rp.rep K (upd H p (.frz od (.lst us))) (.ref p) l → tu ⟨fun σ' H' => H' p = some (.frz od (.lst us)) ∧ tz D σ' (upd H' p (.lst us)), fun v H' => H' p = some (.frz od (.lst us)) ∧ D.rt v (upd H' p (.lst us)), fun σ' H' => H' p = some (.frz od (.lst us)) ∧ D.bk σ' (upd H' p (.lst us)), fun σ' H' => H' p = some (.frz od (.lst us)) ∧ D.ct σ' (upd H' p (.lst us))⟩ σ (upd H p (.frz od (.lst us)))) :
    tSeq (tLock tu) tz D σ H := ⟨p, .lst us, hp, trivial, fun od => q od ⟨p, us, rfl, ⟨od, upd_same⟩, hr.mono (SF.lst hp)⟩⟩
theorem same_lock {p : Addr} {us : List V} {od : Obj} (hp : H p = some (.lst us)) (e : Same (upd H p (.frz od (.lst us))) H1) : Same H (upd H1 p (.lst us)) := fun a o h => by
  by_cases n : a = p
  · subst n; rw [upd_same]; rw [hp] at h; exact h
  · rw [upd_ne n]; exact e a o (by rw [upd_ne n]; exact h)
/-- a, b = a list of two -/
theorem tg_unl {l : List α} {k m : Nat} {d : α} (h : Rp.rep K H v l) (hl : l.length = 2) : ∃ v1 v2, Rp.rep K H v1 (l.getD 0 d) ∧ Rp.rep K H v2 (l.getD 1 d) ∧ ∀ Q : L2.St → Hp → Prop, Q ((σ.set k (some v1)).set m (some v2)) H → gUnl K 2 (gCons (gName k) (gCons (gName m) gNil)) v σ H Q := by
  obtain ⟨a, vs, rfl, h2, h3⟩ := h
  match l, hl with
  | [x, y], _ =>
    cases h3 with
    | cons r1 h4 =>
      cases h4 with
      | cons r2 h5 =>
        cases h5
        exact ⟨_, _, r1, r2, fun Q q => ⟨a, _, rfl, h2.seq, rfl, _, _, rfl, _, _, rfl, rfl, q⟩⟩
theorem q_unl {l : List α} {k m : Nat} {d : α} {D : Ends} {tz : TS} (h : Er K te σ H l) (hl : l.length = 2) (q : ∀ v u H1, Same H H1 → Rp.rep K H1 v (l.getD 0 d) → Rp.rep K H1 u (l.getD 1 d) → tz D ((σ.set k (some v)).set m (some u)) H1) : tSeq (tAsg te (gUnl K 2 (gCons (gName k) (gCons (gName m) gNil)))) tz D σ H :=
  h H (Same.refl _) _ fun v H1 e r => by
    obtain ⟨v1, v2, r1, r2, f⟩ := tg_unl (σ := σ) (k := k) (m := m) (d := d) r hl
    exact f _ (q v1 v2 H1 e r1 r2)
end
section
variable {X : Cx} (K : Fg) (h : X.K = K)
include h
theorem k_gl (n : Nat) {es : List Expr} {k : Nat} {t : TGs} {pos : Pos} (hc : X.calm = true) (hp : PGs X es t)
    (hn : (assignEach es X.env).length = n := by rfl) (hst : (assignEach es X.env).findIdx? (·.1) = none := by rfl) : PG X (.Tuple es k pos) (gUnl K n t) := by subst h; exact pg_unl hc hp hn hst
theorem k_inD (hu : X.A.units + 65 < cLine) : OpR X (compareOp .In) (rInD K) := by subst h; exact op_inD hu
theorem k_ninD (hu : X.A.units + 65 < cLine) : OpR X (compareOp .NotIn) (rNotInD K) := by subst h; exact op_notInD hu
end
theorem u65 {k : Nat} {A : Around} (r : Room k A) : A.units + 65 < cLine := by have := r.un; omega
/-! ### the head's facts, with tables -/
def hookB (n : Nat) (fa : List He.Fa) (fn : List He.DefD) (ex : Fg → Bool) : PySem.W.Hook where
  α := He.AlD × Bool
  obs := fun s => (He.obsDG n fa fn s.heap.get?, ex (He.frG s.heap.get? (He.asD s.heap.get? n)))
  val := fun _ => (He.valD fn, true)
  says := fun _ h => ∃ K : Fg, K.In h ∧ He.SaysD fa fn K ∧ ex K = true
  of := fun _ _ e => ⟨_, He.frG_in, congrArg Prod.fst e, congrArg Prod.snd e⟩
  keeps := fun _ _ _ ⟨K, hK, c⟩ k => ⟨K, PySem.W.Frag.In.keeps hK k, c⟩
theorem hookB_eq {n : Nat} {fa : List He.Fa} {fn : List He.DefD} {ex : Fg → Bool} {g : Addr → Option Obj} {s : Shared} (h : ∀ a, g a = s.heap.get? a) : ((He.obsDG n fa fn g, ex (He.frG g (He.asD g n))) : He.AlD × Bool) = (hookB n fa fn ex).obs s := by
  have e : g = s.heap.get? := funext h
  rw [e] <;> rfl
theorem rl_dv (K : Fg) (H : Hp) : ∀ l : List Str, RL K H ((l.map He.Dv.str).map (He.Dv.v K)) l
  | [] => .nil
  | _ :: r => .cons rfl (rl_dv K H r)
theorem tup_of {K : Fg} {x : Str} {l : List Str} (h : He.tupB K x (l.map He.Dv.str) = true) (H : Hp) : Rp.rep K H (.ref (He.ga K x)) (Tp.mk l) := ⟨_, _, rfl, He.tupB_ok h H, rl_dv K H l⟩
end BL

set_option Elab.async false
set_option linter.all false
set_option maxRecDepth 100000
set_option maxHeartbeats 2000000
namespace BL
open PySem PySem.Spec PyProof.Rows L2
/-! ### some lists change, nothing else -/
structure Mus (ps : List Addr) (H H' : Hp) : Prop where
  sf : SF H H'
  ne : ∀ q o, q ∉ ps → H q = some o → H' q = some o
section
variable {K : Fg} {σ : L2.St} {H H' H0 H1 H2 : Hp} {pd pn p q : Addr} {ps qs : List Addr} {ta tb tc td te : TE} {tt uu : TT} {α β γ δ : Type} [Rp α] [Rp β] [Rp γ] [Rp δ] {x : α} {y : β} {z : γ} {v u : V} {i j : Int} {b c : Bool}
theorem Mus.of (e : Same H H') : Mus ps H H' := ⟨SF.of e, fun q o _ h => e q o h⟩
theorem Mus.refl (H : Hp) : Mus ps H H := Mus.of (Same.refl H)
theorem Mus.trans (a : Mus ps H H1) (b : Mus ps H1 H2) : Mus ps H H2 := ⟨a.sf.trans b.sf, fun q o n h => b.ne q o n (a.ne q o n h)⟩
theorem Mus.mu (m : Mu p H H') (h : p ∈ ps) : Mus ps H H' := ⟨m.sf, fun q o n e => m.ne q o (fun c => n (c ▸ h)) e⟩
theorem Mus.dm (m : DM pd pn H H') (h1 : pd ∈ ps) (h2 : pn ∈ ps) : Mus ps H H' := ⟨m.sf, fun q o n e => m.ne q o (fun c => n (c ▸ h1)) (fun c => n (c ▸ h2)) e⟩
theorem Mus.sub (m : Mus ps H H') (h : ∀ x ∈ ps, x ∈ qs) : Mus qs H H' := ⟨m.sf, fun q o n e => m.ne q o (fun c => n (h q c)) e⟩
theorem Mus.same0 (m : Mus [] H H') : Same H H' := fun q o e => m.ne q o (by simp) e
theorem Mus.to_dm (m : Mus [pd, pn] H H') : DM pd pn H H' := ⟨m.sf, fun q o n1 n2 e => m.ne q o (by simp [n1, n2]) e⟩
/-- p is new since H0 -/
theorem Mus.fresh (B : Mus ps H0 H) (n : p ∉ ps) (h : H p = none) : H0 p = none := by
  cases e : H0 p with
  | none => rfl
  | some o => rw [B.ne p o n e] at h; cases h
theorem Mus.mut (B : Mus ps H0 H) (h : H0 p = none) (m : Mu p H H') : Mus ps H0 H' := ⟨B.sf.trans m.sf, fun q o n e => m.ne q o (ne_of_none e h) (B.ne q o n e)⟩
theorem Mus.cut (B : Mus ps H0 H) (h : H0 p = none) (m : Mus (p :: ps) H H') : Mus ps H0 H' := ⟨B.sf.trans m.sf, fun q o n e => m.ne q o (fun c => by
  rcases List.mem_cons.mp c with c | c
  · exact ne_of_none e h c
  · exact n c) (B.ne q o n e)⟩
/-- all that changes is new since H0 -/
theorem Mus.base (B : Mus [] H0 H) (m : Mus ps H H') (h : ∀ p ∈ ps, H0 p = none) : Mus [] H0 H' := ⟨B.sf.trans m.sf, fun q o _ e => m.ne q o (fun c => by rw [h q c] at e; cases e) (B.ne q o (by simp) e)⟩
theorem Mus.baseS (B : Mus qs H0 H) (m : Mus ps H H') (h : ∀ p ∈ ps, H0 p = none ∨ p ∈ qs) : Mus qs H0 H' := ⟨B.sf.trans m.sf, fun q o n e => m.ne q o (fun c => by
  rcases h q c with h | h
  · rw [h] at e; cases e
  · exact n h) (B.ne q o n e)⟩
theorem nin0 : p ∉ ([] : List Addr) := by simp
theorem nin (h : p ≠ q) (n : p ∉ ps) : p ∉ q :: ps := fun c => by
  rcases List.mem_cons.mp c with c | c
  · exact h c
  · exact n c
theorem all0 {F : Addr → Prop} : ∀ p ∈ ([] : List Addr), F p := fun _ h => by cases h
theorem allC {F : Addr → Prop} (h : F q) (n : ∀ p ∈ ps, F p) : ∀ p ∈ q :: ps, F p := fun x c => by
  rcases List.mem_cons.mp c with c | c
  · subst c; exact h
  · exact n x c
theorem Un.mus {l : List α} (m : Mus ps H H') (n : p ∉ ps) (h : Un K H p l) : Un K H' p l := by
  obtain ⟨vs, g, r⟩ := h; exact ⟨vs, m.ne _ _ n g, r.mono m.sf⟩
theorem Dr.mus (m : Mus ps H H') (n1 : pd ∉ ps) (n2 : pn ∉ ps) (h : Dr H pd pn) : Dr H' pd pn := by
  obtain ⟨ns, k, g1, g2, g3⟩ := h; exact ⟨ns, k, m.ne _ _ n1 g1, m.ne _ _ n2 g2, g3⟩
theorem Un.nep {l : List α} (h : Un K H q l) (n : H p = none) : q ≠ p := by obtain ⟨_, g, _⟩ := h; exact ne_of_none g n
/-! ### a loop's fold -/
theorem fold_step {l : List α} {f : β → α → β} {a s : β} {k : Nat} {x : α} (hx : l[k]? = some x) (hs : s = (l.take k).foldl f a) : f s x = (l.take (k + 1)).foldl f a := by
  rw [List.take_add_one, hx, List.foldl_append, hs]; rfl
theorem fold_all {l : List α} {f : β → α → β} {a s : β} (hs : s = (l.take l.length).foldl f a) : s = l.foldl f a := by rw [hs, List.take_length]
theorem fold_app1 {γ : Type} (f : α → γ) : ∀ (l : List α) (a : List γ), l.foldl (fun s x => s ++ [f x]) a = a ++ l.map f
  | [], a => by simp
  | x :: l, a => by rw [List.foldl_cons, fold_app1 f l]; simp
theorem fold_app2 {γ δ : Type} (f : α → γ) (g : α → δ) : ∀ (l : List α) (a : List γ × List δ), l.foldl (fun s x => (s.1 ++ [f x], s.2 ++ [g x])) a = (a.1 ++ l.map f, a.2 ++ l.map g)
  | [], a => by simp
  | x :: l, a => by rw [List.foldl_cons, fold_app2 f g l]; simp
/-! ### if: one name is set -/
variable {D : Ends} {tu tw tz : TS}
theorem set_same' {k : Nat} (h : σ[k]? = some (some v)) : σ.set k (some v) = σ := by
  refine List.ext_getElem? fun i => ?_
  rw [List.getElem?_set]
  split
  · rename_i e; subst e
    rw [h]
    split
    · rfl
    · rename_i hn; rw [List.getElem?_eq_none (by omega)] at h; cases h
  · rfl
theorem q_ifset {k : Nat} {x y : α} (hc : Et K tt σ H c) (h1 : c = true → ∀ H1, Same H H1 → Er K te σ H1 y) (hold : σ[k]? = some (some v)) (r0 : Rp.rep K H v x)
    (q : ∀ w H1, Same H H1 → Rp.rep K H1 w (if c = true then y else x) → tz D (σ.set k (some w)) H1) : tSeq (tIfS tt (tAsg te (gName k)) tNext) tz D σ H :=
  q_when hc (fun e H1 s => h1 e H1 s H1 (Same.refl _) _ fun w H2 e2 r2 => q w H2 (s.trans e2) (by rw [if_pos e]; exact r2)) fun e H1 s => by
    have := q v H1 s (by rw [if_neg (by rw [e]; exact Bool.false_ne_true)]; exact Rp.mono (SF.of s) r0)
    rwa [set_same' hold] at this
theorem q_ifset2 {k : Nat} {x y : α} (hc : Et K tt σ H c) (h1 : c = true → ∀ H1, Same H H1 → Er K ta σ H1 y) (h2 : c = false → ∀ H1, Same H H1 → Er K tb σ H1 x)
    (q : ∀ w H1, Same H H1 → Rp.rep K H1 w (if c = true then y else x) → tz D (σ.set k (some w)) H1) : tSeq (tIfS tt (tAsg ta (gName k)) (tAsg tb (gName k))) tz D σ H :=
  q_if hc (fun e H1 s => h1 e H1 s H1 (Same.refl _) _ fun w H2 e2 r2 => q w H2 (s.trans e2) (by rw [if_pos e]; exact r2))
    fun e H1 s => h2 e H1 s H1 (Same.refl _) _ fun w H2 e2 r2 => q w H2 (s.trans e2) (by rw [if_neg (by rw [e]; exact Bool.false_ne_true)]; exact r2)
/-! ### None or a value -/
theorem er_O0 : Er K (tC .non) σ H (none : Option α) := er_c (x := (none : Option α)) fun _ => rfl
class Nn (α : Type) [Rp α] : Prop where
  n : ∀ {K : Fg} {H : Hp} {v : V} {x : α}, Rp.rep K H v x → v ≠ .non
instance : Nn Int := ⟨fun h => by cases h; exact V.noConfusion⟩
instance : Nn Nat := ⟨fun h => by cases h; exact V.noConfusion⟩
instance : Nn Bool := ⟨fun h => by cases h; exact V.noConfusion⟩
instance : Nn Str := ⟨fun h => by cases h; exact V.noConfusion⟩
instance {α : Type} [Rp α] : Nn (List α) := ⟨fun h => by obtain ⟨_, _, rfl, _⟩ := h; exact V.noConfusion⟩
instance {α β : Type} [Rp α] [Rp β] : Nn (α × β) := ⟨fun h => by obtain ⟨_, _, _, rfl, _⟩ := h; exact V.noConfusion⟩
instance {α β γ : Type} [Rp α] [Rp β] [Rp γ] : Nn (T3 α β γ) := ⟨fun h => by obtain ⟨_, _, _, _, rfl, _⟩ := h; exact V.noConfusion⟩
theorem er_O1 [Nn α] (h : Er K te σ H x) : Er K te σ H (some x) := fun H1 e Q q => h H1 e Q fun v H2 e2 r => q v H2 e2 ⟨Nn.n r, r⟩
theorem er_Oget {o : Option α} (h : Er K te σ H o) (ho : o = some x) : Er K te σ H x := fun H1 e Q q => h H1 e Q fun v H2 e2 r => by
  rw [ho] at r; exact q v H2 e2 r.2
theorem opt_non {o : Option α} (h : Rp.rep K H v o) : decide (v = .non) = o.isNone := by
  cases o with
  | none => cases (show v = .non from h); rfl
  | some x => exact decide_eq_false h.1
theorem er_isN {o : Option α} (h : Er K te σ H o) : Er K (tOp rIsN te (tC .non)) σ H o.isNone := fun H1 e Q q => h H1 e _ fun v H2 e2 r => ⟨rfl, q _ H2 e2 (by show V.bl _ = V.bl _; rw [opt_non r])⟩
theorem er_notN {o : Option α} (h : Er K te σ H o) : Er K (tOp rNotN te (tC .non)) σ H (!o.isNone) := fun H1 e Q q => h H1 e _ fun v H2 e2 r => ⟨rfl, q _ H2 e2 (by show V.bl _ = V.bl _; rw [opt_non r])⟩
/-! ### names that count -/
theorem q_augI {k : Nat} {f : Int → Int → Int} (hσ : σ[k]? = some (some v)) (r : Rp.rep K H v i) (h : Er K te σ H j) (q : ∀ w H1, Same H H1 → Rp.rep K H1 w (f i j) → tz D (σ.set k (some w)) H1) : tSeq (tAug k te (ipI f)) tz D σ H := by
  cases (show v = .int i from r)
  exact q_aug hσ h fun H1 e => q _ H1 e rfl
theorem s_ext {k : Nat} {l m : List α} (hσ : σ[k]? = some (some (.ref p))) (hu : Un K H p l) (h : ErL K te σ H m) (hz : l.length + m.length ≤ 1000000) (q : ∀ H2, Mu p H H2 → Un K H2 p (l ++ m) → D.nx σ H2) :
    tAug k te rExt2 D σ H := by
  obtain ⟨vs, hp, r⟩ := hu
  refine ⟨.ref p, hσ, h H (Same.refl _) _ fun b us H2 e2 hn h2 r2 => ?_⟩
  have hp2 := e2 _ _ hp
  refine ⟨p, b, vs, us, rfl, rfl, hp2, h2, ?_, ?_⟩
  · rw [paired_len r, paired_len r2]; exact Nat.le_trans hz (by decide)
  · have e : σ.set k (some (.ref p)) = σ := set_same' hσ
    show D.nx (σ.set k (some (.ref p))) _
    rw [e]
    exact q _ (mu_upd e2 hp) ⟨_, upd_same, RL.mono (SF.lst hp2) (paired_app (r.mono (SF.of e2)) r2)⟩
theorem q_ext {k : Nat} {l m : List α} (hσ : σ[k]? = some (some (.ref p))) (hu : Un K H p l) (h : ErL K te σ H m) (hz : l.length + m.length ≤ 1000000) (q : ∀ H2, Mu p H H2 → Un K H2 p (l ++ m) → tz D σ H2) :
    tSeq (tAug k te rExt2) tz D σ H := s_ext (D := { D with nx := tz D }) hσ hu h hz q
end
section
variable {K : Fg} {σ : L2.St} {H : Hp} {pd pn : Addr} {ta tb tc : TE} {α β : Type} [Rp α] [Rp β] {D : Ends} {tz : TS}
theorem q_parL {k m : Nat} {l : List α} {l' : List β} (h : ErL K ta σ H l) (h' : ErL K tb σ H l')
    (q : ∀ p p' vs vs' H1 H2, Same H H1 → Same H1 H2 → H p = none → H1 p' = none → H1 p = some (.lst vs) → RL K H1 vs l → H2 p' = some (.lst vs') → RL K H2 vs' l' → tz D ((σ.set k (some (.ref p))).set m (some (.ref p'))) H2) : tSeq (tPar k m (tCons ta (tCons tb tNil))) tz D σ H :=
  h H (Same.refl _) _ fun p vs H1 e hp h1 r => h' H1 e _ fun p' vs' H2 e2 hp' h2 r2 => ⟨.ref p, .ref p', rfl, q p p' vs vs' H1 H2 e e2 hp hp' h1 r h2 r2⟩
theorem q_unpL {k m : Nat} {l : List α} {l' : List β} (h : ErL K ta σ H l) (h' : ErL K tb σ H l')
    (q : ∀ p p' vs vs' H1 H2, Same H H1 → Same H1 H2 → H p = none → H1 p' = none → H1 p = some (.lst vs) → RL K H1 vs l → H2 p' = some (.lst vs') → RL K H2 vs' l' → tz D ((σ.set k (some (.ref p))).set m (some (.ref p'))) H2) : tSeq (tAsg (tTup (tCons ta (tCons tb tNil))) (gTup K 2 (gCons (gName k) (gCons (gName m) gNil)))) tz D σ H :=
  h H (Same.refl _) _ fun p vs H1 e hp h1 r => h' H1 e _ fun p' vs' H2 e2 hp' h2 r2 => ⟨by show 2 ≤ sizeLine; decide, fun t ht => ⟨t, _, rfl, sq_tup upd_same, rfl, .ref p, _, rfl, .ref p', _, rfl, rfl, q p p' vs vs' H1 _ e (e2.trans (same_new ht)) hp hp' h1 r ((same_new ht) _ _ h2) (r2.mono (SF.new ht))⟩⟩
theorem epl_lst3 {P : α → Prop} {P2 : α → α → Prop} {P3 : α → α → α → Prop} (ha : Ep K pd pn ta σ H P) (hb : ∀ x, P x → Ep K pd pn tb σ H (P2 x)) (hc : ∀ x y, P x → P2 x y → Ep K pd pn tc σ H (P3 x y)) : EpL K pd pn (tLst (tCons ta (tCons tb (tCons tc tNil)))) σ H (fun l => ∃ x y z, P x ∧ P2 x y ∧ P3 x y z ∧ l = [x, y, z]) := fun H1 m dr Q q =>
  ha H1 m dr _ fun v H2 x m2 dr2 hx r2 => hb x hx H2 (m.trans m2) dr2 _ fun u H3 y m3 dr3 hy r3 => hc x y hx hy H3 ((m.trans m2).trans m3) dr3 _ fun w H4 z m4 dr4 hz r4 => ⟨by show 3 ≤ sizeLine; decide, fun p hp =>
    q p _ _ [x, y, z] (((m2.trans m3).trans m4).trans (DM.of (same_new hp))) (dr4.mono (same_new hp)) ⟨x, y, z, hx, hy, hz, rfl⟩ (((m2.trans m3).trans m4).free dr hp dr4) upd_same (.cons (Rp.mono ((m3.sf.trans m4.sf).trans (SF.new hp)) r2) (.cons (Rp.mono (m4.sf.trans (SF.new hp)) r3) (.cons (Rp.mono (SF.new hp) r4) .nil)))⟩
end
section
variable {K : Fg} {σ : L2.St} {H : Hp} {ta tb tc td : TE} {α β γ δ ε : Type} [Rp α] [Rp β] [Rp γ] [Rp δ] [Rp ε] {x : α} {y : β} {z : γ} {w : δ}
def sp4 (K : Fg) (pre : α → β → γ → δ → Prop) (f : α → β → γ → δ → ε) : Sp := fun vs H Q _ => ∃ v0 v1 v2 v3 x0 x1 x2 x3, vs = [v0, v1, v2, v3] ∧ Rp.rep K H v0 x0 ∧ Rp.rep K H v1 x1 ∧ Rp.rep K H v2 x2 ∧ Rp.rep K H v3 x3 ∧ pre x0 x1 x2 x3 ∧ ansV K (f x0 x1 x2 x3) H Q
theorem er_call4 {pre : α → β → γ → δ → Prop} {f : α → β → γ → δ → ε} {E : XK} (h0 : Er K ta σ H x) (h1 : Er K tb σ H y) (h2 : Er K tc σ H z) (h3 : Er K td σ H w) (hp : pre x y z w) : Er K (tCall (sp4 K pre f) [] E (tCons ta (tCons tb (tCons tc (tCons td tNil))))) σ H (f x y z w) := fun H1 e Q q =>
  h0 H1 e _ fun v0 H2 e2 r0 => h1 H2 (e.trans e2) _ fun v1 H3 e3 r1 => h2 H3 ((e.trans e2).trans e3) _ fun v2 H4 e4 r2 => h3 H4 (((e.trans e2).trans e3).trans e4) _ fun v3 H5 e5 r3 =>
    ⟨v0, v1, v2, v3, x, y, z, w, rfl, Rp.mono (SF.of ((e3.trans e4).trans e5)) r0, Rp.mono (SF.of (e4.trans e5)) r1, Rp.mono (SF.of e5) r2, r3, hp, fun u H6 e6 r6 => q u H6 ((((e2.trans e3).trans e4).trans e5).trans e6) r6⟩
theorem len_sp4 {pre : α → β → γ → δ → Prop} {f : α → β → γ → δ → ε} : ∀ vs H Q E, sp4 K pre f vs H Q E → vs.length = 4 := fun vs H Q E h => by obtain ⟨_, _, _, _, _, _, _, _, rfl, _⟩ := h; rfl
end
theorem bi4 {x : Str} {a : Arguments} {b : List Stmt} {sc : Scope} {p q r t : Str} (h : ∀ (kV doc pm : Value) (an : Option Addr) (cdv ct u v w z : Value), bindArgs (PySem.W.fnOf x x a b sc .none kV doc pm an cdv ct) ⟨[u, v, w, z], []⟩ = pure [(p, u), (q, v), (r, w), (t, z)]) :
    ∀ (kV doc pm : Value) (an : Option Addr) (cdv ct : Value) (us : List Value), us.length = [p, q, r, t].length → bindArgs (PySem.W.fnOf x x a b sc .none kV doc pm an cdv ct) ⟨us, []⟩ = pure ([p, q, r, t].zip us)
  | kV, doc, pm, an, cdv, ct, [u, v, w, z], _ => h kV doc pm an cdv ct u v w z
theorem dead_eq {α : Type} [DecidableEq α] {a b : α} (h : a = b) : (!decide (a = b)) = false := by rw [decide_eq_true h]; rfl
theorem q_last {t : TS} {D : Ends} {σ : L2.St} {H : Hp} (h : tSeq t tNext D σ H) : t D σ H := h
theorem s_gn {k : Nat} {v : V} {σ : L2.St} {H : Hp} {Q : L2.St → Hp → Prop} (h : Q (σ.set k (some v)) H) : gName k v σ H Q := h
theorem s_nx {D : Ends} {σ : L2.St} {H : Hp} (h : D.nx σ H) : tNext D σ H := h
theorem s_nxz {tz : TS} {D : Ends} {σ : L2.St} {H : Hp} (h : tz D σ H) : tNext { D with nx := tz D } σ H := h
theorem Rp.cong {α : Type} [Rp α] {K : Fg} {H : Hp} {v : V} {x y : α} (h : Rp.rep K H v y) (e : x = y) : Rp.rep K H v x := by rw [e]; exact h
theorem find_none {α β : Type} {l : List α} {f : α → Option β} {k : Nat} {x : α} (hx : l[k]? = some x) (hs : (l.take k).findSome? f = none) (hn : f x = none) : (l.take (k + 1)).findSome? f = none := by
  rw [List.take_add_one, hx, List.findSome?_append, hs]; simp [hn]
theorem find_at {α β : Type} {l : List α} {f : α → Option β} {k : Nat} {x : α} {y : β} (hx : l[k]? = some x) (hs : (l.take k).findSome? f = none) (hn : f x = some y) : l.findSome? f = some y := by
  conv => lhs; rw [← List.take_append_drop (k + 1) l, List.take_add_one, hx]
  rw [List.findSome?_append, List.findSome?_append, hs]; simp [hn]
theorem find_all {α β : Type} {l : List α} {f : α → Option β} (hs : (l.take l.length).findSome? f = none) : l.findSome? f = none := by rw [List.take_length] at hs; exact hs
theorem ip_ext {X : Cx} : PIp X .Add rExt2 := fun pins s σ H x y v u Q I r1 r2 h => iop_ext pins s σ H x y v u Q I r1 r2 h
end BL

set_option Elab.async false
set_option linter.all false
set_option maxRecDepth 100000
set_option maxHeartbeats 2000000
namespace BL
open PySem PySem.Spec PyProof.Rows L2
theorem nff {b : Bool} (h : b = false) : ¬ (b = true) := by rw [h]; exact Bool.false_ne_true
theorem fold_grow {α β : Type} {f : List β → α → List β} {c : Nat} : ∀ {l : List α} {a : List β}, (∀ s x, x ∈ l → (f s x).length ≤ s.length + c) → (l.foldl f a).length ≤ a.length + c * l.length
  | [], a, _ => by simp
  | x :: l, a, h => by
    rw [List.foldl_cons, List.length_cons, Nat.mul_add]
    have h1 := h a x (List.mem_cons_self ..)
    have h2 := fold_grow (l := l) (a := f a x) fun s y hy => h s y (List.mem_cons_of_mem _ hy)
    omega
theorem fold_growE {α β : Type} {f : List β → α → List β} (c : Nat) {l : List α} {a s : List β} (hs : s = l.foldl f a) (h : ∀ s x, x ∈ l → (f s x).length ≤ s.length + c) : s.length ≤ a.length + c * l.length := by rw [hs]; exact fold_grow h
theorem fold_inv {α β : Type} {f : β → α → β} {P : β → Prop} : ∀ {l : List α} {a : β}, P a → (∀ s x, x ∈ l → P s → P (f s x)) → P (l.foldl f a)
  | [], _, h, _ => h
  | x :: l, a, h, hs => fold_inv (l := l) (hs a x (List.mem_cons_self ..) h) fun s y hy => hs s y (List.mem_cons_of_mem _ hy)
theorem fold_invE {α β : Type} {f : β → α → β} (P : β → Prop) {l : List α} {a s : β} (hs : s = l.foldl f a) (h : P a) (h2 : ∀ s x, x ∈ l → P s → P (f s x)) : P s := by rw [hs]; exact fold_inv h h2
theorem mapIf_le {α β : Type} {c : α → Bool} {f : α → β} {l : List α} : (mapIf c f l).length ≤ l.length := by unfold mapIf; rw [List.length_map]; exact List.length_filter_le _ _
theorem last_atD {α : Type} {l : List α} {d : α} (h : l ≠ []) : l.getLast? = some (l.getLastD d) := by
  rw [List.getLastD_eq_getLast?]
  cases e : l.getLast? with
  | none => exact absurd (List.getLast?_eq_none_iff.mp e) h
  | some x => rfl
theorem lastD_mem {α : Type} {l : List α} {d : α} (h : l ≠ []) : l.getLastD d ∈ l := List.mem_of_getLast? (last_atD h)
theorem mem_enumN {α : Type} [Rp α] {l : List α} {p : Nat × α} (h : p ∈ enumL l) : l[p.1]? = some p.2 ∧ p.1 < l.length := by
  obtain ⟨i, hi⟩ := List.getElem?_of_mem h
  obtain ⟨h1, h2⟩ := enumL_get hi
  rw [h2]
  exact ⟨h1, (List.getElem?_eq_some_iff.mp h1).1⟩
/-! ### pairs of numbers, sorted -/
/-- a pair of numbers in a tuple of its own -/
structure Pt where
  a : Int
  b : Int
instance : Rp Pt := ⟨fun _ H v p => ∃ t, v = .ref t ∧ H t = some (.tup [.int p.a, .int p.b]), fun {K H H' v p} e h => by
  obtain ⟨t, h1, h2⟩ := h; exact ⟨t, h1, e _ _ (.tup _) h2⟩⟩
def insP (x : Int × Int) : List (Int × Int) → List (Int × Int)
  | [] => [x]
  | y :: r => if SrtO.lexB y x = true then y :: insP x r else x :: y :: r
def srtP : List (Int × Int) → List (Int × Int)
  | [] => []
  | x :: r => insP x (srtP r)
theorem insP_perm (x : Int × Int) : ∀ l : List (Int × Int), (insP x l).Perm (x :: l)
  | [] => .refl _
  | y :: r => by
    unfold insP
    split
    · exact ((insP_perm x r).cons y).trans (.swap ..)
    · exact .refl _
theorem srtP_perm : ∀ l : List (Int × Int), (srtP l).Perm l
  | [] => .refl _
  | x :: r => (insP_perm x (srtP r)).trans ((srtP_perm r).cons x)
abbrev SoP (l : List (Int × Int)) : Prop := l.Pairwise fun x y => SrtO.lexB y x = false
theorem insP_sorted (x : Int × Int) : ∀ {l : List (Int × Int)}, SoP l → SoP (insP x l)
  | [], _ => List.pairwise_singleton _ _
  | y :: r, h => by
    obtain ⟨h1, h2⟩ := List.pairwise_cons.mp h
    unfold insP
    split
    · rename_i c
      refine List.pairwise_cons.mpr ⟨fun z hz => ?_, insP_sorted x h2⟩
      rcases List.mem_cons.mp ((insP_perm x r).mem_iff.mp hz) with e | hz
      · subst e
        have a := SrtO.lexB_iff.mp c
        exact SrtO.lexB_no.mpr (by omega)
      · exact h1 z hz
    · rename_i c
      refine List.pairwise_cons.mpr ⟨fun z hz => ?_, h⟩
      have c' : SrtO.lexB y x = false := by simpa using c
      rcases List.mem_cons.mp hz with e | hz
      · subst e; exact c'
      · have a := SrtO.lexB_no.mp c'
        have b := SrtO.lexB_no.mp (h1 z hz)
        exact SrtO.lexB_no.mpr (by omega)
theorem srtP_sorted : ∀ l : List (Int × Int), SoP (srtP l)
  | [] => .nil
  | x :: r => insP_sorted x (srtP_sorted r)
theorem soP_uniq : ∀ {l r : List (Int × Int)}, l.Perm r → SoP l → SoP r → l = r
  | [], r, h, _, _ => (List.Perm.nil_eq h)
  | x :: l, [], h, _, _ => absurd h.length_eq (by simp)
  | x :: l, y :: r, h, h1, h2 => by
    obtain ⟨a1, a2⟩ := List.pairwise_cons.mp h1
    obtain ⟨b1, b2⟩ := List.pairwise_cons.mp h2
    have e : x = y := by
      have m1 : x ∈ y :: r := h.mem_iff.mp (List.mem_cons_self ..)
      have m2 : y ∈ x :: l := h.mem_iff.mpr (List.mem_cons_self ..)
      rcases List.mem_cons.mp m1 with m | m
      · exact m
      · rcases List.mem_cons.mp m2 with n | n
        · exact n.symm
        · have p := SrtO.lexB_no.mp (a1 y n)
          have q := SrtO.lexB_no.mp (b1 x m)
          exact Prod.ext (by omega) (by omega)
    subst e
    rw [soP_uniq (List.Perm.cons_inv h) a2 b2]
def kP (H : Hp) (v : V) : Int × Int := match v with
  | .ref t => match H t with
    | some (.tup [.int i, .int j]) => (i, j)
    | _ => (0, 0)
  | _ => (0, 0)
theorem kP_at {H : Hp} {t : Addr} {i j : Int} (h : H t = some (.tup [.int i, .int j])) : kP H (.ref t) = (i, j) := by
  show (match H t with | some (.tup [.int i, .int j]) => (i, j) | _ => (0, 0)) = _
  rw [h]
section
variable {K : Fg} {σ : L2.St} {H H' H1 : Hp} {p : Addr} {ta tb tc te : TE} {tt : TT} {α β : Type} [Rp α] [Rp β] {x : α} {v u : V} {i j : Int} {b : Bool}
theorem er_ptup (h1 : Er K ta σ H i) (h2 : Er K tb σ H j) : Er K (tTup (tCons ta (tCons tb tNil))) σ H (Pt.mk i j) := fun H1 e Q q =>
  h1 H1 e _ fun v H2 e2 r2 => h2 H2 (e.trans e2) _ fun u H3 e3 r3 => ⟨by show 2 ≤ sizeLine; decide, fun p hp => by
    cases (show v = .int i from r2); cases (show u = .int j from r3)
    exact q (.ref p) _ ((e2.trans e3).trans (same_new hp)) ⟨p, rfl, upd_same⟩⟩
theorem pt_k : ∀ {vs : List V} {l : List Pt}, RL K H vs l → vs.map (kP H) = l.map fun p => (p.a, p.b)
  | _, _, .nil => rfl
  | _, _, .cons h r => by
    obtain ⟨t, rfl, ht⟩ := h
    rw [List.map_cons, List.map_cons, kP_at ht, pt_k r]
theorem pt_all : ∀ {vs : List V} {l : List Pt}, RL K H vs l → ∀ x ∈ vs, ∃ t, x = V.ref t ∧ H t = some (.tup [.int (kP H x).1, .int (kP H x).2])
  | _, _, .nil, _, h => by cases h
  | _, _, .cons h r, x, hx => by
    rcases List.mem_cons.mp hx with e | hx
    · subst e
      obtain ⟨t, rfl, ht⟩ := h
      exact ⟨t, rfl, by rw [kP_at ht]; exact ht⟩
    · exact pt_all r x hx
theorem rl_pt : ∀ {ys : List V}, (∀ x ∈ ys, ∃ t, x = V.ref t ∧ H t = some (.tup [.int (kP H x).1, .int (kP H x).2])) → RL K H ys (ys.map (kP H))
  | [], _ => .nil
  | y :: ys, h => .cons (by
      obtain ⟨t, e, ht⟩ := h y (List.mem_cons_self ..)
      exact ⟨t, _, _, e, sq_tup ht, rfl, rfl⟩) (rl_pt fun x hx => h x (List.mem_cons_of_mem _ hx))
theorem erl_sortedP {l : List Pt} (h : Er K ta σ H l) : ErL K (tCB (rSortedPO K) (tCons ta tNil)) σ H (srtP (l.map fun p => (p.a, p.b))) := erl_cb1 h fun H v r Q q => by
  obtain ⟨a, vs, rfl, h2, h3⟩ := r
  have ha := pt_all h3
  refine ⟨a, vs, kP H, rfl, h2.seq, ha, fun ys p hs hst hn => q p ys _ (same_new hn) hn upd_same ?_⟩
  have hy : ∀ x ∈ ys, ∃ t, x = V.ref t ∧ H t = some (.tup [.int (kP H x).1, .int (kP H x).2]) := fun x hx => ha x (hst.perm.mem_iff.mp hx)
  have e : srtP (l.map fun p => (p.a, p.b)) = ys.map (kP H) := by
    refine (soP_uniq ?_ ?_ (srtP_sorted _)).symm
    · exact ((hst.perm.map (kP H)).trans (by rw [pt_k h3])).trans (srtP_perm _).symm
    · exact List.pairwise_map.mpr hs
  rw [e]
  exact (rl_pt hy).mono (SF.new hn)
/-! ### lists not locked, read -/
theorem er_lastU {k : Nat} {l : List α} {x : α} (hσ : σ[k]? = some (some (.ref p))) (hu : Un K H p l) (hi : Er K tb σ H (-1 : Int)) (hx : l.getLast? = some x) : Er K (tOp (rIxL K) (tVar k) tb) σ H x := fun H1 e Q q => by
  obtain ⟨vs, hp, r⟩ := hu
  refine ⟨.ref p, hσ, hi H1 e _ fun u H2 e2 r2 => ?_⟩
  cases (show u = .int (-1) from r2)
  have hn : 0 < l.length := by cases l with
    | nil => cases hx
    | cons _ _ => exact Nat.succ_pos _
  rw [List.getLast?_eq_getElem?] at hx
  obtain ⟨w, hw, rw'⟩ := paired_get r hx
  have hl := paired_len r
  refine ⟨p, vs, -1, w, rfl, rfl, sq_lst ((e.trans e2) _ _ hp), ?_, q w H2 e2 (Rp.mono (SF.of (e.trans e2)) rw')⟩
  unfold atI ixN
  rw [if_neg (by decide), if_pos (by omega)]
  show vs[((-1 : Int) + (vs.length : Int)).toNat]? = some w
  rw [show ((-1 : Int) + (vs.length : Int)).toNat = l.length - 1 by omega]
  exact hw
theorem un_dp [Rq α] {l : List α} (h : Un K H p l) : Dp K H (.ref p) (.list (l.map Rq.toD)) := by
  obtain ⟨vs, h1, r⟩ := h
  exact .lst (sq_lst h1) (dp_all r)
theorem er_eqU {k : Nat} [Rq α] [Rt α] [DecidableEq α] {l m : List α} (hσ : σ[k]? = some (some (.ref p))) (hu : Un K H p l) (h : Er K tb σ H m) (hd : Rq.dep (List α) ≤ 64 := by decide) : Er K (tOp (rEqD K) (tVar k) tb) σ H (decide (l = m)) := fun H1 e Q q =>
  ⟨.ref p, hσ, h H1 e _ fun u H2 e2 r2 => ⟨_, _, un_dp (Un.mono (e.trans e2) hu), Rq.dp r2, shaped_of (α := List α) (Rt.all l) hd, shaped_of (α := List α) (Rt.all m) hd, by rw [show PyData.list (l.map Rq.toD) = Rq.toD l from rfl, eqv_dec]; exact q _ H2 e2 rfl⟩⟩
theorem src_range1I (h : Er K te σ H i) (hz : -1000000 ≤ i ∧ i ≤ 1000000) : Src K (iRng1 (tCons te tNil)) σ H (List.range i.toNat) := fun H1 e RR k => h H1 e _ fun v H2 e2 r => by
  cases (show v = .int i from r)
  refine ⟨i, rfl, by omega, by omega, k _ H2 (fun _ => True) (YFn fun j => .int (0 + j)) e2 ?_ (fun _ _ => trivial) fun j x hx H' s v H'' y => ?_⟩
  · rw [List.length_range]; exact walk_range
  · obtain ⟨rfl, rfl⟩ := y
    have hi : j < i.toNat := by
      have := (List.getElem?_eq_some_iff.mp hx).1
      rwa [List.length_range] at this
    rw [List.getElem?_range hi] at hx
    cases hx
    exact ⟨Same.refl _, by show V.int _ = V.int _; rw [Int.zero_add]⟩
/-! ### len(set(numbers)) -/
theorem er_lenSet {l : List Int} (h : Er K ta σ H l) (hn : l.Nodup) (hl : l.length < 64) : Er K (tLenSetI K ta) σ H l.length := fun H1 e Q q => h H1 e _ fun v H2 e2 r => by
  obtain ⟨a, vs, rfl, f, r⟩ := r
  have h2 := rl_ints r
  subst h2
  exact ⟨a, l, rfl, f.seq, hl, hn, q _ H2 e2 rfl⟩
/-! ### while, with what falls -/
variable {D : Ends} {tu tz : TS}
theorem s_whileN (Pv : Nat → L2.St → Hp → Prop) (n : Nat) (h0 : Pv n σ H)
    (hs : ∀ m σ' H', Pv m σ' H' → ∃ b, Et K tt σ' H' b ∧ (b = true → ∀ H1, Same H' H1 → tu { D with nx := fun σ2 H2 => ∃ m', m' < m ∧ Pv m' σ2 H2, ct := fun σ2 H2 => ∃ m', m' < m ∧ Pv m' σ2 H2, bk := D.nx } σ' H1) ∧ (b = false → ∀ H1, Same H' H1 → D.nx σ' H1)) : tWhile tt tu D σ H := by
  refine ⟨Pv, ⟨n, h0⟩, ?_⟩
  rintro m σ' H' p
  obtain ⟨b, hb, h1, h2⟩ := hs m σ' H' p
  refine hb H' (Same.refl _) _ fun H2 e => ?_
  cases b with
  | true => exact ⟨_, fun σ2 H2 ⟨m', l, p'⟩ => ⟨m', l, p'⟩, h1 rfl H2 e⟩
  | false => exact h2 rfl H2 e
theorem q_whileN (Pv : Nat → L2.St → Hp → Prop) (n : Nat) (h0 : Pv n σ H)
    (hs : ∀ m σ' H', Pv m σ' H' → ∃ b, Et K tt σ' H' b ∧ (b = true → ∀ H1, Same H' H1 → tu { D with nx := fun σ2 H2 => ∃ m', m' < m ∧ Pv m' σ2 H2, ct := fun σ2 H2 => ∃ m', m' < m ∧ Pv m' σ2 H2, bk := tz D } σ' H1) ∧ (b = false → ∀ H1, Same H' H1 → tz D σ' H1)) : tSeq (tWhile tt tu) tz D σ H :=
  s_whileN (D := { D with nx := tz D }) Pv n h0 hs
end
section
variable {X : Cx} (K : Fg) (h : X.K = K)
include h
theorem k_sortedP : CallR X (.builtin "sorted") (rSortedPO K) := by subst h; exact cr_sortedPO
theorem k_lenSet {a : Expr} {ta : TE} {p p2 q pos : Pos} (hc : X.calm = true) (hg : Gl X "len") (hm : X.mg "len" = none) (hg2 : Gl X "set") (hm2 : X.mg "set" = none) (ha : PE X a ta)
    (na : starEach [a] X.env = (false, eval a X.env) :: starEach [] X.env := by rfl) : PE X (.Call (.Name "len" p) [.Call (.Name "set" p2) [a] [] q] [] pos) (tLenSetI K ta) := by subst h; exact pe_lenSetI hc hg hm hg2 hm2 ha na
end
end BL

set_option Elab.async false
set_option linter.all false
set_option maxRecDepth 100000
set_option maxHeartbeats 2000000
namespace BL
open PySem PySem.Spec PyProof.Rows L2
section
variable {K : Fg} {σ : L2.St} {H H' H1 : Hp} {pd pn : Addr} {ta tb tc te : TE} {tt : TT} {α β γ δ : Type} [Rp α] [Rp β] [Rp γ] [Rp δ] {x : α} {v u : V} {i j : Int} {b : Bool} {wi : TI} {g : TG}
/-! ### a comprehension that draws -/
theorem epl_lm {l : List α} {vs : List Nat} {P : α → β → Prop} (hs : ∀ H1, DM pd pn H H1 → Src K wi σ H1 l) (hz : l.length ≤ 1000000)
    (turn : ∀ x, x ∈ l → ∀ v H1, DM pd pn H H1 → Rp.rep K H1 v x → ∃ σ2, (∀ Q : L2.St → Hp → Prop, Q σ2 H1 → g v (wipe σ vs) H1 Q) ∧ wipe σ2 vs = wipe σ vs ∧ Ep K pd pn te σ2 H1 (P x)) :
    EpL K pd pn (tLc wi g tYes te vs) σ H (fun out => Paired P l out) := fun H1 m dr Q q => hs H1 m H1 (Same.refl _) _ fun J H2 G Y e2 w hG hY D hD => by
  have d2 := dr.mono e2
  have n1 : D ≠ pd := (d2.pd_ne hD).symm
  have n2 : D ≠ pn := (d2.pn_ne hD).symm
  refine lc_it w (fun k H' => DM pd pn H2 H' ∧ Dr H' pd pn ∧ ∃ us out, H' D = some (.lst us) ∧ RL K H' us out ∧ Paired P (l.take k) out) ⟨DM.of (same_new hD), d2.mono (same_new hD), [], [], upd_same, .nil, .nil⟩ (fun k H' _ p => hG H' p.1.sf) (fun k v H' H'' hk p y => ?_) fun H' p => ?_
  · obtain ⟨p1, p2, us, out, p3, p4, p5⟩ := p
    have hx : l[k]? = some l[k] := List.getElem?_eq_getElem hk
    obtain ⟨s, r⟩ := hY k _ hx H' p1.sf v H'' y
    obtain ⟨σ2, hg, hw, he⟩ := turn l[k] (List.mem_of_getElem? hx) v H'' (m.trans ((DM.of e2).trans (p1.trans (DM.of s)))) r
    refine hg _ ⟨hw, et_yes (K := K) H'' (Same.refl _) _ fun H3 e3 => iteT ?_⟩
    refine he H3 (DM.of e3) ((p2.mono s).mono e3) _ fun w' H4 z m4 d4 hz4 r4 => ?_
    have hD3 : H3 D = some (.lst us) := (s.trans e3) _ _ p3
    have hD4 : H4 D = some (.lst us) := m4.ne _ _ n1 n2 hD3
    have htake : l.take (k + 1) = l.take k ++ [l[k]] := by rw [List.take_add_one, hx]; rfl
    have hlen : us.length ≤ l.length := by
      rw [paired_len p4, ← paired_len p5, List.length_take]; exact Nat.min_le_right _ _
    have mm : DM pd pn H2 H4 := p1.trans ((DM.of (s.trans e3)).trans m4)
    refine ⟨us, hD4, Nat.lt_of_le_of_lt (Nat.le_trans hlen hz) (by decide), ⟨sf_mut mm.sf hD, fun q o a b e => by rw [upd_ne (ne_of_none e hD)]; exact mm.ne q o a b e⟩, ?_, us ++ [w'], out ++ [z], upd_same, ?_, ?_⟩
    · obtain ⟨ns, kk, g1, g2, g3⟩ := d4
      exact ⟨ns, kk, upd_get g1 n1.symm, upd_get g2 n2.symm, g3⟩
    · exact RL.mono (SF.lst hD4) (paired_app (p4.mono ((SF.of (s.trans e3)).trans m4.sf)) (.cons r4 .nil))
    · rw [htake]; exact paired_app p5 (.cons hz4 .nil)
  · obtain ⟨p1, p2, us, out, p3, p4, p5⟩ := p
    rw [List.take_length] at p5
    exact q D us H' out ((DM.of e2).trans p1) p2 p5 (e2.free hD) p3 p4
theorem epl_lm1 {l : List α} {vs : List Nat} {k : Nat} {P : α → β → Prop} (hs : ∀ H1, DM pd pn H H1 → Src K wi σ H1 l) (hz : l.length ≤ 1000000) (hw : ∀ v : V, wipe ((wipe σ vs).set k (some v)) vs = wipe σ vs)
    (turn : ∀ x, x ∈ l → ∀ v H1, DM pd pn H H1 → Rp.rep K H1 v x → Ep K pd pn te ((wipe σ vs).set k (some v)) H1 (P x)) :
    EpL K pd pn (tLc wi (gName k) tYes te vs) σ H (fun out => Paired P l out) := epl_lm hs hz fun x hx v H1 e r => ⟨_, fun Q q => q, hw v, turn x hx v H1 e r⟩
theorem DM.mu_new {p : Addr} {H2 : Hp} (m : DM pd pn H H1) (h : H p = none) (mu : Mu p H1 H2) : DM pd pn H H2 := ⟨m.sf.trans mu.sf, fun q o a b e => mu.ne q o (ne_of_none e h) (m.ne q o a b e)⟩
theorem q_setLP {D : Ends} {tz : TS} {k : Nat} {P : List α → Prop} (dr : Dr H pd pn) (h : EpL K pd pn te σ H P) (q : ∀ v H1 l, DM pd pn H H1 → Dr H1 pd pn → P l → Rp.rep K H1 v l → tz D (σ.set k (some v)) H1)
    (hσ : ∀ p : Addr, (σ.set k (some (.ref p)))[k]? = some (some (.ref p)) := by intros; rfl) : tSeq (tAsg te (gName k)) (tFzS k tz) D σ H := h H (DM.refl _) dr _ fun p vs H1 l m d hP hn h1 r =>
  q_frz (hσ p) (Un.of h1 r) fun H2 mu r2 => q (.ref p) H2 l (m.mu_new hn mu) (d.of_mu mu (dr.pd_ne hn) (dr.pn_ne hn)) hP r2
/-! ### a number in a pair -/
theorem rr_inP {n : Bool} {p : Int × Int} : R2r K (rIn K n) i p (neg n (decide (i ∈ [p.1, p.2]))) := fun H v u e1 e2 Q q => by
  obtain ⟨a, v1, v2, rfl, h2, h3, h4⟩ := e2
  cases (show v = .int i from e1)
  cases (show v1 = .int p.1 from h3)
  cases (show v2 = .int p.2 from h4)
  exact ⟨a, _, rfl, .inr h2, rfl, flat_ints [p.1, p.2], by rw [show [V.int p.1, V.int p.2] = [p.1, p.2].map V.int from rfl, inV_int]; exact q _ H (Same.refl _) (by cases n <;> rfl)⟩
/-! ### a part of the law that is handed the draws: it answers True -/
def ansT (pd pn : Addr) (H : Hp) (Q : VK) : Prop := ∀ H', DM pd pn H H' → Dr H' pd pn → Q (.bl true) H'
def st1 (K : Fg) (pre : α → Prop) : Sp := fun vs H Q _ => ∃ pd pn v0 x0, vs = [.ref pd, v0] ∧ Dr H pd pn ∧ Rp.rep K H v0 x0 ∧ pre x0 ∧ ansT pd pn H Q
def st2 (K : Fg) (pre : α → β → Prop) : Sp := fun vs H Q _ => ∃ pd pn v0 v1 x0 x1, vs = [.ref pd, v0, v1] ∧ Dr H pd pn ∧ Rp.rep K H v0 x0 ∧ Rp.rep K H v1 x1 ∧ pre x0 x1 ∧ ansT pd pn H Q
def st3 (K : Fg) (pre : α → β → γ → Prop) : Sp := fun vs H Q _ => ∃ pd pn v0 v1 v2 x0 x1 x2, vs = [.ref pd, v0, v1, v2] ∧ Dr H pd pn ∧ Rp.rep K H v0 x0 ∧ Rp.rep K H v1 x1 ∧ Rp.rep K H v2 x2 ∧ pre x0 x1 x2 ∧ ansT pd pn H Q
theorem s_trueD {D : Ends} (h : Er K te σ H b) (hb : b = true) (hQ : ∀ H', Same H H' → D.rt (.bl true) H') : tRet te D σ H := h H (Same.refl _) _ fun v H1 e r => by
  cases (show v = .bl b from r); rw [hb]; exact hQ H1 e
/-- return part(draws, ..): True, too -/
theorem s_ret_st3 {D : Ends} {E : XK} {pre : α → β → γ → Prop} {x : α} {y : β} {z : γ} {k : Nat} (hσ : σ[k]? = some (some (.ref pd))) (dr : Dr H pd pn) (h1 : Er K ta σ H x) (h2 : Er K tb σ H y) (h3 : Er K tc σ H z) (hp : pre x y z) (hQ : ∀ H', DM pd pn H H' → Dr H' pd pn → D.rt (.bl true) H') :
    tRet (tCall (st3 K pre) [] E (tCons (tVar k) (tCons ta (tCons tb (tCons tc tNil))))) D σ H :=
  ⟨.ref pd, hσ, h1 H (Same.refl _) _ fun v0 H1 e1 r0 => h2 H1 e1 _ fun v1 H2 e2 r1 => h3 H2 (e1.trans e2) _ fun v2 H3 e3 r2 =>
    ⟨pd, pn, v0, v1, v2, x, y, z, rfl, dr.mono ((e1.trans e2).trans e3), Rp.mono (SF.of (e2.trans e3)) r0, Rp.mono (SF.of e3) r1, r2, hp, fun H' m d => hQ H' ((DM.of ((e1.trans e2).trans e3)).trans m) d⟩⟩
theorem len_st3 {pre : α → β → γ → Prop} : ∀ vs H Q E, st3 K pre vs H Q E → vs.length = 4 := fun vs H Q E h => by obtain ⟨_, _, _, _, _, _, _, _, rfl, _⟩ := h; rfl
theorem len_st2 {pre : α → β → Prop} : ∀ vs H Q E, st2 K pre vs H Q E → vs.length = 3 := fun vs H Q E h => by obtain ⟨_, _, _, _, _, _, rfl, _⟩ := h; rfl
theorem len_st1 {pre : α → Prop} : ∀ vs H Q E, st1 K pre vs H Q E → vs.length = 2 := fun vs H Q E h => by obtain ⟨_, _, _, _, rfl, _⟩ := h; rfl
end
end BL

set_option Elab.async false
set_option linter.all false
set_option maxRecDepth 100000
set_option maxHeartbeats 2000000
namespace BL
open PySem PySem.Spec PyProof.Rows L2
/-! ### a caught error that outlives its suite: told by its class alone -/
def ExT (cls : Value) (a : Addr) : HO := .ext fun h => ∃ (oe : Obj) (vs : Array Value), h.get? a = some oe ∧ Zc cls none oe ∧ oe.data = .fields vs
theorem exT_ok {P : Program} {w : World} {H : Hp} {h : Heap} {a : Addr} {cls : Value} {oe : Obj} (e : h.get? a = some oe) (z : Zc cls none oe) (d : ∃ vs, oe.data = .fields vs) : ObjOk P w H h a (ExT cls a) :=
  ⟨by obtain ⟨vs, d⟩ := d; exact ⟨oe, vs, e, z, d⟩, ⟨oe, e⟩, fun _ _ ⟨o, v, q1, q2, q3⟩ up => ⟨o, v, up o q1, q2, q3⟩⟩
section
variable {X : Cx} {pins : List (Addr × Obj)} {σ : L2.St} {H : Hp} {s : Shared}
/-- a pinned thing that is new since the entry is tracked from here on -/
theorem inv_track {a : Addr} {o : Obj} {u : HO} (I : Inv X ((a, o) :: pins) σ H s) (new0 : X.s_0.heap.get? a = none) (apart : ∀ p ∈ X.pn ++ pins, p.1 ≠ a) (ok : ObjOk X.prog X.w (upd H a u) s.heap a u) : Inv X pins σ (upd H a u) s := by
  have sub : ∀ p ∈ X.pn ++ pins, p ∈ X.pn ++ (a, o) :: pins := fun p hp => by
    rcases List.mem_append.mp hp with h | h
    · exact List.mem_append_left _ h
    · exact List.mem_append_right _ (List.mem_cons_of_mem _ h)
  obtain ⟨ea, na, nL, nF, nc⟩ := I.pin (a, o) (List.mem_append_right _ List.mem_cons_self)
  have cne : ∀ x c, X.env.cells.lookup x = some c → c ≠ a := fun x c e z => by
    obtain ⟨v, q, q1, q2⟩ := I.cell x c e
    rw [z, ea] at q1
    cases q1
    exact nc _ q2
  have B := I.base
  refine ⟨I.ok, I.os, I.bare, ⟨B.keep, B.slot, ?_, B.there, ?_, ?_, ?_⟩, I.loc, I.cell, ?_, ?_, ?_, I.hok.laidN (fun _ _ q => q) na ok, I.len⟩
  · intro b q e n hx
    rw [upd_ne (by rintro rfl; rw [new0] at e; cases e)]
    exact B.free b q e n hx
  · intro b xs e
    have q := B.tups b xs e
    rw [upd_ne (ne_of_none q na)]; exact q
  · intro b z v e
    have q := B.frzs b z v e
    rw [upd_ne (ne_of_none q na)]; exact q
  · intro b ps e
    obtain ⟨m, q⟩ := B.tbls b ps e
    exact ⟨m, by rw [upd_ne (ne_of_none q na)]; exact q⟩
  · rw [upd_ne nL.symm]; exact I.free
  · intro x c e
    rw [upd_ne (cne x c e)]; exact I.freeC x c e
  · intro p hp
    obtain ⟨q1, q2, q3⟩ := I.pin p (sub p hp)
    exact ⟨q1, by rw [upd_ne (apart p hp)]; exact q2, q3⟩
/-- the suite's pin is kept while the suite is left -/
theorem inv_leave {a : Addr} {o : Obj} {p' : List (Addr × Obj)} (I : Inv (X.suite a ((a, o) :: (X.pn ++ pins))) p' σ H s) (ok : X.Ok) : Inv X ((a, o) :: pins) σ H s :=
  { ok := ok, os := I.os, bare := I.bare, base := I.base, loc := I.loc, cell := I.cell, free := I.free, freeC := I.freeC, hok := I.hok, len := I.len
    pin := fun p hp => I.pin p (List.mem_append_left _ (by
      rcases List.mem_append.mp hp with h | h
      · exact List.mem_cons_of_mem _ (List.mem_append_left _ h)
      · rcases List.mem_cons.mp h with h | h
        · rw [h]; exact List.mem_cons_self
        · exact List.mem_cons_of_mem _ (List.mem_append_right _ h))) }
end
/-- what 'except x as n' wishes when the error stays known behind the suite; the clause names a class that every error here has -/
def wKept (K : Fg) (c : Value) (i : Nat) (ts : Addr → Value → TS) (D : Ends) : WX := fun cls d σ H =>
  d = none ∧ PySem.W.exmOne K cls c = some true ∧ ∀ a, H a = none → ts a cls { nx := fun σ' H' => H' a = none → D.nx (σ'.set i none) (upd H' a (ExT cls a)), rt := fun _ _ => False, bk := fun _ _ => False, ct := fun _ _ => False } (σ.set i (some (.ref a))) H
def tTryK (K : Fg) (c : Value) (i : Nat) (ts : Addr → Value → TS) (tb : WX → TS) : TS := fun D σ H => tb (wKept K c i ts D) D σ H
section
variable {X : Cx} {x n : Str} {c : Value} {i : Nat} {body suite : List Stmt} {b0 : Stmt} {np pos pos' : Pos} {tb : WX → TS} {ts : Addr → Value → TS}
theorem ps_try_kept (hst : X.stack = X.env :: X.outer) (hfl : X.env.frame = some X.env.locals) (hN : X.N.Nodup) (hi : X.N[i]? = some n) (hk : X.env.kindOf n = some .local) (hc : Names X x c) (hex : X.ex = [])
    (hb : ∀ (W : WX) (pn : List (Addr × Obj)) (xe : Value → Shared → Prop), Takes (X.tr pn xe) W → PassesOwn (model X.prog X.w) X.A X.env xe → PSs (X.tr pn xe) body (tb W))
    (hsu : ∀ (a : Addr) (oe : Obj) (cls : Value) (pn : List (Addr × Obj)), Zc cls none oe → PSs (X.suite a ((a, oe) :: pn)) (b0 :: suite) (ts a cls)) :
    PS X (.Try body [.ExceptHandler (some (.Name x np)) (some n) (b0 :: suite) pos'] [] [] pos) (tTryK X.K c i ts tb) := by
  constructor
  intro pins s σ H D I reading
  have OK := I.ok
  have around : X.A.frames = some (X.env :: X.outer) := OK.frames.trans (congrArg some hst)
  refine wpAny_Try_except (wpAny_mono (PSs.run (hb (wKept X.K c i ts D) (X.pn ++ pins) (fun e s1 => wpAny (model X.prog X.w) X.A (noteFrame e X.env)
      (fun _ s2 => wpAny (model X.prog X.w) X.A (setFlight e none) (fun _ s3 => wpAny (model X.prog X.w) X.A (handleBy e X.env [.ExceptHandler (some (.Name x np)) (some n) (b0 :: suite) pos'])
        (SP X pins D) X.xe s3) X.xe s2) X.xe s1) ?_ PassesOwn.looking) [] s σ H D (I.toTry _) reading) ?_ fun _ _ he => he)
  · rintro u s' ⟨a, B, g, pins', σ', H', cls, d, rfl, J', nb, up, sky, na, os, ag, hd0, hm, hsuite⟩
    subst hd0
    have J : Inv X pins σ' H' g := J'.ofTry OK
    show wpAny (model X.prog X.w) X.A (noteFrame (.ref a) X.env) _ _ _
    refine Sky.land Zc.steady around hfl (hst ▸ sky) fun h1 f1 u1 => ?_
    have J1 : Inv X pins σ' H' { s' with heap := h1 } := J.landed nb f1.1 (up.trans u1) os ag
    obtain ⟨o1, v1, e1, z1, d1⟩ := f1.there
    have away : a ∉ frs (X.env :: X.outer) := fun hm => by
      obtain ⟨_, o', q1, q2⟩ := f1.2.2.1.mem hm
      rw [e1] at q1
      cases q1
      exact q2 _ d1
    have nL : a ≠ X.env.locals := fun z => away (List.mem_filterMap.mpr ⟨_, List.mem_cons_self, hfl.trans (congrArg some z.symm)⟩)
    have nF : a ∉ X.fs := fun hm => by
      obtain ⟨q, q1, q2⟩ := List.mem_filterMap.mp hm
      exact away (List.mem_filterMap.mpr ⟨q, List.mem_cons_of_mem _ q1, q2⟩)
    have newG : g.heap.get? a = none := by
      cases q : g.heap.get? a with
      | none => rfl
      | some o => have := nb a o q (hst ▸ away); rw [f1.2.1] at this; cases this
    have new0 : X.s_0.heap.get? a = none := by
      cases q : X.s_0.heap.get? a with
      | none => rfl
      | some o =>
        obtain ⟨o', q'⟩ := J.base.there a o q (by rw [hex]; exact List.not_mem_nil)
        rw [newG] at q'; cases q'
    have apart : ∀ p ∈ X.pn ++ pins, p.1 ≠ a := fun p hp z => by
      have q := (J.pin p hp).1
      rw [z, newG] at q; cases q
    refine wpAny_handleBy_cons (codeAny_handlers_test ?_) (by intro q; cases q)
    have look : PySem.W.Looks (model X.prog X.w) h1 (typeOf (.ref a)) cls := fun A Q E s k q => wpAny_typeOf_ref (k _ _ e1) (by rw [z1.1]; exact q)
    have hit := PySem.W.exm_one (M := model X.prog X.w) J1.kIn look hm
    have S1 := J1.suite e1 d1 na nL nF
    have named : ∀ {Q : Value → Shared → Prop} {E : Value → Shared → Prop}, Q c { s' with heap := h1 } → wpAny (model X.prog X.w) (X.A.mark (some (.ref a))) (eval (.Name x np) X.env) Q E { s' with heap := h1 } := fun {Q E} q => by
      obtain ⟨g1, g2, g3 | ⟨g3, g4, g5⟩⟩ := hc
      · exact ld_glob (X := X.suite a ((a, o1) :: (X.pn ++ pins))) S1 g1 g3 q g2
      · exact ld_blt (X := X.suite a ((a, o1) :: (X.pn ++ pins))) S1 g1 g3 g4 q g5 g2
    refine named (hit.here (codeAny_handlers_suite_as ?_))
    refine HandSPX.lands_againZ f1 fun h2 f2 u2 => ?_
    obtain ⟨o2, v2, e2, z2, d2⟩ := f2.there
    have S2 := (J.landed nb f2.1 ((up.trans u1).trans u2) os ag : Inv X pins σ' H' { s' with heap := h2 }).suite e2 d2 na nL nF
    refine store_ok (X := X.suite a ((a, o2) :: (X.pn ++ pins))) (v := .ref a) S2 hN hi (.inl hk) rfl (fun s5 S5 => ?_) (.inr hk)
    refine wpAny_mono ((hsu a o2 cls (X.pn ++ pins) z2).run [] s5 _ H' _ S5 (hsuite a na)) (fun f s6 hsp => ?_) (fun _ _ z => z.elim)
    cases f with
    | next =>
      obtain ⟨σ6, H6, S6, q6⟩ := hsp
      have q7 := q6 (S6.pin (a, o2) (List.mem_append_left _ List.mem_cons_self)).2.1
      refine gone_ok (inv_leave S6 OK) hN hi hk fun s7 J7 => ⟨_, _, inv_track J7 new0 apart (exT_ok (J7.pin (a, o2) (List.mem_append_right _ List.mem_cons_self)).1 z2 ⟨_, d2⟩), q7⟩
    | brk => obtain ⟨_, _, _, q6⟩ := hsp; exact q6.elim
    | cont => obtain ⟨_, _, _, q6⟩ := hsp; exact q6.elim
    | ret u => obtain ⟨_, _, _, _, _, q6⟩ := hsp; exact q6.elim
  · intro f s1 hsp
    cases f with
    | next => obtain ⟨σ', H', J', q⟩ := hsp; exact wpAny_execs_nil ⟨σ', H', J'.ofTry OK, q⟩
    | brk => obtain ⟨σ', H', J', q⟩ := hsp; exact ⟨σ', H', J'.ofTry OK, q⟩
    | cont => obtain ⟨σ', H', J', q⟩ := hsp; exact ⟨σ', H', J'.ofTry OK, q⟩
    | ret u => obtain ⟨v, σ', H', J', r, q⟩ := hsp; exact ⟨v, σ', H', J'.ofTry OK, r, q⟩
end
/-! ### isinstance of an error that is held -/
def rIsX (K : Fg) : List V → Hp → VK → Prop := fun xs H Q => ∃ (a D : Addr) (c : V) (cv : Value) (b : Bool), xs = [.ref a, c] ∧ H a = some (ExT (.ref D) a) ∧ ExcC K D ∧ (∀ u, RelV c u → u = cv) ∧ PySem.W.kitOne K (.ref D) cv = some b ∧ Q (.bl b) H
theorem call_isX {X : Cx} : CallR X (.builtin "isinstance") (rIsX X.K) := by
  rintro pins s σ H xs us Q I r ⟨a, D, c, cv, b, rfl, ha, C, hcv, e, q⟩
  cases r with
  | cons r1 r2 =>
    cases r2 with
    | cons r3 r4 =>
      cases r4
      cases r1
      rw [hcv _ r3]
      obtain ⟨⟨oe, vs, h1, h2, h3⟩, _, _⟩ := I.hok a _ ha
      have J : PySem.W.InstAt s.heap a oe D none := by
        obtain ⟨oc, od, oda, osl⟩ := oe
        obtain ⟨z1, z2⟩ := h2
        dsimp only at z1 z2 h3
        subst z1 z2 h3
        exact ⟨h1, rfl, rfl, trivial⟩
      exact PySem.W.kia_one (PySem.W.handS_kitx_exc C.hg C.hk C.hs C.hd C.ha C.hn C.ht C.hm) I.kIn J e (fun z => nomatch z) fun tk => ⟨.bl b, H, I.kept (t' := tk) fun _ _ z => z, rfl, q⟩
/-! ### the program's errors, by their names -/
def errs : List Str := ["BadBounds", "BadNumber", "BadOrder", "BadText", "NotFound"]
def erC (K : Fg) (c : Str) : Value := .ref (He.ga K c)
def vmro : List Value := [.type "ValueError", .type "Exception", .type "BaseException", .type "object"]
structure ErrOk (K : Fg) (mg : Str → Option Value) (c : Str) : Prop where
  g : mg c = some (erC K c)
  x : PySem.W.excIn K (He.ga K c) vmro "ValueError.__new__" = true
  kp : PySem.W.keepIn K (erC K c) = true
  sb : PySem.W.subIn K (erC K c) (.type "BaseException") = some true
  tp : PySem.W.typeIn K (erC K c) = some (.type "type")
  ex : PySem.W.exmOne K (erC K c) (erC K "BoundError") = some true
  ec : ExcC K (He.ga K c)
  ks : ∀ d ∈ errs, PySem.W.kitOne K (erC K c) (erC K d) = some (decide (c = d))
  kb : PySem.W.kitOne K (erC K c) (erC K "BoundError") = some true
  kv : PySem.W.kitOne K (erC K c) (.type "ValueError") = some true
/-- the same, to be reckoned -/
def errB (K : Fg) (c : Str) : Bool := PySem.W.excIn K (He.ga K c) vmro "ValueError.__new__" && (PySem.W.keepIn K (erC K c) && (decide (PySem.W.subIn K (erC K c) (.type "BaseException") = some true) && (decide (PySem.W.typeIn K (erC K c) = some (.type "type")) &&
  (decide (PySem.W.exmOne K (erC K c) (erC K "BoundError") = some true) && (decide (PySem.W.findIn K (erC K c) "__getattribute__" = some (some (.builtin "BaseException.__getattribute__"))) && (decide (PySem.W.findIn K (erC K c) "__getattr__" = some none) && (PySem.W.hasDictIn K (He.ga K c) &&
  (decide (PySem.W.findIn K (erC K c) "__class__" = some (some (.builtin "object.__class__"))) && (decide (PySem.W.specialIn K (.builtin "object.__class__") "__get__" = some (some (.builtin "getset_descriptor.__get__"))) && (decide (PySem.W.takesIn K (.builtin "object.__class__") = some true) && (decide (PySem.W.mroIn K (He.ga K c) (.type "object") = some true) &&
  (errs.all (fun d => decide (PySem.W.kitOne K (erC K c) (erC K d) = some (decide (c = d)))) && (decide (PySem.W.kitOne K (erC K c) (erC K "BoundError") = some true) && decide (PySem.W.kitOne K (erC K c) (.type "ValueError") = some true))))))))))))))
theorem errB_ok {K : Fg} {mg : Str → Option Value} {c : Str} (g : mg c = some (erC K c)) (h : errB K c = true) : ErrOk K mg c := by
  unfold errB at h
  simp only [Bool.and_eq_true, decide_eq_true_eq, List.all_eq_true] at h
  obtain ⟨h1, h2, h3, h4, h5, h6, h7, h8, h9, h10, h11, h12, h13, h14, h15⟩ := h
  exact ⟨g, h1, h2, h3, h4, h5, ⟨h6, h7, h3, h8, h9, h10, h11, h12⟩, h13, h14, h15⟩
structure Errs (K : Fg) (mg : Str → Option Value) : Prop where
  e : ∀ c ∈ errs, ErrOk K mg c
  b : mg "BoundError" = some (erC K "BoundError")
/-- an error that is held, by its name -/
structure Xn where
  n : Str
  deriving DecidableEq
instance : Rp Xn := ⟨fun K H v x => ∃ a, v = .ref a ∧ H a = some (ExT (erC K x.n) a), fun {K H H' v x} e h => by
  obtain ⟨a, h1, h2⟩ := h; exact ⟨a, h1, e _ _ (.ext _) h2⟩⟩
instance : Nn Xn := ⟨fun h => by obtain ⟨_, rfl, _⟩ := h; exact V.noConfusion⟩
section
variable {K : Fg} {mg : Str → Option Value} {σ : L2.St} {H H' H1 : Hp} {ta tb tc te : TE} {tt : TT} {α β γ δ : Type} [Rp α] [Rp β] [Rp γ] [Rp δ] {x : α} {y : β} {z : γ} {v u : V} {i j : Int} {b : Bool} {W : WX}
/-! ### what may raise -/
def ExR (K : Fg) (W : WX) (te : TE) (σ : L2.St) (H : Hp) {α : Type} [Rp α] (r : Except Str α) : Prop := ∀ H1, Same H H1 → ∀ Q : VK,
  (∀ c, r = .error c → c ∈ errs → ∀ H2, Same H1 H2 → W (erC K c) none σ H2) → (∀ y, r = .ok y → ∀ v H2, Same H1 H2 → Rp.rep K H2 v y → Q v H2) → te σ H1 Q
def ExL (K : Fg) (W : WX) (te : TE) (σ : L2.St) (H : Hp) {α : Type} [Rp α] (r : Except Str (List α)) : Prop := ∀ H1, Same H H1 → ∀ Q : VK,
  (∀ c, r = .error c → c ∈ errs → ∀ H2, Same H1 H2 → W (erC K c) none σ H2) → (∀ y, r = .ok y → ∀ p vs H2, Same H1 H2 → H1 p = none → H2 p = some (.lst vs) → RL K H2 vs y → Q (.ref p) H2) → te σ H1 Q
def ansX (K : Fg) (r : Except Str β) (H : Hp) (Q : VK) (E : XK) : Prop := (∀ y, r = .ok y → ansV K y H Q) ∧ ∀ c, r = .error c → c ∈ errs → ∀ H', Same H H' → E (erC K c) none H'
def ansXL (K : Fg) (r : Except Str (List β)) (H : Hp) (Q : VK) (E : XK) : Prop := (∀ y, r = .ok y → ansL K y H Q) ∧ ∀ c, r = .error c → c ∈ errs → ∀ H', Same H H' → E (erC K c) none H'
def sx1 (K : Fg) (pre : α → Prop) (f : α → Except Str β) : Sp := fun vs H Q E => ∃ v x, vs = [v] ∧ Rp.rep K H v x ∧ pre x ∧ ansX K (f x) H Q E
def sx2 (K : Fg) (pre : α → β → Prop) (f : α → β → Except Str γ) : Sp := fun vs H Q E => ∃ v u x y, vs = [v, u] ∧ Rp.rep K H v x ∧ Rp.rep K H u y ∧ pre x y ∧ ansX K (f x y) H Q E
def sx3 (K : Fg) (pre : α → β → γ → Prop) (f : α → β → γ → Except Str δ) : Sp := fun vs H Q E => ∃ v u w x y z, vs = [v, u, w] ∧ Rp.rep K H v x ∧ Rp.rep K H u y ∧ Rp.rep K H w z ∧ pre x y z ∧ ansX K (f x y z) H Q E
def sxl1 (K : Fg) (pre : α → Prop) (f : α → Except Str (List β)) : Sp := fun vs H Q E => ∃ v x, vs = [v] ∧ Rp.rep K H v x ∧ pre x ∧ ansXL K (f x) H Q E
def sxl2 (K : Fg) (pre : α → β → Prop) (f : α → β → Except Str (List γ)) : Sp := fun vs H Q E => ∃ v u x y, vs = [v, u] ∧ Rp.rep K H v x ∧ Rp.rep K H u y ∧ pre x y ∧ ansXL K (f x y) H Q E
def sxl3 (K : Fg) (pre : α → β → γ → Prop) (f : α → β → γ → Except Str (List δ)) : Sp := fun vs H Q E => ∃ v u w x y z, vs = [v, u, w] ∧ Rp.rep K H v x ∧ Rp.rep K H u y ∧ Rp.rep K H w z ∧ pre x y z ∧ ansXL K (f x y z) H Q E
theorem ex_call1 {pre : α → Prop} {f : α → Except Str β} (h : Er K ta σ H x) (hp : pre x) : ExR K W (tCallS (sx1 K pre f) (WE W) (tCons ta tNil)) σ H (f x) := fun H1 e Q qe q =>
  h H1 e _ fun v H2 e2 r2 => ⟨v, x, rfl, r2, hp, fun y hy u H3 e3 r3 => q y hy u H3 (e2.trans e3) r3, fun c hc hm H3 e3 => qe c hc hm H3 (e2.trans e3)⟩
theorem ex_call2 {pre : α → β → Prop} {f : α → β → Except Str γ} (h : Er K ta σ H x) (h' : Er K tb σ H y) (hp : pre x y) : ExR K W (tCallS (sx2 K pre f) (WE W) (tCons ta (tCons tb tNil))) σ H (f x y) := fun H1 e Q qe q =>
  h H1 e _ fun v H2 e2 r2 => h' H2 (e.trans e2) _ fun u H3 e3 r3 => ⟨v, u, x, y, rfl, Rp.mono (SF.of e3) r2, r3, hp, fun y hy u H4 e4 r4 => q y hy u H4 ((e2.trans e3).trans e4) r4, fun c hc hm H4 e4 => qe c hc hm H4 ((e2.trans e3).trans e4)⟩
theorem ex_call3 {pre : α → β → γ → Prop} {f : α → β → γ → Except Str δ} (h : Er K ta σ H x) (h' : Er K tb σ H y) (h'' : Er K tc σ H z) (hp : pre x y z) : ExR K W (tCallS (sx3 K pre f) (WE W) (tCons ta (tCons tb (tCons tc tNil)))) σ H (f x y z) := fun H1 e Q qe q =>
  h H1 e _ fun v H2 e2 r2 => h' H2 (e.trans e2) _ fun u H3 e3 r3 => h'' H3 ((e.trans e2).trans e3) _ fun w H4 e4 r4 =>
    ⟨v, u, w, x, y, z, rfl, Rp.mono (SF.of (e3.trans e4)) r2, Rp.mono (SF.of e4) r3, r4, hp, fun y hy u H5 e5 r5 => q y hy u H5 (((e2.trans e3).trans e4).trans e5) r5, fun c hc hm H5 e5 => qe c hc hm H5 (((e2.trans e3).trans e4).trans e5)⟩
theorem exl_call1 {pre : α → Prop} {f : α → Except Str (List β)} (h : Er K ta σ H x) (hp : pre x) : ExL K W (tCallS (sxl1 K pre f) (WE W) (tCons ta tNil)) σ H (f x) := fun H1 e Q qe q =>
  h H1 e _ fun v H2 e2 r2 => ⟨v, x, rfl, r2, hp, fun y hy p us H3 e3 hn h3 r3 => q y hy p us H3 (e2.trans e3) (e2.free hn) h3 r3, fun c hc hm H3 e3 => qe c hc hm H3 (e2.trans e3)⟩
theorem exl_call2 {pre : α → β → Prop} {f : α → β → Except Str (List γ)} (h : Er K ta σ H x) (h' : Er K tb σ H y) (hp : pre x y) : ExL K W (tCallS (sxl2 K pre f) (WE W) (tCons ta (tCons tb tNil))) σ H (f x y) := fun H1 e Q qe q =>
  h H1 e _ fun v H2 e2 r2 => h' H2 (e.trans e2) _ fun u H3 e3 r3 => ⟨v, u, x, y, rfl, Rp.mono (SF.of e3) r2, r3, hp, fun y hy p us H4 e4 hn h4 r4 => q y hy p us H4 ((e2.trans e3).trans e4) ((e2.trans e3).free hn) h4 r4, fun c hc hm H4 e4 => qe c hc hm H4 ((e2.trans e3).trans e4)⟩
theorem exl_call3 {pre : α → β → γ → Prop} {f : α → β → γ → Except Str (List δ)} (h : Er K ta σ H x) (h' : Er K tb σ H y) (h'' : Er K tc σ H z) (hp : pre x y z) : ExL K W (tCallS (sxl3 K pre f) (WE W) (tCons ta (tCons tb (tCons tc tNil)))) σ H (f x y z) := fun H1 e Q qe q =>
  h H1 e _ fun v H2 e2 r2 => h' H2 (e.trans e2) _ fun u H3 e3 r3 => h'' H3 ((e.trans e2).trans e3) _ fun w H4 e4 r4 =>
    ⟨v, u, w, x, y, z, rfl, Rp.mono (SF.of (e3.trans e4)) r2, Rp.mono (SF.of e4) r3, r4, hp, fun y hy p us H5 e5 hn h5 r5 => q y hy p us H5 (((e2.trans e3).trans e4).trans e5) (((e2.trans e3).trans e4).free hn) h5 r5, fun c hc hm H5 e5 => qe c hc hm H5 (((e2.trans e3).trans e4).trans e5)⟩
/-- a list that came is locked -/
theorem ex_frz {r : Except Str (List α)} (h : ExL K W te σ H r) : ExR K W (tFrz te) σ H r := fun H1 e Q qe q => h H1 e _ qe fun y hy p vs H2 e2 hp h2 r =>
  ⟨p, vs, rfl, h2, fun od => q y hy (.ref p) _ (same_mut e2 hp) ⟨p, vs, rfl, ⟨od, upd_same⟩, r.mono (SF.lst h2)⟩⟩
/-- what never raises -/
theorem ex_of (h : Er K te σ H x) : ExR K W te σ H (.ok x) := fun H1 e Q _ q => h H1 e Q fun v H2 e2 r => q x rfl v H2 e2 r
theorem exl_of {l : List α} (h : ErL K te σ H l) : ExL K W te σ H (.ok l) := fun H1 e Q _ q => h H1 e Q fun p vs H2 e2 hn h2 r => q l rfl p vs H2 e2 hn h2 r
variable {D : Ends} {tz : TS}
theorem s_dropX {r : Except Str α} (h : ExR K W te σ H r) (hE : ∀ c, r = .error c → c ∈ errs → ∀ H1, Same H H1 → W (erC K c) none σ H1) (q : ∀ y H1, r = .ok y → Same H H1 → D.nx σ H1) : tDrop te D σ H := h H (Same.refl _) _ hE fun y hy _ H1 e _ => q y H1 hy e
theorem q_dropX {r : Except Str α} (h : ExR K W te σ H r) (hE : ∀ c, r = .error c → c ∈ errs → ∀ H1, Same H H1 → W (erC K c) none σ H1) (q : ∀ y H1, r = .ok y → Same H H1 → tz D σ H1) : tSeq (tDrop te) tz D σ H := s_dropX (D := { D with nx := tz D }) h hE q
theorem s_setX {k : Nat} {r : Except Str α} (h : ExR K W te σ H r) (hE : ∀ c, r = .error c → c ∈ errs → ∀ H1, Same H H1 → W (erC K c) none σ H1) (q : ∀ y v H1, r = .ok y → Same H H1 → Rp.rep K H1 v y → D.nx (σ.set k (some v)) H1) : tAsg te (gName k) D σ H := h H (Same.refl _) _ hE fun y hy v H1 e r => q y v H1 hy e r
theorem q_setX {k : Nat} {r : Except Str α} (h : ExR K W te σ H r) (hE : ∀ c, r = .error c → c ∈ errs → ∀ H1, Same H H1 → W (erC K c) none σ H1) (q : ∀ y v H1, r = .ok y → Same H H1 → Rp.rep K H1 v y → tz D (σ.set k (some v)) H1) : tSeq (tAsg te (gName k)) tz D σ H := s_setX (D := { D with nx := tz D }) h hE q
theorem s_retX {r : Except Str α} (h : ExR K W te σ H r) (hE : ∀ c, r = .error c → c ∈ errs → ∀ H1, Same H H1 → W (erC K c) none σ H1) (q : ∀ y v H1, r = .ok y → Same H H1 → Rp.rep K H1 v y → D.rt v H1) : tRet te D σ H := h H (Same.refl _) _ hE fun y hy v H1 e r => q y v H1 hy e r
theorem s_retXL {r : Except Str (List α)} (h : ExL K W te σ H r) (hE : ∀ c, r = .error c → c ∈ errs → ∀ H1, Same H H1 → W (erC K c) none σ H1) (q : ∀ y p vs H1, r = .ok y → Same H H1 → H p = none → H1 p = some (.lst vs) → RL K H1 vs y → D.rt (.ref p) H1) : tRet te D σ H := h H (Same.refl _) _ hE fun y hy p vs H1 e hn h1 r => q y p vs H1 hy e hn h1 r
/-! what a mirror of a def that may raise is made of -/
def bindX {α β : Type} (r : Except Str α) (k : α → Except Str β) : Except Str β := match r with
  | .ok y => k y
  | .error c => .error c
theorem bindX_ok {α β : Type} {r : Except Str α} {k : α → Except Str β} {y : α} (h : r = .ok y) : bindX r k = k y := by rw [h]; rfl
theorem bindX_err {α β : Type} {r : Except Str α} {k : α → Except Str β} {c : Str} (h : r = .error c) : bindX r k = .error c := by rw [h]; rfl
def elimX {α β : Type} (r : Except Str α) (e : Str → β) (k : α → β) : β := match r with
  | .ok y => k y
  | .error c => e c
theorem elimX_ok {α β : Type} {r : Except Str α} {e : Str → β} {k : α → β} {y : α} (h : r = .ok y) : elimX r e k = k y := by rw [h]; rfl
theorem elimX_err {α β : Type} {r : Except Str α} {e : Str → β} {k : α → β} {c : Str} (h : r = .error c) : elimX r e k = e c := by rw [h]; rfl
/-- raise C("..") -/
def tRaiseX (K : Fg) (c : Str) (W : WX) : TS := fun _ σ H => W (erC K c) none σ H
end
section
variable {X : Cx} {W : WX} (K : Fg) (h : X.K = K)
include h
theorem k_raise {c m : Str} {j : Nat} {p p2 pos pos' : Pos} (tk : Takes X W) (e : ErrOk K X.mg c) (hc : X.calm = true := by rfl) (hg : Gl X c := by rfl) (hdb : (c == ("__debug__" : Str)) = false := by decide) :
    PS X (.Raise (some (.Call (.Name c p) [.Constant (.str m) j p2] [] pos)) none pos') (tRaiseX K c W) := by
  subst h
  exact ps_raise hc tk (pmk_own PySem.F.excBase_ValueError e.x e.g e.kp (raises_own e.sb e.tp) hg hdb)
theorem k_isx : CallR X (.builtin "isinstance") (rIsX K) := by subst h; exact call_isX
end
section
variable {X : Cx} {W : WX} {k : Nat} {x : Str} {ps : List Str} {sp : Sp} {t : TA} {e : Expr} {es : List Expr} {p pos : Pos}
theorem pe_fnX (G : Ok X.prog X.w X.K X.mg X.base (L2.CX X.prog X.w) k x ps sp) (hr : Room k X.A) (tk : Takes X W) (ha : PA X (e :: es) t) (hg : Gl X x := by rfl) (hdb : (x == ("__debug__" : Str)) = false := by decide)
    (he : starEach (e :: es) X.env = (false, eval e X.env) :: starEach es X.env := by rfl) (hpl : (backTo pos (starEach es X.env)).any (·.1) = false := by rfl) : PE X (.Call (.Name x p) (e :: es) [] pos) (tCallS sp (WE W) t) := by
  obtain ⟨f, fd, h1, h2, h3, h4⟩ := G
  exact pe_callS h4 hr hg h1 h2 h3 (fun σ => passAt tk σ) ha hdb he hpl
end
section
variable {P : Program} {w : World} {K : Fg} {mg : Str → Option Value} {base : Heap}
theorem okx_of {x : Str} {st : Stmt} {N ps : List Str} {k : Nat} {sp : Sp} (F : Fd K mg x st) (S : FnScope N ps (defScope st))
    (hb : ∀ (kV doc pm : Value) (an : Option Addr) (cdv ct : Value) (us : List Value), us.length = ps.length → bindArgs (PySem.W.fnOf x x (defArgs st) (defBody st) (defScope st) .none kV doc pm an cdv ct) ⟨us, []⟩ = pure (ps.zip us))
    (len : ∀ vs H Q E, sp vs H Q E → vs.length = ps.length)
    (hbody : ∀ (f : Addr) (cdv : Value) (A : Around) (outer : List Env) (s : Shared) (H : Hp) (vs : List V) (Q : VK) (E : XK), Room k (A.deeper (envOfC x (defScope st) s.heap.objs.size f cdv)) → sp vs H Q E →
      ∃ t, PSs (cxOf (L2.CX P w) P w K mg base N x (defScope st) f cdv A outer s H E) (defBody st) t ∧ t { nx := fun _ H' => Q .non H', rt := Q } (start N vs) H) : Ok P w K mg base (L2.CX P w) (k + 1) x ps sp := by
  obtain ⟨f, fd, F, g⟩ := F
  exact ⟨f, fd, g, F.kp, F.bindsN hb, F.ok S len fun cdv A outer s H vs Q E hr h => hbody f cdv A outer s H vs Q E hr h⟩
/-- an error that leaves a def -/
theorem tkD {N : List Str} {x : Str} {sc : Scope} {f : Addr} {cdv : Value} {A : Around} {outer : List Env} {s : Shared} {H : Hp} {E : XK} : Takes (cxOf (L2.CX P w) P w K mg base N x sc f cdv A outer s H E) (fun cls d _ H => E cls d H) := takes_of rfl rfl rfl rfl
end
section
variable {K : Fg} {α β γ δ : Type} [Rp α] [Rp β] [Rp γ] [Rp δ]
theorem len_sx1 {pre : α → Prop} {f : α → Except Str β} : ∀ vs H Q E, sx1 K pre f vs H Q E → vs.length = 1 := fun vs H Q E h => by obtain ⟨_, _, rfl, _⟩ := h; rfl
theorem len_sx2 {pre : α → β → Prop} {f : α → β → Except Str γ} : ∀ vs H Q E, sx2 K pre f vs H Q E → vs.length = 2 := fun vs H Q E h => by obtain ⟨_, _, _, _, rfl, _⟩ := h; rfl
theorem len_sx3 {pre : α → β → γ → Prop} {f : α → β → γ → Except Str δ} : ∀ vs H Q E, sx3 K pre f vs H Q E → vs.length = 3 := fun vs H Q E h => by obtain ⟨_, _, _, _, _, _, rfl, _⟩ := h; rfl
theorem len_sxl1 {pre : α → Prop} {f : α → Except Str (List β)} : ∀ vs H Q E, sxl1 K pre f vs H Q E → vs.length = 1 := fun vs H Q E h => by obtain ⟨_, _, rfl, _⟩ := h; rfl
theorem len_sxl2 {pre : α → β → Prop} {f : α → β → Except Str (List γ)} : ∀ vs H Q E, sxl2 K pre f vs H Q E → vs.length = 2 := fun vs H Q E h => by obtain ⟨_, _, _, _, rfl, _⟩ := h; rfl
theorem len_sxl3 {pre : α → β → γ → Prop} {f : α → β → γ → Except Str (List δ)} : ∀ vs H Q E, sxl3 K pre f vs H Q E → vs.length = 3 := fun vs H Q E h => by obtain ⟨_, _, _, _, _, _, rfl, _⟩ := h; rfl
end
end BL

set_option Elab.async false
set_option linter.all false
set_option maxRecDepth 100000
set_option maxHeartbeats 2000000
namespace BL
open PySem PySem.Spec PyProof.Rows L2
/-! ### list.count of truth values -/
def rCntB (K : Fg) : V → List V → Hp → VK → Prop := fun x xs H Q => ∃ (p : Addr) (bs : List Bool) (k : Bool), x = .ref p ∧ xs = [.bl k] ∧ SqL K H p (bs.map V.bl) ∧ Q (.int (bs.count k : Nat)) H
theorem vals_bl : ∀ {bs : List Bool} {its : List Value}, Vals (bs.map V.bl) its → its = bs.map Value.bool
  | [], _, .nil => rfl
  | b :: bs, _, .cons h r => by rw [List.map_cons, ← vals_bl r, show _ = Value.bool b from h]
theorem countP_bl (k : Bool) : ∀ bs : List Bool, (bs.map Value.bool).countP (isBoolOf k) = bs.count k
  | [] => rfl
  | b :: bs => by
    rw [List.map_cons, List.countP_cons, List.count_cons, countP_bl k bs]
    rfl
theorem mt_countB {X : Cx} : MtR X "list.count" (rCntB X.K) := by
  rintro pins s σ H x xs v us Q I rx rxs ⟨p, bs, k, rfl, rfl, hs, q⟩
  cases rx
  obtain ⟨u, rfl, ru⟩ := rxs.one
  cases (show u = Value.bool k from ru)
  obtain ⟨its, rv, ⟨⟨cls, dd, data, sl⟩, n, ho, hc, hdn, hd⟩, hlen⟩ := I.list hs
  dsimp only at hc hd
  subst hc hd
  have e := vals_bl rv
  refine call_meets PySem.F.slot_list_count ⟨_, ho, rfl⟩ PySem.F.entry_list_count (PySem.F.args_list_count_2 _ _) (SeqAt.list_countAt p its.toArray n dd sl (.bool k) (isBoolOf k)) ⟨ho, fun y hy => ?_, ?_⟩
  · rw [e] at hy
    obtain ⟨b, _, rfl⟩ := List.mem_map.mp (show y ∈ bs.map Value.bool by simpa using hy)
    exact SeqAt.EqAt.bool_bool b k
  · refine ⟨.int (bs.count k : Nat), H, I.tok _, ⟨s.toks, ?_⟩, q⟩
    show Value.int ((its.toArray.toList.countP (isBoolOf k) : Nat) : Int) s.toks = _
    rw [show its.toArray.toList = its from rfl, e, countP_bl]
section
variable {K : Fg} {mg : Str → Option Value} {σ : L2.St} {H H' H1 : Hp} {ta tb tc te to : TE} {α β γ δ : Type} [Rp α] [Rp β] [Rp γ] [Rp δ] {x : α} {y : β} {z : γ} {v u : V} {i j : Int} {b : Bool}
/-! ### a list's method of one argument -/
theorem er_bm1 {r : V → List V → Hp → VK → Prop} {l : List α} {y : β} {z : γ} (ho : Er K to σ H l) (ha : Er K ta σ H y) (hr : ∀ H v u, Rp.rep K H v l → Rp.rep K H u y → ∀ Q : VK, (∀ w H', Same H H' → Rp.rep K H' w z → Q w H') → r v [u] H Q) :
    Er K (tBM K "list" r to (tCons ta tNil)) σ H z := fun H1 e Q q => ho H1 e _ fun v H2 e2 r2 => ⟨by obtain ⟨a, vs, rfl, f, _⟩ := r2; exact .inl ⟨rfl, vs, f.seq⟩, ha H2 (e.trans e2) _ fun u H3 e3 r3 => hr H3 v u (Rp.mono (SF.of e3) r2) r3 Q fun w H4 e4 r4 => q w H4 ((e2.trans e3).trans e4) r4⟩
theorem er_countB {l : List Bool} (ho : Er K to σ H l) (ha : Er K ta σ H b) : Er K (tBM K "list" (rCntB K) to (tCons ta tNil)) σ H (l.count b) := er_bm1 ho ha fun H v u r1 r2 Q q => by
  obtain ⟨a, vs, rfl, h2, h3⟩ := r1
  cases (show u = .bl b from r2)
  rw [rl_bools h3] at h2
  exact ⟨a, l, b, rfl, rfl, h2.seq, q _ H (Same.refl _) rfl⟩
theorem idx_lt {α : Type} [BEq α] [LawfulBEq α] {x : α} : ∀ {l : List α}, x ∈ l → l[l.idxOf x]? = some x ∧ ∀ m z, m < l.idxOf x → l[m]? = some z → z ≠ x
  | [], h => by cases h
  | y :: l, h => by
    by_cases e : y = x
    · subst e
      rw [List.idxOf_cons_self]
      exact ⟨rfl, fun m z hm => absurd hm (Nat.not_lt_zero m)⟩
    · have h2 : x ∈ l := by
        rcases List.mem_cons.mp h with q | q
        · exact absurd q.symm e
        · exact q
      obtain ⟨h3, h4⟩ := idx_lt h2
      rw [List.idxOf_cons, show (y == x) = false from by simpa using e, cond_false]
      refine ⟨h3, fun m z hm hz => ?_⟩
      cases m with
      | zero => cases hz; exact e
      | succ m => exact h4 m z (by omega) hz
theorem er_indexI {l : List Int} (ho : Er K to σ H l) (ha : Er K ta σ H i) (hm : i ∈ l) : Er K (tBM K "list" (rIndex K) to (tCons ta tNil)) σ H (l.idxOf i) := er_bm1 ho ha fun H v u r1 r2 Q q => by
  obtain ⟨a, vs, rfl, h2, h3⟩ := r1
  cases (show u = .int i from r2)
  rw [rl_ints h3] at h2
  obtain ⟨h4, h5⟩ := idx_lt hm
  refine ⟨a, _, .int i, l.idxOf i, .int i, rfl, rfl, h2.seq, rfl, flat_ints l, by rw [List.getElem?_map, h4]; rfl, by show (i == i) = true; simp, fun m z hz e => ?_, q _ H (Same.refl _) rfl⟩
  rw [List.getElem?_map] at e
  cases e2 : l[m]? with
  | none => rw [e2] at e; cases e
  | some k =>
    rw [e2] at e
    cases e
    show (k == i) = false
    simpa using h5 m k hz e2
theorem er_indexB {l : List Bool} (ho : Er K to σ H l) (ha : Er K ta σ H b) (hm : b ∈ l) : Er K (tBM K "list" (rIndex K) to (tCons ta tNil)) σ H (l.idxOf b) := er_bm1 ho ha fun H v u r1 r2 Q q => by
  obtain ⟨a, vs, rfl, h2, h3⟩ := r1
  cases (show u = .bl b from r2)
  rw [rl_bools h3] at h2
  obtain ⟨h4, h5⟩ := idx_lt hm
  refine ⟨a, _, .bl b, l.idxOf b, .bl b, rfl, rfl, h2.seq, rfl, flat_bls l, by rw [List.getElem?_map, h4]; rfl, by show (b == b) = true; simp, fun m z hz e => ?_, q _ H (Same.refl _) rfl⟩
  rw [List.getElem?_map] at e
  cases e2 : l[m]? with
  | none => rw [e2] at e; cases e
  | some k =>
    rw [e2] at e
    cases e
    show (k == b) = false
    simpa using h5 m k hz e2
/-! ### isinstance of a held error -/
theorem er_isX {x : Xn} {c : V} {cv : Value} (T : ErrOk K mg x.n) (h : Er K ta σ H x) (hv : ∀ u, RelV c u → u = cv) (hk : PySem.W.kitOne K (erC K x.n) cv = some b) : Er K (tCB (rIsX K) (tCons ta (tCons (tC c) tNil))) σ H b := fun H1 e Q q =>
  h H1 e _ fun v H2 e2 r2 => by
    obtain ⟨a, rfl, ha⟩ := r2
    exact ⟨a, He.ga K x.n, c, cv, b, rfl, ha, T.ec, hv, hk, q _ H2 e2 rfl⟩
theorem er_isE {x : Xn} {d : Str} (T : ErrOk K mg x.n) (hd : d ∈ errs) (h : Er K ta σ H x) : Er K (tCB (rIsX K) (tCons ta (tCons (tC (.ref (He.ga K d))) tNil))) σ H (decide (x.n = d)) := er_isX T h (fun _ r => r) (T.ks d hd)
theorem er_isBd {x : Xn} (T : ErrOk K mg x.n) (h : Er K ta σ H x) : Er K (tCB (rIsX K) (tCons ta (tCons (tC (.ref (He.ga K "BoundError"))) tNil))) σ H true := er_isX T h (fun _ r => r) T.kb
theorem er_isVE {x : Xn} (T : ErrOk K mg x.n) (h : Er K ta σ H x) : Er K (tCB (rIsX K) (tCons ta (tCons (tC (.ty "ValueError")) tNil))) σ H true := er_isX T h (fun _ r => r) T.kv
end
theorem rep_err {K : Fg} {H : Hp} {a : Addr} {c : Str} : Rp.rep K (upd H a (ExT (erC K c) a)) (.ref a) (some (Xn.mk c) : Option Xn) := ⟨nofun, a, rfl, upd_same⟩
theorem q_tryK {K : Fg} {c : Value} {i : Nat} {ts : Addr → Value → TS} {tb : WX → TS} {tz : TS} {D : Ends} {σ : L2.St} {H : Hp} (h : tb (wKept K c i ts { D with nx := tz D }) { D with nx := tz D } σ H) : tSeq (tTryK K c i ts tb) tz D σ H := h
theorem opt_some {α : Type} {o : Option α} {d : α} (h : o.isNone = false) : o = some (o.getD d) := by
  cases o with
  | none => cases h
  | some x => rfl
/-! ### one of two kinds -/
class Dj (α β : Type) [Rp α] [Rp β] [Rq α] [Rq β] : Prop where
  l : ∀ (x : α) (y : β), PyData.eqv (Rq.toD x) (Rq.toD y) = false
  r : ∀ (x : α) (y : β), PyData.eqv (Rq.toD y) (Rq.toD x) = false
instance {α β : Type} [Rp α] [Rp β] [Rq α] [Rq β] : Dj (α × β) Str := ⟨fun x y => by simp [Rq.toD, PyData.eqv], fun x y => by simp [Rq.toD, PyData.eqv]⟩
instance {α : Type} [Rp α] [Rq α] : Dj (List α) Str := ⟨fun x y => by simp [Rq.toD, PyData.eqv], fun x y => by simp [Rq.toD, PyData.eqv]⟩
instance : Dj Int Str := ⟨fun x y => by simp [Rq.toD, PyData.eqv], fun x y => by simp [Rq.toD, PyData.eqv]⟩
instance : Dj Nat Str := ⟨fun x y => by simp [Rq.toD, PyData.eqv], fun x y => by simp [Rq.toD, PyData.eqv]⟩
instance {α : Type} [Rp α] [Rq α] : Dj (List α) Int := ⟨fun x y => by simp [Rq.toD, PyData.eqv], fun x y => by simp [Rq.toD, PyData.eqv]⟩
instance {α β γ : Type} [Rp α] [Rp β] [Rp γ] [Rq α] [Rq β] [Rq γ] : Dj (α × β) (List γ) := ⟨fun x y => by simp [Rq.toD, PyData.eqv], fun x y => by simp [Rq.toD, PyData.eqv]⟩
instance {α β : Type} [Rp α] [Rp β] [Rq α] [Rq β] [Dj α β] : Rq (Sum α β) := ⟨fun s => match s with
    | .inl x => Rq.toD x
    | .inr y => Rq.toD y, fun {K H v s} h => by
    cases s with
    | inl x => exact Rq.dp (α := α) h
    | inr y => exact Rq.dp (α := β) h, fun s => match s with
    | .inl x => Rq.ok x
    | .inr y => Rq.ok y, max (Rq.dep α) (Rq.dep β), fun s h => by
    cases s with
    | inl x => exact Rq.lay x h
    | inr y => exact Rq.lay y h, fun s => by
    cases s with
    | inl x => exact Nat.le_trans (Rq.deep x) (Nat.le_max_left ..)
    | inr y => exact Nat.le_trans (Rq.deep y) (Nat.le_max_right ..), fun s t => by
    cases s with
    | inl x =>
      cases t with
      | inl y => simp [Rq.eqv]
      | inr y => simp [Dj.l]
    | inr x =>
      cases t with
      | inl y => simp [Dj.r]
      | inr y => simp [Rq.eqv]⟩
instance {α β : Type} [Rp α] [Rp β] [Rq α] [Rq β] [Rt α] [Rt β] [Dj α β] : Rt (Sum α β) := ⟨fun s => by
    cases s with
    | inl x => exact Rt.all (α := α) x
    | inr y => exact Rt.all (α := β) y⟩
section
variable {K : Fg} {σ : L2.St} {H : Hp} {ta tb te : TE} {tt : TT} {α β γ : Type} [Rp α] [Rp β] [Rp γ] {x : α} {y : β} {b : Bool}
theorem er_inl (h : Er K te σ H x) : Er K te σ H (Sum.inl x : Sum α β) := fun H1 e Q q => h H1 e Q fun v H2 e2 r => q v H2 e2 r
theorem er_inr (h : Er K te σ H y) : Er K te σ H (Sum.inr y : Sum α β) := fun H1 e Q q => h H1 e Q fun v H2 e2 r => q v H2 e2 r
end
section
variable {X : Cx} (K : Fg) (h : X.K = K)
include h
theorem k_bm1 {T : String} {id : String} {name : Str} {r : V → List V → Hp → VK → Prop} {o e : Expr} {to te : TE} {apos cpos : Pos} (pa : PlainAttrs T) (slot : Slot T name id) (hty : typeOf (.builtin id) = pure (.type "method_descriptor")) (hm : MtR X id r) (ho : PE X o to) (he : PE X e te)
    (hbase : attributeBase o name X.env (eval o X.env) = eval o X.env := by rfl)
    (hfew : ((backTo cpos (starEach [e] X.env)).all (fun x => !x.1) && (backToKw cpos (keywordEach [] X.env)).all (fun x => x.1.isSome)
      && decide ([e].length + ([] : List Keyword).length + (if ([] : List Keyword).isEmpty then 0 else 1) < 30)) = true := by rfl)
    (hline : (apos.endLine == cpos.line) = true := by rfl) (hs : starEach [e] X.env = (false, eval e X.env) :: starEach [] X.env := by rfl) (hplain : (backTo cpos (starEach [] X.env)).any (·.1) = false := by rfl) :
    PE X (.Call (.Attribute o name apos) [e] [] cpos) (tBM K T r to (tCons te tNil)) := by
  subst h; exact pe_bm pa slot hty hm ho (pa_cons he pa_nil hs) hbase hfew hline hs hplain
theorem k_countB : MtR X "list.count" (rCntB K) := by subst h; exact mt_countB
theorem k_index : MtR X "list.index" (rIndex K) := by subst h; exact mt_index
end
end BL

set_option Elab.async false
set_option linter.all false
set_option maxRecDepth 100000
set_option maxHeartbeats 2000000
namespace BL
open PySem PySem.Spec PyProof.Rows L2
section
variable {K : Fg} {σ : L2.St} {H H' H1 : Hp} {pd pn : Addr} {ta tb tc te : TE} {tt : TT} {α β γ δ : Type} [Rp α] [Rp β] [Rp γ] [Rp δ] {x : α} {y : β} {v u : V} {i j : Int} {b : Bool} {wi : TI} {g : TG} {D : Ends} {tu tz : TS}
/-! ### what is walked is drawn -/
def SrcP (K : Fg) (pd pn : Addr) (wi : TI) (σ : L2.St) (H : Hp) {α : Type} [Rp α] (P : List α → Prop) : Prop := ∀ H1, DM pd pn H H1 → Dr H1 pd pn → ∀ RR : It → Hp → Prop,
  (∀ (l : List α) (J : It) (H2 : Hp) (G : Hp → Prop) (Y : Nat → Hp → V → Hp → Prop), P l → DM pd pn H1 H2 → Dr H2 pd pn → Walk J l.length G Y → (∀ H', SF H2 H' → G H') →
    (∀ i x, l[i]? = some x → ∀ H', SF H2 H' → ∀ v H'', Y i H' v H'' → Same H' H'' ∧ Rp.rep K H'' v x) → RR J H2) → wi σ H1 RR
theorem srcP_range1 {P : Int → Prop} (h : Ep K pd pn te σ H P) (hz : ∀ x, P x → -1000000 ≤ x ∧ x ≤ 1000000) : SrcP K pd pn (iRng1 (tCons te tNil)) σ H (fun l : List Nat => ∃ x : Int, P x ∧ l = List.range x.toNat) := fun H1 m dr RR k => h H1 m dr _ fun v H2 x m2 d2 hx r => by
  cases (show v = .int x from r)
  have hz := hz x hx
  refine ⟨x, rfl, by omega, by omega, k _ _ H2 (fun _ => True) (YFn fun j => .int (0 + j)) ⟨x, hx, rfl⟩ m2 d2 ?_ (fun _ _ => trivial) fun j y hy H' s v H'' z => ?_⟩
  · rw [List.length_range]; exact walk_range
  · obtain ⟨rfl, rfl⟩ := z
    have hj : j < x.toNat := by
      have := (List.getElem?_eq_some_iff.mp hy).1
      rwa [List.length_range] at this
    rw [List.getElem?_range hj] at hy
    cases hy
    exact ⟨Same.refl _, by show V.int _ = V.int _; rw [Int.zero_add]⟩
theorem s_forP {P : List α → Prop} (hs : SrcP K pd pn wi σ H P) (dr : Dr H pd pn) (Pv : List α → Hp → Nat → L2.St → Hp → Prop) (h0 : ∀ l H1, P l → DM pd pn H H1 → Dr H1 pd pn → Pv l H1 0 σ H1) (hf : ∀ l H1 k σ' H', Pv l H1 k σ' H' → SF H1 H')
    (turn : ∀ l H1 k x σ' H' v H'', P l → DM pd pn H H1 → Dr H1 pd pn → l[k]? = some x → Pv l H1 k σ' H' → Same H' H'' → Rp.rep K H'' v x → g v σ' H'' fun σ2 H2 => tu { D with nx := Pv l H1 (k + 1), ct := Pv l H1 (k + 1), bk := D.nx } σ2 H2)
    (hd : ∀ l H1 σ' H', P l → DM pd pn H H1 → Dr H1 pd pn → Pv l H1 l.length σ' H' → D.nx σ' H') : tFor wi g tu D σ H := hs H (DM.refl _) dr _ fun l J H2 G Y hl m2 d2 w hG hY =>
  for_it w (Pv l H2) (h0 l H2 hl m2 d2) (fun k σ' H' _ p => hG H' (hf _ _ _ _ _ p)) (fun k v σ' H' H'' hk p y => by
    obtain ⟨x, hx⟩ : ∃ x, l[k]? = some x := ⟨l[k], List.getElem?_eq_getElem hk⟩
    obtain ⟨s, r⟩ := hY k x hx H' (hf _ _ _ _ _ p) v H'' y
    exact turn l H2 k x σ' H' v H'' hl m2 d2 hx p s r) fun σ' H' p => hd l H2 σ' H' hl m2 d2 p
theorem q_forP {P : List α → Prop} (hs : SrcP K pd pn wi σ H P) (dr : Dr H pd pn) (Pv : List α → Hp → Nat → L2.St → Hp → Prop) (h0 : ∀ l H1, P l → DM pd pn H H1 → Dr H1 pd pn → Pv l H1 0 σ H1) (hf : ∀ l H1 k σ' H', Pv l H1 k σ' H' → SF H1 H')
    (turn : ∀ l H1 k x σ' H' v H'', P l → DM pd pn H H1 → Dr H1 pd pn → l[k]? = some x → Pv l H1 k σ' H' → Same H' H'' → Rp.rep K H'' v x → g v σ' H'' fun σ2 H2 => tu { D with nx := Pv l H1 (k + 1), ct := Pv l H1 (k + 1), bk := tz D } σ2 H2)
    (hd : ∀ l H1 σ' H', P l → DM pd pn H H1 → Dr H1 pd pn → Pv l H1 l.length σ' H' → tz D σ' H') : tSeq (tFor wi g tu) tz D σ H := s_forP (D := { D with nx := tz D }) hs dr Pv h0 hf turn hd
theorem ep_if {P P' : α → Prop} (h : ∀ H1, DM pd pn H H1 → Et K tt σ H1 b) (h1 : b = true → Ep K pd pn ta σ H P) (h2 : b = false → Ep K pd pn tb σ H P') : Ep K pd pn (tIf tt ta tb) σ H (fun x => (b = true ∧ P x) ∨ (b = false ∧ P' x)) := fun H1 m dr Q q => h H1 m H1 (Same.refl _) _ fun H2 e2 => by
  cases b with
  | true => exact iteT (h1 rfl H2 (m.trans (DM.of e2)) (dr.mono e2) Q fun v H3 x m3 d3 hx r => q v H3 x ((DM.of e2).trans m3) d3 (.inl ⟨rfl, hx⟩) r)
  | false => exact iteF (h2 rfl H2 (m.trans (DM.of e2)) (dr.mono e2) Q fun v H3 x m3 d3 hx r => q v H3 x ((DM.of e2).trans m3) d3 (.inr ⟨rfl, hx⟩) r)
/-- a drawn thing is appended -/
theorem q_appPM {k : Nat} {p : Addr} {l : List α} {P : α → Prop} (dr : Dr H pd pn) (hσ : σ[k]? = some (some (.ref p))) (hu : Un K H p l) (n1 : p ≠ pd) (n2 : p ≠ pn) (h : Ep K pd pn te σ H P) (hz : l.length < 1000000)
    (q : ∀ H2 x, Mus [pd, pn, p] H H2 → Dr H2 pd pn → P x → Un K H2 p (l ++ [x]) → tz D σ H2) : tSeq (tDrop (tBM K "list" rAppend (tVar k) (tCons te tNil))) tz D σ H := by
  obtain ⟨vs, hp, r⟩ := hu
  refine ⟨.ref p, hσ, Or.inl ⟨rfl, vs, sq_lst hp⟩, ?_⟩
  refine h H (DM.refl _) dr _ fun v H2 x m2 d2 hx r2 => ⟨p, vs, v, rfl, rfl, m2.ne _ _ n1 n2 hp, ?_, q _ x ⟨m2.sf.trans (SF.lst (m2.ne _ _ n1 n2 hp)), fun q o nq e => ?_⟩ ?_ hx ⟨_, upd_same, RL.mono (SF.lst (m2.ne _ _ n1 n2 hp)) (paired_app (r.mono m2.sf) (.cons r2 .nil))⟩⟩
  · rw [paired_len r]; exact Nat.lt_of_lt_of_le hz (by decide)
  · simp only [List.mem_cons, List.mem_nil_iff, or_false, not_or] at nq
    rw [upd_ne nq.2.2]
    exact m2.ne q o nq.1 nq.2.1 e
  · obtain ⟨ns, k, g1, g2, g3⟩ := d2
    exact ⟨ns, k, upd_get g1 n1.symm, upd_get g2 n2.symm, g3⟩
theorem er_ixUI {k n : Nat} {p : Addr} {l : List α} {x : α} (hσ : σ[k]? = some (some (.ref p))) (hu : Un K H p l) (hi : Er K tb σ H i) (hn : i = (n : Int)) (hx : l[n]? = some x) : Er K (tOp (rIxL K) (tVar k) tb) σ H x := er_ixU hσ hu (hi.to hn) hx
/-! ### x *= e -/
def ipM : TIp := fun x y H Q => ∃ i j, x = .int i ∧ y = .int j ∧ CMul i j ∧ Q (.int (i * j)) H
theorem ip_mulC {X : Cx} : PIp X .Mult ipM := fun pins s σ H x y v u Q I r1 r2 h => iop_mul pins s σ H x y v u Q I r1 r2 h
theorem q_mulI {k : Nat} (hσ : σ[k]? = some (some v)) (r : Rp.rep K H v i) (h : Er K te σ H j) (hm : CMul i j) (q : ∀ w H1, Same H H1 → Rp.rep K H1 w (i * j) → tz D (σ.set k (some w)) H1) : tSeq (tAug k te ipM) tz D σ H := by
  cases (show v = .int i from r)
  exact ⟨.int i, hσ, h H (Same.refl _) _ fun w H1 e r => ⟨i, j, rfl, r, hm, q _ H1 e rfl⟩⟩
section
variable {ε : Type} [Rp ε] {z : γ} {w : δ} {td : TE}
def sl4 (K : Fg) (pre : α → β → γ → δ → Prop) (f : α → β → γ → δ → List ε) : Sp := fun vs H Q _ => ∃ v0 v1 v2 v3 x0 x1 x2 x3, vs = [v0, v1, v2, v3] ∧ Rp.rep K H v0 x0 ∧ Rp.rep K H v1 x1 ∧ Rp.rep K H v2 x2 ∧ Rp.rep K H v3 x3 ∧ pre x0 x1 x2 x3 ∧ ansL K (f x0 x1 x2 x3) H Q
theorem erl_call4 {pre : α → β → γ → δ → Prop} {f : α → β → γ → δ → List ε} {E : XK} (h0 : Er K ta σ H x) (h1 : Er K tb σ H y) (h2 : Er K tc σ H z) (h3 : Er K td σ H w) (hp : pre x y z w) : ErL K (tCall (sl4 K pre f) [] E (tCons ta (tCons tb (tCons tc (tCons td tNil))))) σ H (f x y z w) := fun H1 e Q q =>
  h0 H1 e _ fun v0 H2 e2 r0 => h1 H2 (e.trans e2) _ fun v1 H3 e3 r1 => h2 H3 ((e.trans e2).trans e3) _ fun v2 H4 e4 r2 => h3 H4 (((e.trans e2).trans e3).trans e4) _ fun v3 H5 e5 r3 =>
    ⟨v0, v1, v2, v3, x, y, z, w, rfl, Rp.mono (SF.of ((e3.trans e4).trans e5)) r0, Rp.mono (SF.of (e4.trans e5)) r1, Rp.mono (SF.of e5) r2, r3, hp, fun p us H6 e6 hn h6 r6 => q p us H6 ((((e2.trans e3).trans e4).trans e5).trans e6) ((((e2.trans e3).trans e4).trans e5).free hn) h6 r6⟩
theorem len_sl4 {pre : α → β → γ → δ → Prop} {f : α → β → γ → δ → List ε} : ∀ vs H Q E, sl4 K pre f vs H Q E → vs.length = 4 := fun vs H Q E h => by obtain ⟨_, _, _, _, _, _, _, _, rfl, _⟩ := h; rfl
end
/-! ### the left one of two kinds -/
def sumL {α β : Type} (d : α) : Sum α β → α
  | .inl x => x
  | .inr _ => d
theorem er_getL {s : Sum α β} {d : α} (h : Er K te σ H s) (hs : s = Sum.inl (sumL d s)) : Er K te σ H (sumL d s) := fun H1 e Q q => h H1 e Q fun v H2 e2 r => q v H2 e2 (by rw [hs] at r; exact r)
end
end BL

set_option Elab.async false
set_option linter.all false
set_option maxRecDepth 100000
set_option maxHeartbeats 2000000
namespace BL
open PySem PySem.Spec PyProof.Rows L2
/-! ### the mathematics that all laws share -/
/-- bounds as they are asked -/
def BOk (b : List (Int × Int)) : Prop := 1 ≤ b.length ∧ b.length ≤ 7 ∧ ∀ p ∈ b, -50 ≤ p.1 ∧ p.1 ≤ p.2 ∧ p.2 ≤ 50
theorem getD_at {α : Type} {l : List α} {n : Nat} {d : α} (h : n < l.length) : l[n]? = some (l.getD n d) := by
  rw [List.getElem?_eq_getElem h, List.getD_eq_getElem?_getD, List.getElem?_eq_getElem h]; rfl
/-- what the laws draw: few values with few choices -/
def SmallP (n : Int) (b : List (Int × Int)) : Prop := 1 ≤ b.length ∧ (b.length : Int) ≤ n ∧ ∀ t ∈ b, -4 ≤ t.1 ∧ t.1 < 4 ∧ t.1 ≤ t.2 ∧ t.2 < t.1 + 4
theorem iabs_nat (i : Int) : iabs i = (i.natAbs : Int) := by unfold iabs; split <;> omega
def gcdI (a b : Int) : Int := (Int.gcd a b : Int)
/-- a fraction in lowest terms -/
def frI (a b : Int) : Int × Int := (a / gcdI a b, b / gcdI a b)
theorem gcdI_pos {a b : Int} (h : 0 < b) : 0 < gcdI a b := by
  unfold gcdI
  have := Int.gcd_pos_of_ne_zero_right a (show b ≠ 0 by omega)
  omega
theorem gcdI_le {a b : Int} (h : 0 < b) : gcdI a b ≤ b := by
  unfold gcdI
  have h1 : Int.gcd a b ∣ b.natAbs := Nat.gcd_dvd_right _ _
  have := Nat.le_of_dvd (by omega) h1
  omega
theorem gcd_turn {a b : Nat} (h : b ≠ 0) : Nat.gcd b (a % b) = Nat.gcd a b := by
  rw [Nat.gcd_comm a b, Nat.gcd_rec b a, Nat.gcd_comm (a % b) b]
theorem nat_mod_int (a b : Nat) : ((a : Int) % (b : Int)) = ((a % b : Nat) : Int) := by omega
def BndP (n : Int) (b : List (Int × Int)) : Prop := 1 ≤ b.length ∧ (b.length : Int) ≤ n ∧ ∀ t ∈ b, -30 ≤ t.1 ∧ t.1 < 30 ∧ t.1 ≤ t.2 ∧ t.2 < t.1 + 20
theorem bnd_bok {n : Int} {b : List (Int × Int)} (h : BndP n b) (hn : n ≤ 7) : BOk b := ⟨h.1, by have := h.2.1; omega, fun p hp => by have := h.2.2 p hp; omega⟩
theorem ord_of {b : List (Int × Int)} (h : BOk b) : ∀ p ∈ b, p.1 ≤ p.2 := fun p hp => (h.2.2 p hp).2.1
/-! ### lists below one another, place by place -/
def leL : List Int → List Int → Prop
  | [], [] => True
  | x :: l, y :: r => x ≤ y ∧ leL l r
  | _, _ => False
theorem leL_refl : ∀ l : List Int, leL l l
  | [] => trivial
  | _ :: l => ⟨Int.le_refl _, leL_refl l⟩
theorem leL_len : ∀ {l r : List Int}, leL l r → l.length = r.length
  | [], [], _ => rfl
  | _ :: l, _ :: r, h => by rw [List.length_cons, List.length_cons, leL_len h.2]
  | [], _ :: _, h => h.elim
  | _ :: _, [], h => h.elim
theorem leL_trans : ∀ {l r s : List Int}, leL l r → leL r s → leL l s
  | [], [], [], _, _ => trivial
  | _ :: _, _ :: _, _ :: _, h, k => ⟨Int.le_trans h.1 k.1, leL_trans h.2 k.2⟩
  | [], _ :: _, _, h, _ => h.elim
  | _ :: _, [], _, h, _ => h.elim
  | [], [], _ :: _, _, h => h.elim
  | _ :: _, _ :: _, [], _, h => h.elim
theorem leL_sum : ∀ {l r : List Int}, leL l r → l.sum ≤ r.sum
  | [], [], _ => Int.le_refl _
  | _ :: l, _ :: r, h => by rw [List.sum_cons, List.sum_cons]; have := leL_sum h.2; have := h.1; omega
  | [], _ :: _, h => h.elim
  | _ :: _, [], h => h.elim
theorem leL_getD : ∀ {l r : List Int} (n : Nat), leL l r → l.getD n 0 ≤ r.getD n 0
  | [], [], _, _ => Int.le_refl _
  | _ :: _, _ :: _, 0, h => h.1
  | _ :: l, _ :: r, n + 1, h => by
    rw [List.getD_cons_succ, List.getD_cons_succ]; exact leL_getD n h.2
  | [], _ :: _, _, h => h.elim
  | _ :: _, [], _, h => h.elim
theorem ins_head {x : Int} {l : List Int} (h : (x :: l).Pairwise (· ≤ ·)) : ins x l = x :: l := by
  cases l with
  | nil => rfl
  | cons y r =>
    unfold ins
    rw [if_pos ((List.pairwise_cons.mp h).1 y (List.mem_cons_self ..))]
theorem leL_ins : ∀ {l r : List Int} {x y : Int}, l.Pairwise (· ≤ ·) → r.Pairwise (· ≤ ·) → leL l r → x ≤ y → leL (ins x l) (ins y r)
  | [], [], x, y, _, _, _, h => ⟨h, trivial⟩
  | a :: l, b :: r, x, y, hl, hr, hlr, h => by
    obtain ⟨h1, h2⟩ := hlr
    have hl2 := (List.pairwise_cons.mp hl).2
    have hr2 := (List.pairwise_cons.mp hr).2
    unfold ins
    by_cases c1 : x ≤ a
    · rw [if_pos c1]
      by_cases c2 : y ≤ b
      · rw [if_pos c2]; exact ⟨h, h1, h2⟩
      · rw [if_neg c2]
        refine ⟨by omega, ?_⟩
        rw [← ins_head hl]
        exact leL_ins hl2 hr2 h2 (by omega)
    · rw [if_neg c1]
      by_cases c2 : y ≤ b
      · rw [if_pos c2]
        refine ⟨by omega, ?_⟩
        rw [← ins_head hr]
        exact leL_ins hl2 hr2 h2 (by omega)
      · rw [if_neg c2]
        exact ⟨h1, leL_ins hl2 hr2 h2 h⟩
  | [], _ :: _, _, _, _, _, h, _ => h.elim
  | _ :: _, [], _, _, _, _, h, _ => h.elim
theorem leL_srt : ∀ {l r : List Int}, leL l r → leL (srt l) (srt r)
  | [], [], _ => trivial
  | _ :: l, _ :: r, h => leL_ins (srt_sorted l) (srt_sorted r) (leL_srt h.2) h.1
  | [], _ :: _, h => h.elim
  | _ :: _, [], h => h.elim
theorem leL_above (c : Int) : ∀ {l r : List Int}, leL l r → (l.filter fun v => decide (v > c)).length ≤ (r.filter fun v => decide (v > c)).length
  | [], [], _ => Nat.le_refl _
  | x :: l, y :: r, h => by
    have ih := leL_above c h.2
    have h1 := h.1
    rw [List.filter_cons, List.filter_cons]
    by_cases c1 : x > c
    · rw [if_pos (decide_eq_true c1), if_pos (decide_eq_true (show y > c by omega)), List.length_cons, List.length_cons]; omega
    · rw [if_neg (by simp; omega)]
      split
      · rw [List.length_cons]; omega
      · exact ih
  | [], _ :: _, h => h.elim
  | _ :: _, [], h => h.elim
theorem srt_zero {l : List Int} (h : l ≠ []) : (srt l).getD 0 0 = mnl l := by
  have hl : 0 < (srt l).length := by rw [srt_len]; exact List.length_pos_iff.mpr h
  refine mnl_eq ?_ fun y hy => ?_
  · refine (srt_perm l).mem_iff.mp ?_
    cases e : srt l with
    | nil => rw [e] at hl; cases hl
    | cons x r => exact List.mem_cons_self ..
  · have hs := srt_sorted l
    have hy := (srt_perm l).mem_iff.mpr hy
    cases e : srt l with
    | nil => rw [e] at hl; cases hl
    | cons x r =>
      rw [e] at hs hy
      rcases List.mem_cons.mp hy with q | q
      · subst q; exact Int.le_refl _
      · exact (List.pairwise_cons.mp hs).1 y q
theorem sorted_last : ∀ {l : List Int}, l.Pairwise (· ≤ ·) → ∀ y ∈ l, y ≤ l.getD (l.length - 1) 0
  | [x], _, y, h => by rw [List.mem_singleton.mp h]; exact Int.le_refl _
  | x :: z :: r, hs, y, h => by
    have h2 := (List.pairwise_cons.mp hs).2
    have e : (x :: z :: r).getD ((x :: z :: r).length - 1) 0 = (z :: r).getD ((z :: r).length - 1) 0 := by simp [List.getD_cons_succ]
    rw [e]
    rcases List.mem_cons.mp h with q | q
    · subst q
      exact Int.le_trans ((List.pairwise_cons.mp hs).1 z (List.mem_cons_self ..)) (sorted_last h2 z (List.mem_cons_self ..))
    · exact sorted_last h2 y q
theorem getD_mem {l : List Int} {n : Nat} (h : n < l.length) : l.getD n 0 ∈ l := List.mem_of_getElem? (getD_at h)
theorem srt_last {l : List Int} (h : l ≠ []) : (srt l).getD (l.length - 1) 0 = mxl l := by
  have hl : 0 < (srt l).length := by rw [srt_len]; exact List.length_pos_iff.mpr h
  refine mxl_eq ?_ fun y hy => ?_
  · exact (srt_perm l).mem_iff.mp (getD_mem (by rw [srt_len] at hl ⊢; omega))
  · have := sorted_last (srt_sorted l) y ((srt_perm l).mem_iff.mpr hy)
    rw [srt_len] at this
    exact this
/-! ### fractions in lowest terms, compared -/
theorem frI_spec {x n : Int} (h : 0 < n) : ∃ g, 0 < g ∧ x = (frI x n).1 * g ∧ n = (frI x n).2 * g ∧ 0 < (frI x n).2 := by
  have hg := gcdI_pos (a := x) h
  have d1 : gcdI x n ∣ x := Int.gcd_dvd_left ..
  have d2 : gcdI x n ∣ n := Int.gcd_dvd_right ..
  refine ⟨gcdI x n, hg, (Int.ediv_mul_cancel d1).symm, (Int.ediv_mul_cancel d2).symm, ?_⟩
  exact Int.ediv_pos_of_pos_of_dvd h (Int.le_of_lt hg) d2
theorem frI_le {x n : Int} (h : 0 < n) : 0 < (frI x n).2 ∧ (frI x n).2 ≤ n := by
  obtain ⟨g, h1, h2, h3, h4⟩ := frI_spec (x := x) h
  refine ⟨h4, ?_⟩
  have : (frI x n).2 * 1 ≤ (frI x n).2 * g := Int.mul_le_mul_of_nonneg_left (by omega) (by omega)
  omega
/-- a fraction a / b below another, as their whole numbers tell -/
theorem frI_lt {x y n m : Int} (hn : 0 < n) (hm : 0 < m) : (frI x n).1 * (frI y m).2 < (frI y m).1 * (frI x n).2 ↔ x * m < y * n := by
  obtain ⟨g, g1, g2, g3, g4⟩ := frI_spec (x := x) hn
  obtain ⟨k, k1, k2, k3, k4⟩ := frI_spec (x := y) hm
  have e1 : x * m = (frI x n).1 * (frI y m).2 * (g * k) := by
    calc x * m = ((frI x n).1 * g) * ((frI y m).2 * k) := by rw [← g2, ← k3]
      _ = _ := by simp only [Int.mul_assoc, Int.mul_left_comm, Int.mul_comm]
  have e2 : y * n = (frI y m).1 * (frI x n).2 * (g * k) := by
    calc y * n = ((frI y m).1 * k) * ((frI x n).2 * g) := by rw [← k2, ← g3]
      _ = _ := by simp only [Int.mul_assoc, Int.mul_left_comm, Int.mul_comm]
  rw [e1, e2]
  have hp : 0 < g * k := Int.mul_pos g1 k1
  exact ⟨fun h => Int.mul_lt_mul_of_pos_right h hp, fun h => Int.lt_of_mul_lt_mul_right h (Int.le_of_lt hp)⟩
/-! ### all choices of integers, one after another -/
def rowExt (p : Int × Int) (r : List Int) : List (List Int) := (rgI p.1 (p.2 + 1 - p.1).toNat).map fun v => r ++ [v]
def rowsFrom (acc : List (List Int)) (b : List (Int × Int)) : List (List Int) := b.foldl (fun a p => a.flatMap (rowExt p)) acc
def rowsOf (b : List (Int × Int)) : List (List Int) := rowsFrom [[]] b
def inB : List (Int × Int) → List Int → Prop
  | [], [] => True
  | p :: b, x :: r => (p.1 ≤ x ∧ x ≤ p.2) ∧ inB b r
  | _, _ => False
theorem mem_rgI {lo : Int} {n : Nat} {x : Int} : x ∈ rgI lo n ↔ lo ≤ x ∧ x < lo + n := by
  unfold rgI
  rw [List.mem_map]
  constructor
  · rintro ⟨k, hk, rfl⟩
    have := List.mem_range.mp hk
    omega
  · rintro ⟨h1, h2⟩
    exact ⟨(x - lo).toNat, List.mem_range.mpr (by omega), by omega⟩
theorem len_rgI (lo : Int) (n : Nat) : (rgI lo n).length = n := by unfold rgI; rw [List.length_map, List.length_range]
theorem mem_rowsFrom : ∀ {b : List (Int × Int)} {acc : List (List Int)} {r : List Int}, r ∈ rowsFrom acc b ↔ ∃ r0 ∈ acc, ∃ r1, r = r0 ++ r1 ∧ inB b r1
  | [], acc, r => by
    constructor
    · intro h; exact ⟨r, h, [], (List.append_nil r).symm, trivial⟩
    · rintro ⟨r0, h0, r1, rfl, h1⟩
      cases r1 with
      | nil => rw [List.append_nil]; exact h0
      | cons _ _ => exact h1.elim
  | p :: b, acc, r => by
    show r ∈ rowsFrom (acc.flatMap (rowExt p)) b ↔ _
    rw [mem_rowsFrom]
    constructor
    · rintro ⟨r0, h0, r1, rfl, h1⟩
      obtain ⟨a, ha, h2⟩ := List.mem_flatMap.mp h0
      obtain ⟨v, hv, rfl⟩ := List.mem_map.mp h2
      have hv := mem_rgI.mp hv
      exact ⟨a, ha, v :: r1, by simp, by omega, h1⟩
    · rintro ⟨r0, h0, r1, rfl, h1⟩
      cases r1 with
      | nil => exact h1.elim
      | cons v r1 =>
        refine ⟨r0 ++ [v], List.mem_flatMap.mpr ⟨r0, h0, List.mem_map.mpr ⟨v, mem_rgI.mpr ?_, rfl⟩⟩, r1, by simp, h1.2⟩
        have := h1.1
        omega
theorem mem_rows {b : List (Int × Int)} {r : List Int} : r ∈ rowsOf b ↔ inB b r := by
  unfold rowsOf
  rw [mem_rowsFrom]
  constructor
  · rintro ⟨r0, h0, r1, rfl, h1⟩
    rw [List.mem_singleton.mp h0]; exact h1
  · intro h; exact ⟨[], List.mem_singleton.mpr rfl, r, rfl, h⟩
theorem inB_len : ∀ {b : List (Int × Int)} {r : List Int}, inB b r → r.length = b.length
  | [], [], _ => rfl
  | _ :: b, _ :: r, h => by rw [List.length_cons, List.length_cons, inB_len h.2]
  | [], _ :: _, h => h.elim
  | _ :: _, [], h => h.elim
theorem rows_take {b : List (Int × Int)} {k : Nat} {p : Int × Int} (h : b[k]? = some p) : rowsOf (b.take (k + 1)) = (rowsOf (b.take k)).flatMap (rowExt p) := by
  unfold rowsOf rowsFrom
  rw [List.take_add_one, h, List.foldl_append]; rfl
theorem flat_len {α β : Type} {f : α → List β} {n : Nat} : ∀ {l : List α}, (∀ x ∈ l, (f x).length ≤ n) → (l.flatMap f).length ≤ l.length * n
  | [], _ => by simp
  | x :: l, h => by
    rw [List.flatMap_cons, List.length_append, List.length_cons, Nat.add_mul, Nat.one_mul, Nat.add_comm]
    exact Nat.add_le_add (flat_len fun y hy => h y (List.mem_cons_of_mem _ hy)) (h x (List.mem_cons_self ..))
theorem rows_card : ∀ {b : List (Int × Int)} {acc : List (List Int)} {m : Nat}, (∀ p ∈ b, p.2 + 1 - p.1 ≤ (m : Int)) → (rowsFrom acc b).length ≤ acc.length * m ^ b.length
  | [], acc, m, _ => by show acc.length ≤ acc.length * m ^ 0; rw [Nat.pow_zero, Nat.mul_one]; exact Nat.le_refl _
  | p :: b, acc, m, h => by
    have ih := rows_card (b := b) (acc := acc.flatMap (rowExt p)) (m := m) fun q hq => h q (List.mem_cons_of_mem _ hq)
    have h1 : (acc.flatMap (rowExt p)).length ≤ acc.length * m := flat_len fun r _ => by
      unfold rowExt
      rw [List.length_map, len_rgI]
      have := h p (List.mem_cons_self ..)
      omega
    show (rowsFrom (acc.flatMap (rowExt p)) b).length ≤ acc.length * m ^ (b.length + 1)
    refine Nat.le_trans ih ?_
    rw [Nat.pow_succ, Nat.mul_comm (m ^ b.length) m, ← Nat.mul_assoc]
    exact Nat.mul_le_mul_right _ h1
/-- few bounds of few choices -/
def Few (b : List (Int × Int)) : Prop := b.length ≤ 7 ∧ ∀ p ∈ b, -1000 ≤ p.1 ∧ p.1 ≤ p.2 ∧ p.2 < p.1 + 4 ∧ p.2 ≤ 1000
theorem few_card {b : List (Int × Int)} (h : Few b) (k : Nat) : (rowsOf (b.take k)).length ≤ 16384 := by
  have h1 := rows_card (b := b.take k) (acc := [[]]) (m := 4) fun p hp => by have := h.2 p (List.mem_of_mem_take hp); omega
  have h2 : (b.take k).length ≤ 7 := Nat.le_trans (by rw [List.length_take]; exact Nat.min_le_right _ _) h.1
  have h3 : 4 ^ (b.take k).length ≤ 4 ^ 7 := Nat.pow_le_pow_right (by decide) h2
  have h4 : (4 : Nat) ^ 7 = 16384 := by decide
  have h5 : ([[]] : List (List Int)).length = 1 := rfl
  unfold rowsOf
  exact Nat.le_trans h1 (by rw [h5, Nat.one_mul]; exact Nat.le_trans h3 (by decide))
theorem ext_card {p : Int × Int} (h : p.2 < p.1 + 4) {l : List (List Int)} : (l.flatMap (rowExt p)).length ≤ l.length * 4 := flat_len fun r _ => by
  unfold rowExt
  rw [List.length_map, len_rgI]; omega
theorem small_few {n : Int} {b : List (Int × Int)} (h : SmallP n b) (hn : n ≤ 7) : Few b := ⟨by have := h.2.1; omega, fun p hp => by have := h.2.2 p hp; omega⟩
theorem small_bok {n : Int} {b : List (Int × Int)} (h : SmallP n b) (hn : n ≤ 7) : BOk b := ⟨h.1, by have := h.2.1; omega, fun p hp => by have := h.2.2 p hp; omega⟩
theorem few_rows {b : List (Int × Int)} (h : Few b) : (rowsOf b).length ≤ 1000000 := by
  have := few_card h b.length
  rw [List.take_length] at this; omega
/-! ### two loops, one in the other -/
theorem fold_nest {α β γ : Type} (g : α → β → γ → γ) (m : α → List β) : ∀ (l : List α) (a : γ), l.foldl (fun s x => (m x).foldl (fun s y => g x y s) s) a = (l.flatMap fun x => (m x).map fun y => (x, y)).foldl (fun s p => g p.1 p.2 s) a
  | [], _ => rfl
  | x :: l, a => by
    rw [List.foldl_cons, fold_nest g m l, List.flatMap_cons, List.foldl_append, List.foldl_map]
/-- the first greatest of those that count -/
theorem fold_first {α β : Type} {c : α → Bool} {v : α → β} {key : β → Int} {d : β} : ∀ (l : List α) (s : Option β),
    (l.foldl (fun s p => if (c p && (s.isNone || decide (key (v p) > key (s.getD d)))) = true then some (v p) else s) s = s ∧ ∀ p ∈ l, c p = true → ∃ t, s = some t ∧ key (v p) ≤ key t) ∨
    ∃ p ∈ l, c p = true ∧ l.foldl (fun s p => if (c p && (s.isNone || decide (key (v p) > key (s.getD d)))) = true then some (v p) else s) s = some (v p) ∧ (∀ q ∈ l, c q = true → key (v q) ≤ key (v p)) ∧ ∀ t, s = some t → key t ≤ key (v p)
  | [], s => .inl ⟨rfl, fun _ h => by cases h⟩
  | p :: l, s => by
    rw [List.foldl_cons]
    by_cases h : (c p && (s.isNone || decide (key (v p) > key (s.getD d)))) = true
    · rw [if_pos h]
      have hc : c p = true := (Bool.and_eq_true_iff.mp h).1
      have hs : ∀ t, s = some t → key t ≤ key (v p) := fun t e => by
        subst e
        have := (Bool.and_eq_true_iff.mp h).2
        simp at this; omega
      rcases fold_first (c := c) (v := v) (key := key) (d := d) l (some (v p)) with ⟨h1, h2⟩ | ⟨q, hq, h1, h2, h3, h4⟩
      · refine .inr ⟨p, List.mem_cons_self .., hc, h1, fun q hq hcq => ?_, hs⟩
        rcases List.mem_cons.mp hq with e | hq
        · subst e; exact Int.le_refl _
        · obtain ⟨t, e, h⟩ := h2 q hq hcq
          cases e; exact h
      · have h5 := h4 _ rfl
        refine .inr ⟨q, List.mem_cons_of_mem _ hq, h1, h2, fun x hx hcx => ?_, fun t e => Int.le_trans (hs t e) h5⟩
        rcases List.mem_cons.mp hx with e | hx
        · subst e; exact h5
        · exact h3 x hx hcx
    · rw [if_neg h]
      have hn : c p = true → ∃ t, s = some t ∧ key (v p) ≤ key t := fun hc => by
        cases s with
        | none => exact absurd (by simp [hc]) h
        | some t => exact ⟨t, rfl, by simp [hc] at h; exact h⟩
      rcases fold_first (c := c) (v := v) (key := key) (d := d) l s with ⟨h1, h2⟩ | ⟨q, hq, h1, h2, h3, h4⟩
      · refine .inl ⟨h1, fun x hx hcx => ?_⟩
        rcases List.mem_cons.mp hx with e | hx
        · subst e; exact hn hcx
        · exact h2 x hx hcx
      · refine .inr ⟨q, List.mem_cons_of_mem _ hq, h1, h2, fun x hx hcx => ?_, h4⟩
        rcases List.mem_cons.mp hx with e | hx
        · subst e
          obtain ⟨t, e, h⟩ := hn hcx
          exact Int.le_trans h (h4 t e)
        · exact h3 x hx hcx
/-! ### bounds by places -/
def lo (b : List (Int × Int)) (k : Nat) : Int := (b.getD k (0, 0)).1
def hi (b : List (Int × Int)) (k : Nat) : Int := (b.getD k (0, 0)).2
theorem mem_at {α : Type} {l : List α} {x d : α} (h : x ∈ l) : ∃ k, k < l.length ∧ l.getD k d = x := by
  obtain ⟨k, hk, e⟩ := List.getElem_of_mem h
  exact ⟨k, hk, by rw [List.getD_eq_getElem?_getD, List.getElem?_eq_getElem hk]; exact e⟩
theorem at_mem {α : Type} {l : List α} {d : α} {k : Nat} (h : k < l.length) : l.getD k d ∈ l := List.mem_of_getElem? (getD_at h)
theorem lo_hi {b : List (Int × Int)} (hb : ∀ p ∈ b, p.1 ≤ p.2) {k : Nat} (h : k < b.length) : lo b k ≤ hi b k := hb _ (at_mem h)
theorem map_at {α β : Type} {f : α → β} {l : List α} {k : Nat} {d : α} {e : β} (h : k < l.length) : (l.map f).getD k e = f (l.getD k d) := by
  rw [List.getD_eq_getElem?_getD, List.getElem?_map, List.getElem?_eq_getElem h, List.getD_eq_getElem?_getD, List.getElem?_eq_getElem h]; rfl
theorem inB_iff : ∀ {b : List (Int × Int)} {r : List Int}, inB b r ↔ r.length = b.length ∧ ∀ k, k < b.length → lo b k ≤ r.getD k 0 ∧ r.getD k 0 ≤ hi b k
  | [], [] => by simp [inB]
  | [], _ :: _ => by simp [inB]
  | _ :: _, [] => by simp [inB]
  | p :: b, x :: r => by
    have ih := inB_iff (b := b) (r := r)
    show (p.1 ≤ x ∧ x ≤ p.2) ∧ inB b r ↔ _
    rw [ih]
    constructor
    · rintro ⟨h0, h1, h2⟩
      refine ⟨by simp [h1], fun k hk => ?_⟩
      cases k with
      | zero => exact h0
      | succ k => exact h2 k (by simpa using hk)
    · rintro ⟨h1, h2⟩
      refine ⟨h2 0 (by simp), by simpa using h1, fun k hk => ?_⟩
      exact h2 (k + 1) (by simpa using hk)
def topS (i : Nat) : Stmt := PySem.Challenge.pw_boundstats_k08_whole_facts.main.body.getD i (.Pass ⟨0, 0, 0, 0⟩)
abbrev s_is_int : Stmt := topS 9
abbrev N_is_int : List Str := ["value", "low", "high"]
theorem sc_is_int : FnScope N_is_int ["value", "low", "high"] (defScope s_is_int) := ⟨rfl, rfl, rfl, by decide +kernel, rfl, by decide +kernel, by decide +kernel⟩
abbrev s_is_bound : Stmt := topS 10
abbrev N_is_bound : List Str := ["value"]
theorem sc_is_bound : FnScope N_is_bound ["value"] (defScope s_is_bound) := ⟨rfl, rfl, rfl, by decide +kernel, rfl, by decide +kernel, by decide +kernel⟩
abbrev s_is_bounds : Stmt := topS 11
abbrev N_is_bounds : List Str := ["value", "one"]
theorem sc_is_bounds : FnScope N_is_bounds ["value"] (defScope s_is_bounds) := ⟨rfl, rfl, rfl, by decide +kernel, rfl, by decide +kernel, by decide +kernel⟩
abbrev s_check_bounds : Stmt := topS 12
abbrev N_check_bounds : List Str := ["value"]
theorem sc_check_bounds : FnScope N_check_bounds ["value"] (defScope s_check_bounds) := ⟨rfl, rfl, rfl, by decide +kernel, rfl, by decide +kernel, by decide +kernel⟩
abbrev s_check_place : Stmt := topS 13
abbrev N_check_place : List Str := ["bounds", "value"]
theorem sc_check_place : FnScope N_check_place ["bounds", "value"] (defScope s_check_place) := ⟨rfl, rfl, rfl, by decide +kernel, rfl, by decide +kernel, by decide +kernel⟩
abbrev s_check_pairs : Stmt := topS 14
abbrev N_check_pairs : List Str := ["bounds", "value", "pair", "k"]
theorem sc_check_pairs : FnScope N_check_pairs ["bounds", "value"] (defScope s_check_pairs) := ⟨rfl, rfl, rfl, by decide +kernel, rfl, by decide +kernel, by decide +kernel⟩
abbrev s_checked : Stmt := topS 16
abbrev N_checked : List Str := ["bounds", "low", "high"]
theorem sc_checked : FnScope N_checked ["bounds"] (defScope s_checked) := ⟨rfl, rfl, rfl, by decide +kernel, rfl, by decide +kernel, by decide +kernel⟩
abbrev s_with_sum : Stmt := topS 17
abbrev N_with_sum : List Str := ["bounds", "least", "greatest", "bottom", "top", "low", "high"]
theorem sc_with_sum : FnScope N_with_sum ["bounds", "least", "greatest"] (defScope s_with_sum) := ⟨rfl, rfl, rfl, by decide +kernel, rfl, by decide +kernel, by decide +kernel⟩
abbrev s_narrowed : Stmt := topS 18
abbrev N_narrowed : List Str := ["bounds", "pairs", "found", "turn", "k", "j"]
theorem sc_narrowed : FnScope N_narrowed ["bounds", "pairs"] (defScope s_narrowed) := ⟨rfl, rfl, rfl, by decide +kernel, rfl, by decide +kernel, by decide +kernel⟩
abbrev s_with_pairs : Stmt := topS 19
abbrev N_with_pairs : List Str := ["bounds", "pairs"]
theorem sc_with_pairs : FnScope N_with_pairs ["bounds", "pairs"] (defScope s_with_pairs) := ⟨rfl, rfl, rfl, by decide +kernel, rfl, by decide +kernel, by decide +kernel⟩
abbrev s_can_be_pairs : Stmt := topS 20
abbrev N_can_be_pairs : List Str := ["bounds", "pairs", "low", "high"]
theorem sc_can_be_pairs : FnScope N_can_be_pairs ["bounds", "pairs"] (defScope s_can_be_pairs) := ⟨rfl, rfl, rfl, by decide +kernel, rfl, by decide +kernel, by decide +kernel⟩
abbrev s_with_value : Stmt := topS 21
abbrev N_with_value : List Str := ["bounds", "place", "low", "high", "found"]
theorem sc_with_value : FnScope N_with_value ["bounds", "place", "low", "high"] (defScope s_with_value) := ⟨rfl, rfl, rfl, by decide +kernel, rfl, by decide +kernel, by decide +kernel⟩
abbrev s_count_choices : Stmt := topS 22
abbrev N_count_choices : List Str := ["bounds", "found", "low", "high"]
theorem sc_count_choices : FnScope N_count_choices ["bounds"] (defScope s_count_choices) := ⟨rfl, rfl, rfl, by decide +kernel, rfl, by decide +kernel, by decide +kernel⟩
abbrev s_met : Stmt := topS 23
abbrev N_met : List Str := ["one", "other", "a", "b"]
theorem sc_met : FnScope N_met ["one", "other"] (defScope s_met) := ⟨rfl, rfl, rfl, by decide +kernel, rfl, by decide +kernel, by decide +kernel⟩
abbrev s__law_start : Stmt := topS 25
abbrev N__law_start : List Str := ["_law_script"]
theorem sc__law_start : FnScope N__law_start ["_law_script"] (defScope s__law_start) := ⟨rfl, rfl, rfl, by decide +kernel, rfl, by decide +kernel, by decide +kernel⟩
abbrev s__law_draw : Stmt := topS 26
abbrev N__law_draw : List Str := ["_law_draws", "_law_limit", "_law_numbers", "_law_at", "_law_cell", "_law_mixed"]
theorem sc__law_draw : FnScope N__law_draw ["_law_draws", "_law_limit"] (defScope s__law_draw) := ⟨rfl, rfl, rfl, by decide +kernel, rfl, by decide +kernel, by decide +kernel⟩
abbrev s__law_error : Stmt := topS 27
abbrev N__law_error : List Str := ["_law_caught", "_law_kinds"]
theorem sc__law_error : FnScope N__law_error ["_law_caught"] (defScope s__law_error) := ⟨rfl, rfl, rfl, by decide +kernel, rfl, by decide +kernel, by decide +kernel⟩
abbrev s__law_true : Stmt := topS 28
abbrev N__law_true : List Str := ["_law_value", "_law_expected"]
theorem sc__law_true : FnScope N__law_true ["_law_value", "_law_expected"] (defScope s__law_true) := ⟨rfl, rfl, rfl, by decide +kernel, rfl, by decide +kernel, by decide +kernel⟩
abbrev s__law_choices : Stmt := topS 29
abbrev N__law_choices : List Str := ["_law_bounds", "_law_found", "_law_low", "_law_high", "_law_longer_rows", "_law_row", "_law_value"]
theorem sc__law_choices : FnScope N__law_choices ["_law_bounds"] (defScope s__law_choices) := ⟨rfl, rfl, rfl, by decide +kernel, rfl, by decide +kernel, by decide +kernel⟩
abbrev s__law_small : Stmt := topS 30
abbrev N__law_small : List Str := ["_law_draws", "_law_most", "_law_found", "_law_k", "_law_low"]
theorem sc__law_small : FnScope N__law_small ["_law_draws", "_law_most"] (defScope s__law_small) := ⟨rfl, rfl, rfl, by decide +kernel, rfl, by decide +kernel, by decide +kernel⟩
abbrev s__law_inside : Stmt := topS 31
abbrev N__law_inside : List Str := ["_law_bounds", "_law_row", "_law_k"]
theorem sc__law_inside : FnScope N__law_inside ["_law_bounds", "_law_row"] (defScope s__law_inside) := ⟨rfl, rfl, rfl, by decide +kernel, rfl, by decide +kernel, by decide +kernel⟩
abbrev s__law_call : Stmt := topS 32
abbrev N__law_call : List Str := ["_law_kind", "_law_bounds", "_law_one", "_law_two", "_law_found", "_law_caught", "e"]
theorem sc__law_call : FnScope N__law_call ["_law_kind", "_law_bounds", "_law_one", "_law_two"] (defScope s__law_call) := ⟨rfl, rfl, rfl, by decide +kernel, rfl, by decide +kernel, by decide +kernel⟩
abbrev s__law_due : Stmt := topS 33
abbrev N__law_due : List Str := ["_law_rows", "_law_size", "_law_k", "_law_row"]
theorem sc__law_due : FnScope N__law_due ["_law_rows", "_law_size"] (defScope s__law_due) := ⟨rfl, rfl, rfl, by decide +kernel, rfl, by decide +kernel, by decide +kernel⟩
abbrev s_law : Stmt := topS 34
abbrev N_law : List Str := ["_law_script", "_law_draws", "_law_bounds", "_law_size", "_law_rows", "_law_low", "_law_high", "_law_row", "_law_pairs", "_law_k", "_law_first", "_law_good", "_law_pair", "_law_other", "_law_begin", "_law_place", "_law_left", "_law_told", "_law_end"]
theorem sc_law : FnScope N_law ["_law_script"] (defScope s_law) := ⟨rfl, rfl, rfl, by decide +kernel, rfl, by decide +kernel, by decide +kernel⟩
structure Txt (K : Fg) (mg : Str → Option Value) : Prop where
  d_is_int : Fd K mg "is_int" s_is_int
  d_is_bound : Fd K mg "is_bound" s_is_bound
  d_is_bounds : Fd K mg "is_bounds" s_is_bounds
  d_check_bounds : Fd K mg "check_bounds" s_check_bounds
  d_check_place : Fd K mg "check_place" s_check_place
  d_check_pairs : Fd K mg "check_pairs" s_check_pairs
  d_checked : Fd K mg "checked" s_checked
  d_with_sum : Fd K mg "with_sum" s_with_sum
  d_narrowed : Fd K mg "narrowed" s_narrowed
  d_with_pairs : Fd K mg "with_pairs" s_with_pairs
  d_can_be_pairs : Fd K mg "can_be_pairs" s_can_be_pairs
  d_with_value : Fd K mg "with_value" s_with_value
  d_count_choices : Fd K mg "count_choices" s_count_choices
  d_met : Fd K mg "met" s_met
  d__law_start : Fd K mg "_law_start" s__law_start
  d__law_draw : Fd K mg "_law_draw" s__law_draw
  d__law_error : Fd K mg "_law_error" s__law_error
  d__law_true : Fd K mg "_law_true" s__law_true
  d__law_choices : Fd K mg "_law_choices" s__law_choices
  d__law_small : Fd K mg "_law_small" s__law_small
  d__law_inside : Fd K mg "_law_inside" s__law_inside
  d__law_call : Fd K mg "_law_call" s__law_call
  d__law_due : Fd K mg "_law_due" s__law_due
  d_law : Fd K mg "law" s_law
  n_ValueError : mg "ValueError" = none
  n_all : mg "all" = none
  n_any : mg "any" = none
  n_bool : mg "bool" = none
  n_int : mg "int" = none
  n_isinstance : mg "isinstance" = none
  n_len : mg "len" = none
  n_list : mg "list" = none
  n_max : mg "max" = none
  n_min : mg "min" = none
  n_range : mg "range" = none
  n_sum : mg "sum" = none
  n_tuple : mg "tuple" = none
  n_zip : mg "zip" = none
  x : Errs K mg
  c_MOST_BOUND : ∃ t, mg "MOST_BOUND" = some (.int 50 t)
  c_MOST_VALUES : ∃ t, mg "MOST_VALUES" = some (.int 7 t)
section
variable {P : Program} {w : World} {K : Fg} {mg : Str → Option Value} {base : Heap}
def m_is_int (x0 : Int) (x1 : Int) (x2 : Int) : Bool := (true && ((!false) && ((decide (x1 ≤ x0)) && (decide (x0 ≤ x2)))))
theorem ok_is_int (T : Txt K mg) : Ok P w K mg base CX0 1 "is_int" ["value", "low", "high"] (sp3 K ((fun _ _ _ => True) : Int → Int → Int → Prop) m_is_int) := by
  refine ok_of T.d_is_int sc_is_int (bi3 fun _ _ _ _ _ _ _ _ _ => rfl) len_sp3 (fun f cdv A outer s H vs Q E hr h => ?_)
  have nd := sc_is_int.nd
  obtain ⟨v0, v1, v2, x0, x1, x2, rfl, r0, r1, r2, hp, q⟩ := h
  refine ⟨_, (pss_one (ps_ret (pe_and (pe_callB (k_isi K rfl) (by rfl) T.n_isinstance (by decide +kernel) (pa_cons (pv 0) (pa_cons (pe_bltn (v := .ty "int") (by rfl) T.n_int (by decide +kernel) rfl) pa_nil))) (pe_and (pe_not (pe_callB (k_isi K rfl) (by rfl) T.n_isinstance (by decide +kernel) (pa_cons (pv 0) (pa_cons (pe_bltn (v := .ty "bool") (by rfl) T.n_bool (by decide +kernel) rfl) pa_nil)))) (pe_one (pe_chain op_le op_le (pv 1) (pv 0) (pv 2))))))), ?_⟩
  exact s_ret (K := K) (er_andV (er_isi (b := true) (er_var rfl r0) (show kitB "int" "int" = some true from by decide)) (fun hsc => (er_andV (er_notV (er_isi (b := false) (er_var rfl r0) (show kitB "int" "bool" = some false from by decide))) (fun hsc => (er_chain (er_var rfl r1) (er_var rfl r0) (er_var rfl r2) rr_le rr_le))))) (fun u _ e406 rr => q u _ e406 rr)
def m_is_bound (x0 : (Int × Int)) : Bool := (if ((!true) || (!(decide ((2 : Int) = (2 : Int))))) = true then false else ((m_is_int x0.1 (-(50 : Int)) (50 : Int)) && (m_is_int x0.2 x0.1 (50 : Int))))
theorem ok_is_bound (T : Txt K mg) : Ok P w K mg base CX0 2 "is_bound" ["value"] (sp1 K ((fun _ => True) : (Int × Int) → Prop) m_is_bound) := by
  refine ok_of T.d_is_bound sc_is_bound (bi1 fun _ _ _ _ _ _ _ => rfl) len_sp1 (fun f cdv A outer s H vs Q E hr h => ?_)
  have nd := sc_is_bound.nd
  obtain ⟨v0, x0, rfl, r0, hp, q⟩ := h
  refine ⟨_, (pss_cons (ps_if (PW.pt (pw_or (pt_not (pt_val (pe_callB (k_isi K rfl) (by rfl) T.n_isinstance (by decide +kernel) (pa_cons (pv 0) (pa_cons (pe_bltn (v := .ty "tuple") (by rfl) T.n_tuple (by decide +kernel) rfl) pa_nil))))) (pw_or1 (pt_cmpR op_ne (pe_callB (k_len K rfl) (by rfl) T.n_len PySem.boot_len (pa_cons (pv 0) pa_nil)) pe_int (nomark _))))) (pss_one (ps_ret pe_bl)) pss_nil)
      (pss_one (ps_ret (pe_and (pe_fn (ok_is_int T) (hr.mono (by decide)) pass0 (pa_cons (pe_ix (k_ixt K rfl) (pv 0) pe_int (fun _ _ => rfl)) (pa_cons (pe_un un_neg (pe_gint T.c_MOST_BOUND)) (pa_cons (pe_gint T.c_MOST_BOUND) pa_nil)))) (pe_one (pe_fn (ok_is_int T) (hr.mono (by decide)) pass0 (pa_cons (pe_ix (k_ixt K rfl) (pv 0) pe_int (fun _ _ => rfl)) (pa_cons (pe_ix (k_ixt K rfl) (pv 0) pe_int (fun _ _ => rfl)) (pa_cons (pe_gint T.c_MOST_BOUND) pa_nil))))))))), ?_⟩
  refine q_when (K := K) (et_or (et_not (et_B (er_isi (b := true) (er_var rfl r0) (show kitB "tuple" "tuple" = some true from by decide)))) (fun hsc => (et_test (er_op (er_lenP (er_var rfl r0)) er_int rr_neI)))) (fun hc408 _ e407 => ?_) (fun hc408 _ e407 => ?_)
  ·
    exact s_ret (K := K) er_bl (fun u _ e409 rr => q u _ (e407.trans e409) (by rw [(show m_is_bound x0 = false from by unfold m_is_bound; rw [if_pos hc408])]; exact rr))
  ·
    exact s_ret (K := K) (er_andV (er_call3 (er_op (er_var rfl (Rp.mono (SF.of e407) r0)) er_int rr_ixP0) (er_neg er_int) er_int trivial) (fun hsc => (er_call3 (er_op (er_var rfl (Rp.mono (SF.of e407) r0)) er_int rr_ixP1) (er_op (er_var rfl (Rp.mono (SF.of e407) r0)) er_int rr_ixP0) er_int trivial))) (fun u _ e410 rr => q u _ (e407.trans e410) (by rw [(show m_is_bound x0 = ((m_is_int x0.1 (-(50 : Int)) (50 : Int)) && (m_is_int x0.2 x0.1 (50 : Int))) from by unfold m_is_bound; rw [if_neg (by rw [hc408]; exact Bool.false_ne_true)])]; exact rr))
def m_is_bounds (x0 : (List (Int × Int))) : Bool := (if ((!true) || (!((decide ((1 : Int) ≤ ((x0.length : Nat) : Int))) && (decide (((x0.length : Nat) : Int) ≤ (7 : Int)))))) = true then false else ((x0.map (fun (x420 : (Int × Int)) => (m_is_bound x420))).all id))
theorem ok_is_bounds (T : Txt K mg) : Ok P w K mg base CX0 3 "is_bounds" ["value"] (sp1 K ((fun b => b.length ≤ 100000) : (List (Int × Int)) → Prop) m_is_bounds) := by
  refine ok_of T.d_is_bounds sc_is_bounds (bi1 fun _ _ _ _ _ _ _ => rfl) len_sp1 (fun f cdv A outer s H vs Q E hr h => ?_)
  have nd := sc_is_bounds.nd
  obtain ⟨v0, x0, rfl, r0, hp, q⟩ := h
  refine ⟨_, (pss_cons (ps_if (PW.pt (pw_or (pt_not (pt_val (pe_callB (k_isi K rfl) (by rfl) T.n_isinstance (by decide +kernel) (pa_cons (pv 0) (pa_cons (pe_bltn (v := .ty "list") (by rfl) T.n_list (by decide +kernel) rfl) pa_nil))))) (pw_or1 (pt_not (pt_chain op_le op_le pe_int (pe_callB (k_len K rfl) (by rfl) T.n_len PySem.boot_len (pa_cons (pv 0) pa_nil)) (pe_gint T.c_MOST_VALUES)))))) (pss_one (ps_ret pe_bl)) pss_nil)
      (pss_one (ps_ret (pe_callB (k_all K rfl rfl) (by rfl) T.n_all (by decide +kernel) (pa_cons (pe_frz (pe_lc (own := [("one", 1)]) rfl nd (k_pl K rfl (pv 0)) (blkOk_by (N := N_is_bounds) (sc := defScope s_is_bounds) (by decide +kernel)) (fun _ _ _ _ _ => (pg_name (i := 1) nd rfl (.inl rfl) (.inr rfl))) (fun _ _ _ _ _ => pts_nil) (fun _ _ _ _ _ => (pe_fn (ok_is_bound T) (hr.mono (by decide)) pass0 (pa_cons (pv 1) pa_nil))))) pa_nil))))), ?_⟩
  refine q_when (K := K) (et_or (et_not (et_B (er_isi (b := true) (er_var rfl r0) (show kitB "list" "list" = some true from by decide)))) (fun hsc => (et_not (et_test (er_chain er_int (er_up (er_len (er_var rfl r0))) er_int rr_le rr_le))))) (fun hc417 _ e416 => ?_) (fun hc417 _ e416 => ?_)
  ·
    exact s_ret (K := K) er_bl (fun u _ e418 rr => q u _ (e416.trans e418) (by rw [(show m_is_bounds x0 = false from by unfold m_is_bounds; rw [if_pos hc417])]; exact rr))
  ·
    exact s_ret (K := K) (er_all (er_frz (erl_lm1 (f := fun (x420 : (Int × Int)) => (m_is_bound x420)) (src_list (er_var rfl (Rp.mono (SF.of e416) r0))) (by first | omega | (have := hp.2.1; omega) | (have := hp.1.2.1; omega)) (by intros; rfl) (fun x420 hx421 v422 _ e419 r423 => (er_call1 (er_var rfl r423) trivial))))) (fun u _ e424 rr => q u _ (e416.trans e424) (by rw [(show m_is_bounds x0 = ((x0.map (fun (x420 : (Int × Int)) => (m_is_bound x420))).all id) from by unfold m_is_bounds; rw [if_neg (by rw [hc417]; exact Bool.false_ne_true)])]; exact rr))
theorem isBounds_ok {b : List (Int × Int)} (h : BOk b) : m_is_bounds b = true := by
  unfold m_is_bounds m_is_bound m_is_int
  simp only [Bool.not_true, Bool.false_or, Bool.not_false]
  rw [if_neg]
  · rw [List.all_map, List.all_eq_true]
    intro p hp
    have := h.2.2 p hp
    simp; omega
  · have := h.1; have := h.2.1
    simp; omega
theorem ok_check_bounds (T : Txt K mg) : Ok P w K mg base CX0 4 "check_bounds" ["value"] (sp1 K ((fun b => BOk b) : (List (Int × Int)) → Prop) (fun _ => ())) := by
  refine ok_of T.d_check_bounds sc_check_bounds (bi1 fun _ _ _ _ _ _ _ => rfl) len_sp1 (fun f cdv A outer s H vs Q E hr h => ?_)
  have nd := sc_check_bounds.nd
  obtain ⟨v0, x0, rfl, r0, hp, q⟩ := h
  refine ⟨_, (pss_one (ps_if (pt_not (pt_val (pe_fn (ok_is_bounds T) (hr.mono (by decide)) pass0 (pa_cons (pv 0) pa_nil)))) (pss_one ps_never) pss_nil)), ?_⟩
  refine s_if (K := K) (et_not (et_B (er_call1 (er_var rfl r0) (by have := hp.2.1; omega)))) (fun hc _ _ => ?_) (fun _ _ e => ?_)
  · rw [isBounds_ok hp] at hc; cases hc
  · exact q .non _ e rfl
theorem ok_check_place (T : Txt K mg) : Ok P w K mg base CX0 2 "check_place" ["bounds", "value"] (sp2 K ((fun b k => b.length ≤ 100000 ∧ 0 ≤ k ∧ k < b.length) : (List (Int × Int)) → Int → Prop) (fun _ _ => ())) := by
  refine ok_of T.d_check_place sc_check_place (bi2 fun _ _ _ _ _ _ _ _ => rfl) len_sp2 (fun f cdv A outer s H vs Q E hr h => ?_)
  have nd := sc_check_place.nd
  obtain ⟨v0, v1, x0, x1, rfl, r0, r1, hp, q⟩ := h
  refine ⟨_, (pss_one (ps_if (pt_not (pt_val (pe_fn (ok_is_int T) (hr.mono (by decide)) pass0 (pa_cons (pv 1) (pa_cons pe_int (pa_cons (pe_op op_sub (pe_callB (k_len K rfl) (by rfl) T.n_len PySem.boot_len (pa_cons (pv 0) pa_nil)) pe_int) pa_nil)))))) (pss_one ps_never) pss_nil)), ?_⟩
  refine s_not (K := K) (et_not (et_B (er_call3 (er_var rfl r1) er_int (er_op (er_up (er_len (er_var rfl r0))) er_int rr_sub) trivial))) (by
    have := hp.2.1; have := hp.2.2
    simp [m_is_int]; omega) (fun _ e => q .non _ e rfl)
theorem ok_check_pairs (T : Txt K mg) : Ok P w K mg base CX0 2 "check_pairs" ["bounds", "value"] (sp2 K ((fun b p => BOk b ∧ p.length ≤ 42 ∧ ∀ t ∈ p, (0 ≤ t.1 ∧ t.1 < b.length) ∧ (0 ≤ t.2 ∧ t.2 < b.length) ∧ t.1 ≠ t.2) : (List (Int × Int)) → (List (Int × Int)) → Prop) (fun _ _ => ())) := by
  refine ok_of T.d_check_pairs sc_check_pairs (bi2 fun _ _ _ _ _ _ _ _ => rfl) len_sp2 (fun f cdv A outer s H vs Q E hr h => ?_)
  have nd := sc_check_pairs.nd
  obtain ⟨v0, v1, x0, x1, rfl, r0, r1, hp, q⟩ := h
  refine ⟨_, (pss_cons (ps_if (PW.pt (pw_or (pt_not (pt_val (pe_callB (k_isi K rfl) (by rfl) T.n_isinstance (by decide +kernel) (pa_cons (pv 1) (pa_cons (pe_bltn (v := .ty "list") (by rfl) T.n_list (by decide +kernel) rfl) pa_nil))))) (pw_or1 (pt_cmpR op_gt (pe_callB (k_len K rfl) (by rfl) T.n_len PySem.boot_len (pa_cons (pv 1) pa_nil)) pe_int (nomark _))))) (pss_one ps_never) pss_nil)
      (pss_one (ps_for PassesOwn.never rfl (k_pl K rfl (pv 1)) (pg_name (i := 2) nd rfl (.inl rfl) (.inr rfl)) (pss_cons (ps_if (PW.pt (pw_or (pt_not (pt_val (pe_callB (k_isi K rfl) (by rfl) T.n_isinstance (by decide +kernel) (pa_cons (pv 2) (pa_cons (pe_bltn (v := .ty "tuple") (by rfl) T.n_tuple (by decide +kernel) rfl) pa_nil))))) (pw_or (pt_cmpR op_ne (pe_callB (k_len K rfl) (by rfl) T.n_len PySem.boot_len (pa_cons (pv 2) pa_nil)) pe_int (nomark _)) (pw_or1 (pt_not (pt_val (pe_callB (k_all K rfl rfl) (by rfl) T.n_all (by decide +kernel) (pa_cons (pe_frz (pe_lc (own := [("k", 3)]) rfl nd (k_pt K rfl (pv 2)) (blkOk_by (N := N_check_pairs) (sc := defScope s_check_pairs) (by decide +kernel)) (fun _ _ _ _ _ => (pg_name (i := 3) nd rfl (.inl rfl) (.inr rfl))) (fun _ _ _ _ _ => pts_nil) (fun _ _ _ _ _ => (pe_fn (ok_is_int T) (hr.mono (by decide)) pass0 (pa_cons (pv 3) (pa_cons pe_int (pa_cons (pe_op op_sub (pe_callB (k_len K rfl) (by rfl) T.n_len PySem.boot_len (pa_cons (pv 0) pa_nil)) pe_int) pa_nil))))))) pa_nil)))))))) (pss_one ps_never) pss_nil)
      (pss_one (ps_if (pt_cmpR op_eq (pe_ix (k_ixt K rfl) (pv 2) pe_int (fun _ _ => rfl)) (pe_ix (k_ixt K rfl) (pv 2) pe_int (fun _ _ => rfl)) (nomark _)) (pss_one ps_never) pss_nil)))))), ?_⟩
  refine q_not (K := K) (et_or (et_not (et_B (er_isi (b := true) (er_var rfl r1) (show kitB "list" "list" = some true from by decide)))) (fun hsc => (et_test (er_op (er_up (er_len (er_var rfl r1))) er_int rr_gt)))) (by first | (have := hp.2.1; simp; omega) | (have h := hp.2.2 _ (by assumption); simp [m_is_int]; omega) | (have h := hp.2.2 _ (by assumption); exact decide_eq_false h.2.2)) (fun _ e430 => ?_)
  refine q_last ?_
  -- for pair in value
  refine q_for (K := K) (src_list (er_var rfl (Rp.mono (SF.of e430) r1))) (fun H1 k σ' H' => ∃ (y432 : Option V), σ' = [some v0, some v1, y432, none] ∧ Mus [] H1 H') (fun H1 e => ⟨_, rfl, Mus.refl _⟩) (fun _ _ _ _ h => by obtain ⟨_, _, m⟩ := h; exact m.sf) (fun H1 k439 pair_l1 σ' H' vpair_l1 _ e436 hx435 hP e437 rpair_l1 => ?_) (fun H1 σ' H' e436 hP => ?_)
  ·
    obtain ⟨y432, rfl, m438⟩ := hP
    refine s_gn ?_
    have hpair_l1 := List.mem_of_getElem? hx435
    have r441 := (Rp.mono ((((SF.of e430).trans (SF.of e436)).trans m438.sf).trans (SF.of e437)) r0)
    have r442 := (Rp.mono ((((SF.of e430).trans (SF.of e436)).trans m438.sf).trans (SF.of e437)) r1)
    refine q_not (K := K) (et_or (et_not (et_B (er_isi (b := true) (er_var rfl rpair_l1) (show kitB "tuple" "tuple" = some true from by decide)))) (fun hsc => (et_or (et_test (er_op (er_lenP (er_var rfl rpair_l1)) er_int rr_neI)) (fun hsc => (et_not (et_B (er_all (er_frz (erl_lm1 (f := fun (x444 : Int) => (m_is_int x444 (0 : Int) (((x0.length : Nat) : Int) - (1 : Int)))) (src_two (er_var rfl rpair_l1)) (by have := hp.2.1; first | omega | (simp; done)) (by intros; rfl) (fun x444 hx445 v446 _ e443 r447 => (er_call3 (er_var rfl r447) er_int (er_op (er_up (er_len (er_var rfl (Rp.mono (SF.of e443) r441)))) er_int rr_sub) trivial))))))))))) (by first | (have := hp.2.1; simp; omega) | (have h := hp.2.2 _ (by assumption); simp [m_is_int]; omega) | (have h := hp.2.2 _ (by assumption); exact decide_eq_false h.2.2)) (fun _ e448 => ?_)
    refine q_last ?_
    refine q_not (K := K) (et_test (er_op (er_op (er_var rfl (Rp.mono (SF.of e448) rpair_l1)) er_int rr_ixP0) (er_op (er_var rfl (Rp.mono (SF.of e448) rpair_l1)) er_int rr_ixP1) rr_eqI)) (by first | (have := hp.2.1; simp; omega) | (have h := hp.2.2 _ (by assumption); simp [m_is_int]; omega) | (have h := hp.2.2 _ (by assumption); exact decide_eq_false h.2.2)) (fun _ e449 => ?_)
    refine s_nx ?_
    exact ⟨_, rfl, ((((Mus.baseS (Mus.refl _) m438 all0).trans (Mus.of e437)).trans (Mus.of e448)).trans (Mus.of e449))⟩
  ·
    obtain ⟨y432, rfl, m438⟩ := hP
    refine s_nx ?_
    exact q .non _ (Mus.same0 (Mus.baseS (((Mus.refl _).trans (Mus.of e430)).trans (Mus.of e436)) m438 all0)) rfl
theorem ok_checked (T : Txt K mg) : Ok P w K mg base CX0 1 "checked" ["bounds"] (spThru K (fun l : List (Int × Int) => l.length ≤ 100 ∧ ∀ t ∈ l, t.1 ≤ t.2)) := by
  refine ok_of T.d_checked sc_checked (bi1 fun _ _ _ _ _ _ _ => rfl) (fun vs H Q E h => by obtain ⟨_, _, _, rfl, _⟩ := h; rfl) (fun f cdv A outer s H vs Q E hr h => ?_)
  have nd := sc_checked.nd
  obtain ⟨p, us, l, rfl, h1, r, hp, q⟩ := h
  refine ⟨_, (pss_cons (ps_lock (ps_if (pt_val (pe_callB (k_any K rfl rfl) (by rfl) T.n_any (by decide +kernel) (pa_cons (pe_frz (pe_lc (own := [("low", 1), ("high", 2)]) rfl nd (k_pl K rfl (pv 0)) (blkOk_by (N := N_checked) (sc := defScope s_checked) (by decide +kernel)) (fun _ _ _ _ _ => (k_gt K rfl 2 rfl (pgs_cons (pg_name (i := 1) nd rfl (.inl rfl) (.inr rfl)) (pgs_cons (pg_name (i := 2) nd rfl (.inl rfl) (.inr rfl)) pgs_nil)))) (fun _ _ _ _ _ => pts_nil) (fun _ _ _ _ _ => (pe_cmpR op_gt (pv 1) (pv 2) (nomark _))))) pa_nil))) (pss_one ps_never) pss_nil))
      (pss_one (ps_ret (pv 0)))), ?_⟩
  refine q_lockd (K := K) h1 r (fun od r0 => ?_)
  refine s_not (K := K) (et_B (er_any (er_frz (erl_lm2 (f := fun x => decide (x.1 > x.2)) (src_list (er_var rfl r0)) (by have := hp.1; omega) (by intros; rfl) (fun x hx v u _ e r r' => er_op (er_var rfl r) (er_var rfl r') rr_gt))))) (by
    rw [List.any_map, List.any_eq_false]
    intro x hx
    have := hp.2 x hx
    simp; omega) (fun H1 e => ⟨e _ _ upd_same, ?_⟩)
  exact ⟨.ref p, rfl, q _ (same_lock h1 e)⟩
def m_checked (x0 : (List (Int × Int))) : (Except Str (List (Int × Int))) := (if ((x0.map (fun (x465 : (Int × Int)) => (decide (x465.1 > x465.2)))).any id) = true then (Except.error "NotFound") else (Except.ok x0))
theorem ok_checkedX (T : Txt K mg) : Ok P w K mg base (L2.CX P w) 1 "checked" ["bounds"] (sx1 K ((fun b => b.length ≤ 100) : (List (Int × Int)) → Prop) m_checked) := by
  refine okx_of T.d_checked sc_checked (bi1 fun _ _ _ _ _ _ _ => rfl) len_sx1 (fun f cdv A outer s H vs Q E hr h => ?_)
  have nd := sc_checked.nd
  obtain ⟨v0, x0, rfl, r0, hp, qo, qe⟩ := h
  refine ⟨_, (pss_cons (ps_if (pt_val (pe_callB (k_any K rfl rfl) (by rfl) T.n_any (by decide +kernel) (pa_cons (pe_frz (pe_lc (own := [("low", 1), ("high", 2)]) rfl nd (k_pl K rfl (pv 0)) (blkOk_by (N := N_checked) (sc := defScope s_checked) (by decide +kernel)) (fun _ _ _ _ _ => (k_gt K rfl 2 rfl (pgs_cons (pg_name (i := 1) nd rfl (.inl rfl) (.inr rfl)) (pgs_cons (pg_name (i := 2) nd rfl (.inl rfl) (.inr rfl)) pgs_nil)))) (fun _ _ _ _ _ => pts_nil) (fun _ _ _ _ _ => (pe_cmpR op_gt (pv 1) (pv 2) (nomark _))))) pa_nil))) (pss_one (k_raise K rfl tkD (T.x.e "NotFound" (by decide)))) pss_nil)
      (PSs.nox (pss_one (ps_ret (pv 0))))), ?_⟩
  refine q_if (K := K) (et_B (er_any (er_frz (erl_lm2 (f := fun (x465 : (Int × Int)) => (decide (x465.1 > x465.2))) (src_list (er_var rfl r0)) (by have := hp; omega) (by intros; rfl) (fun x465 hx466 v467 v468 _ e464 r469 r470 => (er_op (er_var rfl r469) (er_var rfl r470) rr_gt)))))) (fun hc472 _ e471 => ?_) (fun hc472 _ e471 => ?_)
  ·
    exact qe "NotFound" (show m_checked x0 = .error "NotFound" from by unfold m_checked; rw [if_pos hc472]) (by decide) _ e471
  ·
    refine s_nxz ?_
    exact s_ret (K := K) (er_var rfl (Rp.mono (SF.of e471) r0)) (fun u _ e473 rr => qo _ (show m_checked x0 = .ok x0 from by unfold m_checked; rw [if_neg (nff hc472)]) u _ (e471.trans e473) rr)
def m_with_sum (x0 : (List (Int × Int))) (x1 : Int) (x2 : Int) : (Except Str (List (Int × Int))) := (if ((!(m_is_int x1 (-(400 : Int)) (400 : Int))) || (!(m_is_int x2 x1 (400 : Int)))) = true then (Except.error "BadNumber") else (if ((decide ((x0.map (fun (x504 : (Int × Int)) => x504.1)).sum > x2)) || (decide ((x0.map (fun (x511 : (Int × Int)) => x511.2)).sum < x1))) = true then (Except.error "NotFound") else (Except.ok (x0.map (fun (x526 : (Int × Int)) => ((max x526.1 (x1 - ((x0.map (fun (x511 : (Int × Int)) => x511.2)).sum - x526.2))), (min x526.2 (x2 - ((x0.map (fun (x504 : (Int × Int)) => x504.1)).sum - x526.1)))))))))
theorem ok_with_sumX (T : Txt K mg) : Ok P w K mg base (L2.CX P w) 5 "with_sum" ["bounds", "least", "greatest"] (sxl3 K ((fun b l g => BOk b ∧ -400 ≤ l ∧ l ≤ g ∧ g ≤ 400) : (List (Int × Int)) → Int → Int → Prop) m_with_sum) := by
  refine okx_of T.d_with_sum sc_with_sum (bi3 fun _ _ _ _ _ _ _ _ _ => rfl) len_sxl3 (fun f cdv A outer s H vs Q E hr h => ?_)
  have nd := sc_with_sum.nd
  obtain ⟨v0, v1, v2, x0, x1, x2, rfl, r0, r1, r2, hp, qo, qe⟩ := h
  refine ⟨_, (pss_cons (ps_expr (pe_fn (ok_check_bounds T) (hr.mono (by decide)) pass0 (pa_cons (pv 0) pa_nil)))
      (pss_cons (ps_if (PW.pt (pw_or (pt_not (pt_val (pe_fn (ok_is_int T) (hr.mono (by decide)) pass0 (pa_cons (pv 1) (pa_cons (pe_un un_neg pe_int) (pa_cons pe_int pa_nil)))))) (pw_or1 (pt_not (pt_val (pe_fn (ok_is_int T) (hr.mono (by decide)) pass0 (pa_cons (pv 2) (pa_cons (pv 1) (pa_cons pe_int pa_nil))))))))) (pss_one (k_raise K rfl tkD (T.x.e "BadNumber" (by decide)))) pss_nil)
      (pss_cons (ps_asg (pe_tup (pa_cons (pe_callB (k_sum K rfl rfl) (by rfl) T.n_sum (by decide +kernel) (pa_cons (pe_frz (pe_lc (own := [("low", 5), ("high", 6)]) rfl nd (k_pl K rfl (pv 0)) (blkOk_by (N := N_with_sum) (sc := defScope s_with_sum) (by decide +kernel)) (fun _ _ _ _ _ => (k_gt K rfl 2 rfl (pgs_cons (pg_name (i := 5) nd rfl (.inl rfl) (.inr rfl)) (pgs_cons (pg_name (i := 6) nd rfl (.inl rfl) (.inr rfl)) pgs_nil)))) (fun _ _ _ _ _ => pts_nil) (fun _ _ _ _ _ => (pv 5)))) pa_nil)) (pa_cons (pe_callB (k_sum K rfl rfl) (by rfl) T.n_sum (by decide +kernel) (pa_cons (pe_frz (pe_lc (own := [("low", 5), ("high", 6)]) rfl nd (k_pl K rfl (pv 0)) (blkOk_by (N := N_with_sum) (sc := defScope s_with_sum) (by decide +kernel)) (fun _ _ _ _ _ => (k_gt K rfl 2 rfl (pgs_cons (pg_name (i := 5) nd rfl (.inl rfl) (.inr rfl)) (pgs_cons (pg_name (i := 6) nd rfl (.inl rfl) (.inr rfl)) pgs_nil)))) (fun _ _ _ _ _ => pts_nil) (fun _ _ _ _ _ => (pv 6)))) pa_nil)) pa_nil))) (k_gt K rfl 2 rfl (pgs_cons (pg_name (i := 3) nd rfl (.inr rfl) (.inl rfl)) (pgs_cons (pg_name (i := 4) nd rfl (.inr rfl) (.inl rfl)) pgs_nil))))
      (pss_cons (ps_if (PW.pt (pw_or (pt_cmpR op_gt (pv 3) (pv 2) (nomark _)) (pw_or1 (pt_cmpR op_lt (pv 4) (pv 1) (nomark _))))) (pss_one (k_raise K rfl tkD (T.x.e "NotFound" (by decide)))) pss_nil)
      (PSs.nox (pss_one (ps_ret (pe_lc (own := [("low", 5), ("high", 6)]) rfl nd (k_pl K rfl (pv 0)) (blkOk_by (N := N_with_sum) (sc := defScope s_with_sum) (by decide +kernel)) (fun _ _ _ _ _ => (k_gt K rfl 2 rfl (pgs_cons (pg_name (i := 5) nd rfl (.inl rfl) (.inr rfl)) (pgs_cons (pg_name (i := 6) nd rfl (.inl rfl) (.inr rfl)) pgs_nil)))) (fun _ _ _ _ _ => pts_nil) (fun _ _ _ _ _ => (pe_tup (pa_cons (pe_callB (call_max2 rfl) (by rfl) T.n_max (by decide +kernel) (pa_cons (pv 5) (pa_cons (pe_op op_sub (pv 1) (pe_op op_sub (pv 4) (pv 6))) pa_nil))) (pa_cons (pe_callB (call_min2 rfl) (by rfl) T.n_min (by decide +kernel) (pa_cons (pv 6) (pa_cons (pe_op op_sub (pv 2) (pe_op op_sub (pv 3) (pv 5))) pa_nil))) pa_nil)))))))))))), ?_⟩
  refine q_drop (K := K) (er_call1 (er_var rfl r0) (by exact hp.1)) (fun _ e495 => ?_)
  refine q_if (K := K) (et_or (et_not (et_B (er_call3 (er_var rfl (Rp.mono (SF.of e495) r1)) (er_neg er_int) er_int trivial))) (fun hsc => (et_not (et_B (er_call3 (er_var rfl (Rp.mono (SF.of e495) r2)) (er_var rfl (Rp.mono (SF.of e495) r1)) er_int trivial))))) (fun hc497 _ e496 => ?_) (fun hc497 _ e496 => ?_)
  ·
    exact qe "BadNumber" (show m_with_sum x0 x1 x2 = .error "BadNumber" from by unfold m_with_sum; rw [if_pos hc497]) (by decide) _ (e495.trans e496)
  ·
    refine s_nxz ?_
    refine q_unp (K := K) (er_pair (er_sum (er_frz (erl_lm2 (f := fun (x504 : (Int × Int)) => x504.1) (src_list (er_var rfl (Rp.mono ((SF.of e495).trans (SF.of e496)) r0))) (by have := hp.1.2.1; omega) (by intros; rfl) (fun x504 hx505 v506 v507 _ e503 r508 r509 => (er_var rfl r508))))) (er_sum (er_frz (erl_lm2 (f := fun (x511 : (Int × Int)) => x511.2) (src_list (er_var rfl (Rp.mono ((SF.of e495).trans (SF.of e496)) r0))) (by have := hp.1.2.1; omega) (by intros; rfl) (fun x511 hx512 v513 v514 _ e510 r515 r516 => (er_var rfl r516)))))) (fun v501 v502 _ e498 r499 r500 => ?_)
    refine q_if (K := K) (et_or (et_test (er_op (er_var rfl r499) (er_var rfl (Rp.mono (((SF.of e495).trans (SF.of e496)).trans (SF.of e498)) r2)) rr_gt)) (fun hsc => (et_test (er_op (er_var rfl r500) (er_var rfl (Rp.mono (((SF.of e495).trans (SF.of e496)).trans (SF.of e498)) r1)) rr_lt)))) (fun hc518 _ e517 => ?_) (fun hc518 _ e517 => ?_)
    ·
      have r519 := (Rp.mono ((((SF.of e495).trans (SF.of e496)).trans (SF.of e498)).trans (SF.of e517)) r0)
      have r520 := (Rp.mono ((((SF.of e495).trans (SF.of e496)).trans (SF.of e498)).trans (SF.of e517)) r1)
      have r521 := (Rp.mono ((((SF.of e495).trans (SF.of e496)).trans (SF.of e498)).trans (SF.of e517)) r2)
      exact qe "NotFound" (show m_with_sum x0 x1 x2 = .error "NotFound" from by unfold m_with_sum; rw [if_neg (nff hc497)]; rw [if_pos hc518]) (by decide) _ (((e495.trans e496).trans e498).trans e517)
    ·
      refine s_nxz ?_
      have r522 := (Rp.mono ((((SF.of e495).trans (SF.of e496)).trans (SF.of e498)).trans (SF.of e517)) r0)
      have r523 := (Rp.mono ((((SF.of e495).trans (SF.of e496)).trans (SF.of e498)).trans (SF.of e517)) r1)
      have r524 := (Rp.mono ((((SF.of e495).trans (SF.of e496)).trans (SF.of e498)).trans (SF.of e517)) r2)
      exact s_retL (K := K) (erl_lm2 (f := fun (x526 : (Int × Int)) => ((max x526.1 (x1 - ((x0.map (fun (x511 : (Int × Int)) => x511.2)).sum - x526.2))), (min x526.2 (x2 - ((x0.map (fun (x504 : (Int × Int)) => x504.1)).sum - x526.1))))) (src_list (er_var rfl r522)) (by have := hp.1.2.1; omega) (by intros; rfl) (fun x526 hx527 v528 v529 _ e525 r530 r531 => (er_pair (er_max2 (er_var rfl r530) (er_op (er_var rfl (Rp.mono (SF.of e525) r523)) (er_op (er_var rfl (Rp.mono (SF.of e525) (Rp.mono (SF.of e517) r500))) (er_var rfl r531) rr_sub) rr_sub)) (er_min2 (er_var rfl r531) (er_op (er_var rfl (Rp.mono (SF.of e525) r524)) (er_op (er_var rfl (Rp.mono (SF.of e525) (Rp.mono (SF.of e517) r499))) (er_var rfl r530) rr_sub) rr_sub))))) (fun p us _ e532 hn h1 rr => qo _ (show m_with_sum x0 x1 x2 = .ok (x0.map (fun (x526 : (Int × Int)) => ((max x526.1 (x1 - ((x0.map (fun (x511 : (Int × Int)) => x511.2)).sum - x526.2))), (min x526.2 (x2 - ((x0.map (fun (x504 : (Int × Int)) => x504.1)).sum - x526.1)))))) from by unfold m_with_sum; rw [if_neg (nff hc497)]; rw [if_neg (nff hc518)]) p us _ ((((e495.trans e496).trans e498).trans e517).trans e532) ((((e495.trans e496).trans e498).trans e517).free hn) h1 rr)
def m_narrowed (x0 : (List (Int × Int))) (x1 : (List (Int × Int))) : (List (Int × Int)) := (List.foldl (fun (s_l1 : (List (Int × Int))) (turn_l1 : Nat) => ((List.foldl (fun (s_l2 : (List (Int × Int))) (k_j_l2 : (Int × Int)) => (((s_l2.set ((k_j_l2.1).toNat) (((s_l2).getD (k_j_l2.1).toNat (0, 0)).1, (min (((s_l2).getD (k_j_l2.1).toNat (0, 0)).2) (((s_l2).getD (k_j_l2.2).toNat (0, 0)).2)))).set ((k_j_l2.2).toNat) ((max ((((s_l2.set ((k_j_l2.1).toNat) (((s_l2).getD (k_j_l2.1).toNat (0, 0)).1, (min (((s_l2).getD (k_j_l2.1).toNat (0, 0)).2) (((s_l2).getD (k_j_l2.2).toNat (0, 0)).2))))).getD (k_j_l2.2).toNat (0, 0)).1) ((((s_l2.set ((k_j_l2.1).toNat) (((s_l2).getD (k_j_l2.1).toNat (0, 0)).1, (min (((s_l2).getD (k_j_l2.1).toNat (0, 0)).2) (((s_l2).getD (k_j_l2.2).toNat (0, 0)).2))))).getD (k_j_l2.1).toNat (0, 0)).1)), (((s_l2.set ((k_j_l2.1).toNat) (((s_l2).getD (k_j_l2.1).toNat (0, 0)).1, (min (((s_l2).getD (k_j_l2.1).toNat (0, 0)).2) (((s_l2).getD (k_j_l2.2).toNat (0, 0)).2))))).getD (k_j_l2.2).toNat (0, 0)).2)) : (List (Int × Int)))) s_l1 x1) : (List (Int × Int)))) x0 (List.range x0.length))
theorem ok_narrowed (T : Txt K mg) : Ok P w K mg base CX0 1 "narrowed" ["bounds", "pairs"] (sl2 K ((fun b p => BOk b ∧ p.length ≤ 42 ∧ ∀ t ∈ p, (0 ≤ t.1 ∧ t.1 < b.length) ∧ (0 ≤ t.2 ∧ t.2 < b.length) ∧ t.1 ≠ t.2) : (List (Int × Int)) → (List (Int × Int)) → Prop) m_narrowed) := by
  refine ok_of T.d_narrowed sc_narrowed (bi2 fun _ _ _ _ _ _ _ _ => rfl) len_sl2 (fun f cdv A outer s H vs Q E hr h => ?_)
  have nd := sc_narrowed.nd
  obtain ⟨v0, v1, x0, x1, rfl, r0, r1, hp, q⟩ := h
  refine ⟨_, (pss_cons (ps_set (i := 2) nd rfl (.inl rfl) (pe_callTy (k_list K rfl) (by rfl) T.n_list (by decide +kernel) (pa_cons (pv 0) pa_nil)))
      (pss_cons (ps_for PassesOwn.never rfl (pi_range1 (by rfl) T.n_range (pa_cons (pe_callB (k_len K rfl) (by rfl) T.n_len PySem.boot_len (pa_cons (pv 0) pa_nil)) pa_nil)) (pg_name (i := 3) nd rfl (.inl rfl) (.inr rfl)) (pss_one (ps_for PassesOwn.never rfl (k_pl K rfl (pv 1)) (k_gt K rfl 2 rfl (pgs_cons (pg_name (i := 4) nd rfl (.inl rfl) (.inr rfl)) (pgs_cons (pg_name (i := 5) nd rfl (.inl rfl) (.inr rfl)) pgs_nil))) (pss_cons (ps_asg (pe_tup (pa_cons (pe_ix (k_ixt K rfl) (pe_ix (k_ixl K rfl) (pv 2) (pv 4) (fun _ _ => rfl)) pe_int (fun _ _ => rfl)) (pa_cons (pe_callB (call_min2 rfl) (by rfl) T.n_min (by decide +kernel) (pa_cons (pe_ix (k_ixt K rfl) (pe_ix (k_ixl K rfl) (pv 2) (pv 4) (fun _ _ => rfl)) pe_int (fun _ _ => rfl)) (pa_cons (pe_ix (k_ixt K rfl) (pe_ix (k_ixl K rfl) (pv 2) (pv 5) (fun _ _ => rfl)) pe_int (fun _ _ => rfl)) pa_nil))) pa_nil))) (pg_sub (pv 2) (pv 4) set_list))
      (pss_one (ps_asg (pe_tup (pa_cons (pe_callB (call_max2 rfl) (by rfl) T.n_max (by decide +kernel) (pa_cons (pe_ix (k_ixt K rfl) (pe_ix (k_ixl K rfl) (pv 2) (pv 5) (fun _ _ => rfl)) pe_int (fun _ _ => rfl)) (pa_cons (pe_ix (k_ixt K rfl) (pe_ix (k_ixl K rfl) (pv 2) (pv 4) (fun _ _ => rfl)) pe_int (fun _ _ => rfl)) pa_nil))) (pa_cons (pe_ix (k_ixt K rfl) (pe_ix (k_ixl K rfl) (pv 2) (pv 5) (fun _ _ => rfl)) pe_int (fun _ _ => rfl)) pa_nil))) (pg_sub (pv 2) (pv 5) set_list)))))))
      (pss_one (ps_ret (pv 2))))), ?_⟩
  refine q_setL (K := K) (erl_list (er_var rfl r0)) (fun p533 _ _ e534 hn535 h536 rl537 => ?_)
  have f539 := Mus.fresh (Mus.refl _) nin0 hn535
  have u538 := Un.of h536 rl537
  -- for turn in range(len(bounds))
  refine q_for (K := K) (src_range1 (er_len (er_var rfl (Rp.mono (SF.of e534) r0))) (by have := hp.1.2.1; omega)) (fun H1 k σ' H' => ∃ (s_l1 : (List (Int × Int))) (y541 : Option V) (y542 : Option V) (y543 : Option V), σ' = [some v0, some v1, some (.ref p533), y541, y542, y543] ∧ s_l1 = (List.take k (List.range x0.length)).foldl (fun (s_l1 : (List (Int × Int))) (turn_l1 : Nat) => ((List.foldl (fun (s_l2 : (List (Int × Int))) (k_j_l2 : (Int × Int)) => (((s_l2.set ((k_j_l2.1).toNat) (((s_l2).getD (k_j_l2.1).toNat (0, 0)).1, (min (((s_l2).getD (k_j_l2.1).toNat (0, 0)).2) (((s_l2).getD (k_j_l2.2).toNat (0, 0)).2)))).set ((k_j_l2.2).toNat) ((max ((((s_l2.set ((k_j_l2.1).toNat) (((s_l2).getD (k_j_l2.1).toNat (0, 0)).1, (min (((s_l2).getD (k_j_l2.1).toNat (0, 0)).2) (((s_l2).getD (k_j_l2.2).toNat (0, 0)).2))))).getD (k_j_l2.2).toNat (0, 0)).1) ((((s_l2.set ((k_j_l2.1).toNat) (((s_l2).getD (k_j_l2.1).toNat (0, 0)).1, (min (((s_l2).getD (k_j_l2.1).toNat (0, 0)).2) (((s_l2).getD (k_j_l2.2).toNat (0, 0)).2))))).getD (k_j_l2.1).toNat (0, 0)).1)), (((s_l2.set ((k_j_l2.1).toNat) (((s_l2).getD (k_j_l2.1).toNat (0, 0)).1, (min (((s_l2).getD (k_j_l2.1).toNat (0, 0)).2) (((s_l2).getD (k_j_l2.2).toNat (0, 0)).2))))).getD (k_j_l2.2).toNat (0, 0)).2)) : (List (Int × Int)))) s_l1 x1) : (List (Int × Int)))) x0 ∧ Mus [p533] H1 H' ∧ Un K H' p533 s_l1) (fun H1 e => ⟨x0, _, _, _, rfl, rfl, Mus.refl _, (Un.mono e u538)⟩) (fun _ _ _ _ h => by obtain ⟨_, _, _, _, _, _, m, _⟩ := h; exact m.sf) (fun H1 k550 turn_l1 σ' H' vturn_l1 _ e547 hx546 hP e548 rturn_l1 => ?_) (fun H1 σ' H' e547 hP => ?_)
  ·
    obtain ⟨s_l1, y541, y542, y543, rfl, hs544, m549, u551⟩ := hP
    refine s_gn ?_
    have hturn_l1 := List.mem_of_getElem? hx546
    have hturn1 := hs544
    refine q_last ?_
    have r553 := (Rp.mono ((((SF.of e534).trans (SF.of e547)).trans m549.sf).trans (SF.of e548)) r0)
    have r554 := (Rp.mono ((((SF.of e534).trans (SF.of e547)).trans m549.sf).trans (SF.of e548)) r1)
    -- for (k, j) in pairs
    refine q_for (K := K) (src_list (er_var rfl r554)) (fun H1 k σ' H' => ∃ (s_l2 : (List (Int × Int))) (y556 : Option V) (y557 : Option V), σ' = [some v0, some v1, some (.ref p533), some vturn_l1, y556, y557] ∧ s_l2 = (List.take k x1).foldl (fun (s_l2 : (List (Int × Int))) (k_j_l2 : (Int × Int)) => (((s_l2.set ((k_j_l2.1).toNat) (((s_l2).getD (k_j_l2.1).toNat (0, 0)).1, (min (((s_l2).getD (k_j_l2.1).toNat (0, 0)).2) (((s_l2).getD (k_j_l2.2).toNat (0, 0)).2)))).set ((k_j_l2.2).toNat) ((max ((((s_l2.set ((k_j_l2.1).toNat) (((s_l2).getD (k_j_l2.1).toNat (0, 0)).1, (min (((s_l2).getD (k_j_l2.1).toNat (0, 0)).2) (((s_l2).getD (k_j_l2.2).toNat (0, 0)).2))))).getD (k_j_l2.2).toNat (0, 0)).1) ((((s_l2.set ((k_j_l2.1).toNat) (((s_l2).getD (k_j_l2.1).toNat (0, 0)).1, (min (((s_l2).getD (k_j_l2.1).toNat (0, 0)).2) (((s_l2).getD (k_j_l2.2).toNat (0, 0)).2))))).getD (k_j_l2.1).toNat (0, 0)).1)), (((s_l2.set ((k_j_l2.1).toNat) (((s_l2).getD (k_j_l2.1).toNat (0, 0)).1, (min (((s_l2).getD (k_j_l2.1).toNat (0, 0)).2) (((s_l2).getD (k_j_l2.2).toNat (0, 0)).2))))).getD (k_j_l2.2).toNat (0, 0)).2)) : (List (Int × Int)))) s_l1 ∧ Mus [p533] H1 H' ∧ Un K H' p533 s_l2) (fun H1 e => ⟨s_l1, _, _, rfl, rfl, Mus.refl _, (Un.mono e (Un.mono e548 u551))⟩) (fun _ _ _ _ h => by obtain ⟨_, _, _, _, _, m, _⟩ := h; exact m.sf) (fun H1 k564 k_j_l2 σ' H' vk_j_l2 _ e561 hx560 hP e562 rk_j_l2 => ?_) (fun H1 σ' H' e561 hP => ?_)
    ·
      obtain ⟨s_l2, y556, y557, rfl, hs558, m563, u565⟩ := hP
      obtain ⟨v567, v568, r569, r570, tg571⟩ := tg_pair (k := 4) (m := 5) rk_j_l2
      refine tg571 _ ?_
      have hk_j_l2 := List.mem_of_getElem? hx560
      have hturn2 := hs558
      refine q_setI (K := K) rfl (Un.mono e562 u565) (er_pair (er_op (er_ixUI (x := ((s_l2).getD (k_j_l2.1).toNat (0, 0))) (i := k_j_l2.1) (n := (k_j_l2.1).toNat) rfl (Un.mono e562 u565) (er_var rfl r569) (by have hb := hp.2.2 _ (by assumption); omega) (by have hl1 : s_l1.length = x0.length := fold_invE (fun s : List (Int × Int) => s.length = x0.length) hturn1 rfl (fun s x _ hs => fold_inv (P := fun s : List (Int × Int) => s.length = x0.length) hs (fun s x _ hs => by simpa using hs)); have hl2 : s_l2.length = x0.length := fold_invE (fun s : List (Int × Int) => s.length = x0.length) hturn2 hl1 (fun s x _ hs => by simpa using hs); have hb := hp.2.2 _ (by assumption); first | exact getD_at (by omega) | omega | exact getD_at (by rw [List.length_set]; omega) | (rw [List.length_set]; omega))) er_int rr_ixP0) (er_min2 (er_op (er_ixUI (x := ((s_l2).getD (k_j_l2.1).toNat (0, 0))) (i := k_j_l2.1) (n := (k_j_l2.1).toNat) rfl (Un.mono e562 u565) (er_var rfl r569) (by have hb := hp.2.2 _ (by assumption); omega) (by have hl1 : s_l1.length = x0.length := fold_invE (fun s : List (Int × Int) => s.length = x0.length) hturn1 rfl (fun s x _ hs => fold_inv (P := fun s : List (Int × Int) => s.length = x0.length) hs (fun s x _ hs => by simpa using hs)); have hl2 : s_l2.length = x0.length := fold_invE (fun s : List (Int × Int) => s.length = x0.length) hturn2 hl1 (fun s x _ hs => by simpa using hs); have hb := hp.2.2 _ (by assumption); first | exact getD_at (by omega) | omega | exact getD_at (by rw [List.length_set]; omega) | (rw [List.length_set]; omega))) er_int rr_ixP1) (er_op (er_ixUI (x := ((s_l2).getD (k_j_l2.2).toNat (0, 0))) (i := k_j_l2.2) (n := (k_j_l2.2).toNat) rfl (Un.mono e562 u565) (er_var rfl r570) (by have hb := hp.2.2 _ (by assumption); omega) (by have hl1 : s_l1.length = x0.length := fold_invE (fun s : List (Int × Int) => s.length = x0.length) hturn1 rfl (fun s x _ hs => fold_inv (P := fun s : List (Int × Int) => s.length = x0.length) hs (fun s x _ hs => by simpa using hs)); have hl2 : s_l2.length = x0.length := fold_invE (fun s : List (Int × Int) => s.length = x0.length) hturn2 hl1 (fun s x _ hs => by simpa using hs); have hb := hp.2.2 _ (by assumption); first | exact getD_at (by omega) | omega | exact getD_at (by rw [List.length_set]; omega) | (rw [List.length_set]; omega))) er_int rr_ixP1))) (er_dn (n := (k_j_l2.1).toNat) (er_var rfl r569) (by have hb := hp.2.2 _ (by assumption); omega)) (by have hl1 : s_l1.length = x0.length := fold_invE (fun s : List (Int × Int) => s.length = x0.length) hturn1 rfl (fun s x _ hs => fold_inv (P := fun s : List (Int × Int) => s.length = x0.length) hs (fun s x _ hs => by simpa using hs)); have hl2 : s_l2.length = x0.length := fold_invE (fun s : List (Int × Int) => s.length = x0.length) hturn2 hl1 (fun s x _ hs => by simpa using hs); have hb := hp.2.2 _ (by assumption); first | exact getD_at (by omega) | omega | exact getD_at (by rw [List.length_set]; omega) | (rw [List.length_set]; omega)) (fun _ m572 u573 => ?_)
      refine q_last ?_
      have r574 := (Rp.mono ((((SF.of e561).trans m563.sf).trans (SF.of e562)).trans m572.sf) r553)
      have r575 := (Rp.mono ((((SF.of e561).trans m563.sf).trans (SF.of e562)).trans m572.sf) r554)
      have r576 := (Rp.mono ((((SF.of e561).trans m563.sf).trans (SF.of e562)).trans m572.sf) rturn_l1)
      refine q_setI (K := K) rfl u573 (er_pair (er_max2 (er_op (er_ixUI (x := (((s_l2.set ((k_j_l2.1).toNat) (((s_l2).getD (k_j_l2.1).toNat (0, 0)).1, (min (((s_l2).getD (k_j_l2.1).toNat (0, 0)).2) (((s_l2).getD (k_j_l2.2).toNat (0, 0)).2))))).getD (k_j_l2.2).toNat (0, 0))) (i := k_j_l2.2) (n := (k_j_l2.2).toNat) rfl u573 (er_var rfl (Rp.mono m572.sf r570)) (by have hb := hp.2.2 _ (by assumption); omega) (by have hl1 : s_l1.length = x0.length := fold_invE (fun s : List (Int × Int) => s.length = x0.length) hturn1 rfl (fun s x _ hs => fold_inv (P := fun s : List (Int × Int) => s.length = x0.length) hs (fun s x _ hs => by simpa using hs)); have hl2 : s_l2.length = x0.length := fold_invE (fun s : List (Int × Int) => s.length = x0.length) hturn2 hl1 (fun s x _ hs => by simpa using hs); have hb := hp.2.2 _ (by assumption); first | exact getD_at (by omega) | omega | exact getD_at (by rw [List.length_set]; omega) | (rw [List.length_set]; omega))) er_int rr_ixP0) (er_op (er_ixUI (x := (((s_l2.set ((k_j_l2.1).toNat) (((s_l2).getD (k_j_l2.1).toNat (0, 0)).1, (min (((s_l2).getD (k_j_l2.1).toNat (0, 0)).2) (((s_l2).getD (k_j_l2.2).toNat (0, 0)).2))))).getD (k_j_l2.1).toNat (0, 0))) (i := k_j_l2.1) (n := (k_j_l2.1).toNat) rfl u573 (er_var rfl (Rp.mono m572.sf r569)) (by have hb := hp.2.2 _ (by assumption); omega) (by have hl1 : s_l1.length = x0.length := fold_invE (fun s : List (Int × Int) => s.length = x0.length) hturn1 rfl (fun s x _ hs => fold_inv (P := fun s : List (Int × Int) => s.length = x0.length) hs (fun s x _ hs => by simpa using hs)); have hl2 : s_l2.length = x0.length := fold_invE (fun s : List (Int × Int) => s.length = x0.length) hturn2 hl1 (fun s x _ hs => by simpa using hs); have hb := hp.2.2 _ (by assumption); first | exact getD_at (by omega) | omega | exact getD_at (by rw [List.length_set]; omega) | (rw [List.length_set]; omega))) er_int rr_ixP0)) (er_op (er_ixUI (x := (((s_l2.set ((k_j_l2.1).toNat) (((s_l2).getD (k_j_l2.1).toNat (0, 0)).1, (min (((s_l2).getD (k_j_l2.1).toNat (0, 0)).2) (((s_l2).getD (k_j_l2.2).toNat (0, 0)).2))))).getD (k_j_l2.2).toNat (0, 0))) (i := k_j_l2.2) (n := (k_j_l2.2).toNat) rfl u573 (er_var rfl (Rp.mono m572.sf r570)) (by have hb := hp.2.2 _ (by assumption); omega) (by have hl1 : s_l1.length = x0.length := fold_invE (fun s : List (Int × Int) => s.length = x0.length) hturn1 rfl (fun s x _ hs => fold_inv (P := fun s : List (Int × Int) => s.length = x0.length) hs (fun s x _ hs => by simpa using hs)); have hl2 : s_l2.length = x0.length := fold_invE (fun s : List (Int × Int) => s.length = x0.length) hturn2 hl1 (fun s x _ hs => by simpa using hs); have hb := hp.2.2 _ (by assumption); first | exact getD_at (by omega) | omega | exact getD_at (by rw [List.length_set]; omega) | (rw [List.length_set]; omega))) er_int rr_ixP1)) (er_dn (n := (k_j_l2.2).toNat) (er_var rfl (Rp.mono m572.sf r570)) (by have hb := hp.2.2 _ (by assumption); omega)) (by have hl1 : s_l1.length = x0.length := fold_invE (fun s : List (Int × Int) => s.length = x0.length) hturn1 rfl (fun s x _ hs => fold_inv (P := fun s : List (Int × Int) => s.length = x0.length) hs (fun s x _ hs => by simpa using hs)); have hl2 : s_l2.length = x0.length := fold_invE (fun s : List (Int × Int) => s.length = x0.length) hturn2 hl1 (fun s x _ hs => by simpa using hs); have hb := hp.2.2 _ (by assumption); first | exact getD_at (by omega) | omega | exact getD_at (by rw [List.length_set]; omega) | (rw [List.length_set]; omega)) (fun _ m577 u578 => ?_)
      refine s_nx ?_
      exact ⟨((s_l2.set ((k_j_l2.1).toNat) (((s_l2).getD (k_j_l2.1).toNat (0, 0)).1, (min (((s_l2).getD (k_j_l2.1).toNat (0, 0)).2) (((s_l2).getD (k_j_l2.2).toNat (0, 0)).2)))).set ((k_j_l2.2).toNat) ((max ((((s_l2.set ((k_j_l2.1).toNat) (((s_l2).getD (k_j_l2.1).toNat (0, 0)).1, (min (((s_l2).getD (k_j_l2.1).toNat (0, 0)).2) (((s_l2).getD (k_j_l2.2).toNat (0, 0)).2))))).getD (k_j_l2.2).toNat (0, 0)).1) ((((s_l2.set ((k_j_l2.1).toNat) (((s_l2).getD (k_j_l2.1).toNat (0, 0)).1, (min (((s_l2).getD (k_j_l2.1).toNat (0, 0)).2) (((s_l2).getD (k_j_l2.2).toNat (0, 0)).2))))).getD (k_j_l2.1).toNat (0, 0)).1)), (((s_l2.set ((k_j_l2.1).toNat) (((s_l2).getD (k_j_l2.1).toNat (0, 0)).1, (min (((s_l2).getD (k_j_l2.1).toNat (0, 0)).2) (((s_l2).getD (k_j_l2.2).toNat (0, 0)).2))))).getD (k_j_l2.2).toNat (0, 0)).2)), _, _, rfl, (fold_step hx560 hs558), ((((Mus.baseS (Mus.refl _) m563 (allC (.inr (.head _)) all0)).trans (Mus.of e562)).trans (Mus.mu m572 (.head _))).trans (Mus.mu m577 (.head _))), u578⟩
    ·
      obtain ⟨s_l2, y556, y557, rfl, hs558, m563, u565⟩ := hP
      replace hs558 := fold_all hs558
      subst hs558
      refine s_nx ?_
      exact ⟨(List.foldl (fun (s_l2 : (List (Int × Int))) (k_j_l2 : (Int × Int)) => (((s_l2.set ((k_j_l2.1).toNat) (((s_l2).getD (k_j_l2.1).toNat (0, 0)).1, (min (((s_l2).getD (k_j_l2.1).toNat (0, 0)).2) (((s_l2).getD (k_j_l2.2).toNat (0, 0)).2)))).set ((k_j_l2.2).toNat) ((max ((((s_l2.set ((k_j_l2.1).toNat) (((s_l2).getD (k_j_l2.1).toNat (0, 0)).1, (min (((s_l2).getD (k_j_l2.1).toNat (0, 0)).2) (((s_l2).getD (k_j_l2.2).toNat (0, 0)).2))))).getD (k_j_l2.2).toNat (0, 0)).1) ((((s_l2.set ((k_j_l2.1).toNat) (((s_l2).getD (k_j_l2.1).toNat (0, 0)).1, (min (((s_l2).getD (k_j_l2.1).toNat (0, 0)).2) (((s_l2).getD (k_j_l2.2).toNat (0, 0)).2))))).getD (k_j_l2.1).toNat (0, 0)).1)), (((s_l2.set ((k_j_l2.1).toNat) (((s_l2).getD (k_j_l2.1).toNat (0, 0)).1, (min (((s_l2).getD (k_j_l2.1).toNat (0, 0)).2) (((s_l2).getD (k_j_l2.2).toNat (0, 0)).2))))).getD (k_j_l2.2).toNat (0, 0)).2)) : (List (Int × Int)))) s_l1 x1), _, _, _, rfl, (fold_step hx546 hs544), (Mus.baseS (((Mus.baseS (Mus.refl _) m549 (allC (.inr (.head _)) all0)).trans (Mus.of e548)).trans (Mus.of e561)) m563 (allC (.inr (.head _)) all0)), u565⟩
  ·
    obtain ⟨s_l1, y541, y542, y543, rfl, hs544, m549, u551⟩ := hP
    replace hs544 := fold_all hs544
    subst hs544
    obtain ⟨us, h1, rr⟩ := u551
    exact ⟨.ref p533, rfl, q p533 us _ (Mus.same0 (Mus.baseS (((Mus.refl _).trans (Mus.of e534)).trans (Mus.of e547)) m549 (allC (.inl f539) all0))) f539 h1 rr⟩
/-! ### bounds narrowed by pairs -/
def nstep (s : List (Int × Int)) (t : Int × Int) : List (Int × Int) :=
  (s.set t.1.toNat ((s.getD t.1.toNat (0, 0)).1, min (s.getD t.1.toNat (0, 0)).2 (s.getD t.2.toNat (0, 0)).2)).set t.2.toNat
    (max ((s.set t.1.toNat ((s.getD t.1.toNat (0, 0)).1, min (s.getD t.1.toNat (0, 0)).2 (s.getD t.2.toNat (0, 0)).2)).getD t.2.toNat (0, 0)).1 ((s.set t.1.toNat ((s.getD t.1.toNat (0, 0)).1, min (s.getD t.1.toNat (0, 0)).2 (s.getD t.2.toNat (0, 0)).2)).getD t.1.toNat (0, 0)).1,
     ((s.set t.1.toNat ((s.getD t.1.toNat (0, 0)).1, min (s.getD t.1.toNat (0, 0)).2 (s.getD t.2.toNat (0, 0)).2)).getD t.2.toNat (0, 0)).2)
theorem narrowed_eq (b p : List (Int × Int)) : m_narrowed b p = (List.range b.length).foldl (fun s _ => p.foldl nstep s) b := rfl
theorem nstep_len (s : List (Int × Int)) (t : Int × Int) : (nstep s t).length = s.length := by unfold nstep; rw [List.length_set, List.length_set]
theorem narrowed_len (b p : List (Int × Int)) : (m_narrowed b p).length = b.length := by
  rw [narrowed_eq]
  exact fold_inv (P := fun s : List (Int × Int) => s.length = b.length) rfl fun s _ _ hs => fold_inv (P := fun s : List (Int × Int) => s.length = b.length) hs fun s t _ hs => by rw [nstep_len]; exact hs

def m_with_pairs (x0 : (List (Int × Int))) (x1 : (List (Int × Int))) : (Except Str (List (Int × Int))) := (m_checked (m_narrowed x0 x1))
theorem ok_with_pairsX (T : Txt K mg) : Ok P w K mg base (L2.CX P w) 5 "with_pairs" ["bounds", "pairs"] (sx2 K ((fun b p => BOk b ∧ p.length ≤ 42 ∧ ∀ t ∈ p, (0 ≤ t.1 ∧ t.1 < b.length) ∧ (0 ≤ t.2 ∧ t.2 < b.length) ∧ t.1 ≠ t.2) : (List (Int × Int)) → (List (Int × Int)) → Prop) m_with_pairs) := by
  refine okx_of T.d_with_pairs sc_with_pairs (bi2 fun _ _ _ _ _ _ _ _ => rfl) len_sx2 (fun f cdv A outer s H vs Q E hr h => ?_)
  have nd := sc_with_pairs.nd
  obtain ⟨v0, v1, x0, x1, rfl, r0, r1, hp, qo, qe⟩ := h
  refine ⟨_, (pss_cons (ps_expr (pe_fn (ok_check_bounds T) (hr.mono (by decide)) pass0 (pa_cons (pv 0) pa_nil)))
      (pss_cons (ps_expr (pe_fn (ok_check_pairs T) (hr.mono (by decide)) pass0 (pa_cons (pv 0) (pa_cons (pv 1) pa_nil))))
      (pss_one (ps_ret (pe_fnX (ok_checkedX T) (hr.mono (by decide)) tkD (pa_cons (pe_frz (pe_fn (ok_narrowed T) (hr.mono (by decide)) pass0 (pa_cons (pv 0) (pa_cons (pv 1) pa_nil)))) pa_nil)))))), ?_⟩
  refine q_drop (K := K) (er_call1 (er_var rfl r0) (by exact hp.1)) (fun _ e579 => ?_)
  refine q_drop (K := K) (er_call2 (er_var rfl (Rp.mono (SF.of e579) r0)) (er_var rfl (Rp.mono (SF.of e579) r1)) (by exact hp)) (fun _ e580 => ?_)
  exact s_retX (K := K) (ex_call1 (er_frz (erl_call2 (er_var rfl (Rp.mono ((SF.of e579).trans (SF.of e580)) r0)) (er_var rfl (Rp.mono ((SF.of e579).trans (SF.of e580)) r1)) (by exact hp))) (by have := hp.1.2.1; rw [narrowed_len]; omega)) (fun c582 hE583 hM584 _ e581 => qe _ (show m_with_pairs x0 x1 = .error c582 from by unfold m_with_pairs; exact hE583) hM584 _ ((e579.trans e580).trans e581)) (fun z585 u _ hy586 e581 rr => qo _ (show m_with_pairs x0 x1 = .ok z585 from by unfold m_with_pairs; exact hy586) u _ ((e579.trans e580).trans e581) rr)
def m_can_be_pairs (x0 : (List (Int × Int))) (x1 : (List (Int × Int))) : Bool := (((m_narrowed x0 x1).map (fun (x597 : (Int × Int)) => (decide (x597.1 ≤ x597.2)))).all id)
theorem ok_can_be_pairs (T : Txt K mg) : Ok P w K mg base CX0 5 "can_be_pairs" ["bounds", "pairs"] (sp2 K ((fun b p => BOk b ∧ p.length ≤ 42 ∧ ∀ t ∈ p, (0 ≤ t.1 ∧ t.1 < b.length) ∧ (0 ≤ t.2 ∧ t.2 < b.length) ∧ t.1 ≠ t.2) : (List (Int × Int)) → (List (Int × Int)) → Prop) m_can_be_pairs) := by
  refine ok_of T.d_can_be_pairs sc_can_be_pairs (bi2 fun _ _ _ _ _ _ _ _ => rfl) len_sp2 (fun f cdv A outer s H vs Q E hr h => ?_)
  have nd := sc_can_be_pairs.nd
  obtain ⟨v0, v1, x0, x1, rfl, r0, r1, hp, q⟩ := h
  refine ⟨_, (pss_cons (ps_expr (pe_fn (ok_check_bounds T) (hr.mono (by decide)) pass0 (pa_cons (pv 0) pa_nil)))
      (pss_cons (ps_expr (pe_fn (ok_check_pairs T) (hr.mono (by decide)) pass0 (pa_cons (pv 0) (pa_cons (pv 1) pa_nil))))
      (pss_one (ps_ret (pe_callB (k_all K rfl rfl) (by rfl) T.n_all (by decide +kernel) (pa_cons (pe_frz (pe_lc (own := [("low", 2), ("high", 3)]) rfl nd (k_pl K rfl (pe_frz (pe_fn (ok_narrowed T) (hr.mono (by decide)) pass0 (pa_cons (pv 0) (pa_cons (pv 1) pa_nil))))) (blkOk_by (N := N_can_be_pairs) (sc := defScope s_can_be_pairs) (by decide +kernel)) (fun _ _ _ _ _ => (k_gt K rfl 2 rfl (pgs_cons (pg_name (i := 2) nd rfl (.inl rfl) (.inr rfl)) (pgs_cons (pg_name (i := 3) nd rfl (.inl rfl) (.inr rfl)) pgs_nil)))) (fun _ _ _ _ _ => pts_nil) (fun _ _ _ _ _ => (pe_cmpR op_le (pv 2) (pv 3) (nomark _))))) pa_nil)))))), ?_⟩
  refine q_drop (K := K) (er_call1 (er_var rfl r0) (by exact hp.1)) (fun _ e594 => ?_)
  refine q_drop (K := K) (er_call2 (er_var rfl (Rp.mono (SF.of e594) r0)) (er_var rfl (Rp.mono (SF.of e594) r1)) (by exact hp)) (fun _ e595 => ?_)
  exact s_ret (K := K) (er_all (er_frz (erl_lm2 (f := fun (x597 : (Int × Int)) => (decide (x597.1 ≤ x597.2))) (src_list (er_frz (erl_call2 (er_var rfl (Rp.mono ((SF.of e594).trans (SF.of e595)) r0)) (er_var rfl (Rp.mono ((SF.of e594).trans (SF.of e595)) r1)) (by exact hp)))) (by have := hp.1.2.1; rw [narrowed_len]; omega) (by intros; rfl) (fun x597 hx598 v599 v600 _ e596 r601 r602 => (er_op (er_var rfl r601) (er_var rfl r602) rr_le))))) (fun u _ e603 rr => q u _ ((e594.trans e595).trans e603) rr)
theorem wv_ord {b : List (Int × Int)} {k l h : Int} (hp : BOk b ∧ (0 ≤ k ∧ k < b.length) ∧ (-50 ≤ l ∧ l ≤ h ∧ h ≤ 50) ∧ max l (b.getD k.toNat (0, 0)).1 ≤ min h (b.getD k.toNat (0, 0)).2) : ∀ t ∈ b.set k.toNat (max l (b.getD k.toNat (0, 0)).1, min h (b.getD k.toNat (0, 0)).2), t.1 ≤ t.2 := fun t ht => by
  rcases List.mem_or_eq_of_mem_set ht with q | q
  · exact ord_of hp.1 t q
  · subst q; exact hp.2.2.2
def m_with_value (x0 : (List (Int × Int))) (x1 : Int) (x2 : Int) (x3 : Int) : (List (Int × Int)) := (x0.set ((x1).toNat) ((max x2 (((x0).getD (x1).toNat (0, 0)).1)), (min x3 (((x0).getD (x1).toNat (0, 0)).2))))
theorem ok_with_value (T : Txt K mg) : Ok P w K mg base CX0 5 "with_value" ["bounds", "place", "low", "high"] (sl4 K ((fun b k l h => BOk b ∧ (0 ≤ k ∧ k < b.length) ∧ (-50 ≤ l ∧ l ≤ h ∧ h ≤ 50) ∧ max l (b.getD k.toNat (0, 0)).1 ≤ min h (b.getD k.toNat (0, 0)).2) : (List (Int × Int)) → Int → Int → Int → Prop) m_with_value) := by
  refine ok_of T.d_with_value sc_with_value (bi4 fun _ _ _ _ _ _ _ _ _ _ => rfl) len_sl4 (fun f cdv A outer s H vs Q E hr h => ?_)
  have nd := sc_with_value.nd
  obtain ⟨v0, v1, v2, v3, x0, x1, x2, x3, rfl, r0, r1, r2, r3, hp, q⟩ := h
  refine ⟨_, (pss_cons (ps_expr (pe_fn (ok_check_bounds T) (hr.mono (by decide)) pass0 (pa_cons (pv 0) pa_nil)))
      (pss_cons (ps_expr (pe_fn (ok_check_place T) (hr.mono (by decide)) pass0 (pa_cons (pv 0) (pa_cons (pv 1) pa_nil))))
      (pss_cons (ps_if (PW.pt (pw_or (pt_not (pt_val (pe_fn (ok_is_int T) (hr.mono (by decide)) pass0 (pa_cons (pv 2) (pa_cons (pe_un un_neg pe_int) (pa_cons pe_int pa_nil)))))) (pw_or1 (pt_not (pt_val (pe_fn (ok_is_int T) (hr.mono (by decide)) pass0 (pa_cons (pv 3) (pa_cons (pv 2) (pa_cons pe_int pa_nil))))))))) (pss_one ps_never) pss_nil)
      (pss_cons (ps_set (i := 4) nd rfl (.inl rfl) (pe_callTy (k_list K rfl) (by rfl) T.n_list (by decide +kernel) (pa_cons (pv 0) pa_nil)))
      (pss_cons (ps_asg (pe_tup (pa_cons (pe_callB (call_max2 rfl) (by rfl) T.n_max (by decide +kernel) (pa_cons (pv 2) (pa_cons (pe_ix (k_ixt K rfl) (pe_ix (k_ixl K rfl) (pv 0) (pv 1) (fun _ _ => rfl)) pe_int (fun _ _ => rfl)) pa_nil))) (pa_cons (pe_callB (call_min2 rfl) (by rfl) T.n_min (by decide +kernel) (pa_cons (pv 3) (pa_cons (pe_ix (k_ixt K rfl) (pe_ix (k_ixl K rfl) (pv 0) (pv 1) (fun _ _ => rfl)) pe_int (fun _ _ => rfl)) pa_nil))) pa_nil))) (pg_sub (pv 4) (pv 1) set_list))
      (pss_one (ps_ret (pe_fn (ok_checked T) (hr.mono (by decide)) pass0 (pa_cons (pv 4) pa_nil))))))))), ?_⟩
  refine q_drop (K := K) (er_call1 (er_var rfl r0) (by exact hp.1)) (fun _ e604 => ?_)
  refine q_drop (K := K) (er_call2 (er_var rfl (Rp.mono (SF.of e604) r0)) (er_var rfl (Rp.mono (SF.of e604) r1)) (by have := hp.1.2.1; exact ⟨by omega, hp.2.1⟩)) (fun _ e605 => ?_)
  refine q_not (K := K) (et_or (et_not (et_B (er_call3 (er_var rfl (Rp.mono ((SF.of e604).trans (SF.of e605)) r2)) (er_neg er_int) er_int trivial))) (fun hsc => (et_not (et_B (er_call3 (er_var rfl (Rp.mono ((SF.of e604).trans (SF.of e605)) r3)) (er_var rfl (Rp.mono ((SF.of e604).trans (SF.of e605)) r2)) er_int trivial))))) (by simp [m_is_int]; omega) (fun _ e606 => ?_)
  refine q_setL (K := K) (erl_list (er_var rfl (Rp.mono (((SF.of e604).trans (SF.of e605)).trans (SF.of e606)) r0))) (fun p607 _ _ e608 hn609 h610 rl611 => ?_)
  have f613 := Mus.fresh ((((Mus.refl _).trans (Mus.of e604)).trans (Mus.of e605)).trans (Mus.of e606)) nin0 hn609
  have u612 := Un.of h610 rl611
  have r614 := (Rp.mono ((((SF.of e604).trans (SF.of e605)).trans (SF.of e606)).trans (SF.of e608)) r0)
  have r615 := (Rp.mono ((((SF.of e604).trans (SF.of e605)).trans (SF.of e606)).trans (SF.of e608)) r1)
  have r616 := (Rp.mono ((((SF.of e604).trans (SF.of e605)).trans (SF.of e606)).trans (SF.of e608)) r2)
  have r617 := (Rp.mono ((((SF.of e604).trans (SF.of e605)).trans (SF.of e606)).trans (SF.of e608)) r3)
  refine q_setI (K := K) rfl u612 (er_pair (er_max2 (er_var rfl r616) (er_op (er_op (er_var rfl r614) (er_var rfl r615) (rr_ixI (x := ((x0).getD (x1).toNat (0, 0))) (n := (x1).toNat) (by have := hp.2.1; omega) (by first | exact getD_at (by have := hp.2.1; omega) | (have := hp.2.1; omega)))) er_int rr_ixP0)) (er_min2 (er_var rfl r617) (er_op (er_op (er_var rfl r614) (er_var rfl r615) (rr_ixI (x := ((x0).getD (x1).toNat (0, 0))) (n := (x1).toNat) (by have := hp.2.1; omega) (by first | exact getD_at (by have := hp.2.1; omega) | (have := hp.2.1; omega)))) er_int rr_ixP1))) (er_dn (n := (x1).toNat) (er_var rfl r615) (by have := hp.2.1; omega)) (by first | exact getD_at (by have := hp.2.1; omega) | (have := hp.2.1; omega)) (fun _ m618 u619 => ?_)
  refine s_retThru (K := K) rfl u619 (by exact ⟨by have := hp.1.2.1; simp; omega, fun t ht => wv_ord hp t ht⟩) (fun _ us e620 h1 rr => ?_)
  exact q p607 us _ (Mus.same0 ((Mus.mut (((((Mus.refl _).trans (Mus.of e604)).trans (Mus.of e605)).trans (Mus.of e606)).trans (Mus.of e608)) f613 m618).trans (Mus.of e620))) f613 h1 rr
def m_count_choices (x0 : (List (Int × Int))) : Int := (List.foldl (fun (s_l1 : Int) (low_high_l1 : (Int × Int)) => ((s_l1 * ((low_high_l1.2 - low_high_l1.1) + (1 : Int))) : Int)) (1 : Int) x0)
theorem ok_count_choices (T : Txt K mg) : Ok P w K mg base CX0 5 "count_choices" ["bounds"] (sp1 K ((fun b => BOk b) : (List (Int × Int)) → Prop) m_count_choices) := by
  refine ok_of T.d_count_choices sc_count_choices (bi1 fun _ _ _ _ _ _ _ => rfl) len_sp1 (fun f cdv A outer s H vs Q E hr h => ?_)
  have nd := sc_count_choices.nd
  obtain ⟨v0, x0, rfl, r0, hp, q⟩ := h
  refine ⟨_, (pss_cons (ps_expr (pe_fn (ok_check_bounds T) (hr.mono (by decide)) pass0 (pa_cons (pv 0) pa_nil)))
      (pss_cons (ps_set (i := 1) nd rfl (.inl rfl) pe_int)
      (pss_cons (ps_for PassesOwn.never rfl (k_pl K rfl (pv 0)) (k_gt K rfl 2 rfl (pgs_cons (pg_name (i := 2) nd rfl (.inl rfl) (.inr rfl)) (pgs_cons (pg_name (i := 3) nd rfl (.inl rfl) (.inr rfl)) pgs_nil))) (pss_one (ps_aug (i := 1) nd rfl (.inl rfl) (pe_op op_add (pe_op op_sub (pv 3) (pv 2)) pe_int) ip_mulC)))
      (pss_one (ps_ret (pv 1)))))), ?_⟩
  refine q_drop (K := K) (er_call1 (er_var rfl r0) (by exact hp)) (fun _ e621 => ?_)
  refine q_set (K := K) er_int (fun v624 _ e622 r623 => ?_)
  -- for (low, high) in bounds
  refine q_for (K := K) (src_list (er_var rfl (Rp.mono ((SF.of e621).trans (SF.of e622)) r0))) (fun H1 k σ' H' => ∃ (s_l1 : Int) (w626 : V) (y627 : Option V) (y628 : Option V), σ' = [some v0, some w626, y627, y628] ∧ s_l1 = (List.take k x0).foldl (fun (s_l1 : Int) (low_high_l1 : (Int × Int)) => ((s_l1 * ((low_high_l1.2 - low_high_l1.1) + (1 : Int))) : Int)) (1 : Int) ∧ Mus [] H1 H' ∧ Rp.rep K H' w626 s_l1) (fun H1 e => ⟨(1 : Int), _, _, _, rfl, rfl, Mus.refl _, (Rp.mono (SF.of e) r623)⟩) (fun _ _ _ _ h => by obtain ⟨_, _, _, _, _, _, m, _⟩ := h; exact m.sf) (fun H1 k635 low_high_l1 σ' H' vlow_high_l1 _ e632 hx631 hP e633 rlow_high_l1 => ?_) (fun H1 σ' H' e632 hP => ?_)
  ·
    obtain ⟨s_l1, w626, y627, y628, rfl, hs629, m634, r636⟩ := hP
    obtain ⟨v638, v639, r640, r641, tg642⟩ := tg_pair (k := 2) (m := 3) rlow_high_l1
    refine tg642 _ ?_
    have hlow_high_l1 := List.mem_of_getElem? hx631
    have hturn1 := hs629
    refine q_last ?_
    have r643 := (Rp.mono (((((SF.of e621).trans (SF.of e622)).trans (SF.of e632)).trans m634.sf).trans (SF.of e633)) r0)
    refine q_mulI (K := K) rfl (Rp.mono (SF.of e633) r636) (er_op (er_op (er_var rfl r641) (er_var rfl r640) rr_sub) er_int rr_add) (by exact .inr ⟨by have := hp.2.2 _ (by assumption); omega, by have := hp.2.2 _ (by assumption); omega⟩) (fun v646 _ e644 r645 => ?_)
    refine s_nx ?_
    exact ⟨(s_l1 * ((low_high_l1.2 - low_high_l1.1) + (1 : Int))), _, _, _, rfl, (fold_step hx631 hs629), (((Mus.baseS (Mus.refl _) m634 all0).trans (Mus.of e633)).trans (Mus.of e644)), r645⟩
  ·
    obtain ⟨s_l1, w626, y627, y628, rfl, hs629, m634, r636⟩ := hP
    replace hs629 := fold_all hs629
    subst hs629
    have r647 := (Rp.mono ((((SF.of e621).trans (SF.of e622)).trans (SF.of e632)).trans m634.sf) r0)
    exact s_ret (K := K) (er_var rfl r636) (fun u _ e648 rr => q u _ (Mus.same0 ((Mus.baseS ((((Mus.refl _).trans (Mus.of e621)).trans (Mus.of e622)).trans (Mus.of e632)) m634 all0).trans (Mus.of e648))) rr)
def m_met (x0 : (List (Int × Int))) (x1 : (List (Int × Int))) : (Except Str (List (Int × Int))) := (if (!(decide (((x0.length : Nat) : Int) = ((x1.length : Nat) : Int)))) = true then (Except.error "BadNumber") else (m_checked ((x0.zip x1).map (fun (x661 : ((Int × Int) × (Int × Int))) => ((max x661.1.1 x661.2.1), (min x661.1.2 x661.2.2))))))
theorem ok_metX (T : Txt K mg) : Ok P w K mg base (L2.CX P w) 5 "met" ["one", "other"] (sx2 K ((fun a b => BOk a ∧ BOk b ∧ a.length = b.length) : (List (Int × Int)) → (List (Int × Int)) → Prop) m_met) := by
  refine okx_of T.d_met sc_met (bi2 fun _ _ _ _ _ _ _ _ => rfl) len_sx2 (fun f cdv A outer s H vs Q E hr h => ?_)
  have nd := sc_met.nd
  obtain ⟨v0, v1, x0, x1, rfl, r0, r1, hp, qo, qe⟩ := h
  refine ⟨_, (pss_cons (ps_expr (pe_fn (ok_check_bounds T) (hr.mono (by decide)) pass0 (pa_cons (pv 0) pa_nil)))
      (pss_cons (ps_expr (pe_fn (ok_check_bounds T) (hr.mono (by decide)) pass0 (pa_cons (pv 1) pa_nil)))
      (pss_cons (ps_if (pt_cmpR op_ne (pe_callB (k_len K rfl) (by rfl) T.n_len PySem.boot_len (pa_cons (pv 0) pa_nil)) (pe_callB (k_len K rfl) (by rfl) T.n_len PySem.boot_len (pa_cons (pv 1) pa_nil)) (nomark _)) (pss_one (k_raise K rfl tkD (T.x.e "BadNumber" (by decide)))) pss_nil)
      (pss_one (ps_ret (pe_fnX (ok_checkedX T) (hr.mono (by decide)) tkD (pa_cons (pe_frz (pe_lc (own := [("a", 2), ("b", 3)]) rfl nd (k_pz K rfl (by rfl) T.n_zip (pa_cons (pv 0) (pa_cons (pv 1) pa_nil))) (blkOk_by (N := N_met) (sc := defScope s_met) (by decide +kernel)) (fun _ _ _ _ _ => (k_gt K rfl 2 rfl (pgs_cons (pg_name (i := 2) nd rfl (.inl rfl) (.inr rfl)) (pgs_cons (pg_name (i := 3) nd rfl (.inl rfl) (.inr rfl)) pgs_nil)))) (fun _ _ _ _ _ => pts_nil) (fun _ _ _ _ _ => (pe_tup (pa_cons (pe_callB (call_max2 rfl) (by rfl) T.n_max (by decide +kernel) (pa_cons (pe_ix (k_ixt K rfl) (pv 2) pe_int (fun _ _ => rfl)) (pa_cons (pe_ix (k_ixt K rfl) (pv 3) pe_int (fun _ _ => rfl)) pa_nil))) (pa_cons (pe_callB (call_min2 rfl) (by rfl) T.n_min (by decide +kernel) (pa_cons (pe_ix (k_ixt K rfl) (pv 2) pe_int (fun _ _ => rfl)) (pa_cons (pe_ix (k_ixt K rfl) (pv 3) pe_int (fun _ _ => rfl)) pa_nil))) pa_nil)))))) pa_nil))))))), ?_⟩
  refine q_drop (K := K) (er_call1 (er_var rfl r0) (by first | exact hp.1 | exact hp.2.1)) (fun _ e656 => ?_)
  refine q_drop (K := K) (er_call1 (er_var rfl (Rp.mono (SF.of e656) r1)) (by first | exact hp.1 | exact hp.2.1)) (fun _ e657 => ?_)
  refine q_if (K := K) (et_test (er_op (er_up (er_len (er_var rfl (Rp.mono ((SF.of e656).trans (SF.of e657)) r0)))) (er_up (er_len (er_var rfl (Rp.mono ((SF.of e656).trans (SF.of e657)) r1)))) rr_neI)) (fun hc659 _ e658 => ?_) (fun hc659 _ e658 => ?_)
  ·
    exact qe "BadNumber" (show m_met x0 x1 = .error "BadNumber" from by unfold m_met; rw [if_pos hc659]) (by decide) _ ((e656.trans e657).trans e658)
  ·
    refine s_nxz ?_
    exact s_retX (K := K) (ex_call1 (er_frz (erl_lm2 (f := fun (x661 : ((Int × Int) × (Int × Int))) => ((max x661.1.1 x661.2.1), (min x661.1.2 x661.2.2))) (src_zip (er_var rfl (Rp.mono (((SF.of e656).trans (SF.of e657)).trans (SF.of e658)) r0)) (er_var rfl (Rp.mono (((SF.of e656).trans (SF.of e657)).trans (SF.of e658)) r1))) (by have := hp.1.2.1; simp; omega) (by intros; rfl) (fun x661 hx662 v663 v664 _ e660 r665 r666 => (er_pair (er_max2 (er_op (er_var rfl r665) er_int rr_ixP0) (er_op (er_var rfl r666) er_int rr_ixP0)) (er_min2 (er_op (er_var rfl r665) er_int rr_ixP1) (er_op (er_var rfl r666) er_int rr_ixP1)))))) (by have := hp.1.2.1; simp; omega)) (fun c668 hE669 hM670 _ e667 => qe _ (show m_met x0 x1 = .error c668 from by unfold m_met; rw [if_neg (nff hc659)]; exact hE669) hM670 _ (((e656.trans e657).trans e658).trans e667)) (fun z671 u _ hy672 e667 rr => qo _ (show m_met x0 x1 = .ok z671 from by unfold m_met; rw [if_neg (nff hc659)]; exact hy672) u _ (((e656.trans e657).trans e658).trans e667) rr)
theorem ok__law_start (T : Txt K mg) : Ok P w K mg base CX0 1 "_law_start" ["_law_script"] (spStart K) := by
  refine ok_of T.d__law_start sc__law_start (bi1 fun _ _ _ _ _ _ _ => rfl) (fun vs H Q E h => by obtain ⟨_, _, rfl, _⟩ := h; rfl) (fun f cdv A outer s H vs Q E hr h => ?_)
  have nd := sc__law_start.nd
  obtain ⟨a, ns, rfl, hs, hz, q⟩ := h
  refine ⟨_, (pss_one (ps_ret (pe_lst (pa_cons (pe_ifExp (pt_cmpR (k_neD K rfl hr.units) (pv 0) (pe_lst pa_nil) (nomark _)) (pe_callTy (k_list K rfl) (by rfl) T.n_list (by decide +kernel) (pa_cons (pv 0) pa_nil)) (pe_lst (pa_cons pe_int pa_nil))) (pa_cons pe_int pa_nil))))), ?_⟩
  refine ⟨.ref a, rfl, Nat.zero_le _, fun e he => ?_⟩
  have hs1 : SqL K (upd H e (.lst [])) a (ns.map V.int) := (same_new he : L2.Same _ _).seq hs
  refine ⟨_, _, .lst hs1 (dp_all (rl_of_ints ns)), .lst (sq_lst upd_same) .nil, shaped_of (α := List Int) (Rt.all ns) (by decide), shaped_of (α := List Int) (x := []) (Rt.all _) (by decide), _, rfl, ite2 (fun c => ?_) (fun c => ?_)⟩
  · refine ⟨.ref a, rfl, a, _, rfl, .inl hs1, fun pn hn => ?_⟩
    have s2 : L2.Same H (upd (upd H e (.lst [])) pn (.lst (ns.map V.int))) := (same_new he).trans (same_new hn)
    refine ⟨by show 2 ≤ sizeLine; decide, fun pd hd => ?_⟩
    refine q pd pn _ (s2.trans (same_new hd)) (s2.free hd) ((same_new he : L2.Same _ _).free hn) ⟨ns, 0, upd_same, upd_get upd_same (ne_of_none upd_same hd), ?_, by omega, by omega, (ne_of_none upd_same hd).symm⟩
    cases ns with
    | nil => exact absurd c (by decide)
    | cons x r => exact Nat.succ_pos _
  · refine ⟨by show 1 ≤ sizeLine; decide, fun pn hn => ?_⟩
    have s2 : L2.Same H (upd (upd H e (.lst [])) pn (.lst [.int 0])) := (same_new he).trans (same_new hn)
    refine ⟨by show 2 ≤ sizeLine; decide, fun pd hd => ?_⟩
    exact q pd pn _ (s2.trans (same_new hd)) (s2.free hd) ((same_new he : L2.Same _ _).free hn) ⟨[0], 0, upd_same, upd_get upd_same (ne_of_none upd_same hd), by decide, by decide, by omega, (ne_of_none upd_same hd).symm⟩
theorem ok__law_draw (T : Txt K mg) : Ok P w K mg base CX0 1 "_law_draw" ["_law_draws", "_law_limit"] spDraw := by
  refine ok_of T.d__law_draw sc__law_draw (bi2 fun _ _ _ _ _ _ _ _ => rfl) (fun vs H Q E h => by obtain ⟨_, _, _, rfl, _⟩ := h; rfl) (fun f cdv A outer s H vs Q E hr h => ?_)
  have nd := sc__law_draw.nd
  obtain ⟨pd, pn, lim, rfl, ⟨ns, k, h1, h2, hl, hl2, hk, hne⟩, l0, l1, q⟩ := h
  refine ⟨_, (pss_cons (ps_set (i := 2) nd rfl (.inl rfl) (pe_ix (k_ixl K rfl) (pv 0) pe_int (fun _ _ => rfl)))
      (pss_cons (ps_asg (pe_op op_add (pe_ix (k_ixl K rfl) (pv 0) pe_int (fun _ _ => rfl)) pe_int) (pg_sub (pv 0) pe_int set_list))
      (pss_cons (ps_set (i := 3) nd rfl (.inl rfl) (pe_op op_mod (pe_ix (k_ixl K rfl) (pv 0) pe_int (fun _ _ => rfl)) (pe_callB (k_len K rfl) (by rfl) T.n_len PySem.boot_len (pa_cons (pv 2) pa_nil))))
      (pss_cons (ps_set (i := 4) nd rfl (.inl rfl) (pe_ix (k_ixl K rfl) (pv 2) (pv 3) (fun _ _ => rfl)))
      (pss_cons (ps_if (pt_cmpR op_ge (pv 4) pe_int (nomark _)) (pss_cons (ps_asg (pe_op op_fdiv (pv 4) (pv 1)) (pg_sub (pv 2) (pv 3) set_list)) (pss_one (ps_ret (pe_op op_mod (pv 4) (pv 1))))) pss_nil)
      (pss_cons (ps_set (i := 5) nd rfl (.inl rfl) (pe_op op_mod (pe_op op_add (pv 4) (pe_op op_mul pe_int (pe_ix (k_ixl K rfl) (pv 0) pe_int (fun _ _ => rfl)))) pe_int))
      (pss_cons (ps_set (i := 5) nd rfl (.inl rfl) (pe_op op_mod (pe_op op_pow (pv 5) pe_int) pe_int))
      (pss_one (ps_ret (pe_op op_mod (pe_op op_fdiv (pe_op op_mod (pe_op op_add (pe_op op_mul (pe_op op_fdiv (pv 5) pe_int) pe_int) (pv 5)) pe_int) pe_int) (pv 1))))))))))), ?_⟩
  refine ⟨.ref pd, rfl, pd, _, 0, .ref pn, rfl, rfl, sq_lst h1, atI_nat (j := 0) rfl, ?_⟩
  refine ⟨.ref pd, rfl, pd, _, 1, .int k, rfl, rfl, sq_lst h1, atI_nat (j := 1) rfl, k, 1, rfl, rfl, .ref pd, rfl, pd, _, 1, 1, rfl, rfl, h1, rfl, ?_⟩
  have g1 : (upd H pd (.lst [.ref pn, .int (k + 1)])) pd = some (.lst [.ref pn, .int (k + 1)]) := upd_same
  have g2 : (upd H pd (.lst [.ref pn, .int (k + 1)])) pn = some (.lst (ns.map V.int)) := upd_get h2 hne.symm
  have m1 : DM pd pn H (upd H pd (.lst [.ref pn, .int (k + 1)])) := ⟨SF.lst h1, fun q o n _ e => upd_get e n⟩
  have d1 : Dr (upd H pd (.lst [.ref pn, .int (k + 1)])) pd pn := ⟨ns, k + 1, g1, g2, hl, hl2, by omega, hne⟩
  show tSeq _ _ _ _ (upd H pd (.lst [.ref pn, .int (k + 1)]))
  generalize upd H pd (.lst [.ref pn, .int (k + 1)]) = H1 at g1 g2 m1 d1
  have hlen : (ns.map V.int).length = ns.length := List.length_map ..
  refine ⟨.ref pd, rfl, pd, _, 1, .int (k + 1), rfl, rfl, sq_lst g1, atI_nat (j := 1) rfl, .ref pn, rfl, pn, _, rfl, .inl (sq_lst g2), k + 1, _, rfl, rfl, (by rw [hlen]; omega), ?_⟩
  obtain ⟨m, hm, hm2⟩ : ∃ m : Nat, (k + 1) % ((ns.map V.int).length : Int) = (m : Int) ∧ m < ns.length := by
    have a := Int.emod_nonneg (k + 1) (show ((ns.map V.int).length : Int) ≠ 0 by rw [hlen]; omega)
    have b := Int.emod_lt_of_pos (k + 1) (show (0 : Int) < ((ns.map V.int).length : Int) by rw [hlen]; omega)
    exact ⟨((k + 1) % ((ns.map V.int).length : Int)).toNat, by omega, by rw [hlen] at b ⊢; omega⟩
  have hc : (ns.map V.int)[m]? = some (.int ns[m]) := by rw [List.getElem?_map, List.getElem?_eq_getElem hm2]; rfl
  refine ⟨.ref pn, rfl, .int ((k + 1) % ((ns.map V.int).length : Int)), rfl, pn, _, _, _, rfl, rfl, sq_lst g2, at_of hm hc, ?_⟩
  refine ⟨.int ns[m], rfl, ns[m], 1000000000000000000, rfl, rfl, _, rfl, ite2 (fun _ => ?_) (fun _ => ?_)⟩
  · refine ⟨.int ns[m], rfl, .int lim, rfl, ns[m], lim, rfl, rfl, ⟨l0, by omega⟩, .ref pn, rfl, .int ((k + 1) % ((ns.map V.int).length : Int)), rfl, pn, _, _, m, rfl, rfl, g2, ?_, ?_⟩
    · rw [hm, hlen]; unfold ixN; rw [if_pos (by omega), if_pos (by omega)]; simp
    · refine ⟨.int ns[m], rfl, .int lim, rfl, ns[m], lim, rfl, rfl, l0, ?_⟩
      have e : (ns.map V.int).set m (.int (ns[m] / lim)) = (ns.set m (ns[m] / lim)).map V.int := by rw [List.map_set]
      rw [e]
      refine q _ _ (Int.emod_nonneg _ (by omega)) (Int.emod_lt_of_pos _ l0) (m1.trans ⟨SF.lst g2, fun q o _ n e => upd_get e n⟩) ⟨_, k + 1, upd_get g1 hne, upd_same, by rw [List.length_set]; exact hl, by rw [List.length_set]; exact hl2, by omega, hne⟩
  · refine ⟨.int ns[m], rfl, .ref pd, rfl, pd, _, 1, .int (k + 1), rfl, rfl, sq_lst g1, atI_nat (j := 1) rfl, 104729, k + 1, rfl, rfl, .inl ⟨by decide, by decide⟩, ns[m], _, rfl, rfl, _, _, rfl, rfl, (show (0 : Int) < 4294967291 by decide), ?_⟩
    have x0 : 0 ≤ (ns[m] + 104729 * (k + 1)) % 4294967291 := Int.emod_nonneg _ (by decide)
    have x1 : (ns[m] + 104729 * (k + 1)) % 4294967291 < 4294967291 := Int.emod_lt_of_pos _ (by decide)
    refine ⟨_, rfl, (ns[m] + 104729 * (k + 1)) % 4294967291, 5, rfl, rfl, ⟨by decide, by decide, by omega⟩, _, _, rfl, rfl, (show (0 : Int) < 4294967279 by decide), ?_⟩
    refine ⟨_, rfl, _, 64, rfl, rfl, ⟨by decide, by decide⟩, _, 69621, rfl, rfl, .inr ⟨by decide, by decide⟩, _, rfl, _, _, rfl, rfl, _, _, rfl, rfl, (show (0 : Int) < 4294967231 by decide), _, 8, rfl, rfl, ⟨by decide, by decide⟩, .int lim, rfl, _, lim, rfl, rfl, l0, ?_⟩
    exact q _ _ (Int.emod_nonneg _ (by omega)) (Int.emod_lt_of_pos _ l0) m1 d1
abbrev kindsOf (e : Xn) : List Bool := [decide (e.n = "BadBounds"), decide (e.n = "BadNumber"), decide (e.n = "BadOrder")] ++ [decide (e.n = "BadText"), decide (e.n = "NotFound")]
theorem errs_cases {c : Str} {p : Str → Prop} (h : c ∈ errs) (h1 : p "BadBounds") (h2 : p "BadNumber") (h3 : p "BadOrder") (h4 : p "BadText") (h5 : p "NotFound") : p c := by
  simp only [errs, List.mem_cons, List.mem_nil_iff, or_false] at h
  rcases h with rfl | rfl | rfl | rfl | rfl <;> assumption
theorem law_kinds {e : Xn} (h : e.n ∈ errs) : true ∈ kindsOf e := by
  obtain ⟨c⟩ := e
  exact errs_cases (p := fun c => true ∈ kindsOf ⟨c⟩) h (by decide) (by decide) (by decide) (by decide) (by decide)
theorem law_kinds_lt {e : Xn} (h : e.n ∈ errs) : (kindsOf e).idxOf true < (["bounds", "number", "order", "text", "none"] : List Str).length := by
  obtain ⟨c⟩ := e
  exact errs_cases (p := fun c => (kindsOf ⟨c⟩).idxOf true < (["bounds", "number", "order", "text", "none"] : List Str).length) h (by decide) (by decide) (by decide) (by decide) (by decide)
def m__law_error (x0 : Xn) : Str := (if ((!(decide ((((([(decide (x0.n = "BadBounds")), (decide (x0.n = "BadNumber")), (decide (x0.n = "BadOrder"))] ++ [(decide (x0.n = "BadText")), (decide (x0.n = "NotFound"))]).count true) : Nat) : Int) = (((1 : Nat) : Nat) : Int)))) || ((!true) || (!true))) = true then ("odd" : Str) else (([("bounds" : Str), ("number" : Str), ("order" : Str), ("text" : Str), ("none" : Str)]).getD ((([(decide (x0.n = "BadBounds")), (decide (x0.n = "BadNumber")), (decide (x0.n = "BadOrder"))] ++ [(decide (x0.n = "BadText")), (decide (x0.n = "NotFound"))]).idxOf true)) Str.empty))
theorem ok__law_error (T : Txt K mg) : Ok P w K mg base CX0 1 "_law_error" ["_law_caught"] (sp1 K ((fun e => e.n ∈ errs) : Xn → Prop) m__law_error) := by
  refine ok_of T.d__law_error sc__law_error (bi1 fun _ _ _ _ _ _ _ => rfl) len_sp1 (fun f cdv A outer s H vs Q E hr h => ?_)
  have nd := sc__law_error.nd
  obtain ⟨v0, x0, rfl, r0, hp, q⟩ := h
  refine ⟨_, (pss_cons (ps_set (i := 1) nd rfl (.inl rfl) (pe_frz (pe_lst (pa_cons (pe_callB (k_isx K rfl) (by rfl) T.n_isinstance (by decide +kernel) (pa_cons (pv 0) (pa_cons (pe_glob (v := .ref (He.ga K "BadBounds")) rfl (T.x.e "BadBounds" (by decide)).g rfl) pa_nil))) (pa_cons (pe_callB (k_isx K rfl) (by rfl) T.n_isinstance (by decide +kernel) (pa_cons (pv 0) (pa_cons (pe_glob (v := .ref (He.ga K "BadNumber")) rfl (T.x.e "BadNumber" (by decide)).g rfl) pa_nil))) (pa_cons (pe_callB (k_isx K rfl) (by rfl) T.n_isinstance (by decide +kernel) (pa_cons (pv 0) (pa_cons (pe_glob (v := .ref (He.ga K "BadOrder")) rfl (T.x.e "BadOrder" (by decide)).g rfl) pa_nil))) pa_nil))))))
      (pss_cons (ps_set (i := 1) nd rfl (.inl rfl) (pe_frz (pe_op op_catR (pv 1) (pe_frz (pe_lst (pa_cons (pe_callB (k_isx K rfl) (by rfl) T.n_isinstance (by decide +kernel) (pa_cons (pv 0) (pa_cons (pe_glob (v := .ref (He.ga K "BadText")) rfl (T.x.e "BadText" (by decide)).g rfl) pa_nil))) (pa_cons (pe_callB (k_isx K rfl) (by rfl) T.n_isinstance (by decide +kernel) (pa_cons (pv 0) (pa_cons (pe_glob (v := .ref (He.ga K "NotFound")) rfl (T.x.e "NotFound" (by decide)).g rfl) pa_nil))) pa_nil)))))))
      (pss_cons (ps_if (PW.pt (pw_or (pt_cmpR op_ne (k_bm1 K rfl PySem.F.plainAttrs_list PySem.F.slot_list_count PySem.F.type_list_count (k_countB K rfl) (pv 1) pe_bl) pe_int (nomark _)) (pw_or (pt_not (pt_val (pe_callB (k_isx K rfl) (by rfl) T.n_isinstance (by decide +kernel) (pa_cons (pv 0) (pa_cons (pe_glob (v := .ref (He.ga K "BoundError")) rfl T.x.b rfl) pa_nil))))) (pw_or1 (pt_not (pt_val (pe_callB (k_isx K rfl) (by rfl) T.n_isinstance (by decide +kernel) (pa_cons (pv 0) (pa_cons (pe_bltn (v := .ty "ValueError") (by rfl) T.n_ValueError (by decide +kernel) rfl) pa_nil))))))))) (pss_one (ps_ret pe_str)) pss_nil)
      (pss_one (ps_ret (pe_ix (k_ixl K rfl) (pe_frz (pe_lst (pa_cons pe_str (pa_cons pe_str (pa_cons pe_str (pa_cons pe_str (pa_cons pe_str pa_nil))))))) (k_bm1 K rfl PySem.F.plainAttrs_list PySem.F.slot_list_index PySem.F.type_list_index (k_index K rfl) (pv 1) pe_bl) (fun _ _ => rfl))))))), ?_⟩
  refine q_set (K := K) (er_frz (erl_lst (ea_cons (er_isE (d := "BadBounds") (T.x.e _ (by exact hp)) (by decide) (er_var rfl r0)) (ea_cons (er_isE (d := "BadNumber") (T.x.e _ (by exact hp)) (by decide) (er_var rfl r0)) (ea_cons (er_isE (d := "BadOrder") (T.x.e _ (by exact hp)) (by decide) (er_var rfl r0)) ea_nil))))) (fun v675 _ e673 r674 => ?_)
  refine q_set (K := K) (er_frz (erl_cat (er_var rfl r674) (er_frz (erl_lst (ea_cons (er_isE (d := "BadText") (T.x.e _ (by exact hp)) (by decide) (er_var rfl (Rp.mono (SF.of e673) r0))) (ea_cons (er_isE (d := "NotFound") (T.x.e _ (by exact hp)) (by decide) (er_var rfl (Rp.mono (SF.of e673) r0))) ea_nil)))) (by simp))) (fun v678 _ e676 r677 => ?_)
  refine q_if (K := K) (et_or (et_test (er_op (er_up (er_countB (er_var rfl r677) er_bl)) (er_up (er_c (x := (1 : Nat)) fun _ => rfl)) rr_neI)) (fun hsc => (et_or (et_not (et_B (er_isBd (T.x.e _ (by exact hp)) (er_var rfl (Rp.mono ((SF.of e673).trans (SF.of e676)) r0))))) (fun hsc => (et_not (et_B (er_isVE (T.x.e _ (by exact hp)) (er_var rfl (Rp.mono ((SF.of e673).trans (SF.of e676)) r0))))))))) (fun hc680 _ e679 => ?_) (fun hc680 _ e679 => ?_)
  ·
    exact s_ret (K := K) er_str (fun u _ e681 rr => q u _ (((e673.trans e676).trans e679).trans e681) (by rw [(show m__law_error x0 = ("odd" : Str) from by unfold m__law_error; rw [if_pos hc680])]; exact rr))
  ·
    refine s_nxz ?_
    exact s_ret (K := K) (er_op (er_frz (erl_lst (ea_cons er_str (ea_cons er_str (ea_cons er_str (ea_cons er_str (ea_cons er_str ea_nil))))))) (er_up (er_indexB (er_var rfl (Rp.mono (SF.of e679) r677)) er_bl (by exact law_kinds hp))) (rr_ixL (x := (([("bounds" : Str), ("number" : Str), ("order" : Str), ("text" : Str), ("none" : Str)]).getD ((([(decide (x0.n = "BadBounds")), (decide (x0.n = "BadNumber")), (decide (x0.n = "BadOrder"))] ++ [(decide (x0.n = "BadText")), (decide (x0.n = "NotFound"))]).idxOf true)) Str.empty)) (by exact getD_at (law_kinds_lt hp)))) (fun u _ e682 rr => q u _ (((e673.trans e676).trans e679).trans e682) (by rw [(show m__law_error x0 = (([("bounds" : Str), ("number" : Str), ("order" : Str), ("text" : Str), ("none" : Str)]).getD ((([(decide (x0.n = "BadBounds")), (decide (x0.n = "BadNumber")), (decide (x0.n = "BadOrder"))] ++ [(decide (x0.n = "BadText")), (decide (x0.n = "NotFound"))]).idxOf true)) Str.empty) from by unfold m__law_error; rw [if_neg (nff hc680)])]; exact rr))
theorem err_bounds : m__law_error ⟨"BadBounds"⟩ = "bounds" := by decide
theorem err_number : m__law_error ⟨"BadNumber"⟩ = "number" := by decide
theorem err_order : m__law_error ⟨"BadOrder"⟩ = "order" := by decide
theorem err_text : m__law_error ⟨"BadText"⟩ = "text" := by decide
theorem err_none : m__law_error ⟨"NotFound"⟩ = "none" := by decide
def m__law_true (x0 : Bool) (x1 : Bool) : Bool := (true && (decide (x0 = x1)))
theorem ok__law_true (T : Txt K mg) : Ok P w K mg base CX0 1 "_law_true" ["_law_value", "_law_expected"] (sp2 K ((fun _ _ => True) : Bool → Bool → Prop) m__law_true) := by
  refine ok_of T.d__law_true sc__law_true (bi2 fun _ _ _ _ _ _ _ _ => rfl) len_sp2 (fun f cdv A outer s H vs Q E hr h => ?_)
  have nd := sc__law_true.nd
  obtain ⟨v0, v1, x0, x1, rfl, r0, r1, hp, q⟩ := h
  refine ⟨_, (pss_one (ps_ret (pe_and (pe_callB (k_isi K rfl) (by rfl) T.n_isinstance (by decide +kernel) (pa_cons (pv 0) (pa_cons (pe_bltn (v := .ty "bool") (by rfl) T.n_bool (by decide +kernel) rfl) pa_nil))) (pe_one (pe_cmpR op_eq (pv 0) (pv 1) (nomark _)))))), ?_⟩
  exact s_ret (K := K) (er_andV (er_isi (b := true) (er_var rfl r0) (show kitB "bool" "bool" = some true from by decide)) (fun hsc => (er_op (er_var rfl r0) (er_var rfl r1) rr_eqB))) (fun u _ e683 rr => q u _ e683 rr)
theorem ok__law_choices (T : Txt K mg) : Ok P w K mg base CX0 1 "_law_choices" ["_law_bounds"] (sp1 K ((fun b => Few b) : (List (Int × Int)) → Prop) rowsOf) := by
  refine ok_of T.d__law_choices sc__law_choices (bi1 fun _ _ _ _ _ _ _ => rfl) len_sp1 (fun f cdv A outer s H vs Q E hr h => ?_)
  have nd := sc__law_choices.nd
  obtain ⟨v0, x0, rfl, r0, hp, q⟩ := h
  refine ⟨_, (pss_cons (ps_set (i := 1) nd rfl (.inl rfl) (pe_frz (pe_lst (pa_cons (pe_frz (pe_lst pa_nil)) pa_nil))))
      (pss_cons (ps_for PassesOwn.never rfl (k_pl K rfl (pv 0)) (k_gt K rfl 2 rfl (pgs_cons (pg_name (i := 2) nd rfl (.inl rfl) (.inr rfl)) (pgs_cons (pg_name (i := 3) nd rfl (.inl rfl) (.inr rfl)) pgs_nil))) (pss_cons (ps_set (i := 4) nd rfl (.inl rfl) (pe_frz (pe_lst pa_nil)))
      (pss_cons (ps_for PassesOwn.never rfl (k_pl K rfl (pv 1)) (pg_name (i := 5) nd rfl (.inr rfl) (.inl rfl)) (pss_one (ps_set (i := 4) nd rfl (.inl rfl) (pe_frz (pe_op op_catR (pv 4) (pe_frz (pe_lc (own := [("_law_value", 6)]) rfl nd (pi_range2 (by rfl) T.n_range (pa_cons (pv 2) (pa_cons (pe_op op_add (pv 3) pe_int) pa_nil))) (blkOk_by (N := N__law_choices) (sc := defScope s__law_choices) (by decide +kernel)) (fun _ _ _ _ _ => (pg_name (i := 6) nd rfl (.inl rfl) (.inr rfl))) (fun _ _ _ _ _ => pts_nil) (fun _ _ _ _ _ => (pe_frz (pe_op op_catR (pv 5) (pe_frz (pe_lst (pa_cons (pv 6) pa_nil)))))))))))))
      (pss_one (ps_set (i := 1) nd rfl (.inl rfl) (pv 4))))))
      (pss_one (ps_ret (pv 1))))), ?_⟩
  refine q_set (K := K) (x := ([[]] : List (List Int))) (er_frz (erl_lst (ea_cons (er_frz (erl_lst (α := Int) ea_nil)) ea_nil))) (fun v1 H1 e1 r1 => ?_)
  refine q_for (K := K) (src_list (er_var rfl (Rp.mono (SF.of e1) r0))) (fun H1' k σ' H' => ∃ u a b c d e, σ' = [some v0, some u, a, b, c, d, e] ∧ Same H1' H' ∧ Rp.rep K H' u (rowsOf (x0.take k)))
    (fun H2 e2 => ⟨v1, _, _, _, _, _, rfl, Same.refl _, Rp.mono (SF.of e2) r1⟩) (fun _ _ _ _ ⟨_, _, _, _, _, _, _, s, _⟩ => SF.of s) (fun H2 k x σ' H' v H'' e2 hx hP s r => ?_) (fun H2 σ' H' e2 hP => ?_)
  · obtain ⟨u, a, b, c, d, e, rfl, s2, ru⟩ := hP
    obtain ⟨w1, w2, rw1, rw2, tg⟩ := tg_pair (σ := [some v0, some u, a, b, c, d, e]) (k := 2) (m := 3) r
    have hxb := hp.2 x (List.mem_of_getElem? hx)
    have hc := few_card hp k
    refine tg _ ?_
    refine q_set (K := K) (x := ([] : List (List Int))) (er_frz (erl_lst ea_nil)) (fun v3 H3 e3 r3 => ?_)
    refine q_for (K := K) (src_list (er_var rfl (Rp.mono (SF.of (s.trans e3)) ru))) (fun H4 m σ' H' => ∃ u' d e, σ' = [some v0, some u, some w1, some w2, some u', d, e] ∧ Same H4 H' ∧ Rp.rep K H' u' (((rowsOf (x0.take k)).take m).flatMap (rowExt x)))
      (fun H4 e4 => ⟨v3, _, _, rfl, Same.refl _, Rp.mono (SF.of e4) r3⟩) (fun _ _ _ _ ⟨_, _, _, _, s, _⟩ => SF.of s) (fun H4 m y σ' H' v' H6 e4 hy hP s4 ry => ?_) (fun H4 σ' H' e4 hP => ?_)
    · obtain ⟨u', d', e', rfl, s5, ru'⟩ := hP
      have hyl : y.length ≤ 7 := by
        have h1 := inB_len (mem_rows.mp (List.mem_of_getElem? hy))
        have h2 : (x0.take k).length ≤ x0.length := by rw [List.length_take]; exact Nat.min_le_right _ _
        have := hp.1; omega
      have hcm : (((rowsOf (x0.take k)).take m).flatMap (rowExt x)).length ≤ 65536 := Nat.le_trans (ext_card hxb.2.2.1) (by
        have : ((rowsOf (x0.take k)).take m).length ≤ (rowsOf (x0.take k)).length := by rw [List.length_take]; exact Nat.min_le_right _ _
        omega)
      have c0 := e3.trans (e4.trans (s5.trans s4))
      refine s_set (K := K) (er_frz (erl_cat (er_var rfl (Rp.mono (SF.of s4) ru')) (er_frz (erl_lm1 (f := fun z => y ++ [z]) (src_range2 (er_var rfl (Rp.mono (SF.of c0) rw1)) (er_op (er_var rfl (Rp.mono (SF.of c0) rw2)) er_int rr_add) (by omega) (by omega)) (by rw [len_rgI]; omega) (by intros; rfl)
        (fun z hz w H7 e7 rz => er_frz (erl_cat (er_var rfl (Rp.mono (SF.of e7) ry)) (er_frz (erl_lst (ea_cons (er_var rfl rz) ea_nil))) (by simp; omega))))) (by rw [List.length_map, len_rgI]; omega))) (fun v8 H8 e8 r8 => ?_)
      refine ⟨v8, _, _, rfl, s5.trans (s4.trans e8), ?_⟩
      rw [List.take_add_one, hy, Option.toList_some, List.flatMap_append, List.flatMap_singleton]
      exact r8
    · obtain ⟨u', d', e', rfl, s5, ru'⟩ := hP
      rw [List.take_length] at ru'
      refine s_set (K := K) (er_var rfl ru') (fun v8 H8 e8 r8 => ?_)
      refine ⟨v8, _, _, _, _, _, rfl, s2.trans (s.trans (e3.trans (e4.trans (s5.trans e8)))), ?_⟩
      rw [rows_take hx]
      exact r8
  · obtain ⟨u, a, b, c, d, e, rfl, s2, ru⟩ := hP
    rw [List.take_length] at ru
    exact s_ret (K := K) (er_var rfl ru) (fun v8 H8 e8 r8 => q v8 _ (e1.trans (e2.trans (s2.trans e8))) r8)
theorem ok__law_small (T : Txt K mg) : Ok P w K mg base CX0 2 "_law_small" ["_law_draws", "_law_most"] (spDraws K (fun n => 1 ≤ n ∧ n ≤ 100) SmallP) := by
  refine ok_of T.d__law_small sc__law_small (bi2 fun _ _ _ _ _ _ _ _ => rfl) (fun vs H Q E h => by obtain ⟨_, _, _, rfl, _⟩ := h; rfl) (fun f cdv A outer s H vs Q E hr h => ?_)
  have nd := sc__law_small.nd
  obtain ⟨pd, pn, n, rfl, dr, hn, q⟩ := h
  refine ⟨_, (pss_cons (ps_set (i := 2) nd rfl (.inl rfl) (pe_lst pa_nil))
      (pss_cons (ps_for PassesOwn.never rfl (pi_range1 (by rfl) T.n_range (pa_cons (pe_op op_add pe_int (pe_fn (ok__law_draw T) (hr.mono (by decide)) pass0 (pa_cons (pv 0) (pa_cons (pv 1) pa_nil)))) pa_nil)) (pg_name (i := 3) nd rfl (.inl rfl) (.inr rfl)) (pss_cons (ps_set (i := 4) nd rfl (.inl rfl) (pe_op op_sub (pe_fn (ok__law_draw T) (hr.mono (by decide)) pass0 (pa_cons (pv 0) (pa_cons pe_int pa_nil))) pe_int))
      (pss_one (ps_expr (k_app K rfl (pv 2) (pe_tup (pa_cons (pv 4) (pa_cons (pe_op op_add (pv 4) (pe_fn (ok__law_draw T) (hr.mono (by decide)) pass0 (pa_cons (pv 0) (pa_cons pe_int pa_nil)))) pa_nil))))))))
      (pss_one (ps_ret (pv 2))))), ?_⟩
  refine q_setL (K := K) (l := ([] : List (Int × Int))) (erl_lst ea_nil) (fun p vs H1 e1 hp h1 rl => ?_)
  have n1 : p ≠ pd := (dr.pd_ne hp).symm
  have n2 : p ≠ pn := (dr.pn_ne hp).symm
  refine q_forR (K := K) (dr.mono e1) (ep_op (ep_of fun _ _ => er_int) (fun _ _ => ep_draw (fun _ _ => er_var (x := n) rfl rfl) (sub_dr rfl) (by omega) (by omega)) (fun _ _ _ _ => rr_add)) (fun x hx => by obtain ⟨_, y, rfl, hy, rfl⟩ := hx; omega)
    (fun x i σ' H' => ∃ (l : List (Int × Int)) (a b : Option V), σ' = [some (.ref pd), some (.int n), some (.ref p), a, b] ∧ l.length = i ∧ (∀ t ∈ l, -4 ≤ t.1 ∧ t.1 < 4 ∧ t.1 ≤ t.2 ∧ t.2 < t.1 + 4) ∧ DM pd pn H H' ∧ Dr H' pd pn ∧ Un K H' p l)
    (fun x H2 m d _ => ⟨[], none, none, rfl, rfl, (fun _ h => by cases h), (DM.of e1).trans m, d, Un.dm m n1 n2 (Un.of h1 rl)⟩) (fun x i σ' H' hx hi hP => ?_) (fun x σ' H' hx hP => ?_)
  · obtain ⟨l, a, b, rfl, hl, hok, m, d, u⟩ := hP
    obtain ⟨_, y, rfl, hy, rfl⟩ := hx
    refine q_setP (K := K) d (ep_op (ep_draw (fun _ _ => er_int) (sub_dr rfl) (by decide) (by decide)) (fun _ _ => ep_of fun _ _ => er_int) (fun _ _ _ _ => rr_sub)) (fun v H2 x m2 d2 hx r => ?_)
    obtain ⟨z, _, hz, rfl, rfl⟩ := hx
    refine s_appP (K := K) d2 rfl (Un.dm m2 n1 n2 u) n1 n2 (ep_pair (ep_of fun _ m => er_var rfl (Rp.mono m.sf r)) (fun x hx => ep_op (ep_of fun _ m => er_var rfl (Rp.mono m.sf r)) (fun _ _ => ep_draw (fun _ _ => er_int) (sub_dr rfl) (by decide) (by decide)) (fun _ _ _ _ => rr_add))) (by omega) (fun H3 t hb d3 ht u3 => ?_)
    refine ⟨l ++ [t], _, _, rfl, by rw [List.length_append, hl]; rfl, fun s hs => ?_, hb _ (m.trans m2) hp, d3, u3⟩
    rcases List.mem_append.mp hs with hs | hs
    · exact hok s hs
    · rw [List.mem_singleton.mp hs]
      obtain ⟨h1, w, k, rfl, hk, h2⟩ := ht
      omega
  · obtain ⟨l, a, b, rfl, hl, hok, m, d, u⟩ := hP
    obtain ⟨_, y, rfl, hy, rfl⟩ := hx
    obtain ⟨us, hu, ru⟩ := u
    exact ⟨.ref p, rfl, q p us l H' ⟨by omega, by omega, hok⟩ m d hp hu ru⟩
def m__law_inside (x0 : (List (Int × Int))) (x1 : (List Int)) : Bool := ((decide (((x1.length : Nat) : Int) = ((x0.length : Nat) : Int))) && (decide ((mapIf (fun (x695 : Nat) => (!((decide (((x0).getD (x695) (0, 0)).1 ≤ ((x1).getD (x695) 0))) && (decide (((x1).getD (x695) 0) ≤ ((x0).getD (x695) (0, 0)).2))))) (fun (x695 : Nat) => x695) (List.range x1.length)) = ([] : (List Nat)))))
theorem ok__law_inside (T : Txt K mg) : Ok P w K mg base CX0 1 "_law_inside" ["_law_bounds", "_law_row"] (sp2 K ((fun b r => b.length ≤ 1000 ∧ r.length ≤ 1000) : (List (Int × Int)) → (List Int) → Prop) m__law_inside) := by
  refine ok_of T.d__law_inside sc__law_inside (bi2 fun _ _ _ _ _ _ _ _ => rfl) len_sp2 (fun f cdv A outer s H vs Q E hr h => ?_)
  have nd := sc__law_inside.nd
  obtain ⟨v0, v1, x0, x1, rfl, r0, r1, hp, q⟩ := h
  refine ⟨_, (pss_one (ps_ret (pe_and (pe_cmpR op_eq (pe_callB (k_len K rfl) (by rfl) T.n_len PySem.boot_len (pa_cons (pv 1) pa_nil)) (pe_callB (k_len K rfl) (by rfl) T.n_len PySem.boot_len (pa_cons (pv 0) pa_nil)) (nomark _)) (pe_one (pe_cmpR (k_eqD K rfl hr.units) (pe_frz (pe_lc (own := [("_law_k", 2)]) rfl nd (pi_range1 (by rfl) T.n_range (pa_cons (pe_callB (k_len K rfl) (by rfl) T.n_len PySem.boot_len (pa_cons (pv 1) pa_nil)) pa_nil)) (blkOk_by (N := N__law_inside) (sc := defScope s__law_inside) (by decide +kernel)) (fun _ _ _ _ _ => (pg_name (i := 2) nd rfl (.inl rfl) (.inr rfl))) (fun _ _ _ _ _ => (pts_one (pt_not (pt_chain op_le op_le (pe_ix (k_ixt K rfl) (pe_ix (k_ixl K rfl) (pv 0) (pv 2) (fun _ _ => rfl)) pe_int (fun _ _ => rfl)) (pe_ix (k_ixl K rfl) (pv 1) (pv 2) (fun _ _ => rfl)) (pe_ix (k_ixt K rfl) (pe_ix (k_ixl K rfl) (pv 0) (pv 2) (fun _ _ => rfl)) pe_int (fun _ _ => rfl)))))) (fun _ _ _ _ _ => (pv 2)))) (pe_frz (pe_lst pa_nil)) (nomark _)))))), ?_⟩
  exact s_ret (K := K) (er_andV (er_op (er_up (er_len (er_var rfl r1))) (er_up (er_len (er_var rfl r0))) rr_eqI) (fun hsc => (er_op (er_frz (erl_lc1 (c := fun (x695 : Nat) => (!((decide (((x0).getD (x695) (0, 0)).1 ≤ ((x1).getD (x695) 0))) && (decide (((x1).getD (x695) 0) ≤ ((x0).getD (x695) (0, 0)).2))))) (f := fun (x695 : Nat) => x695) (src_range1 (er_len (er_var rfl r1)) (by have := hp.2; first | omega | (rw [List.length_range]; omega))) (by have := hp.2; first | omega | (rw [List.length_range]; omega)) (by intros; rfl) (fun x695 hx696 v697 _ e694 r698 => ⟨(et_not (et_test (er_chain (er_op (er_op (er_var rfl (Rp.mono (SF.of e694) r0)) (er_up (er_var rfl r698)) (rr_ixL (x := ((x0).getD (x695) (0, 0))) (by first | exact getD_at (by have := List.mem_range.mp (by assumption); omega) | exact getD_at (by have h1 := List.mem_range.mp (by assumption); have h2 := of_decide_eq_true hsc; omega)))) er_int rr_ixP0) (er_op (er_var rfl (Rp.mono (SF.of e694) r1)) (er_up (er_var rfl r698)) (rr_ixL (x := ((x1).getD (x695) 0)) (by first | exact getD_at (by have := List.mem_range.mp (by assumption); omega) | exact getD_at (by have h1 := List.mem_range.mp (by assumption); have h2 := of_decide_eq_true hsc; omega)))) (er_op (er_op (er_var rfl (Rp.mono (SF.of e694) r0)) (er_up (er_var rfl r698)) (rr_ixL (x := ((x0).getD (x695) (0, 0))) (by first | exact getD_at (by have := List.mem_range.mp (by assumption); omega) | exact getD_at (by have h1 := List.mem_range.mp (by assumption); have h2 := of_decide_eq_true hsc; omega)))) er_int rr_ixP1) rr_le rr_le))), fun _ => (er_var rfl r698)⟩))) (er_frz (erl_lst (α := Nat) ea_nil)) rr_eqT))) (fun u _ e699 rr => q u _ e699 rr)
def m_call_sum (x0 : Int) (x1 : (List (Int × Int))) (x2 : Int) (x3 : Int) : (Sum (List (Int × Int)) Str) := (elimX (m_with_sum x1 x2 x3) (fun c708 => (Sum.inr (m__law_error (Xn.mk c708)) : (Sum (List (Int × Int)) Str))) (fun (z711 : (List (Int × Int))) => (Sum.inl z711 : (Sum (List (Int × Int)) Str))))
theorem ok__law_call (T : Txt K mg) : Ok P w K mg base CX0 6 "_law_call" ["_law_kind", "_law_bounds", "_law_one", "_law_two"] (sp4 K ((fun k b l g => k = 0 ∧ BOk b ∧ -400 ≤ l ∧ l ≤ g ∧ g ≤ 400) : Int → (List (Int × Int)) → Int → Int → Prop) m_call_sum) := by
  refine ok_of T.d__law_call sc__law_call (bi4 fun _ _ _ _ _ _ _ _ _ _ => rfl) len_sp4 (fun f cdv A outer s H vs Q E hr h => ?_)
  have nd := sc__law_call.nd
  obtain ⟨v0, v1, v2, v3, x0, x1, x2, x3, rfl, r0, r1, r2, r3, hp, q⟩ := h
  refine ⟨_, (pss_cons (ps_set (i := 4) nd rfl (.inl rfl) pe_non)
      (pss_cons (ps_set (i := 5) nd rfl (.inl rfl) pe_non)
      (pss_cons (ps_try_kept (i := 6) (c := erC K "BoundError") rfl rfl nd rfl rfl ⟨rfl, by decide, .inl T.x.b⟩ rfl (fun W pn xe tk _ => (pss_one (ps_if (pt_cmpR op_eq (pv 0) pe_int (nomark _)) (pss_one (ps_set (i := 4) nd rfl (.inl rfl) (pe_frz (pe_fnX (ok_with_sumX T) (hr.mono (by decide)) tk (pa_cons (pv 1) (pa_cons (pv 2) (pa_cons (pv 3) pa_nil))))))) (pss_one (ps_if (pt_cmpR op_eq (pv 0) pe_int (nomark _)) (pss_one (ps_set (i := 4) nd rfl (.inl rfl) (pe_fnX (ok_with_pairsX T) (hr.mono (by decide)) tk (pa_cons (pv 1) (pa_cons (pv 2) pa_nil))))) (pss_one (ps_set (i := 4) nd rfl (.inl rfl) (pe_fnX (ok_metX T) (hr.mono (by decide)) tk (pa_cons (pv 1) (pa_cons (pv 2) pa_nil)))))))))) (fun a oe cls pn hz => (pss_one (ps_set (i := 5) nd rfl (.inl rfl) (pv 6)))))
      (pss_one (ps_ret (pe_ifExp (pt_cmpR op_isN1 (pv 5) pe_non (nomark _)) (pv 4) (pe_fn (ok__law_error T) (hr.mono (by decide)) pass0 (pa_cons (pv 5) pa_nil)))))))), ?_⟩
  refine q_set (K := K) er_non (fun v702 _ e700 r701 => ?_)
  refine q_set (K := K) (er_O0 (α := Xn)) (fun v705 _ e703 r704 => ?_)
  -- try
  refine q_tryK ?_
  refine q_last ?_
  refine q_if (K := K) (et_test (er_op (er_var rfl (Rp.mono ((SF.of e700).trans (SF.of e703)) r0)) er_int rr_eqI)) (fun hc707 _ e706 => ?_) (fun hc707 _ e706 => ?_)
  ·
    refine q_last ?_
    refine q_setX (K := K) (ex_frz (exl_call3 (er_var rfl (Rp.mono (((SF.of e700).trans (SF.of e703)).trans (SF.of e706)) r1)) (er_var rfl (Rp.mono (((SF.of e700).trans (SF.of e703)).trans (SF.of e706)) r2)) (er_var rfl (Rp.mono (((SF.of e700).trans (SF.of e703)).trans (SF.of e706)) r3)) (by exact hp.2))) (fun c708 hE709 hM710 _ e713 => ⟨rfl, (T.x.e _ hM710).ex, fun a_ ha_ => ⟨.ref a_, rfl, fun hna_ => ?_⟩⟩) (fun z711 v714 _ hy712 e713 r715 => ?_)
    ·
      have r716 := (Rp.mono (((((SF.of e700).trans (SF.of e703)).trans (SF.of e706)).trans (SF.of e713)).trans (SF.of (same_new (o := ExT (erC K c708) a_) hna_))) r0)
      have r717 := (Rp.mono (((((SF.of e700).trans (SF.of e703)).trans (SF.of e706)).trans (SF.of e713)).trans (SF.of (same_new (o := ExT (erC K c708) a_) hna_))) r1)
      have r718 := (Rp.mono (((((SF.of e700).trans (SF.of e703)).trans (SF.of e706)).trans (SF.of e713)).trans (SF.of (same_new (o := ExT (erC K c708) a_) hna_))) r2)
      have r719 := (Rp.mono (((((SF.of e700).trans (SF.of e703)).trans (SF.of e706)).trans (SF.of e713)).trans (SF.of (same_new (o := ExT (erC K c708) a_) hna_))) r3)
      have r720 := (Rp.mono ((((SF.of e703).trans (SF.of e706)).trans (SF.of e713)).trans (SF.of (same_new (o := ExT (erC K c708) a_) hna_))) r701)
      exact s_ret (K := K) (er_inr (α := (List (Int × Int))) (er_ifF (et_test (Er.to (er_isN (er_var rfl rep_err)) (show _ = false from rfl))) (er_call1 (er_Oget (er_var rfl rep_err) rfl) (by assumption)))) (fun u _ e721 rr => q u _ (((((e700.trans e703).trans e706).trans e713).trans (same_new (o := ExT (erC K c708) a_) hna_)).trans e721) (by rw [(show m_call_sum x0 x1 x2 x3 = (Sum.inr (m__law_error (Xn.mk c708)) : (Sum (List (Int × Int)) Str)) from by unfold m_call_sum; rw [elimX_err hE709])]; exact rr))
    ·
      refine s_nxz ?_
      refine s_nxz ?_
      have r722 := (Rp.mono ((((SF.of e700).trans (SF.of e703)).trans (SF.of e706)).trans (SF.of e713)) r0)
      have r723 := (Rp.mono ((((SF.of e700).trans (SF.of e703)).trans (SF.of e706)).trans (SF.of e713)) r1)
      have r724 := (Rp.mono ((((SF.of e700).trans (SF.of e703)).trans (SF.of e706)).trans (SF.of e713)) r2)
      have r725 := (Rp.mono ((((SF.of e700).trans (SF.of e703)).trans (SF.of e706)).trans (SF.of e713)) r3)
      exact s_ret (K := K) (er_inl (β := Str) (er_ifT (et_test (Er.to (er_isN (er_var rfl (Rp.mono ((SF.of e706).trans (SF.of e713)) r704))) (show _ = true from rfl))) (er_var rfl r715))) (fun u _ e726 rr => q u _ ((((e700.trans e703).trans e706).trans e713).trans e726) (by rw [(show m_call_sum x0 x1 x2 x3 = (Sum.inl z711 : (Sum (List (Int × Int)) Str)) from by unfold m_call_sum; rw [elimX_ok hy712])]; exact rr))
  · exact absurd hc707 (by rw [show x0 = _ from hp.1]; decide)
def m_call_pairs (x0 : Int) (x1 : (List (Int × Int))) (x2 : (List (Int × Int))) (x3 : Int) : (Sum (List (Int × Int)) Str) := (elimX (m_with_pairs x1 x2) (fun c741 => (Sum.inr (m__law_error (Xn.mk c741)) : (Sum (List (Int × Int)) Str))) (fun (z744 : (List (Int × Int))) => (Sum.inl z744 : (Sum (List (Int × Int)) Str))))
theorem ok__law_call_2 (T : Txt K mg) : Ok P w K mg base CX0 6 "_law_call" ["_law_kind", "_law_bounds", "_law_one", "_law_two"] (sp4 K ((fun k b p _ => k = 1 ∧ BOk b ∧ p.length ≤ 42 ∧ ∀ t ∈ p, (0 ≤ t.1 ∧ t.1 < b.length) ∧ (0 ≤ t.2 ∧ t.2 < b.length) ∧ t.1 ≠ t.2) : Int → (List (Int × Int)) → (List (Int × Int)) → Int → Prop) m_call_pairs) := by
  refine ok_of T.d__law_call sc__law_call (bi4 fun _ _ _ _ _ _ _ _ _ _ => rfl) len_sp4 (fun f cdv A outer s H vs Q E hr h => ?_)
  have nd := sc__law_call.nd
  obtain ⟨v0, v1, v2, v3, x0, x1, x2, x3, rfl, r0, r1, r2, r3, hp, q⟩ := h
  refine ⟨_, (pss_cons (ps_set (i := 4) nd rfl (.inl rfl) pe_non)
      (pss_cons (ps_set (i := 5) nd rfl (.inl rfl) pe_non)
      (pss_cons (ps_try_kept (i := 6) (c := erC K "BoundError") rfl rfl nd rfl rfl ⟨rfl, by decide, .inl T.x.b⟩ rfl (fun W pn xe tk _ => (pss_one (ps_if (pt_cmpR op_eq (pv 0) pe_int (nomark _)) (pss_one (ps_set (i := 4) nd rfl (.inl rfl) (pe_frz (pe_fnX (ok_with_sumX T) (hr.mono (by decide)) tk (pa_cons (pv 1) (pa_cons (pv 2) (pa_cons (pv 3) pa_nil))))))) (pss_one (ps_if (pt_cmpR op_eq (pv 0) pe_int (nomark _)) (pss_one (ps_set (i := 4) nd rfl (.inl rfl) (pe_fnX (ok_with_pairsX T) (hr.mono (by decide)) tk (pa_cons (pv 1) (pa_cons (pv 2) pa_nil))))) (pss_one (ps_set (i := 4) nd rfl (.inl rfl) (pe_fnX (ok_metX T) (hr.mono (by decide)) tk (pa_cons (pv 1) (pa_cons (pv 2) pa_nil)))))))))) (fun a oe cls pn hz => (pss_one (ps_set (i := 5) nd rfl (.inl rfl) (pv 6)))))
      (pss_one (ps_ret (pe_ifExp (pt_cmpR op_isN1 (pv 5) pe_non (nomark _)) (pv 4) (pe_fn (ok__law_error T) (hr.mono (by decide)) pass0 (pa_cons (pv 5) pa_nil)))))))), ?_⟩
  refine q_set (K := K) er_non (fun v729 _ e727 r728 => ?_)
  refine q_set (K := K) (er_O0 (α := Xn)) (fun v732 _ e730 r731 => ?_)
  -- try
  refine q_tryK ?_
  refine q_last ?_
  refine q_if (K := K) (et_test (er_op (er_var rfl (Rp.mono ((SF.of e727).trans (SF.of e730)) r0)) er_int rr_eqI)) (fun hc734 _ e733 => ?_) (fun hc734 _ e733 => ?_)
  · exact absurd hc734 (by rw [show x0 = _ from hp.1]; decide)
  ·
    refine q_last ?_
    refine q_if (K := K) (et_test (er_op (er_var rfl (Rp.mono (((SF.of e727).trans (SF.of e730)).trans (SF.of e733)) r0)) er_int rr_eqI)) (fun hc736 _ e735 => ?_) (fun hc736 _ e735 => ?_)
    ·
      refine q_last ?_
      have r737 := (Rp.mono ((((SF.of e727).trans (SF.of e730)).trans (SF.of e733)).trans (SF.of e735)) r0)
      have r738 := (Rp.mono ((((SF.of e727).trans (SF.of e730)).trans (SF.of e733)).trans (SF.of e735)) r1)
      have r739 := (Rp.mono ((((SF.of e727).trans (SF.of e730)).trans (SF.of e733)).trans (SF.of e735)) r2)
      have r740 := (Rp.mono ((((SF.of e727).trans (SF.of e730)).trans (SF.of e733)).trans (SF.of e735)) r3)
      refine q_setX (K := K) (ex_call2 (er_var rfl r738) (er_var rfl r739) (by exact hp.2)) (fun c741 hE742 hM743 _ e746 => ⟨rfl, (T.x.e _ hM743).ex, fun a_ ha_ => ⟨.ref a_, rfl, fun hna_ => ?_⟩⟩) (fun z744 v747 _ hy745 e746 r748 => ?_)
      ·
        have r749 := (Rp.mono (((((SF.of e730).trans (SF.of e733)).trans (SF.of e735)).trans (SF.of e746)).trans (SF.of (same_new (o := ExT (erC K c741) a_) hna_))) r728)
        exact s_ret (K := K) (er_inr (α := (List (Int × Int))) (er_ifF (et_test (Er.to (er_isN (er_var rfl rep_err)) (show _ = false from rfl))) (er_call1 (er_Oget (er_var rfl rep_err) rfl) (by assumption)))) (fun u _ e750 rr => q u _ ((((((e727.trans e730).trans e733).trans e735).trans e746).trans (same_new (o := ExT (erC K c741) a_) hna_)).trans e750) (by rw [(show m_call_pairs x0 x1 x2 x3 = (Sum.inr (m__law_error (Xn.mk c741)) : (Sum (List (Int × Int)) Str)) from by unfold m_call_pairs; rw [elimX_err hE742])]; exact rr))
      ·
        refine s_nxz ?_
        refine s_nxz ?_
        refine s_nxz ?_
        exact s_ret (K := K) (er_inl (β := Str) (er_ifT (et_test (Er.to (er_isN (er_var rfl (Rp.mono (((SF.of e733).trans (SF.of e735)).trans (SF.of e746)) r731))) (show _ = true from rfl))) (er_var rfl r748))) (fun u _ e751 rr => q u _ (((((e727.trans e730).trans e733).trans e735).trans e746).trans e751) (by rw [(show m_call_pairs x0 x1 x2 x3 = (Sum.inl z744 : (Sum (List (Int × Int)) Str)) from by unfold m_call_pairs; rw [elimX_ok hy745])]; exact rr))
    · exact absurd hc736 (by rw [show x0 = _ from hp.1]; decide)
def m_call_met (x0 : Int) (x1 : (List (Int × Int))) (x2 : (List (Int × Int))) (x3 : Int) : (Sum (List (Int × Int)) Str) := (elimX (m_met x1 x2) (fun c766 => (Sum.inr (m__law_error (Xn.mk c766)) : (Sum (List (Int × Int)) Str))) (fun (z769 : (List (Int × Int))) => (Sum.inl z769 : (Sum (List (Int × Int)) Str))))
theorem ok__law_call_3 (T : Txt K mg) : Ok P w K mg base CX0 6 "_law_call" ["_law_kind", "_law_bounds", "_law_one", "_law_two"] (sp4 K ((fun k a b _ => k = 2 ∧ BOk a ∧ BOk b ∧ a.length = b.length) : Int → (List (Int × Int)) → (List (Int × Int)) → Int → Prop) m_call_met) := by
  refine ok_of T.d__law_call sc__law_call (bi4 fun _ _ _ _ _ _ _ _ _ _ => rfl) len_sp4 (fun f cdv A outer s H vs Q E hr h => ?_)
  have nd := sc__law_call.nd
  obtain ⟨v0, v1, v2, v3, x0, x1, x2, x3, rfl, r0, r1, r2, r3, hp, q⟩ := h
  refine ⟨_, (pss_cons (ps_set (i := 4) nd rfl (.inl rfl) pe_non)
      (pss_cons (ps_set (i := 5) nd rfl (.inl rfl) pe_non)
      (pss_cons (ps_try_kept (i := 6) (c := erC K "BoundError") rfl rfl nd rfl rfl ⟨rfl, by decide, .inl T.x.b⟩ rfl (fun W pn xe tk _ => (pss_one (ps_if (pt_cmpR op_eq (pv 0) pe_int (nomark _)) (pss_one (ps_set (i := 4) nd rfl (.inl rfl) (pe_frz (pe_fnX (ok_with_sumX T) (hr.mono (by decide)) tk (pa_cons (pv 1) (pa_cons (pv 2) (pa_cons (pv 3) pa_nil))))))) (pss_one (ps_if (pt_cmpR op_eq (pv 0) pe_int (nomark _)) (pss_one (ps_set (i := 4) nd rfl (.inl rfl) (pe_fnX (ok_with_pairsX T) (hr.mono (by decide)) tk (pa_cons (pv 1) (pa_cons (pv 2) pa_nil))))) (pss_one (ps_set (i := 4) nd rfl (.inl rfl) (pe_fnX (ok_metX T) (hr.mono (by decide)) tk (pa_cons (pv 1) (pa_cons (pv 2) pa_nil)))))))))) (fun a oe cls pn hz => (pss_one (ps_set (i := 5) nd rfl (.inl rfl) (pv 6)))))
      (pss_one (ps_ret (pe_ifExp (pt_cmpR op_isN1 (pv 5) pe_non (nomark _)) (pv 4) (pe_fn (ok__law_error T) (hr.mono (by decide)) pass0 (pa_cons (pv 5) pa_nil)))))))), ?_⟩
  refine q_set (K := K) er_non (fun v754 _ e752 r753 => ?_)
  refine q_set (K := K) (er_O0 (α := Xn)) (fun v757 _ e755 r756 => ?_)
  -- try
  refine q_tryK ?_
  refine q_last ?_
  refine q_if (K := K) (et_test (er_op (er_var rfl (Rp.mono ((SF.of e752).trans (SF.of e755)) r0)) er_int rr_eqI)) (fun hc759 _ e758 => ?_) (fun hc759 _ e758 => ?_)
  · exact absurd hc759 (by rw [show x0 = _ from hp.1]; decide)
  ·
    refine q_last ?_
    refine q_if (K := K) (et_test (er_op (er_var rfl (Rp.mono (((SF.of e752).trans (SF.of e755)).trans (SF.of e758)) r0)) er_int rr_eqI)) (fun hc761 _ e760 => ?_) (fun hc761 _ e760 => ?_)
    · exact absurd hc761 (by rw [show x0 = _ from hp.1]; decide)
    ·
      refine q_last ?_
      have r762 := (Rp.mono ((((SF.of e752).trans (SF.of e755)).trans (SF.of e758)).trans (SF.of e760)) r0)
      have r763 := (Rp.mono ((((SF.of e752).trans (SF.of e755)).trans (SF.of e758)).trans (SF.of e760)) r1)
      have r764 := (Rp.mono ((((SF.of e752).trans (SF.of e755)).trans (SF.of e758)).trans (SF.of e760)) r2)
      have r765 := (Rp.mono ((((SF.of e752).trans (SF.of e755)).trans (SF.of e758)).trans (SF.of e760)) r3)
      refine q_setX (K := K) (ex_call2 (er_var rfl r763) (er_var rfl r764) (by exact hp.2)) (fun c766 hE767 hM768 _ e771 => ⟨rfl, (T.x.e _ hM768).ex, fun a_ ha_ => ⟨.ref a_, rfl, fun hna_ => ?_⟩⟩) (fun z769 v772 _ hy770 e771 r773 => ?_)
      ·
        have r774 := (Rp.mono (((((SF.of e755).trans (SF.of e758)).trans (SF.of e760)).trans (SF.of e771)).trans (SF.of (same_new (o := ExT (erC K c766) a_) hna_))) r753)
        exact s_ret (K := K) (er_inr (α := (List (Int × Int))) (er_ifF (et_test (Er.to (er_isN (er_var rfl rep_err)) (show _ = false from rfl))) (er_call1 (er_Oget (er_var rfl rep_err) rfl) (by assumption)))) (fun u _ e775 rr => q u _ ((((((e752.trans e755).trans e758).trans e760).trans e771).trans (same_new (o := ExT (erC K c766) a_) hna_)).trans e775) (by rw [(show m_call_met x0 x1 x2 x3 = (Sum.inr (m__law_error (Xn.mk c766)) : (Sum (List (Int × Int)) Str)) from by unfold m_call_met; rw [elimX_err hE767])]; exact rr))
      ·
        refine s_nxz ?_
        refine s_nxz ?_
        refine s_nxz ?_
        exact s_ret (K := K) (er_inl (β := Str) (er_ifT (et_test (Er.to (er_isN (er_var rfl (Rp.mono (((SF.of e758).trans (SF.of e760)).trans (SF.of e771)) r756))) (show _ = true from rfl))) (er_var rfl r773))) (fun u _ e776 rr => q u _ (((((e752.trans e755).trans e758).trans e760).trans e771).trans e776) (by rw [(show m_call_met x0 x1 x2 x3 = (Sum.inl z769 : (Sum (List (Int × Int)) Str)) from by unfold m_call_met; rw [elimX_ok hy770])]; exact rr))
def m__law_due (x0 : (List (List Int))) (x1 : Nat) : (Sum (List (Int × Int)) Str) := (if (decide (x0 = ([] : (List (List Int))))) = true then (Sum.inr ("none" : Str) : (Sum (List (Int × Int)) Str)) else (Sum.inl ((List.range x1).map (fun (x796 : Nat) => ((mnl (x0.map (fun (x801 : (List Int)) => ((x801).getD (x796) 0)))), (mxl (x0.map (fun (x806 : (List Int)) => ((x806).getD (x796) 0))))))) : (Sum (List (Int × Int)) Str)))
theorem ok__law_due (T : Txt K mg) : Ok P w K mg base CX0 1 "_law_due" ["_law_rows", "_law_size"] (sp2 K ((fun r n => r.length ≤ 1000000 ∧ n ≤ 7 ∧ ∀ x ∈ r, x.length = n) : (List (List Int)) → Nat → Prop) m__law_due) := by
  refine ok_of T.d__law_due sc__law_due (bi2 fun _ _ _ _ _ _ _ _ => rfl) len_sp2 (fun f cdv A outer s H vs Q E hr h => ?_)
  have nd := sc__law_due.nd
  obtain ⟨v0, v1, x0, x1, rfl, r0, r1, hp, q⟩ := h
  refine ⟨_, (pss_cons (ps_if (pt_cmpR (k_eqD K rfl hr.units) (pv 0) (pe_frz (pe_lst pa_nil)) (nomark _)) (pss_one (ps_ret pe_str)) pss_nil)
      (pss_one (ps_ret (pe_frz (pe_lc (own := [("_law_k", 2)]) rfl nd (pi_range1 (by rfl) T.n_range (pa_cons (pv 1) pa_nil)) (blkOk_by (N := N__law_due) (sc := defScope s__law_due) (by decide +kernel)) (fun _ _ _ _ _ => (pg_name (i := 2) nd rfl (.inr rfl) (.inl rfl))) (fun _ _ _ _ _ => pts_nil) (fun _ _ _ _ _ => (pe_tup (pa_cons (pe_callB (k_min K rfl rfl) (by rfl) T.n_min (by decide +kernel) (pa_cons (pe_frz (pe_lc (own := [("_law_row", 3)]) rfl nd (k_pl K rfl (pv 0)) (blkOk_by (N := N__law_due) rfl) (fun _ _ _ _ _ => (pg_name (i := 3) nd rfl (.inl rfl) (.inr rfl))) (fun _ _ _ _ _ => pts_nil) (fun _ _ _ _ _ => (pe_ix (k_ixl K rfl) (pv 3) (pv 2) (fun _ _ => rfl))))) pa_nil)) (pa_cons (pe_callB (k_max K rfl rfl) (by rfl) T.n_max (by decide +kernel) (pa_cons (pe_frz (pe_lc (own := [("_law_row", 3)]) rfl nd (k_pl K rfl (pv 0)) (blkOk_by (N := N__law_due) rfl) (fun _ _ _ _ _ => (pg_name (i := 3) nd rfl (.inl rfl) (.inr rfl))) (fun _ _ _ _ _ => pts_nil) (fun _ _ _ _ _ => (pe_ix (k_ixl K rfl) (pv 3) (pv 2) (fun _ _ => rfl))))) pa_nil)) pa_nil))))))))), ?_⟩
  refine q_if (K := K) (et_test (er_op (er_var rfl r0) (er_frz (erl_lst (α := (List Int)) ea_nil)) rr_eqT)) (fun hc793 _ e792 => ?_) (fun hc793 _ e792 => ?_)
  ·
    exact s_ret (K := K) (er_inr (α := (List (Int × Int))) er_str) (fun u _ e794 rr => q u _ (e792.trans e794) (by rw [(show m__law_due x0 x1 = (Sum.inr ("none" : Str) : (Sum (List (Int × Int)) Str)) from by unfold m__law_due; rw [if_pos hc793])]; exact rr))
  ·
    refine s_nxz ?_
    exact s_ret (K := K) (er_inl (β := Str) (er_frz (erl_lm1 (f := fun (x796 : Nat) => ((mnl (x0.map (fun (x801 : (List Int)) => ((x801).getD (x796) 0)))), (mxl (x0.map (fun (x806 : (List Int)) => ((x806).getD (x796) 0)))))) (src_range1 (er_var rfl (Rp.mono (SF.of e792) r1)) (by first | exact hp.1 | (have := hp.2.1; first | omega | (rw [List.length_range]; omega)))) (by first | exact hp.1 | (have := hp.2.1; first | omega | (rw [List.length_range]; omega))) (by intros; rfl) (fun x796 hx797 v798 _ e795 r799 => (er_pair (er_min (er_frz (erl_lm1 (f := fun (x801 : (List Int)) => ((x801).getD (x796) 0)) (src_list (er_var rfl (Rp.mono (SF.of e795) (Rp.mono (SF.of e792) r0)))) (by first | exact hp.1 | (have := hp.2.1; first | omega | (rw [List.length_range]; omega))) (by intros; rfl) (fun x801 hx802 v803 _ e800 r804 => (er_op (er_var rfl r804) (er_up (er_var rfl (Rp.mono (SF.of e800) r799))) (rr_ixL (x := ((x801).getD (x796) 0)) (by exact getD_at (by have := hp.2.2 _ (by assumption); have := List.mem_range.mp (by assumption); omega))))))) (by simpa using of_decide_eq_false (by assumption))) (er_max (er_frz (erl_lm1 (f := fun (x806 : (List Int)) => ((x806).getD (x796) 0)) (src_list (er_var rfl (Rp.mono (SF.of e795) (Rp.mono (SF.of e792) r0)))) (by first | exact hp.1 | (have := hp.2.1; first | omega | (rw [List.length_range]; omega))) (by intros; rfl) (fun x806 hx807 v808 _ e805 r809 => (er_op (er_var rfl r809) (er_up (er_var rfl (Rp.mono (SF.of e805) r799))) (rr_ixL (x := ((x806).getD (x796) 0)) (by exact getD_at (by have := hp.2.2 _ (by assumption); have := List.mem_range.mp (by assumption); omega))))))) (by simpa using of_decide_eq_false (by assumption)))))))) (fun u _ e810 rr => q u _ (e792.trans e810) (by rw [(show m__law_due x0 x1 = (Sum.inl ((List.range x1).map (fun (x796 : Nat) => ((mnl (x0.map (fun (x801 : (List Int)) => ((x801).getD (x796) 0)))), (mxl (x0.map (fun (x806 : (List Int)) => ((x806).getD (x796) 0))))))) : (Sum (List (Int × Int)) Str)) from by unfold m__law_due; rw [if_neg (nff hc793)])]; exact rr))
end
end BL

set_option Elab.async false
set_option linter.all false
set_option maxRecDepth 100000
set_option maxHeartbeats 2000000
namespace BL
open PySem PySem.Spec PyProof.Rows L2
/-! ### limits handed along edges, until nothing changes -/
def estep (h : Nat → Int) (e : Nat × Nat) : Nat → Int := fun m => if m = e.1 then min (h e.1) (h e.2) else h m
def pass (E : List (Nat × Nat)) (h : Nat → Int) : Nat → Int := E.foldl estep h
def iter {α : Type} (f : α → α) : Nat → α → α
  | 0, h => h
  | n + 1, h => f (iter f n h)
theorem estep_le (h : Nat → Int) (e : Nat × Nat) (m : Nat) : estep h e m ≤ h m := by
  unfold estep; split
  · rename_i q; subst q; omega
  · exact Int.le_refl _
theorem pass_le : ∀ (E : List (Nat × Nat)) (h : Nat → Int) (m : Nat), pass E h m ≤ h m
  | [], _, _ => Int.le_refl _
  | e :: E, h, m => Int.le_trans (pass_le E (estep h e) m) (estep_le h e m)
theorem pass_edge : ∀ (E : List (Nat × Nat)) (h : Nat → Int) (e : Nat × Nat), e ∈ E → pass E h e.1 ≤ h e.2
  | f :: E, h, e, he => by
    rcases List.mem_cons.mp he with q | he
    · subst q
      refine Int.le_trans (pass_le E (estep h e) e.1) ?_
      unfold estep; rw [if_pos rfl]; omega
    · exact Int.le_trans (pass_edge E (estep h f) e he) (estep_le h f e.2)
theorem pass_low {W : Nat → Int} : ∀ (E : List (Nat × Nat)) (h : Nat → Int), (∀ e ∈ E, W e.1 ≤ W e.2) → (∀ m, W m ≤ h m) → ∀ m, W m ≤ pass E h m
  | [], _, _, hw, m => hw m
  | e :: E, h, hE, hw, m => by
    refine pass_low E (estep h e) (fun f hf => hE f (List.mem_cons_of_mem _ hf)) (fun k => ?_) m
    unfold estep; split
    · rename_i q; subst q
      have := hE e (List.mem_cons_self ..)
      have := hw e.1
      have := hw e.2
      omega
    · exact hw k
/-- all edges at once -/
def jac (E : List (Nat × Nat)) (h : Nat → Int) (k : Nat) : Int := E.foldl (fun a e => if e.1 = k then min a (h e.2) else a) (h k)
theorem jacf : ∀ (E : List (Nat × Nat)) (h : Nat → Int) (k : Nat) (a : Int), E.foldl (fun a e => if e.1 = k then min a (h e.2) else a) a ≤ a ∧ (∀ e ∈ E, e.1 = k → E.foldl (fun a e => if e.1 = k then min a (h e.2) else a) a ≤ h e.2) ∧
    (E.foldl (fun a e => if e.1 = k then min a (h e.2) else a) a = a ∨ ∃ e ∈ E, e.1 = k ∧ E.foldl (fun a e => if e.1 = k then min a (h e.2) else a) a = h e.2)
  | [], _, _, _ => ⟨Int.le_refl _, fun _ h => (nomatch h), .inl rfl⟩
  | f :: E, h, k, a => by
    rw [List.foldl_cons]
    obtain ⟨h1, h2, h3⟩ := jacf E h k (if f.1 = k then min a (h f.2) else a)
    refine ⟨Int.le_trans h1 (by split <;> omega), fun e he hk => ?_, ?_⟩
    · rcases List.mem_cons.mp he with q | he
      · subst q; rw [if_pos hk] at h1 ⊢; omega
      · exact h2 e he hk
    · rcases h3 with e3 | ⟨e, he, hk, e3⟩
      · rw [e3]
        by_cases q : f.1 = k
        · rw [if_pos q]
          by_cases c : a ≤ h f.2
          · exact .inl (by omega)
          · exact .inr ⟨f, List.mem_cons_self .., q, by omega⟩
        · rw [if_neg q]; exact .inl rfl
      · exact .inr ⟨e, List.mem_cons_of_mem _ he, hk, e3⟩
theorem jac_le (E : List (Nat × Nat)) (h : Nat → Int) (k : Nat) : jac E h k ≤ h k := (jacf E h k (h k)).1
theorem jac_edge {E : List (Nat × Nat)} (h : Nat → Int) {e : Nat × Nat} (he : e ∈ E) : jac E h e.1 ≤ h e.2 := (jacf E h e.1 (h e.1)).2.1 e he rfl
theorem jac_is (E : List (Nat × Nat)) (h : Nat → Int) (k : Nat) : jac E h k = h k ∨ ∃ e ∈ E, e.1 = k ∧ jac E h k = h e.2 := (jacf E h k (h k)).2.2
theorem jac_mono {E : List (Nat × Nat)} {h g : Nat → Int} (hg : ∀ m, h m ≤ g m) (k : Nat) : jac E h k ≤ jac E g k := by
  rcases jac_is E g k with e | ⟨f, hf, hk, e⟩
  · rw [e]; exact Int.le_trans (jac_le E h k) (hg k)
  · rw [e]; subst hk; exact Int.le_trans (jac_edge h hf) (hg _)
theorem pass_jac (E : List (Nat × Nat)) (h : Nat → Int) (k : Nat) : pass E h k ≤ jac E h k := by
  rcases jac_is E h k with e | ⟨f, hf, hk, e⟩
  · rw [e]; exact pass_le E h k
  · rw [e]; subst hk; exact pass_edge E h f hf
theorem nodup_lt : ∀ (n : Nat) (l : List Nat), l.Nodup → (∀ m ∈ l, m < n) → l.length ≤ n
  | 0, [], _, _ => Nat.le_refl _
  | 0, m :: l, _, h => absurd (h m (List.mem_cons_self ..)) (Nat.not_lt_zero _)
  | n + 1, l, hl, h => by
    by_cases c : n ∈ l
    · have h1 := nodup_lt n (l.erase n) (hl.erase n) fun m hm => by
        have h2 := h m (List.mem_of_mem_erase hm)
        have h3 : m ≠ n := fun e => by subst e; exact (List.Nodup.not_mem_erase hl) hm
        omega
      rw [List.length_erase_of_mem c] at h1
      omega
    · have := nodup_lt n l hl fun m hm => by
        have h2 := h m hm
        have h3 : m ≠ n := fun e => c (e ▸ hm)
        omega
      omega
theorem iter_le (E : List (Nat × Nat)) (h : Nat → Int) : ∀ (a b : Nat), a ≤ b → ∀ m, iter (jac E) b h m ≤ iter (jac E) a h m
  | a, b, hab, m => by
    induction hab with
    | refl => exact Int.le_refl _
    | step _ ih => exact Int.le_trans (jac_le E _ m) ih
/-- what changes at step t + 1 has t + 2 places behind it -/
theorem chain {E : List (Nat × Nat)} {n : Nat} (hE : ∀ e ∈ E, e.1 < n ∧ e.2 < n) (h : Nat → Int) : ∀ (t k : Nat) (v : Int), k < n → iter (jac E) t h k = v → (∀ s, s + 1 = t → v < iter (jac E) s h k) → ∃ l : List Nat, l.length = t + 1 ∧ l.Nodup ∧ ∀ m ∈ l, m < n ∧ iter (jac E) t h m ≤ v
  | 0, k, v, hk, e, _ => ⟨[k], rfl, by simp, fun m hm => by rw [List.mem_singleton.mp hm]; exact ⟨hk, by rw [e]; exact Int.le_refl _⟩⟩
  | t + 1, k, v, hk, e, hc => by
    have hlt := hc t rfl
    have e' : jac E (iter (jac E) t h) k = v := e
    rcases jac_is E (iter (jac E) t h) k with q | ⟨f, hf, hfk, q⟩
    · rw [q] at e'; omega
    · rw [q] at e'
      obtain ⟨l, h1, h2, h3⟩ := chain hE h t f.2 v (hE f hf).2 e' fun s hs => by
        subst hs
        by_cases c : v < iter (jac E) s h f.2
        · exact c
        · exfalso
          have := jac_edge (iter (jac E) s h) hf
          rw [hfk] at this
          have hlt : v < jac E (iter (jac E) s h) k := hlt
          omega
      have hn : k ∉ l := fun hm => by have := (h3 k hm).2; omega
      refine ⟨k :: l, by rw [List.length_cons, h1], List.nodup_cons.mpr ⟨hn, h2⟩, fun m hm => ?_⟩
      rcases List.mem_cons.mp hm with z | hm
      · subst z; exact ⟨hk, by rw [e]; exact Int.le_refl _⟩
      · exact ⟨(h3 m hm).1, Int.le_trans (jac_le E _ m) (h3 m hm).2⟩
theorem jac_stop {E : List (Nat × Nat)} {n : Nat} (hE : ∀ e ∈ E, e.1 < n ∧ e.2 < n) (h : Nat → Int) (k : Nat) : jac E (iter (jac E) n h) k = iter (jac E) n h k := by
  rcases jac_is E (iter (jac E) n h) k with q | ⟨f, hf, hfk, q⟩
  · exact q
  · by_cases c : jac E (iter (jac E) n h) k < iter (jac E) n h k
    · exfalso
      obtain ⟨l, h1, h2, h3⟩ := chain hE h (n + 1) k _ (hfk ▸ (hE f hf).1) rfl fun s hs => by
        have : s = n := by omega
        subst this; exact c
      have := nodup_lt n l h2 fun m hm => (h3 m hm).1
      omega
    · have := jac_le E (iter (jac E) n h) k
      omega
theorem passes_jac (E : List (Nat × Nat)) (h : Nat → Int) : ∀ t m, iter (pass E) t h m ≤ iter (jac E) t h m
  | 0, _ => Int.le_refl _
  | t + 1, m => Int.le_trans (pass_jac E _ m) (jac_mono (passes_jac E h t) m)
/-- n passes are enough -/
theorem passes_stop {E : List (Nat × Nat)} {n : Nat} (hE : ∀ e ∈ E, e.1 < n ∧ e.2 < n) (h : Nat → Int) : ∀ e ∈ E, iter (pass E) n h e.1 ≤ iter (pass E) n h e.2 := by
  have fix : ∀ e ∈ E, iter (jac E) n h e.1 ≤ iter (jac E) n h e.2 := fun e he => by
    have := jac_edge (iter (jac E) n h) he
    rw [jac_stop hE h e.1] at this; exact this
  have low : ∀ t m, iter (jac E) n h m ≤ iter (pass E) t h m := fun t => by
    induction t with
    | zero => exact iter_le E h 0 n (Nat.zero_le _)
    | succ t ih => exact pass_low E _ fix ih
  have eq : ∀ m, iter (pass E) n h m = iter (jac E) n h m := fun m => Int.le_antisymm (passes_jac E h n m) (low n m)
  intro e he
  rw [eq, eq]; exact fix e he
/-! ### all choices, from the front -/
def rowsC : List (Int × Int) → List (List Int)
  | [] => [[]]
  | p :: b => (rgI p.1 (p.2 + 1 - p.1).toNat).flatMap fun v => (rowsC b).map (v :: ·)
theorem rowsFrom_eq : ∀ (b : List (Int × Int)) (acc : List (List Int)), rowsFrom acc b = acc.flatMap fun r0 => (rowsC b).map (r0 ++ ·)
  | [], acc => by
    show acc = acc.flatMap fun r0 => [r0 ++ []]
    induction acc with
    | nil => rfl
    | cons r acc ih => rw [List.flatMap_cons, ← ih]; simp
  | p :: b, acc => by
    show rowsFrom (acc.flatMap (rowExt p)) b = _
    rw [rowsFrom_eq b, List.flatMap_assoc]
    congr 1
    funext r0
    unfold rowExt
    rw [List.flatMap_map]
    show _ = List.map _ ((rgI p.1 (p.2 + 1 - p.1).toNat).flatMap fun v => (rowsC b).map (v :: ·))
    rw [List.map_flatMap]
    congr 1
    funext v
    rw [List.map_map]
    refine List.map_congr_left fun r _ => ?_
    simp
theorem rows_C (b : List (Int × Int)) : rowsOf b = rowsC b := by
  unfold rowsOf
  rw [rowsFrom_eq]
  simp
theorem mem_rowsC {b : List (Int × Int)} {r : List Int} : r ∈ rowsC b ↔ inB b r := by rw [← rows_C]; exact mem_rows
def wdt (p : Int × Int) : Nat := (p.2 + 1 - p.1).toNat
theorem rowsC_len : ∀ b : List (Int × Int), (rowsC b).length = (b.map wdt).foldr (· * ·) 1
  | [] => rfl
  | p :: b => by
    have h : ∀ l : List Int, (l.flatMap fun v => (rowsC b).map (v :: ·)).length = l.length * (rowsC b).length := fun l => by
      induction l with
      | nil => simp
      | cons x l ih => rw [List.flatMap_cons, List.length_append, ih, List.length_map, List.length_cons, Nat.add_mul, Nat.one_mul, Nat.add_comm]
    show ((rgI p.1 (p.2 + 1 - p.1).toNat).flatMap fun v => (rowsC b).map (v :: ·)).length = _
    rw [h, len_rgI, rowsC_len b]; rfl
theorem lt_ext : ∀ {l r : List Int}, l.Pairwise (· < ·) → r.Pairwise (· < ·) → (∀ x, x ∈ l ↔ x ∈ r) → l = r
  | [], [], _, _, _ => rfl
  | [], y :: r, _, _, h => absurd ((h y).mpr (List.mem_cons_self ..)) (by simp)
  | x :: l, [], _, _, h => absurd ((h x).mp (List.mem_cons_self ..)) (by simp)
  | x :: l, y :: r, hl, hr, h => by
    obtain ⟨h1, h2⟩ := List.pairwise_cons.mp hl
    obtain ⟨h3, h4⟩ := List.pairwise_cons.mp hr
    have e : x = y := by
      have a := (h x).mp (List.mem_cons_self ..)
      have b := (h y).mpr (List.mem_cons_self ..)
      rcases List.mem_cons.mp a with q | q
      · exact q
      · rcases List.mem_cons.mp b with q' | q'
        · exact q'.symm
        · have := h3 x q; have := h1 y q'; omega
    subst e
    refine congrArg (x :: ·) (lt_ext h2 h4 fun z => ?_)
    constructor
    · intro hz
      rcases List.mem_cons.mp ((h z).mp (List.mem_cons_of_mem _ hz)) with q | q
      · subst q; have := h1 z hz; omega
      · exact q
    · intro hz
      rcases List.mem_cons.mp ((h z).mpr (List.mem_cons_of_mem _ hz)) with q | q
      · subst q; have := h3 z hz; omega
      · exact q
theorem rgI_lt (lo : Int) (n : Nat) : (rgI lo n).Pairwise (· < ·) := by
  unfold rgI
  rw [List.pairwise_map]
  exact List.Pairwise.imp (fun h => by omega) List.pairwise_lt_range
def wth (l h : Int) (x : Int) : Bool := decide (l ≤ x) && decide (x ≤ h)
theorem rg_filter (a : Int) (n : Nat) (l h : Int) : (rgI a n).filter (wth l h) = rgI (max l a) (min h (a + n - 1) + 1 - max l a).toNat := by
  refine lt_ext (List.Pairwise.filter _ (rgI_lt ..)) (rgI_lt ..) fun x => ?_
  rw [List.mem_filter, mem_rgI, mem_rgI]
  unfold wth
  rw [Bool.and_eq_true, decide_eq_true_eq, decide_eq_true_eq]
  omega
/-- the choices whose value at a place lies within more limits -/
theorem rowsC_at (l h : Int) : ∀ (b : List (Int × Int)) (k : Nat), k < b.length → (∀ p ∈ b, p.1 ≤ p.2) → (rowsC b).filter (fun r => wth l h (r.getD k 0)) = rowsC (b.set k (max l (lo b k), min h (hi b k)))
  | p :: b, 0, _, hb => by
    have hp := hb p (List.mem_cons_self ..)
    show ((rgI p.1 (p.2 + 1 - p.1).toNat).flatMap fun v => (rowsC b).map (v :: ·)).filter _ = (rgI (max l p.1) (min h p.2 + 1 - max l p.1).toNat).flatMap fun v => (rowsC b).map (v :: ·)
    have e : rgI (max l p.1) (min h p.2 + 1 - max l p.1).toNat = (rgI p.1 (p.2 + 1 - p.1).toNat).filter (wth l h) := by
      rw [rg_filter]
      congr 2
      omega
    rw [e]
    generalize rgI p.1 (p.2 + 1 - p.1).toNat = L
    induction L with
    | nil => rfl
    | cons x L ih =>
      rw [List.flatMap_cons, List.filter_append, ih, List.filter_cons]
      have e2 : ((rowsC b).map (x :: ·)).filter (fun r => wth l h (r.getD 0 0)) = if wth l h x = true then (rowsC b).map (x :: ·) else [] := by
        by_cases c : wth l h x = true
        · rw [if_pos c]
          exact List.filter_eq_self.mpr fun r hr => by obtain ⟨q, _, rfl⟩ := List.mem_map.mp hr; exact c
        · rw [if_neg c]
          exact List.filter_eq_nil_iff.mpr fun r hr => by obtain ⟨q, _, rfl⟩ := List.mem_map.mp hr; exact c
      rw [e2]
      by_cases c : wth l h x = true
      · rw [if_pos c, if_pos c, List.flatMap_cons]
      · rw [if_neg c, if_neg c, List.nil_append]
  | p :: b, k + 1, hk, hb => by
    have ih := rowsC_at l h b k (by simpa using hk) fun q hq => hb q (List.mem_cons_of_mem _ hq)
    show ((rgI p.1 (p.2 + 1 - p.1).toNat).flatMap fun v => (rowsC b).map (v :: ·)).filter _ = (rgI p.1 (p.2 + 1 - p.1).toNat).flatMap fun v => (rowsC (b.set k (max l (lo b k), min h (hi b k)))).map (v :: ·)
    rw [← ih]
    generalize rgI p.1 (p.2 + 1 - p.1).toNat = L
    induction L with
    | nil => rfl
    | cons x L ih2 =>
      rw [List.flatMap_cons, List.flatMap_cons, List.filter_append, ih2, List.filter_map]
      congr 1
def lws (b : List (Int × Int)) : List Int := b.map fun p => p.1
def hgs (b : List (Int × Int)) : List Int := b.map fun p => p.2
theorem mapIf_id {α : Type} {c : α → Bool} {l : List α} : mapIf c (fun x => x) l = l.filter c := by unfold mapIf; exact List.map_id' _
section
variable {b : List (Int × Int)}
theorem lo_set {s : List (Int × Int)} {k m : Nat} {p : Int × Int} (h : k < s.length) : lo (s.set k p) m = if m = k then p.1 else lo s m := by
  unfold lo
  rw [List.getD_eq_getElem?_getD, List.getElem?_set]
  by_cases e : k = m
  · subst e; rw [if_pos rfl, if_pos h, if_pos rfl]; rfl
  · rw [if_neg e, if_neg (fun q => e q.symm), List.getD_eq_getElem?_getD]
theorem hi_set {s : List (Int × Int)} {k m : Nat} {p : Int × Int} (h : k < s.length) : hi (s.set k p) m = if m = k then p.2 else hi s m := by
  unfold hi
  rw [List.getD_eq_getElem?_getD, List.getElem?_set]
  by_cases e : k = m
  · subst e; rw [if_pos rfl, if_pos h, if_pos rfl]; rfl
  · rw [if_neg e, if_neg (fun q => e q.symm), List.getD_eq_getElem?_getD]
/-! what is due -/
theorem due_none (n : Nat) : m__law_due [] n = .inr "none" := rfl
theorem due_inl {rs : List (List Int)} {t : List (Int × Int)} (h0 : 0 < t.length) (h1 : ∀ r ∈ rs, inB t r) (h2 : ∀ k, k < t.length → (∃ r ∈ rs, r.getD k 0 = lo t k) ∧ ∃ r ∈ rs, r.getD k 0 = hi t k) : m__law_due rs t.length = .inl t := by
  obtain ⟨⟨r0, hr0, _⟩, _⟩ := h2 0 h0
  unfold m__law_due
  rw [if_neg (by rw [decide_eq_false (fun e => by rw [e] at hr0; cases hr0)]; exact Bool.false_ne_true)]
  refine congrArg Sum.inl (List.ext_getElem (by rw [List.length_map, List.length_range]) fun k hk hk2 => ?_)
  rw [List.getElem_map, List.getElem_range]
  obtain ⟨⟨r1, m1, e1⟩, r2, m2, e2⟩ := h2 k hk2
  have ek : t[k] = (lo t k, hi t k) := by
    unfold lo hi
    rw [List.getD_eq_getElem?_getD, List.getElem?_eq_getElem hk2]; rfl
  rw [ek]
  refine Prod.ext ?_ ?_
  · refine (mnl_eq (List.mem_map.mpr ⟨r1, m1, e1⟩) fun y hy => ?_).symm
    obtain ⟨r, hr, rfl⟩ := List.mem_map.mp hy
    exact ((inB_iff.mp (h1 r hr)).2 k hk2).1
  · refine (mxl_eq (List.mem_map.mpr ⟨r2, m2, e2⟩) fun y hy => ?_).symm
    obtain ⟨r, hr, rfl⟩ := List.mem_map.mp hy
    exact ((inB_iff.mp (h1 r hr)).2 k hk2).2
theorem due_ok (rs : List (List Int)) (n : Nat) : Rq.ok (m__law_due rs n) := by
  unfold m__law_due
  split
  · exact (show (PyData.str "none").canLay0 = true by simp only [PyData.canLay0]; decide +kernel)
  · exact (show Rq.ok (α := List (Int × Int)) _ from Rt.all _)
theorem lows_in {t : List (Int × Int)} (h : ∀ p ∈ t, p.1 ≤ p.2) : inB t (lws t) := inB_iff.mpr ⟨by unfold lws; rw [List.length_map], fun k hk => by
  rw [show (lws t).getD k 0 = lo t k from map_at (f := fun p : Int × Int => p.1) (d := (0, 0)) hk]
  exact ⟨Int.le_refl _, lo_hi h hk⟩⟩
theorem highs_in {t : List (Int × Int)} (h : ∀ p ∈ t, p.1 ≤ p.2) : inB t (hgs t) := inB_iff.mpr ⟨by unfold hgs; rw [List.length_map], fun k hk => by
  rw [show (hgs t).getD k 0 = hi t k from map_at (f := fun p : Int × Int => p.2) (d := (0, 0)) hk]
  exact ⟨lo_hi h hk, Int.le_refl _⟩⟩
/-- the choices are just those within t -/
theorem due_rows {rs : List (List Int)} {t : List (Int × Int)} (h0 : 0 < t.length) (ht : ∀ p ∈ t, p.1 ≤ p.2) (h : ∀ r, r ∈ rs ↔ inB t r) : m__law_due rs t.length = .inl t :=
  due_inl h0 (fun r hr => (h r).mp hr) fun k hk => ⟨⟨_, (h _).mpr (lows_in ht), map_at (f := fun p : Int × Int => p.1) (d := (0, 0)) hk⟩, _, (h _).mpr (highs_in ht), map_at (f := fun p : Int × Int => p.2) (d := (0, 0)) hk⟩
/-! sums -/
theorem lows_cons (p : Int × Int) (b : List (Int × Int)) : (lws (p :: b)).sum = p.1 + (lws b).sum := rfl
theorem highs_cons (p : Int × Int) (b : List (Int × Int)) : (hgs (p :: b)).sum = p.2 + (hgs b).sum := rfl
theorem sum_in : ∀ {b : List (Int × Int)} {r : List Int}, inB b r → (lws b).sum ≤ r.sum ∧ r.sum ≤ (hgs b).sum
  | [], [], _ => ⟨Int.le_refl _, Int.le_refl _⟩
  | p :: b, x :: r, h => by
    have ih := sum_in h.2
    have := h.1
    rw [lows_cons, highs_cons, List.sum_cons]; omega
  | [], _ :: _, h => h.elim
  | _ :: _, [], h => h.elim
theorem exists_sum : ∀ {b : List (Int × Int)} {s : Int}, (∀ p ∈ b, p.1 ≤ p.2) → (lws b).sum ≤ s → s ≤ (hgs b).sum → ∃ r, inB b r ∧ r.sum = s
  | [], s, _, h1, h2 => ⟨[], trivial, by have h1 : (0 : Int) ≤ s := h1; have h2 : s ≤ (0 : Int) := h2; show (0 : Int) = s; omega⟩
  | p :: b, s, hb, h1, h2 => by
    have hp := hb p (List.mem_cons_self ..)
    rw [lows_cons] at h1
    rw [highs_cons] at h2
    have hq := (sum_in (lows_in fun q hq => hb q (List.mem_cons_of_mem _ hq))).2
    obtain ⟨r, hr, e⟩ := exists_sum (b := b) (s := s - min p.2 (s - (lws b).sum)) (fun q hq => hb q (List.mem_cons_of_mem _ hq)) (by omega) (by omega)
    exact ⟨min p.2 (s - (lws b).sum) :: r, ⟨by omega, hr⟩, by rw [List.sum_cons, e]; omega⟩
theorem lows_set : ∀ {b : List (Int × Int)} {k : Nat} {p : Int × Int}, k < b.length → (lws (b.set k p)).sum = (lws b).sum - lo b k + p.1 ∧ (hgs (b.set k p)).sum = (hgs b).sum - hi b k + p.2
  | q :: b, 0, p, _ => by
    show p.1 + (lws b).sum = q.1 + (lws b).sum - q.1 + p.1 ∧ p.2 + (hgs b).sum = q.2 + (hgs b).sum - q.2 + p.2
    omega
  | q :: b, k + 1, p, h => by
    have ih := lows_set (b := b) (k := k) (p := p) (by simpa using h)
    show q.1 + (lws (b.set k p)).sum = q.1 + (lws b).sum - lo b k + p.1 ∧ q.2 + (hgs (b.set k p)).sum = q.2 + (hgs b).sum - hi b k + p.2
    omega
theorem in_set {r : List Int} {k : Nat} (hk : k < b.length) (h : inB b r) : inB (b.set k (r.getD k 0, r.getD k 0)) r := by
  obtain ⟨h1, h2⟩ := inB_iff.mp h
  refine inB_iff.mpr ⟨by rw [List.length_set]; exact h1, fun m hm => ?_⟩
  rw [List.length_set] at hm
  rw [lo_set hk, hi_set hk]
  split
  · rename_i q; subst q; exact ⟨Int.le_refl _, Int.le_refl _⟩
  · exact h2 m hm
theorem in_unset {r : List Int} {k : Nat} {x : Int} (hk : k < b.length) (h1 : lo b k ≤ x) (h2 : x ≤ hi b k) (h : inB (b.set k (x, x)) r) : inB b r ∧ r.getD k 0 = x := by
  obtain ⟨h3, h4⟩ := inB_iff.mp h
  rw [List.length_set] at h3 h4
  have hx := h4 k hk
  rw [lo_set hk, hi_set hk, if_pos rfl, if_pos rfl] at hx
  have hx : x ≤ r.getD k 0 ∧ r.getD k 0 ≤ x := hx
  refine ⟨inB_iff.mpr ⟨h3, fun m hm => ?_⟩, by omega⟩
  by_cases e : m = k
  · subst e; omega
  · have := h4 m hm
    rw [lo_set hk, hi_set hk, if_neg e, if_neg e] at this
    exact this
theorem ord_set {k : Nat} {p : Int × Int} (hb : ∀ q ∈ b, q.1 ≤ q.2) (hp : p.1 ≤ p.2) : ∀ q ∈ b.set k p, q.1 ≤ q.2 := fun q hq => by
  rcases List.mem_or_eq_of_mem_set hq with h | h
  · exact hb q h
  · subst h; exact hp
theorem sum_row (hb : ∀ q ∈ b, q.1 ≤ q.2) {k : Nat} (hk : k < b.length) {x s : Int} (h1 : lo b k ≤ x) (h2 : x ≤ hi b k) (h3 : (lws b).sum - lo b k + x ≤ s) (h4 : s ≤ (hgs b).sum - hi b k + x) : ∃ r, inB b r ∧ r.getD k 0 = x ∧ r.sum = s := by
  obtain ⟨a, c⟩ := lows_set (b := b) (k := k) (p := (x, x)) hk
  obtain ⟨r, hr, e⟩ := exists_sum (b := b.set k (x, x)) (s := s) (ord_set hb (Int.le_refl _)) (by rw [a]; exact h3) (by rw [c]; exact h4)
  obtain ⟨h5, h6⟩ := in_unset hk h1 h2 hr
  exact ⟨r, h5, h6, e⟩
theorem sum_at {r : List Int} {k : Nat} (hk : k < b.length) (h : inB b r) : (lws b).sum - lo b k + r.getD k 0 ≤ r.sum ∧ r.sum ≤ (hgs b).sum - hi b k + r.getD k 0 := by
  have := sum_in (in_set hk h)
  obtain ⟨a, c⟩ := lows_set (b := b) (k := k) (p := (r.getD k 0, r.getD k 0)) hk
  rw [a, c] at this
  exact this
theorem lows_le : ∀ {b : List (Int × Int)}, (∀ q ∈ b, q.1 ≤ q.2) → (lws b).sum ≤ (hgs b).sum := fun h => by
  have := sum_in (lows_in h)
  omega
theorem rest_le (hb : ∀ q ∈ b, q.1 ≤ q.2) {k : Nat} (hk : k < b.length) : (lws b).sum - lo b k ≤ (hgs b).sum - hi b k := by
  obtain ⟨a, c⟩ := lows_set (b := b) (k := k) (p := (0, 0)) hk
  have := lows_le (ord_set (b := b) (k := k) (p := (0, 0)) hb (Int.le_refl _))
  rw [a, c] at this
  show _ - _ ≤ _ - _
  have e1 : ((0 : Int), (0 : Int)).1 = 0 := rfl
  have e2 : ((0 : Int), (0 : Int)).2 = 0 := rfl
  rw [e1, e2] at this
  omega
def wsT (b : List (Int × Int)) (l g : Int) (p : Int × Int) : Int × Int := (max p.1 (l - ((hgs b).sum - p.2)), min p.2 (g - ((lws b).sum - p.1)))
theorem call_sum (hB : BOk b) {l g : Int} (hl : -400 ≤ l ∧ l ≤ g ∧ g ≤ 400) : m_call_sum 0 b l g = m__law_due (mapIf (fun r => decide (l ≤ r.sum) && decide (r.sum ≤ g)) (fun r => r) (rowsOf b)) b.length := by
  have hb := ord_of hB
  have mem : ∀ r, r ∈ mapIf (fun r : List Int => decide (l ≤ r.sum) && decide (r.sum ≤ g)) (fun r => r) (rowsOf b) ↔ inB b r ∧ l ≤ r.sum ∧ r.sum ≤ g := fun r => by
    rw [mapIf_id, List.mem_filter, mem_rows, Bool.and_eq_true, decide_eq_true_eq, decide_eq_true_eq]
  have e0 : ((!(m_is_int l (-(400 : Int)) (400 : Int))) || (!(m_is_int g l (400 : Int)))) = false := by simp [m_is_int]; omega
  unfold m_call_sum
  by_cases c : (lws b).sum > g ∨ (hgs b).sum < l
  · have e : m_with_sum b l g = .error "NotFound" := by
      unfold m_with_sum
      rw [if_neg (nff e0), if_pos (by rw [Bool.or_eq_true, decide_eq_true_eq, decide_eq_true_eq]; exact c)]
    rw [elimX_err e, err_none]
    have en : mapIf (fun r : List Int => decide (l ≤ r.sum) && decide (r.sum ≤ g)) (fun r => r) (rowsOf b) = [] := by
      refine List.eq_nil_iff_forall_not_mem.mpr fun r hr => ?_
      obtain ⟨h1, h2, h3⟩ := (mem r).mp hr
      have := sum_in h1
      omega
    rw [en, due_none]
  · have e : m_with_sum b l g = .ok (b.map (wsT b l g)) := by
      unfold m_with_sum
      rw [if_neg (nff e0), if_neg (by rw [Bool.or_eq_true, decide_eq_true_eq, decide_eq_true_eq]; exact c)]; rfl
    rw [elimX_ok e]
    have hlen : (b.map (wsT b l g)).length = b.length := List.length_map ..
    have el : ∀ k, k < b.length → lo (b.map (wsT b l g)) k = max (lo b k) (l - ((hgs b).sum - hi b k)) := fun k hk => congrArg Prod.fst (map_at (f := wsT b l g) (d := (0, 0)) (e := (0, 0)) hk)
    have eh : ∀ k, k < b.length → hi (b.map (wsT b l g)) k = min (hi b k) (g - ((lws b).sum - lo b k)) := fun k hk => congrArg Prod.snd (map_at (f := wsT b l g) (d := (0, 0)) (e := (0, 0)) hk)
    have h0 : 0 < b.length := by have := hB.1; omega
    have hd := due_inl (rs := mapIf (fun r : List Int => decide (l ≤ r.sum) && decide (r.sum ≤ g)) (fun r => r) (rowsOf b)) (t := b.map (wsT b l g)) (by rw [hlen]; exact h0) (fun r hr => by
      obtain ⟨h1, h2, h3⟩ := (mem r).mp hr
      obtain ⟨h4, h5⟩ := inB_iff.mp h1
      refine inB_iff.mpr ⟨by rw [hlen]; exact h4, fun k hk => ?_⟩
      rw [hlen] at hk
      rw [el k hk, eh k hk]
      have a := sum_at hk h1
      have d := h5 k hk
      omega) (fun k hk => by
      rw [hlen] at hk
      rw [el k hk, eh k hk]
      have o := lo_hi hb hk
      have q := rest_le hb hk
      constructor
      · obtain ⟨r, h1, h2, h3⟩ := sum_row hb hk (x := max (lo b k) (l - ((hgs b).sum - hi b k))) (s := max l ((lws b).sum - lo b k + max (lo b k) (l - ((hgs b).sum - hi b k)))) (by omega) (by omega) (by omega) (by omega)
        exact ⟨r, (mem r).mpr ⟨h1, by omega, by omega⟩, h2⟩
      · obtain ⟨r, h1, h2, h3⟩ := sum_row hb hk (x := min (hi b k) (g - ((lws b).sum - lo b k))) (s := min g ((hgs b).sum - hi b k + min (hi b k) (g - ((lws b).sum - lo b k)))) (by omega) (by omega) (by omega) (by omega)
        exact ⟨r, (mem r).mpr ⟨h1, by omega, by omega⟩, h2⟩)
    rw [hlen] at hd
    exact hd.symm
/-! pairs -/
def PairsOk (b p : List (Int × Int)) : Prop := ∀ t ∈ p, (0 ≤ t.1 ∧ t.1 < b.length) ∧ (0 ≤ t.2 ∧ t.2 < b.length) ∧ t.1 ≠ t.2
def edg (t : Int × Int) : Nat × Nat := (t.1.toNat, t.2.toNat)
def egd (t : Int × Int) : Nat × Nat := (t.2.toNat, t.1.toNat)
def nlo (s : List (Int × Int)) (m : Nat) : Int := -(lo s m)
theorem nstep_at {s : List (Int × Int)} {t : Int × Int} (h : (0 ≤ t.1 ∧ t.1 < s.length) ∧ (0 ≤ t.2 ∧ t.2 < s.length) ∧ t.1 ≠ t.2) : (∀ m, hi (nstep s t) m = estep (hi s) (edg t) m) ∧ ∀ m, nlo (nstep s t) m = estep (nlo s) (egd t) m := by
  have hk : t.1.toNat < s.length := by omega
  have hj : t.2.toNat < s.length := by omega
  have hne : t.1.toNat ≠ t.2.toNat := by omega
  have e : nstep s t = (s.set t.1.toNat (lo s t.1.toNat, min (hi s t.1.toNat) (hi s t.2.toNat))).set t.2.toNat (max (lo (s.set t.1.toNat (lo s t.1.toNat, min (hi s t.1.toNat) (hi s t.2.toNat))) t.2.toNat) (lo (s.set t.1.toNat (lo s t.1.toNat, min (hi s t.1.toNat) (hi s t.2.toNat))) t.1.toNat), hi (s.set t.1.toNat (lo s t.1.toNat, min (hi s t.1.toNat) (hi s t.2.toNat))) t.2.toNat) := rfl
  constructor
  · intro m
    rw [e, hi_set (by rw [List.length_set]; exact hj)]
    show _ = if m = t.1.toNat then min (hi s t.1.toNat) (hi s t.2.toNat) else hi s m
    by_cases c : m = t.2.toNat
    · subst c
      rw [if_pos rfl, if_neg (Ne.symm hne)]
      show hi (s.set _ _) t.2.toNat = _
      rw [hi_set hk, if_neg (Ne.symm hne)]
    · rw [if_neg c, hi_set hk]
  · intro m
    show -(lo (nstep s t) m) = if m = t.2.toNat then min (-(lo s t.2.toNat)) (-(lo s t.1.toNat)) else -(lo s m)
    rw [e, lo_set (by rw [List.length_set]; exact hj)]
    by_cases c : m = t.2.toNat
    · subst c
      rw [if_pos rfl, if_pos rfl]
      show -(max (lo (s.set _ _) t.2.toNat) (lo (s.set _ _) t.1.toNat)) = _
      rw [lo_set hk, lo_set hk, if_neg (Ne.symm hne), if_pos rfl]
      show -(max (lo s t.2.toNat) (lo s t.1.toNat)) = _
      omega
    · rw [if_neg c, if_neg c, lo_set hk]
      by_cases d : m = t.1.toNat
      · subst d; rw [if_pos rfl]
      · rw [if_neg d]
theorem npass_at : ∀ {p s : List (Int × Int)}, PairsOk s p → hi (p.foldl nstep s) = pass (p.map edg) (hi s) ∧ nlo (p.foldl nstep s) = pass (p.map egd) (nlo s)
  | [], _, _ => ⟨rfl, rfl⟩
  | t :: p, s, h => by
    obtain ⟨h1, h2⟩ := nstep_at (h t (List.mem_cons_self ..))
    obtain ⟨h3, h4⟩ := npass_at (p := p) (s := nstep s t) fun u hu => by rw [nstep_len]; exact h u (List.mem_cons_of_mem _ hu)
    rw [List.foldl_cons, h3, h4, funext h1, funext h2]
    exact ⟨rfl, rfl⟩
theorem fold_len (p : List (Int × Int)) (s : List (Int × Int)) : (p.foldl nstep s).length = s.length := fold_inv (P := fun x : List (Int × Int) => x.length = s.length) rfl fun x t _ hx => by rw [nstep_len]; exact hx
theorem iter_comm {α : Type} (f : α → α) : ∀ (n : Nat) (x : α), iter f n (f x) = f (iter f n x)
  | 0, _ => rfl
  | n + 1, x => congrArg f (iter_comm f n x)
theorem fold_iter {α β : Type} (f : α → α) : ∀ (l : List β) (x : α), l.foldl (fun s _ => f s) x = iter f l.length x
  | [], _ => rfl
  | _ :: l, x => by rw [List.foldl_cons, fold_iter f l, List.length_cons, iter_comm]; rfl
theorem niter_at {p : List (Int × Int)} (h : PairsOk b p) : ∀ n, (iter (fun s => p.foldl nstep s) n b).length = b.length ∧ hi (iter (fun s => p.foldl nstep s) n b) = iter (pass (p.map edg)) n (hi b) ∧ nlo (iter (fun s => p.foldl nstep s) n b) = iter (pass (p.map egd)) n (nlo b)
  | 0 => ⟨rfl, rfl, rfl⟩
  | n + 1 => by
    obtain ⟨h1, h2, h3⟩ := niter_at h n
    obtain ⟨h4, h5⟩ := npass_at (p := p) (s := iter (fun s => p.foldl nstep s) n b) fun t ht => by rw [h1]; exact h t ht
    exact ⟨(fold_len p _).trans h1, h4.trans (by rw [h2]; rfl), h5.trans (by rw [h3]; rfl)⟩
theorem narrowed_iter (b p : List (Int × Int)) : m_narrowed b p = iter (fun s => p.foldl nstep s) b.length b := by
  rw [narrowed_eq, fold_iter (fun s : List (Int × Int) => p.foldl nstep s), List.length_range]
theorem iter_pass_le (E : List (Nat × Nat)) (h : Nat → Int) : ∀ n m, iter (pass E) n h m ≤ h m
  | 0, _ => Int.le_refl _
  | n + 1, m => Int.le_trans (pass_le E _ m) (iter_pass_le E h n m)
theorem edg_in {p : List (Int × Int)} (h : PairsOk b p) : ∀ e ∈ p.map edg, e.1 < b.length ∧ e.2 < b.length := fun e he => by
  obtain ⟨t, ht, rfl⟩ := List.mem_map.mp he
  have := h t ht
  unfold edg; simp only; omega
theorem egd_in {p : List (Int × Int)} (h : PairsOk b p) : ∀ e ∈ p.map egd, e.1 < b.length ∧ e.2 < b.length := fun e he => by
  obtain ⟨t, ht, rfl⟩ := List.mem_map.mp he
  have := h t ht
  unfold egd; simp only; omega
theorem nar_facts {p : List (Int × Int)} (h : PairsOk b p) : (∀ m, lo b m ≤ lo (m_narrowed b p) m ∧ hi (m_narrowed b p) m ≤ hi b m) ∧ ∀ t ∈ p, hi (m_narrowed b p) t.1.toNat ≤ hi (m_narrowed b p) t.2.toNat ∧ lo (m_narrowed b p) t.1.toNat ≤ lo (m_narrowed b p) t.2.toNat := by
  obtain ⟨_, h2, h3⟩ := niter_at h b.length
  rw [← narrowed_iter] at h2 h3
  refine ⟨fun m => ?_, fun t ht => ?_⟩
  · have a := iter_pass_le (p.map edg) (hi b) b.length m
    have c := iter_pass_le (p.map egd) (nlo b) b.length m
    rw [← h2] at a
    rw [← h3] at c
    unfold nlo at c
    omega
  · have a := passes_stop (edg_in h) (hi b) (edg t) (List.mem_map.mpr ⟨t, ht, rfl⟩)
    have c := passes_stop (egd_in h) (nlo b) (egd t) (List.mem_map.mpr ⟨t, ht, rfl⟩)
    rw [← h2] at a
    rw [← h3] at c
    unfold edg at a
    unfold nlo egd at c
    simp only at a c
    omega
def Sat (p : List (Int × Int)) (r : List Int) : Prop := ∀ t ∈ p, r.getD t.1.toNat 0 ≤ r.getD t.2.toNat 0
theorem nstep_sound {s : List (Int × Int)} {t : Int × Int} {r : List Int} (h : (0 ≤ t.1 ∧ t.1 < s.length) ∧ (0 ≤ t.2 ∧ t.2 < s.length) ∧ t.1 ≠ t.2) (hr : inB s r) (ht : r.getD t.1.toNat 0 ≤ r.getD t.2.toNat 0) : inB (nstep s t) r := by
  obtain ⟨h1, h2⟩ := inB_iff.mp hr
  obtain ⟨e1, e2⟩ := nstep_at h
  refine inB_iff.mpr ⟨by rw [nstep_len]; exact h1, fun m hm => ?_⟩
  rw [nstep_len] at hm
  have a : hi (nstep s t) m = if m = t.1.toNat then min (hi s t.1.toNat) (hi s t.2.toNat) else hi s m := e1 m
  have c : -(lo (nstep s t) m) = if m = t.2.toNat then min (-(lo s t.2.toNat)) (-(lo s t.1.toNat)) else -(lo s m) := e2 m
  have d := h2 m hm
  have d1 := h2 t.1.toNat (by omega)
  have d2 := h2 t.2.toNat (by omega)
  constructor
  · by_cases q : m = t.2.toNat
    · rw [if_pos q] at c; rw [q] at c ⊢; omega
    · rw [if_neg q] at c; omega
  · by_cases q : m = t.1.toNat
    · rw [if_pos q] at a; rw [q] at a ⊢; omega
    · rw [if_neg q] at a; omega
theorem nar_sound {p : List (Int × Int)} (h : PairsOk b p) {r : List Int} (hr : inB b r) (hs : Sat p r) : inB (m_narrowed b p) r := by
  rw [narrowed_eq]
  refine (fold_inv (P := fun s : List (Int × Int) => s.length = b.length ∧ inB s r) ⟨rfl, hr⟩ fun s _ _ ih => ?_).2
  refine fold_inv (P := fun s : List (Int × Int) => s.length = b.length ∧ inB s r) ih fun s t ht ih => ?_
  refine ⟨by rw [nstep_len]; exact ih.1, nstep_sound (by rw [ih.1]; exact h t ht) ih.2 (hs t ht)⟩
theorem nar_row {p : List (Int × Int)} (h : PairsOk b p) (ho : ∀ q ∈ m_narrowed b p, q.1 ≤ q.2) : (inB b (lws (m_narrowed b p)) ∧ Sat p (lws (m_narrowed b p))) ∧ inB b (hgs (m_narrowed b p)) ∧ Sat p (hgs (m_narrowed b p)) := by
  have hl := narrowed_len b p
  obtain ⟨f1, f2⟩ := nar_facts h
  have el : ∀ k, k < b.length → (lws (m_narrowed b p)).getD k 0 = lo (m_narrowed b p) k := fun k hk => map_at (f := fun p : Int × Int => p.1) (d := (0, 0)) (by rw [hl]; exact hk)
  have eh : ∀ k, k < b.length → (hgs (m_narrowed b p)).getD k 0 = hi (m_narrowed b p) k := fun k hk => map_at (f := fun p : Int × Int => p.2) (d := (0, 0)) (by rw [hl]; exact hk)
  have oo : ∀ k, k < b.length → lo (m_narrowed b p) k ≤ hi (m_narrowed b p) k := fun k hk => lo_hi ho (by rw [hl]; exact hk)
  refine ⟨⟨inB_iff.mpr ⟨by unfold lws; rw [List.length_map, hl], fun k hk => ?_⟩, fun t ht => ?_⟩, inB_iff.mpr ⟨by unfold hgs; rw [List.length_map, hl], fun k hk => ?_⟩, fun t ht => ?_⟩
  · rw [el k hk]; have := f1 k; have := oo k hk; omega
  · have := h t ht
    rw [el _ (by omega), el _ (by omega)]; exact (f2 t ht).2
  · rw [eh k hk]; have := f1 k; have := oo k hk; omega
  · have := h t ht
    rw [eh _ (by omega), eh _ (by omega)]; exact (f2 t ht).1
def goodR (b p : List (Int × Int)) : List (List Int) := mapIf (fun r : List Int => decide (mapIf (fun t : Int × Int => decide (r.getD t.1.toNat 0 > r.getD t.2.toNat 0)) (fun t => t) p = [])) (fun r => r) (rowsOf b)
theorem mem_good {p : List (Int × Int)} {r : List Int} : r ∈ goodR b p ↔ inB b r ∧ Sat p r := by
  unfold goodR
  rw [mapIf_id, List.mem_filter, mem_rows, decide_eq_true_eq, mapIf_id, List.filter_eq_nil_iff]
  refine and_congr Iff.rfl ⟨fun h t ht => ?_, fun h t ht => ?_⟩
  · have := h t ht
    simp at this
    exact this
  · have := h t ht
    simp
    exact this
theorem chk_ok {s : List (Int × Int)} (h : ∀ q ∈ s, q.1 ≤ q.2) : m_checked s = .ok s := by
  unfold m_checked
  rw [if_neg]
  rw [List.any_map, List.any_eq_true]
  rintro ⟨q, hq, e⟩
  have := h q hq
  simp at e; omega
theorem chk_err {s : List (Int × Int)} (h : ¬ ∀ q ∈ s, q.1 ≤ q.2) : m_checked s = .error "NotFound" := by
  unfold m_checked
  rw [if_pos]
  rw [List.any_map, List.any_eq_true]
  obtain ⟨q, hq⟩ := Classical.not_forall.mp h
  obtain ⟨hq, hn⟩ := Classical.not_imp.mp hq
  exact ⟨q, hq, by simp; omega⟩
theorem in_ord {s : List (Int × Int)} {r : List Int} (h : inB s r) : ∀ q ∈ s, q.1 ≤ q.2 := fun q hq => by
  obtain ⟨k, hk, e⟩ := mem_at (d := (0, 0)) hq
  have := (inB_iff.mp h).2 k hk
  unfold lo hi at this
  rw [e] at this; omega
theorem good_nil {p : List (Int × Int)} (h : PairsOk b p) : goodR b p = [] ↔ ¬ ∀ q ∈ m_narrowed b p, q.1 ≤ q.2 := by
  constructor
  · intro e ho
    have := mem_good.mpr (nar_row h ho).1
    rw [e] at this; cases this
  · intro hn
    refine List.eq_nil_iff_forall_not_mem.mpr fun r hr => ?_
    obtain ⟨h1, h2⟩ := mem_good.mp hr
    exact hn (in_ord (nar_sound h h1 h2))
theorem call_pairs (hB : BOk b) {p : List (Int × Int)} (h : PairsOk b p) : m_call_pairs 1 b p 0 = m__law_due (goodR b p) b.length := by
  unfold m_call_pairs
  by_cases ho : ∀ q ∈ m_narrowed b p, q.1 ≤ q.2
  · rw [elimX_ok (show m_with_pairs b p = .ok (m_narrowed b p) from chk_ok ho)]
    have hl := narrowed_len b p
    have hr := nar_row h ho
    have hd := due_inl (rs := goodR b p) (t := m_narrowed b p) (by rw [hl]; have := hB.1; omega) (fun r hr => nar_sound h (mem_good.mp hr).1 (mem_good.mp hr).2) fun k hk =>
      ⟨⟨_, mem_good.mpr hr.1, map_at (f := fun p : Int × Int => p.1) (d := (0, 0)) hk⟩, _, mem_good.mpr hr.2, map_at (f := fun p : Int × Int => p.2) (d := (0, 0)) hk⟩
    rw [hl] at hd
    exact hd.symm
  · rw [elimX_err (show m_with_pairs b p = .error "NotFound" from chk_err ho), err_none, (good_nil h).mpr ho, due_none]
theorem can_pairs {p : List (Int × Int)} (h : PairsOk b p) : m_can_be_pairs b p = !decide (goodR b p = []) := by
  have e : decide (goodR b p = []) = decide (¬ ∀ q ∈ m_narrowed b p, q.1 ≤ q.2) := decide_eq_decide.mpr (good_nil h)
  rw [e, decide_not, Bool.not_not]
  unfold m_can_be_pairs
  rw [List.all_map]
  refine (Bool.eq_iff_iff).mpr ?_
  rw [List.all_eq_true, decide_eq_true_eq]
  exact forall_congr' fun q => forall_congr' fun _ => decide_eq_true_iff
/-! two lists -/
def metL (b o : List (Int × Int)) : List (Int × Int) := (b.zip o).map fun x => (max x.1.1 x.2.1, min x.1.2 x.2.2)
theorem met_in : ∀ {b o : List (Int × Int)} {r : List Int}, b.length = o.length → (inB (metL b o) r ↔ inB b r ∧ inB o r)
  | [], [], [], _ => by simp [metL, inB]
  | [], [], _ :: _, _ => by simp [metL, inB]
  | p :: b, q :: o, [], _ => by simp [metL, inB]
  | p :: b, q :: o, x :: r, h => by
    have ih := met_in (b := b) (o := o) (r := r) (by simpa using h)
    show ((max p.1 q.1 ≤ x ∧ x ≤ min p.2 q.2) ∧ inB (metL b o) r) ↔ ((p.1 ≤ x ∧ x ≤ p.2) ∧ inB b r) ∧ (q.1 ≤ x ∧ x ≤ q.2) ∧ inB o r
    rw [ih]
    constructor
    · rintro ⟨a, c, d⟩; exact ⟨⟨by omega, c⟩, by omega, d⟩
    · rintro ⟨⟨a, c⟩, d, e⟩; exact ⟨by omega, c, e⟩
  | [], _ :: _, _, h => by simp at h
  | _ :: _, [], _, h => by simp at h
theorem inside_iff {o : List (Int × Int)} {r : List Int} : m__law_inside o r = true ↔ inB o r := by
  rw [inB_iff]
  unfold m__law_inside
  rw [Bool.and_eq_true, decide_eq_true_eq, decide_eq_true_eq, mapIf_id, List.filter_eq_nil_iff]
  constructor
  · rintro ⟨h1, h2⟩
    refine ⟨by omega, fun k hk => ?_⟩
    have := h2 k (List.mem_range.mpr (by omega))
    simp at this
    exact this
  · rintro ⟨h1, h2⟩
    refine ⟨by omega, fun k hk => ?_⟩
    have := h2 k (by have := List.mem_range.mp hk; omega)
    unfold lo hi at this
    simp
    exact this
theorem call_met (hB : BOk b) {o : List (Int × Int)} (hl : b.length = o.length) : m_call_met 2 b o 0 = m__law_due (mapIf (fun r => m__law_inside o r) (fun r => r) (rowsOf b)) b.length := by
  have mem : ∀ r, r ∈ mapIf (fun r => m__law_inside o r) (fun r => r) (rowsOf b) ↔ inB (metL b o) r := fun r => by
    rw [mapIf_id, List.mem_filter, mem_rows, inside_iff, met_in hl]
  have hlen : (metL b o).length = b.length := by unfold metL; rw [List.length_map, List.length_zip]; omega
  have e0 : m_met b o = m_checked (metL b o) := by
    unfold m_met
    rw [if_neg (by simp; omega)]; rfl
  unfold m_call_met
  by_cases ho : ∀ q ∈ metL b o, q.1 ≤ q.2
  · rw [elimX_ok (show m_met b o = .ok (metL b o) from e0.trans (chk_ok ho))]
    have hd := due_rows (by rw [hlen]; have := hB.1; omega) ho mem
    rw [hlen] at hd
    exact hd.symm
  · rw [elimX_err (show m_met b o = .error "NotFound" from e0.trans (chk_err ho)), err_none]
    have en : mapIf (fun r => m__law_inside o r) (fun r => r) (rowsOf b) = [] := List.eq_nil_iff_forall_not_mem.mpr fun r hr => ho (in_ord ((mem r).mp hr))
    rw [en, due_none]
/-! one value -/
def leftR (b : List (Int × Int)) (k : Nat) (l h : Int) : List (List Int) := mapIf (fun r : List Int => decide (l ≤ r.getD k 0) && decide (r.getD k 0 ≤ h)) (fun r => r) (rowsOf b)
theorem left_eq (hb : ∀ q ∈ b, q.1 ≤ q.2) {k : Nat} (hk : k < b.length) (l h : Int) : leftR b k l h = rowsC (b.set k (max l (lo b k), min h (hi b k))) := by
  unfold leftR
  rw [mapIf_id, rows_C]
  exact rowsC_at l h b k hk hb
theorem left_due (hB : BOk b) {k : Nat} (hk : k < b.length) (l h : Int) (hn : m__law_due (leftR b k l h) b.length ≠ .inr "none") : max l (lo b k) ≤ min h (hi b k) ∧ m__law_due (leftR b k l h) b.length = .inl (b.set k (max l (lo b k), min h (hi b k))) := by
  have hb := ord_of hB
  rw [left_eq hb hk] at hn ⊢
  have hlen : (b.set k (max l (lo b k), min h (hi b k))).length = b.length := List.length_set ..
  by_cases c : max l (lo b k) ≤ min h (hi b k)
  · refine ⟨c, ?_⟩
    have hd := due_rows (rs := rowsC (b.set k (max l (lo b k), min h (hi b k)))) (t := b.set k (max l (lo b k), min h (hi b k))) (by rw [hlen]; have := hB.1; omega) (ord_set hb c) fun r => mem_rowsC
    rw [hlen] at hd
    exact hd
  · exfalso
    apply hn
    have en : rowsC (b.set k (max l (lo b k), min h (hi b k))) = [] := List.eq_nil_iff_forall_not_mem.mpr fun r hr => by
      have := (inB_iff.mp (mem_rowsC.mp hr)).2 k (by rw [hlen]; exact hk)
      rw [lo_set hk, hi_set hk, if_pos rfl, if_pos rfl] at this
      have : max l (lo b k) ≤ r.getD k 0 ∧ r.getD k 0 ≤ min h (hi b k) := this
      omega
    rw [en, due_none]
theorem count_rows (hb : ∀ q ∈ b, q.1 ≤ q.2) : m_count_choices b = ((rowsOf b).length : Int) := by
  rw [rows_C, rowsC_len]
  have h : ∀ (l : List (Int × Int)) (a : Int), (∀ q ∈ l, q.1 ≤ q.2) → l.foldl (fun s p => s * ((p.2 - p.1) + 1)) a = a * (((l.map wdt).foldr (· * ·) 1 : Nat) : Int) := fun l => by
    induction l with
    | nil => intro a _; show a = a * 1; omega
    | cons p l ih =>
      intro a hl
      have hp := hl p (List.mem_cons_self ..)
      rw [List.foldl_cons, ih _ fun q hq => hl q (List.mem_cons_of_mem _ hq), List.map_cons, List.foldr_cons, Int.natCast_mul, ← Int.mul_assoc]
      congr 2
      unfold wdt; omega
  have := h b 1 hb
  rw [Int.one_mul] at this
  exact this
end
theorem k08_size {n k : Nat} {l : List Nat} (hl : ∃ x : Int, ((decide ((n : Int) > 1) = true ∧ 0 ≤ x ∧ x < 5) ∨ (decide ((n : Int) > 1) = false ∧ x = 0)) ∧ l = List.range x.toNat) (hm : k ∈ l) : 1 < n := by
  obtain ⟨x, h, rfl⟩ := hl
  have := List.mem_range.mp hm
  rcases h with ⟨h1, h2⟩ | ⟨h1, h2⟩
  · have := of_decide_eq_true h1; omega
  · omega
theorem k08_len {n : Nat} {l : List Nat} (hl : ∃ x : Int, ((decide ((n : Int) > 1) = true ∧ 0 ≤ x ∧ x < 5) ∨ (decide ((n : Int) > 1) = false ∧ x = 0)) ∧ l = List.range x.toNat) : l.length ≤ 5 := by
  obtain ⟨x, h, rfl⟩ := hl
  rw [List.length_range]
  omega
theorem other_place {f d n : Int} (h0 : 0 ≤ f ∧ f < n) (h1 : 0 ≤ d ∧ d < n - 1) : 0 ≤ (f + 1 + d) % n ∧ (f + 1 + d) % n < n ∧ f ≠ (f + 1 + d) % n := by
  have a := Int.emod_nonneg (f + 1 + d) (show n ≠ 0 by omega)
  have b := Int.emod_lt_of_pos (f + 1 + d) (show 0 < n by omega)
  refine ⟨a, b, fun e => ?_⟩
  by_cases c : f + 1 + d < n
  · rw [Int.emod_eq_of_lt (by omega) c] at e; omega
  · have e2 : (f + 1 + d) % n = f + 1 + d - n := by
      have e3 : f + 1 + d = (f + 1 + d - n) + n * 1 := by omega
      rw [e3, Int.add_mul_emod_self_left, Int.emod_eq_of_lt (by omega) (by omega)]; omega
    omega
section
variable {b : List (Int × Int)}
theorem pairs_more {k : Nat} {s : List (Int × Int)} {t : Int × Int} {f : Int} (hs : s.length ≤ k ∧ PairsOk b s) (hf : 0 ≤ f ∧ f < (b.length : Int)) (ht : t.1 = f ∧ ∃ (x : Int) (y : Nat), (∃ x1 y1 : Int, x1 = f + 1 ∧ (0 ≤ y1 ∧ y1 < (b.length : Int) - 1) ∧ x = x1 + y1) ∧ y = b.length ∧ t.2 = x % (y : Int)) : (s ++ [t]).length ≤ k + 1 ∧ PairsOk b (s ++ [t]) := by
  refine ⟨by rw [List.length_append, List.length_singleton]; omega, fun u hu => ?_⟩
  rcases List.mem_append.mp hu with h | h
  · exact hs.2 u h
  · rw [List.mem_singleton.mp h]
    obtain ⟨e1, x, y, ⟨x1, y1, rfl, hy, rfl⟩, rfl, e2⟩ := ht
    have := other_place hf hy
    rw [e1, e2]
    exact ⟨hf, ⟨this.1, this.2.1⟩, this.2.2⟩
theorem k08_l1 {n : Nat} {l : List Nat} {b s : List (Int × Int)} {j k : Nat} (hl : ∃ x : Int, ((decide ((n : Int) > 1) = true ∧ 0 ≤ x ∧ x < 5) ∨ (decide ((n : Int) > 1) = false ∧ x = 0)) ∧ l = List.range x.toNat) (hj : l[j]? = some k) (hs : s.length ≤ j ∧ PairsOk b s) : s.length < 1000000 := by
  have h1 := k08_len hl
  obtain ⟨h2, _⟩ := List.getElem?_eq_some_iff.mp hj
  have := hs.1
  omega
def OtherOk (k : Nat) (s : List (Int × Int)) : Prop := s.length = k ∧ ∀ t ∈ s, -5 ≤ t.1 ∧ t.1 < 5 ∧ t.1 ≤ t.2 ∧ t.2 < t.1 + 6
theorem k08_l2 (hB : BOk b) {s : List (Int × Int)} {j k : Nat} (hj : (List.range b.length)[j]? = some k) (hs : OtherOk j s) : s.length < 1000000 := by
  obtain ⟨h2, _⟩ := List.getElem?_eq_some_iff.mp hj
  rw [List.length_range] at h2
  have := hB.2.1
  have := hs.1
  omega
theorem other_more {k : Nat} {s : List (Int × Int)} {t : Int × Int} {f : Int} (hs : OtherOk k s) (hf : -5 ≤ f ∧ f < 5) (ht : t.1 = f ∧ ∃ x y : Int, x = f ∧ (0 ≤ y ∧ y < 6) ∧ t.2 = x + y) : OtherOk (k + 1) (s ++ [t]) := by
  refine ⟨by rw [List.length_append, List.length_singleton, hs.1], fun u hu => ?_⟩
  rcases List.mem_append.mp hu with h | h
  · exact hs.2 u h
  · rw [List.mem_singleton.mp h]
    obtain ⟨e1, x, y, rfl, hy, e2⟩ := ht
    omega
theorem other_bok (hB : BOk b) {s : List (Int × Int)} (h : OtherOk (List.range b.length).length s) : BOk s ∧ b.length = s.length := by
  have h1 := h.1
  rw [List.length_range] at h1
  have := hB.1; have := hB.2.1
  exact ⟨⟨by omega, by omega, fun p hp => by have := h.2 p hp; omega⟩, h1.symm⟩
theorem due_pre (hF : Few b) (c : List Int → Bool) : (mapIf c (fun r => r) (rowsOf b)).length ≤ 1000000 ∧ b.length ≤ 7 ∧ ∀ x ∈ mapIf c (fun r => r) (rowsOf b), x.length = b.length := by
  rw [mapIf_id]
  exact ⟨Nat.le_trans (List.length_filter_le _ _) (few_rows hF), hF.1, fun x hx => inB_len (mem_rows.mp (List.mem_filter.mp hx).1)⟩
theorem left_due' (hB : BOk b) {k : Nat} (hk : k < b.length) {l h : Int} {left : List (List Int)} (hl : left = leftR b k l h) (hn : (!decide (m__law_due left b.length = .inr "none")) = true) : max l (lo b k) ≤ min h (hi b k) ∧ m__law_due left b.length = .inl (b.set k (max l (lo b k), min h (hi b k))) := by
  rw [hl] at hn ⊢
  exact left_due hB hk l h (by simpa using hn)
theorem set_bok (hB : BOk b) {k : Nat} (hk : k < b.length) {l h : Int} (h1 : max l (lo b k) ≤ min h (hi b k)) : BOk (b.set k (max l (lo b k), min h (hi b k))) := by
  refine ⟨by rw [List.length_set]; exact hB.1, by rw [List.length_set]; exact hB.2.1, fun p hp => ?_⟩
  rcases List.mem_or_eq_of_mem_set hp with q | q
  · exact hB.2.2 p q
  · subst q
    have := hB.2.2 _ (at_mem (d := (0, 0)) hk)
    unfold lo hi at *
    simp only
    omega
theorem k08_2 (hB : BOk b) {p : List (Int × Int)} (h : PairsOk b p) {good : List (List Int)} (hg : good = goodR b p) : (!decide (m_call_pairs 1 b p 0 = m__law_due good b.length) || !m__law_true (m_can_be_pairs b p) (!decide (good = []))) = false := by
  subst hg
  rw [call_pairs hB h, can_pairs h, decide_eq_true rfl]
  unfold m__law_true
  rw [decide_eq_true rfl]; rfl
theorem k08_4 (hB : BOk b) {k : Int} (hk : 0 ≤ k ∧ k < b.length) {l h : Int} {left : List (List Int)} (hl : left = leftR b k.toNat l h) (hn : (!decide (m__law_due left b.length = .inr "none")) = true) : (!decide (m_with_value b k l h = sumL [] (m__law_due left b.length)) || !decide (m_count_choices (sumL [] (m__law_due left b.length)) = (left.length : Int))) = false := by
  obtain ⟨h1, h2⟩ := left_due' hB (k := k.toNat) (by omega) hl hn
  rw [h2]
  have e1 : m_with_value b k l h = sumL [] (Sum.inl (b.set k.toNat (max l (lo b k.toNat), min h (hi b k.toNat))) : Sum (List (Int × Int)) Str) := rfl
  have e2 : m_count_choices (sumL [] (Sum.inl (b.set k.toNat (max l (lo b k.toNat), min h (hi b k.toNat))) : Sum (List (Int × Int)) Str)) = (left.length : Int) := by
    rw [show sumL [] (Sum.inl (b.set k.toNat (max l (lo b k.toNat), min h (hi b k.toNat))) : Sum (List (Int × Int)) Str) = b.set k.toNat (max l (lo b k.toNat), min h (hi b k.toNat)) from rfl, count_rows (ord_set (ord_of hB) h1), rows_C, hl, left_eq (ord_of hB) (by omega)]
  rw [e1, e2, decide_eq_true rfl, decide_eq_true rfl]; rfl
theorem k08_left (hB : BOk b) {k : Int} (hk : 0 ≤ k ∧ k < b.length) {l h : Int} {left : List (List Int)} (hl : left = leftR b k.toNat l h) (hn : (!decide (m__law_due left b.length = .inr "none")) = true) : m__law_due left b.length = Sum.inl (sumL [] (m__law_due left b.length)) ∧ BOk (sumL [] (m__law_due left b.length)) ∧ max l (b.getD k.toNat (0, 0)).1 ≤ min h (b.getD k.toNat (0, 0)).2 := by
  obtain ⟨h1, h2⟩ := left_due' hB (k := k.toNat) (by omega) hl hn
  rw [h2]
  exact ⟨rfl, set_bok hB (by omega) h1, h1⟩
end
section
variable {P : Program} {w : World} {K : Fg} {mg : Str → Option Value} {base : Heap}
theorem ok_law (T : Txt K mg) {f : Addr} {fd : FuncData} (F : FunD K "law" "law" (defArgs s_law) (defBody s_law) (defScope s_law) [] [] f fd) : FnOk P w K mg base CX0 7 f fd ["_law_script"] (spLaw K) := by
  refine fnok_of F sc_law len_law (fun cdv A outer s H vs Q E hr h => ?_)
  have nd := sc_law.nd
  obtain ⟨a, ns, rfl, hs, hz, q⟩ := h
  refine ⟨_, (pss_cons (ps_set (i := 1) nd rfl (.inl rfl) (pe_fn (ok__law_start T) (hr.mono (by decide)) pass0 (pa_cons (pv 0) pa_nil)))
      (pss_cons (ps_set (i := 2) nd rfl (.inl rfl) (pe_frz (pe_fn (ok__law_small T) (hr.mono (by decide)) pass0 (pa_cons (pv 1) (pa_cons pe_int pa_nil)))))
      (pss_cons (ps_set (i := 3) nd rfl (.inl rfl) (pe_callB (k_len K rfl) (by rfl) T.n_len PySem.boot_len (pa_cons (pv 2) pa_nil)))
      (pss_cons (ps_set (i := 4) nd rfl (.inl rfl) (pe_fn (ok__law_choices T) (hr.mono (by decide)) pass0 (pa_cons (pv 2) pa_nil)))
      (pss_cons (ps_set (i := 5) nd rfl (.inr rfl) (pe_op op_sub (pe_fn (ok__law_draw T) (hr.mono (by decide)) pass0 (pa_cons (pv 1) (pa_cons pe_int pa_nil))) pe_int))
      (pss_cons (ps_set (i := 6) nd rfl (.inr rfl) (pe_op op_add (pv 5) (pe_fn (ok__law_draw T) (hr.mono (by decide)) pass0 (pa_cons (pv 1) (pa_cons pe_int pa_nil)))))
      (pss_cons (ps_if (pt_cmpR (k_neD K rfl hr.units) (pe_fn (ok__law_call T) (hr.mono (by decide)) pass0 (pa_cons pe_int (pa_cons (pv 2) (pa_cons (pv 5) (pa_cons (pv 6) pa_nil))))) (pe_fn (ok__law_due T) (hr.mono (by decide)) pass0 (pa_cons (pe_frz (pe_lc (own := [("_law_row", 7)]) rfl nd (k_pl K rfl (pv 4)) (blkOk_by (N := N_law) (sc := defScope s_law) (by decide +kernel)) (fun _ _ _ _ _ => (pg_name (i := 7) nd rfl (.inl rfl) (.inr rfl))) (fun _ _ _ _ _ => (pts_one (pt_chain op_le op_le (pv 5) (pe_callB (k_sum K rfl rfl) (by rfl) T.n_sum (by decide +kernel) (pa_cons (pv 7) pa_nil)) (pv 6)))) (fun _ _ _ _ _ => (pv 7)))) (pa_cons (pv 3) pa_nil))) (nomark _)) (pss_one (ps_ret pe_bl)) pss_nil)
      (pss_cons (ps_set (i := 8) nd rfl (.inr rfl) (pe_lst pa_nil))
      (pss_cons (ps_for PassesOwn.never rfl (pi_range1 (by rfl) T.n_range (pa_cons (pe_ifExp (pt_cmpR op_gt (pv 3) pe_int (nomark _)) (pe_fn (ok__law_draw T) (hr.mono (by decide)) pass0 (pa_cons (pv 1) (pa_cons pe_int pa_nil))) pe_int) pa_nil)) (pg_name (i := 9) nd rfl (.inl rfl) (.inr rfl)) (pss_cons (ps_set (i := 10) nd rfl (.inl rfl) (pe_fn (ok__law_draw T) (hr.mono (by decide)) pass0 (pa_cons (pv 1) (pa_cons (pv 3) pa_nil))))
      (pss_one (ps_expr (k_app K rfl (pv 8) (pe_tup (pa_cons (pv 10) (pa_cons (pe_op op_mod (pe_op op_add (pe_op op_add (pv 10) pe_int) (pe_fn (ok__law_draw T) (hr.mono (by decide)) pass0 (pa_cons (pv 1) (pa_cons (pe_op op_sub (pv 3) pe_int) pa_nil)))) (pv 3)) pa_nil))))))))
      (pss_frz 8 (pss_cons (ps_setLc (i := 11) (own := [("_law_row", 7)]) rfl nd rfl rfl (sw_true rfl rfl rfl (by decide +kernel)) (k_pl K rfl (pv 4)) (blkOk_by (N := N_law) (sc := defScope s_law) (by decide +kernel)) (fun _ _ _ _ _ => (pg_name (i := 7) nd rfl (.inr rfl) (.inl rfl))) (fun _ _ _ _ _ => (pts_one (pt_cmpR (k_eqD K rfl hr.units) (pe_frz (pe_lc (own := [("_law_pair", 12)]) rfl nd (k_pl K rfl (pv 8)) (blkOk_by (N := N_law) rfl) (fun _ _ _ _ _ => (pg_name (i := 12) nd rfl (.inl rfl) (.inr rfl))) (fun _ _ _ _ _ => (pts_one (pt_cmpR op_gt (pe_ix (k_ixl K rfl) (pv 7) (pe_ix (k_ixt K rfl) (pv 12) pe_int (fun _ _ => rfl)) (fun _ _ => rfl)) (pe_ix (k_ixl K rfl) (pv 7) (pe_ix (k_ixt K rfl) (pv 12) pe_int (fun _ _ => rfl)) (fun _ _ => rfl)) (nomark _)))) (fun _ _ _ _ _ => (pv 12)))) (pe_frz (pe_lst pa_nil)) (nomark _)))) (fun _ _ _ _ _ => (pv 7)))
      (pss_frz 11 (pss_cons (ps_if (PW.pt (pw_or (pt_cmpR (k_neD K rfl hr.units) (pe_fn (ok__law_call_2 T) (hr.mono (by decide)) pass0 (pa_cons pe_int (pa_cons (pv 2) (pa_cons (pv 8) (pa_cons pe_int pa_nil))))) (pe_fn (ok__law_due T) (hr.mono (by decide)) pass0 (pa_cons (pv 11) (pa_cons (pv 3) pa_nil))) (nomark _)) (pw_or1 (pt_not (pt_val (pe_fn (ok__law_true T) (hr.mono (by decide)) pass0 (pa_cons (pe_fn (ok_can_be_pairs T) (hr.mono (by decide)) pass0 (pa_cons (pv 2) (pa_cons (pv 8) pa_nil))) (pa_cons (pe_cmpR (k_neD K rfl hr.units) (pv 11) (pe_frz (pe_lst pa_nil)) (nomark _)) pa_nil)))))))) (pss_one (ps_ret pe_bl)) pss_nil)
      (pss_cons (ps_set (i := 13) nd rfl (.inr rfl) (pe_lst pa_nil))
      (pss_cons (ps_for PassesOwn.never rfl (pi_range1 (by rfl) T.n_range (pa_cons (pv 3) pa_nil)) (pg_name (i := 9) nd rfl (.inl rfl) (.inr rfl)) (pss_cons (ps_set (i := 14) nd rfl (.inl rfl) (pe_op op_sub (pe_fn (ok__law_draw T) (hr.mono (by decide)) pass0 (pa_cons (pv 1) (pa_cons pe_int pa_nil))) pe_int))
      (pss_one (ps_expr (k_app K rfl (pv 13) (pe_tup (pa_cons (pv 14) (pa_cons (pe_op op_add (pv 14) (pe_fn (ok__law_draw T) (hr.mono (by decide)) pass0 (pa_cons (pv 1) (pa_cons pe_int pa_nil)))) pa_nil))))))))
      (pss_frz 13 (pss_cons (ps_if (pt_cmpR (k_neD K rfl hr.units) (pe_fn (ok__law_call_3 T) (hr.mono (by decide)) pass0 (pa_cons pe_int (pa_cons (pv 2) (pa_cons (pv 13) (pa_cons pe_int pa_nil))))) (pe_fn (ok__law_due T) (hr.mono (by decide)) pass0 (pa_cons (pe_frz (pe_lc (own := [("_law_row", 7)]) rfl nd (k_pl K rfl (pv 4)) (blkOk_by (N := N_law) (sc := defScope s_law) (by decide +kernel)) (fun _ _ _ _ _ => (pg_name (i := 7) nd rfl (.inl rfl) (.inr rfl))) (fun _ _ _ _ _ => (pts_one (pt_val (pe_fn (ok__law_inside T) (hr.mono (by decide)) pass0 (pa_cons (pv 13) (pa_cons (pv 7) pa_nil)))))) (fun _ _ _ _ _ => (pv 7)))) (pa_cons (pv 3) pa_nil))) (nomark _)) (pss_one (ps_ret pe_bl)) pss_nil)
      (pss_cons (ps_set (i := 15) nd rfl (.inr rfl) (pe_fn (ok__law_draw T) (hr.mono (by decide)) pass0 (pa_cons (pv 1) (pa_cons (pv 3) pa_nil))))
      (pss_cons (ps_setLc (i := 16) (own := [("_law_row", 7)]) rfl nd rfl rfl (sw_true rfl rfl rfl (by decide +kernel)) (k_pl K rfl (pv 4)) (blkOk_by (N := N_law) (sc := defScope s_law) (by decide +kernel)) (fun _ _ _ _ _ => (pg_name (i := 7) nd rfl (.inl rfl) (.inr rfl))) (fun _ _ _ _ _ => (pts_one (pt_chain op_le op_le (pe_ix (k_ixt K rfl) (pe_ix (k_ixl K rfl) (pv 13) (pv 15) (fun _ _ => rfl)) pe_int (fun _ _ => rfl)) (pe_ix (k_ixl K rfl) (pv 7) (pv 15) (fun _ _ => rfl)) (pe_ix (k_ixt K rfl) (pe_ix (k_ixl K rfl) (pv 13) (pv 15) (fun _ _ => rfl)) pe_int (fun _ _ => rfl))))) (fun _ _ _ _ _ => (pv 7)))
      (pss_frz 16 (pss_cons (ps_set (i := 17) nd rfl (.inl rfl) (pe_fn (ok__law_due T) (hr.mono (by decide)) pass0 (pa_cons (pv 16) (pa_cons (pv 3) pa_nil))))
      (pss_cons (ps_if (pt_cmpR (k_neD K rfl hr.units) (pv 17) pe_str (nomark _)) (pss_cons (ps_asg (pe_ix (k_ixl K rfl) (pv 13) (pv 15) (fun _ _ => rfl)) (k_gt K rfl 2 rfl (pgs_cons (pg_name (i := 14) nd rfl (.inl rfl) (.inr rfl)) (pgs_cons (pg_name (i := 18) nd rfl (.inl rfl) (.inr rfl)) pgs_nil))))
      (pss_one (ps_if (PW.pt (pw_or (pt_cmpR (k_neD K rfl hr.units) (pe_frz (pe_fn (ok_with_value T) (hr.mono (by decide)) pass0 (pa_cons (pv 2) (pa_cons (pv 15) (pa_cons (pv 14) (pa_cons (pv 18) pa_nil)))))) (pv 17) (nomark _)) (pw_or1 (pt_cmpR op_ne (pe_fn (ok_count_choices T) (hr.mono (by decide)) pass0 (pa_cons (pv 17) pa_nil)) (pe_callB (k_len K rfl) (by rfl) T.n_len PySem.boot_len (pa_cons (pv 16) pa_nil)) (nomark _))))) (pss_one (ps_ret pe_bl)) pss_nil))) pss_nil)
      (pss_one (ps_ret (pe_cmpR op_eq (pe_fn (ok_count_choices T) (hr.mono (by decide)) pass0 (pa_cons (pv 2) pa_nil)) (pe_callB (k_len K rfl) (by rfl) T.n_len PySem.boot_len (pa_cons (pv 4) pa_nil)) (nomark _)))))))))))))))))))))))))), ?_⟩
  refine q_start (K := K) rfl hs hz (fun pd pn _ e836 dr0 => ?_)
  have hpdpn : pd ≠ pn := by obtain ⟨_, _, _, _, _, _, _, h⟩ := dr0; exact h
  refine q_setP (K := K) dr0 (ep_frz (epl_draws (fun _ m837 => er_int) (sub_dr rfl) (by first | decide | (have := hB.1; have := hB.2.1; omega) | (have := hB.2.1; omega)))) (fun v839 _ bounds_b m841 dr842 hbounds_b r840 => ?_)
  have hF := small_few hbounds_b (by decide)
  have hB := small_bok hbounds_b (by decide)
  refine q_set (K := K) (er_len (er_var rfl r840)) (fun v846 _ e844 r845 => ?_)
  refine q_set (K := K) (er_call1 (er_var rfl (Rp.mono (SF.of e844) r840)) (by exact hF)) (fun v849 _ e847 r848 => ?_)
  refine q_setP (K := K) (Dr.mono e847 (Dr.mono e844 dr842)) (ep_op (ep_draw (fun _ m850 => er_int) (sub_dr rfl) (by first | decide | (have := hB.1; have := hB.2.1; omega) | (have := hB.2.1; omega)) (by first | decide | (have := hB.1; have := hB.2.1; omega) | (have := hB.2.1; omega))) (fun _ _ => (ep_of (fun _ m851 => er_int))) (fun _ _ _ _ => rr_sub)) (fun v853 _ x852 m855 dr856 h857 r854 => ?_)
  obtain ⟨low_d, _, hlow_d, rfl, rfl⟩ := h857
  refine q_setP (K := K) dr856 (ep_op (ep_of (fun _ m858 => (er_var rfl (Rp.mono m858.sf r854)))) (fun _ _ => (ep_draw (fun _ m859 => er_int) (sub_dr rfl) (by first | decide | (have := hB.1; have := hB.2.1; omega) | (have := hB.2.1; omega)) (by first | decide | (have := hB.1; have := hB.2.1; omega) | (have := hB.2.1; omega)))) (fun _ _ _ _ => rr_add)) (fun v861 _ x860 m863 dr864 h865 r862 => ?_)
  obtain ⟨_, high_d, rfl, hhigh_d, rfl⟩ := h865
  have r866 := (Rp.mono ((((SF.of e844).trans (SF.of e847)).trans m855.sf).trans m863.sf) r840)
  -- 1: _law_call(0, _law_bounds, _law_low, _law_high) != _law_due([_law_row for _law_row in _law_rows if _law_low <= sum(_law_row) <= _law_high], _
  refine q_not (K := K) (et_test (er_op (er_call4 er_int (er_var rfl r866) (er_var rfl (Rp.mono m863.sf r854)) (er_var rfl r862) (by first | exact ⟨rfl, hB, by omega, by omega, by omega⟩ | exact ⟨rfl, hB, hPr.1, hPr.2⟩ | exact ⟨rfl, hB, (other_bok hB hinv2).1, (other_bok hB hinv2).2⟩)) (er_call2 (er_frz (erl_lc1 (c := fun (x868 : (List Int)) => ((decide ((low_d - (15 : Int)) ≤ x868.sum)) && (decide (x868.sum ≤ ((low_d - (15 : Int)) + high_d))))) (f := fun (x868 : (List Int)) => x868) (src_list (er_var rfl (Rp.mono (m855.sf.trans m863.sf) r848))) (by first | exact few_rows hF | (have := hB.2.1; omega) | (have := hPr.1; omega) | exact k08_l1 (by assumption) (by assumption) hturn1 | exact k08_l2 hB (by assumption) hturn2 | (have := hB.2.1; rw [List.length_range]; omega)) (by intros; rfl) (fun x868 hx869 v870 _ e867 r871 => ⟨(et_test (er_chain (er_var rfl (Rp.mono (SF.of e867) (Rp.mono m863.sf r854))) (er_sum (er_var rfl r871)) (er_var rfl (Rp.mono (SF.of e867) r862)) rr_le rr_le)), fun _ => (er_var rfl r871)⟩))) (er_var rfl (Rp.mono (((SF.of e847).trans m855.sf).trans m863.sf) r845)) (by first | exact due_pre hF _ | (rw [hgood]; exact due_pre hF _) | (rw [hleft]; exact due_pre hF _))) (rr_neD (by first | exact due_ok _ _ | (rw [call_sum hB ⟨by omega, by omega, by omega⟩]; exact due_ok _ _) | (rw [call_pairs hB hPr.2]; exact due_ok _ _) | (rw [call_met hB (other_bok hB hinv2).2]; exact due_ok _ _) | exact (show (PyData.str "none").canLay0 = true by simp only [PyData.canLay0]; decide +kernel)) (by first | exact due_ok _ _ | (rw [call_sum hB ⟨by omega, by omega, by omega⟩]; exact due_ok _ _) | (rw [call_pairs hB hPr.2]; exact due_ok _ _) | (rw [call_met hB (other_bok hB hinv2).2]; exact due_ok _ _) | exact (show (PyData.str "none").canLay0 = true by simp only [PyData.canLay0]; decide +kernel))))) (by exact dead_eq (call_sum hB ⟨by omega, by omega, by omega⟩)) (fun _ e872 => ?_)
  have r873 := (Rp.mono ((((SF.of e847).trans m855.sf).trans m863.sf).trans (SF.of e872)) r845)
  refine q_setL (K := K) (erl_lst (α := (Int × Int)) ea_nil) (fun p874 _ _ e875 hn876 h877 rl878 => ?_)
  have n880 := Dr.pd_ne (Dr.mono e872 dr864) hn876
  have n881 := Dr.pn_ne (Dr.mono e872 dr864) hn876
  have u879 := Un.of h877 rl878
  have r882 := (Rp.mono (((m855.sf.trans m863.sf).trans (SF.of e872)).trans (SF.of e875)) r848)
  -- for _law_k in range(_law_draw(_law_draws, 5) if _law_size > 1 else 0)
  refine q_forP (K := K) (srcP_range1 (ep_if (fun _ m883 => (et_test (er_op (er_up (er_var rfl (Rp.mono ((SF.of e875).trans m883.sf) r873))) er_int rr_gt))) (fun _ => (ep_draw (fun _ m884 => er_int) (sub_dr rfl) (by first | decide | (have := hB.1; have := hB.2.1; omega) | (have := hB.2.1; omega)) (by first | decide | (have := hB.1; have := hB.2.1; omega) | (have := hB.2.1; omega)))) (fun _ => (ep_of (fun _ m885 => er_int)))) (by intro x_ hx_; have := hB.2.1; omega)) (Dr.mono e875 (Dr.mono e872 dr864)) (fun l_886 H1 k σ' H' => ∃ (s_l1 : (List (Int × Int))) (y888 : Option V) (y889 : Option V), σ' = [some (.ref a), some (.ref pd), some v839, some v846, some v849, some v853, some v861, none, some (.ref p874), y888, y889, none, none, none, none, none, none, none, none] ∧ (fun (k : Nat) (s : List (Int × Int)) => s.length ≤ k ∧ PairsOk bounds_b s) k s_l1 ∧ Mus [pd, pn, p874] H1 H' ∧ Un K H' p874 s_l1 ∧ Dr H' pd pn) (fun l_886 H1 hl_886 e d_ => ⟨([] : (List (Int × Int))), _, _, rfl, (by exact ⟨Nat.le_refl _, fun _ h => by cases h⟩), Mus.refl _, (Un.dm e n880.symm n881.symm u879), d_⟩) (fun _ _ _ _ _ h => by obtain ⟨_, _, _, _, _, m, _, _⟩ := h; exact m.sf) (fun l_886 H1 k896 k σ' H' vk _ hl_886 e893 dq_ hx892 hP e894 rk => ?_) (fun l_886 H1 σ' H' hl_886 e893 dq_ hP => ?_)
  ·
    obtain ⟨s_l1, y888, y889, rfl, hs890, m895, u897, dr898⟩ := hP
    refine s_gn ?_
    have hk := List.mem_of_getElem? hx892
    have hturn1 := hs890
    have r899 := (Rp.mono (((((SF.of e872).trans (SF.of e875)).trans e893.sf).trans m895.sf).trans (SF.of e894)) r866)
    have r900 := (Rp.mono ((((SF.of e875).trans e893.sf).trans m895.sf).trans (SF.of e894)) r873)
    have r901 := (Rp.mono (((((m863.sf.trans (SF.of e872)).trans (SF.of e875)).trans e893.sf).trans m895.sf).trans (SF.of e894)) r854)
    have r902 := (Rp.mono (((((SF.of e872).trans (SF.of e875)).trans e893.sf).trans m895.sf).trans (SF.of e894)) r862)
    refine q_setP (K := K) (Dr.mono e894 dr898) (ep_draw (fun _ m903 => (er_up (er_var rfl (Rp.mono m903.sf r900)))) (sub_dr rfl) (by first | decide | (have := hB.1; have := hB.2.1; omega) | (have := hB.2.1; omega)) (by first | decide | (have := hB.1; have := hB.2.1; omega) | (have := hB.2.1; omega))) (fun v905 _ first_d m907 dr908 hfirst_d r906 => ?_)
    have hsz := k08_size (by assumption) hk
    refine q_last ?_
    have r910 := (Rp.mono (((e893.sf.trans m895.sf).trans (SF.of e894)).trans m907.sf) r882)
    refine q_appPM (K := K) dr908 rfl (Un.dm m907 n880.symm n881.symm (Un.mono e894 u897)) n880.symm n881.symm (ep_pair (ep_of (fun _ m911 => (er_var rfl (Rp.mono m911.sf r906)))) (fun _ _ => (ep_op (ep_op (ep_of (fun _ m912 => (er_op (er_var rfl (Rp.mono m912.sf r906)) er_int rr_add))) (fun _ _ => (ep_draw (fun _ m913 => (er_op (er_up (er_var rfl (Rp.mono (m907.sf.trans m913.sf) r900))) er_int rr_sub)) (sub_dr rfl) (by first | decide | (have := hB.1; have := hB.2.1; omega) | (have := hB.2.1; omega)) (by first | decide | (have := hB.1; have := hB.2.1; omega) | (have := hB.2.1; omega)))) (fun _ _ _ _ => rr_add)) (fun _ _ => (ep_of (fun _ m914 => (er_var rfl (Rp.mono (m907.sf.trans m914.sf) r900))))) (fun _ _ _ _ => (rr_mod (by omega)))))) (by first | exact few_rows hF | (have := hB.2.1; omega) | (have := hPr.1; omega) | exact k08_l1 (by assumption) (by assumption) hturn1 | exact k08_l2 hB (by assumption) hturn2 | (have := hB.2.1; rw [List.length_range]; omega)) (fun _ pairs_t2 m916 dr918 hpairs_t2 u917 => ?_)
    refine s_nx ?_
    exact ⟨(s_l1 ++ [pairs_t2]), _, _, rfl, (by exact pairs_more hturn1 hfirst_d (by assumption)), (Mus.baseS (((Mus.baseS (Mus.refl _) m895 (allC (.inr (.head _)) (allC (.inr (.tail _ (.head _))) (allC (.inr (.tail _ (.tail _ (.head _)))) all0)))).trans (Mus.of e894)).trans (Mus.dm m907 (.head _) (.tail _ (.head _)))) m916 (allC (.inr (.head _)) (allC (.inr (.tail _ (.head _))) (allC (.inr (.tail _ (.tail _ (.head _)))) all0)))), u917, dr918⟩
  ·
    obtain ⟨s_l1, y888, y889, rfl, hs890, m895, u897, dr898⟩ := hP
    have hinv1 := hs890
    refine q_frz (K := K) rfl u897 (fun _ m920 r921 => ?_)
    have hPr : s_l1.length ≤ 42 ∧ PairsOk bounds_b s_l1 := ⟨by have h1 := hinv1.1; have h2 := k08_len (by assumption); omega, hinv1.2⟩
    have r922 := (Rp.mono (((((SF.of e872).trans (SF.of e875)).trans e893.sf).trans m895.sf).trans m920.sf) r866)
    have r923 := (Rp.mono ((((SF.of e875).trans e893.sf).trans m895.sf).trans m920.sf) r873)
    have r924 := (Rp.mono (((((m863.sf.trans (SF.of e872)).trans (SF.of e875)).trans e893.sf).trans m895.sf).trans m920.sf) r854)
    have r925 := (Rp.mono (((((SF.of e872).trans (SF.of e875)).trans e893.sf).trans m895.sf).trans m920.sf) r862)
    refine q_setL (K := K) (erl_lc1 (c := fun (x927 : (List Int)) => (decide ((mapIf (fun (x932 : (Int × Int)) => (decide (((x927).getD (x932.1).toNat 0) > ((x927).getD (x932.2).toNat 0)))) (fun (x932 : (Int × Int)) => x932) s_l1) = ([] : (List (Int × Int)))))) (f := fun (x927 : (List Int)) => x927) (src_list (er_var rfl (Rp.mono ((e893.sf.trans m895.sf).trans m920.sf) r882))) (by first | exact few_rows hF | (have := hB.2.1; omega) | (have := hPr.1; omega) | exact k08_l1 (by assumption) (by assumption) hturn1 | exact k08_l2 hB (by assumption) hturn2 | (have := hB.2.1; rw [List.length_range]; omega)) (by intros; rfl) (fun x927 hx928 v929 _ e926 r930 => ⟨(et_test (er_op (er_frz (erl_lc1 (c := fun (x932 : (Int × Int)) => (decide (((x927).getD (x932.1).toNat 0) > ((x927).getD (x932.2).toNat 0)))) (f := fun (x932 : (Int × Int)) => x932) (src_list (er_var rfl (Rp.mono (SF.of e926) r921))) (by first | exact few_rows hF | (have := hB.2.1; omega) | (have := hPr.1; omega) | exact k08_l1 (by assumption) (by assumption) hturn1 | exact k08_l2 hB (by assumption) hturn2 | (have := hB.2.1; rw [List.length_range]; omega)) (by intros; rfl) (fun x932 hx933 v934 _ e931 r935 => ⟨(et_test (er_op (er_op (er_var rfl (Rp.mono (SF.of e931) r930)) (er_op (er_var rfl r935) er_int rr_ixP0) (rr_ixI (x := ((x927).getD (x932.1).toNat 0)) (n := (x932.1).toNat) (by first | (have := hPr.2 _ (by assumption); omega) | omega) (by first | exact getD_at (by have h1 := inB_len (mem_rows.mp (by assumption)); have h2 := hPr.2 _ (by assumption); omega) | exact getD_at (by have hO := other_bok hB hinv2; omega) | exact getD_at (by have h1 := inB_len (mem_rows.mp (by assumption)); omega)))) (er_op (er_var rfl (Rp.mono (SF.of e931) r930)) (er_op (er_var rfl r935) er_int rr_ixP1) (rr_ixI (x := ((x927).getD (x932.2).toNat 0)) (n := (x932.2).toNat) (by first | (have := hPr.2 _ (by assumption); omega) | omega) (by first | exact getD_at (by have h1 := inB_len (mem_rows.mp (by assumption)); have h2 := hPr.2 _ (by assumption); omega) | exact getD_at (by have hO := other_bok hB hinv2; omega) | exact getD_at (by have h1 := inB_len (mem_rows.mp (by assumption)); omega)))) rr_gt)), fun _ => (er_var rfl r935)⟩))) (er_frz (erl_lst (α := (Int × Int)) ea_nil)) rr_eqT)), fun _ => (er_var rfl r930)⟩)) (fun p940 _ _ e936 hn941 hp942 rl943 => ?_)
    refine q_frz (K := K) rfl (Un.of hp942 rl943) (fun _ m939 r937 => ?_)
    replace e936 := Mu.base m939 e936 hn941
    obtain ⟨good_944, hgood_944⟩ : ∃ z, z = (mapIf (fun (x927 : (List Int)) => (decide ((mapIf (fun (x932 : (Int × Int)) => (decide (((x927).getD (x932.1).toNat 0) > ((x927).getD (x932.2).toNat 0)))) (fun (x932 : (Int × Int)) => x932) s_l1) = ([] : (List (Int × Int)))))) (fun (x927 : (List Int)) => x927) (rowsOf bounds_b)) := ⟨_, rfl⟩
    replace r937 := Rp.cong r937 hgood_944
    have hgood := hgood_944
    have r945 := (Rp.mono (((e893.sf.trans m895.sf).trans m920.sf).trans (SF.of e936)) r882)
    -- 2: _law_call(1, _law_bounds, _law_pairs, 0) != _law_due(_law_good, _law_size) or not _law_true(can_be_pairs(_law_bounds, _law_pairs), _law_good
    refine q_not (K := K) (et_or (et_test (er_op (er_call4 er_int (er_var rfl (Rp.mono (SF.of e936) r922)) (er_var rfl (Rp.mono (SF.of e936) r921)) er_int (by first | exact ⟨rfl, hB, by omega, by omega, by omega⟩ | exact ⟨rfl, hB, hPr.1, hPr.2⟩ | exact ⟨rfl, hB, (other_bok hB hinv2).1, (other_bok hB hinv2).2⟩)) (er_call2 (er_var rfl r937) (er_var rfl (Rp.mono (SF.of e936) r923)) (by first | exact due_pre hF _ | (rw [hgood]; exact due_pre hF _) | (rw [hleft]; exact due_pre hF _))) (rr_neD (by first | exact due_ok _ _ | (rw [call_sum hB ⟨by omega, by omega, by omega⟩]; exact due_ok _ _) | (rw [call_pairs hB hPr.2]; exact due_ok _ _) | (rw [call_met hB (other_bok hB hinv2).2]; exact due_ok _ _) | exact (show (PyData.str "none").canLay0 = true by simp only [PyData.canLay0]; decide +kernel)) (by first | exact due_ok _ _ | (rw [call_sum hB ⟨by omega, by omega, by omega⟩]; exact due_ok _ _) | (rw [call_pairs hB hPr.2]; exact due_ok _ _) | (rw [call_met hB (other_bok hB hinv2).2]; exact due_ok _ _) | exact (show (PyData.str "none").canLay0 = true by simp only [PyData.canLay0]; decide +kernel))))) (fun hsc => (et_not (et_B (er_call2 (er_call2 (er_var rfl (Rp.mono (SF.of e936) r922)) (er_var rfl (Rp.mono (SF.of e936) r921)) (by exact ⟨hB, hPr.1, hPr.2⟩)) (er_op (er_var rfl r937) (er_frz (erl_lst (α := (List Int)) ea_nil)) rr_neT) trivial))))) (by exact k08_2 hB hPr.2 hgood) (fun _ e946 => ?_)
    refine q_setL (K := K) (erl_lst (α := (Int × Int)) ea_nil) (fun p947 _ _ e948 hn949 h950 rl951 => ?_)
    have n953 := Dr.pd_ne (Dr.mono e946 (Dr.mono e936 (Dr.of_mu m920 n880 n881 dr898))) hn949
    have n954 := Dr.pn_ne (Dr.mono e946 (Dr.mono e936 (Dr.of_mu m920 n880 n881 dr898))) hn949
    have u952 := Un.of h950 rl951
    have dr955 := (Dr.mono e948 (Dr.mono e946 (Dr.mono e936 (Dr.of_mu m920 n880 n881 dr898))))
    -- for _law_k in range(_law_size)
    refine q_for (K := K) (src_range1 (er_var rfl (Rp.mono (((SF.of e936).trans (SF.of e946)).trans (SF.of e948)) r923)) (by first | exact few_rows hF | (have := hB.2.1; omega) | (have := hPr.1; omega) | exact k08_l1 (by assumption) (by assumption) hturn1 | exact k08_l2 hB (by assumption) hturn2 | (have := hB.2.1; rw [List.length_range]; omega))) (fun H1 k σ' H' => ∃ (s_l2 : (List (Int × Int))) (y957 : Option V) (y958 : Option V), σ' = [some (.ref a), some (.ref pd), some v839, some v846, some v849, some v853, some v861, none, some (.ref p874), y957, y889, some (.ref p940), none, some (.ref p947), y958, none, none, none, none] ∧ (fun (k : Nat) (s : List (Int × Int)) => OtherOk k s) k s_l2 ∧ Mus [pd, pn, p947] H1 H' ∧ Un K H' p947 s_l2 ∧ Dr H' pd pn) (fun H1 e => ⟨([] : (List (Int × Int))), _, _, rfl, (by exact ⟨rfl, fun _ h => by cases h⟩), Mus.refl _, (Un.mono e u952), (Dr.mono e dr955)⟩) (fun _ _ _ _ h => by obtain ⟨_, _, _, _, _, m, _, _⟩ := h; exact m.sf) (fun H1 k965 k956 σ' H' vk956 _ e962 hx961 hP e963 rk956 => ?_) (fun H1 σ' H' e962 hP => ?_)
    ·
      obtain ⟨s_l2, y957, y958, rfl, hs959, m964, u966, dr967⟩ := hP
      refine s_gn ?_
      have hk956 := List.mem_of_getElem? hx961
      have hturn2 := hs959
      have r968 := (Rp.mono ((((((SF.of e936).trans (SF.of e946)).trans (SF.of e948)).trans (SF.of e962)).trans m964.sf).trans (SF.of e963)) r922)
      have r969 := (Rp.mono ((((((SF.of e936).trans (SF.of e946)).trans (SF.of e948)).trans (SF.of e962)).trans m964.sf).trans (SF.of e963)) r923)
      have r970 := (Rp.mono (((((SF.of e946).trans (SF.of e948)).trans (SF.of e962)).trans m964.sf).trans (SF.of e963)) r945)
      have r971 := (Rp.mono ((((((SF.of e936).trans (SF.of e946)).trans (SF.of e948)).trans (SF.of e962)).trans m964.sf).trans (SF.of e963)) r924)
      have r972 := (Rp.mono ((((((SF.of e936).trans (SF.of e946)).trans (SF.of e948)).trans (SF.of e962)).trans m964.sf).trans (SF.of e963)) r925)
      have r973 := (Rp.mono ((((((SF.of e936).trans (SF.of e946)).trans (SF.of e948)).trans (SF.of e962)).trans m964.sf).trans (SF.of e963)) r921)
      have r974 := (Rp.mono (((((SF.of e946).trans (SF.of e948)).trans (SF.of e962)).trans m964.sf).trans (SF.of e963)) r937)
      refine q_setP (K := K) (Dr.mono e963 dr967) (ep_op (ep_draw (fun _ m975 => er_int) (sub_dr rfl) (by first | decide | (have := hB.1; have := hB.2.1; omega) | (have := hB.2.1; omega)) (by first | decide | (have := hB.1; have := hB.2.1; omega) | (have := hB.2.1; omega))) (fun _ _ => (ep_of (fun _ m976 => er_int))) (fun _ _ _ _ => rr_sub)) (fun v978 _ x977 m980 dr981 h982 r979 => ?_)
      obtain ⟨begin_d, _, hbegin_d, rfl, rfl⟩ := h982
      refine q_last ?_
      refine q_appPM (K := K) dr981 rfl (Un.dm m980 n953.symm n954.symm (Un.mono e963 u966)) n953.symm n954.symm (ep_pair (ep_of (fun _ m983 => (er_var rfl (Rp.mono m983.sf r979)))) (fun _ _ => (ep_op (ep_of (fun _ m984 => (er_var rfl (Rp.mono m984.sf r979)))) (fun _ _ => (ep_draw (fun _ m985 => er_int) (sub_dr rfl) (by first | decide | (have := hB.1; have := hB.2.1; omega) | (have := hB.2.1; omega)) (by first | decide | (have := hB.1; have := hB.2.1; omega) | (have := hB.2.1; omega)))) (fun _ _ _ _ => rr_add)))) (by first | exact few_rows hF | (have := hB.2.1; omega) | (have := hPr.1; omega) | exact k08_l1 (by assumption) (by assumption) hturn1 | exact k08_l2 hB (by assumption) hturn2 | (have := hB.2.1; rw [List.length_range]; omega)) (fun _ other_t2 m987 dr989 hother_t2 u988 => ?_)
      refine s_nx ?_
      exact ⟨(s_l2 ++ [other_t2]), _, _, rfl, (by exact other_more (f := begin_d - 5) hturn2 (by omega) (by assumption)), (Mus.baseS (((Mus.baseS (Mus.refl _) m964 (allC (.inr (.head _)) (allC (.inr (.tail _ (.head _))) (allC (.inr (.tail _ (.tail _ (.head _)))) all0)))).trans (Mus.of e963)).trans (Mus.dm m980 (.head _) (.tail _ (.head _)))) m987 (allC (.inr (.head _)) (allC (.inr (.tail _ (.head _))) (allC (.inr (.tail _ (.tail _ (.head _)))) all0)))), u988, dr989⟩
    ·
      obtain ⟨s_l2, y957, y958, rfl, hs959, m964, u966, dr967⟩ := hP
      have hinv2 := hs959
      refine q_frz (K := K) rfl u966 (fun _ m991 r992 => ?_)
      have hPr : s_l1.length ≤ 42 ∧ PairsOk bounds_b s_l1 := ⟨by have h1 := hinv1.1; have h2 := k08_len (by assumption); omega, hinv1.2⟩
      have r993 := (Rp.mono ((((((SF.of e936).trans (SF.of e946)).trans (SF.of e948)).trans (SF.of e962)).trans m964.sf).trans m991.sf) r922)
      have r994 := (Rp.mono ((((((SF.of e936).trans (SF.of e946)).trans (SF.of e948)).trans (SF.of e962)).trans m964.sf).trans m991.sf) r923)
      have r995 := (Rp.mono (((((SF.of e946).trans (SF.of e948)).trans (SF.of e962)).trans m964.sf).trans m991.sf) r945)
      have r996 := (Rp.mono ((((((SF.of e936).trans (SF.of e946)).trans (SF.of e948)).trans (SF.of e962)).trans m964.sf).trans m991.sf) r924)
      have r997 := (Rp.mono ((((((SF.of e936).trans (SF.of e946)).trans (SF.of e948)).trans (SF.of e962)).trans m964.sf).trans m991.sf) r925)
      have r998 := (Rp.mono ((((((SF.of e936).trans (SF.of e946)).trans (SF.of e948)).trans (SF.of e962)).trans m964.sf).trans m991.sf) r921)
      have r999 := (Rp.mono (((((SF.of e946).trans (SF.of e948)).trans (SF.of e962)).trans m964.sf).trans m991.sf) r937)
      -- 3: _law_call(2, _law_bounds, _law_other, 0) != _law_due([_law_row for _law_row in _law_rows if _law_inside(_law_other, _law_row)], _law_size)
      refine q_not (K := K) (et_test (er_op (er_call4 er_int (er_var rfl r993) (er_var rfl r992) er_int (by first | exact ⟨rfl, hB, by omega, by omega, by omega⟩ | exact ⟨rfl, hB, hPr.1, hPr.2⟩ | exact ⟨rfl, hB, (other_bok hB hinv2).1, (other_bok hB hinv2).2⟩)) (er_call2 (er_frz (erl_lc1 (c := fun (x1001 : (List Int)) => (m__law_inside s_l2 x1001)) (f := fun (x1001 : (List Int)) => x1001) (src_list (er_var rfl r995)) (by first | exact few_rows hF | (have := hB.2.1; omega) | (have := hPr.1; omega) | exact k08_l1 (by assumption) (by assumption) hturn1 | exact k08_l2 hB (by assumption) hturn2 | (have := hB.2.1; rw [List.length_range]; omega)) (by intros; rfl) (fun x1001 hx1002 v1003 _ e1000 r1004 => ⟨(et_B (er_call2 (er_var rfl (Rp.mono (SF.of e1000) r992)) (er_var rfl r1004) (by have hO := other_bok hB hinv2; have := hB.2.1; have h1 := inB_len (mem_rows.mp (by assumption)); exact ⟨by omega, by omega⟩))), fun _ => (er_var rfl r1004)⟩))) (er_var rfl r994) (by first | exact due_pre hF _ | (rw [hgood]; exact due_pre hF _) | (rw [hleft]; exact due_pre hF _))) (rr_neD (by first | exact due_ok _ _ | (rw [call_sum hB ⟨by omega, by omega, by omega⟩]; exact due_ok _ _) | (rw [call_pairs hB hPr.2]; exact due_ok _ _) | (rw [call_met hB (other_bok hB hinv2).2]; exact due_ok _ _) | exact (show (PyData.str "none").canLay0 = true by simp only [PyData.canLay0]; decide +kernel)) (by first | exact due_ok _ _ | (rw [call_sum hB ⟨by omega, by omega, by omega⟩]; exact due_ok _ _) | (rw [call_pairs hB hPr.2]; exact due_ok _ _) | (rw [call_met hB (other_bok hB hinv2).2]; exact due_ok _ _) | exact (show (PyData.str "none").canLay0 = true by simp only [PyData.canLay0]; decide +kernel))))) (by exact dead_eq (call_met hB (other_bok hB hinv2).2)) (fun _ e1005 => ?_)
      refine q_setP (K := K) (Dr.mono e1005 (Dr.of_mu m991 n953 n954 dr967)) (ep_draw (fun _ m1006 => (er_up (er_var rfl (Rp.mono ((SF.of e1005).trans m1006.sf) r994)))) (sub_dr rfl) (by first | decide | (have := hB.1; have := hB.2.1; omega) | (have := hB.2.1; omega)) (by first | decide | (have := hB.1; have := hB.2.1; omega) | (have := hB.2.1; omega))) (fun v1008 _ place_d m1010 dr1011 hplace_d r1009 => ?_)
      refine q_setL (K := K) (erl_lc1 (c := fun (x1014 : (List Int)) => ((decide (((s_l2).getD (place_d).toNat (0, 0)).1 ≤ ((x1014).getD (place_d).toNat 0))) && (decide (((x1014).getD (place_d).toNat 0) ≤ ((s_l2).getD (place_d).toNat (0, 0)).2)))) (f := fun (x1014 : (List Int)) => x1014) (src_list (er_var rfl (Rp.mono ((SF.of e1005).trans m1010.sf) r995))) (by first | exact few_rows hF | (have := hB.2.1; omega) | (have := hPr.1; omega) | exact k08_l1 (by assumption) (by assumption) hturn1 | exact k08_l2 hB (by assumption) hturn2 | (have := hB.2.1; rw [List.length_range]; omega)) (by intros; rfl) (fun x1014 hx1015 v1016 _ e1013 r1017 => ⟨(et_test (er_chain (er_op (er_op (er_var rfl (Rp.mono (SF.of e1013) (Rp.mono ((SF.of e1005).trans m1010.sf) r992))) (er_var rfl (Rp.mono (SF.of e1013) r1009)) (rr_ixI (x := ((s_l2).getD (place_d).toNat (0, 0))) (n := (place_d).toNat) (by first | (have := hPr.2 _ (by assumption); omega) | omega) (by first | exact getD_at (by have h1 := inB_len (mem_rows.mp (by assumption)); have h2 := hPr.2 _ (by assumption); omega) | exact getD_at (by have hO := other_bok hB hinv2; omega) | exact getD_at (by have h1 := inB_len (mem_rows.mp (by assumption)); omega)))) er_int rr_ixP0) (er_op (er_var rfl r1017) (er_var rfl (Rp.mono (SF.of e1013) r1009)) (rr_ixI (x := ((x1014).getD (place_d).toNat 0)) (n := (place_d).toNat) (by first | (have := hPr.2 _ (by assumption); omega) | omega) (by first | exact getD_at (by have h1 := inB_len (mem_rows.mp (by assumption)); have h2 := hPr.2 _ (by assumption); omega) | exact getD_at (by have hO := other_bok hB hinv2; omega) | exact getD_at (by have h1 := inB_len (mem_rows.mp (by assumption)); omega)))) (er_op (er_op (er_var rfl (Rp.mono (SF.of e1013) (Rp.mono ((SF.of e1005).trans m1010.sf) r992))) (er_var rfl (Rp.mono (SF.of e1013) r1009)) (rr_ixI (x := ((s_l2).getD (place_d).toNat (0, 0))) (n := (place_d).toNat) (by first | (have := hPr.2 _ (by assumption); omega) | omega) (by first | exact getD_at (by have h1 := inB_len (mem_rows.mp (by assumption)); have h2 := hPr.2 _ (by assumption); omega) | exact getD_at (by have hO := other_bok hB hinv2; omega) | exact getD_at (by have h1 := inB_len (mem_rows.mp (by assumption)); omega)))) er_int rr_ixP1) rr_le rr_le)), fun _ => (er_var rfl r1017)⟩)) (fun p1022 _ _ e1018 hn1023 hp1024 rl1025 => ?_)
      refine q_frz (K := K) rfl (Un.of hp1024 rl1025) (fun _ m1021 r1019 => ?_)
      replace e1018 := Mu.base m1021 e1018 hn1023
      obtain ⟨left_1026, hleft_1026⟩ : ∃ z, z = (mapIf (fun (x1014 : (List Int)) => ((decide (((s_l2).getD (place_d).toNat (0, 0)).1 ≤ ((x1014).getD (place_d).toNat 0))) && (decide (((x1014).getD (place_d).toNat 0) ≤ ((s_l2).getD (place_d).toNat (0, 0)).2)))) (fun (x1014 : (List Int)) => x1014) (rowsOf bounds_b)) := ⟨_, rfl⟩
      replace r1019 := Rp.cong r1019 hleft_1026
      have hleft := hleft_1026
      refine q_set (K := K) (er_call2 (er_var rfl r1019) (er_var rfl (Rp.mono (((SF.of e1005).trans m1010.sf).trans (SF.of e1018)) r994)) (by first | exact due_pre hF _ | (rw [hgood]; exact due_pre hF _) | (rw [hleft]; exact due_pre hF _))) (fun v1029 _ e1027 r1028 => ?_)
      have r1030 := (Rp.mono ((((SF.of e1005).trans m1010.sf).trans (SF.of e1018)).trans (SF.of e1027)) r993)
      have r1031 := (Rp.mono ((((SF.of e1005).trans m1010.sf).trans (SF.of e1018)).trans (SF.of e1027)) r994)
      have r1032 := (Rp.mono ((((SF.of e1005).trans m1010.sf).trans (SF.of e1018)).trans (SF.of e1027)) r995)
      have r1033 := (Rp.mono ((((SF.of e1005).trans m1010.sf).trans (SF.of e1018)).trans (SF.of e1027)) r996)
      have r1034 := (Rp.mono ((((SF.of e1005).trans m1010.sf).trans (SF.of e1018)).trans (SF.of e1027)) r997)
      have r1035 := (Rp.mono ((((SF.of e1005).trans m1010.sf).trans (SF.of e1018)).trans (SF.of e1027)) r998)
      have r1036 := (Rp.mono ((((SF.of e1005).trans m1010.sf).trans (SF.of e1018)).trans (SF.of e1027)) r999)
      have r1037 := (Rp.mono ((((SF.of e1005).trans m1010.sf).trans (SF.of e1018)).trans (SF.of e1027)) r992)
      refine q_if (K := K) (et_test (er_op (er_var rfl r1028) (er_inr (α := (List (Int × Int))) er_str) (rr_neD (by first | exact due_ok _ _ | (rw [call_sum hB ⟨by omega, by omega, by omega⟩]; exact due_ok _ _) | (rw [call_pairs hB hPr.2]; exact due_ok _ _) | (rw [call_met hB (other_bok hB hinv2).2]; exact due_ok _ _) | exact (show (PyData.str "none").canLay0 = true by simp only [PyData.canLay0]; decide +kernel)) (by first | exact due_ok _ _ | (rw [call_sum hB ⟨by omega, by omega, by omega⟩]; exact due_ok _ _) | (rw [call_pairs hB hPr.2]; exact due_ok _ _) | (rw [call_met hB (other_bok hB hinv2).2]; exact due_ok _ _) | exact (show (PyData.str "none").canLay0 = true by simp only [PyData.canLay0]; decide +kernel))))) (fun hc1039 _ e1038 => ?_) (fun hc1039 _ e1038 => ?_)
      ·
        refine q_unp (K := K) (er_op (er_var rfl (Rp.mono (SF.of e1038) r1037)) (er_var rfl (Rp.mono (((SF.of e1018).trans (SF.of e1027)).trans (SF.of e1038)) r1009)) (rr_ixI (x := ((s_l2).getD (place_d).toNat (0, 0))) (n := (place_d).toNat) (by first | (have := hPr.2 _ (by assumption); omega) | omega) (by first | exact getD_at (by have h1 := inB_len (mem_rows.mp (by assumption)); have h2 := hPr.2 _ (by assumption); omega) | exact getD_at (by have hO := other_bok hB hinv2; omega) | exact getD_at (by have h1 := inB_len (mem_rows.mp (by assumption)); omega)))) (fun v1043 v1044 _ e1040 r1041 r1042 => ?_)
        refine q_last ?_
        have r1045 := (Rp.mono ((((SF.of e1018).trans (SF.of e1027)).trans (SF.of e1038)).trans (SF.of e1040)) r1009)
        have dr1046 := (Dr.mono e1040 (Dr.mono e1038 (Dr.mono e1027 (Dr.mono e1018 dr1011))))
        -- 4: with_value(_law_bounds, _law_place, _law_begin, _law_end) != _law_told or count_choices(_law_told) != len(_law_left)
        refine q_not (K := K) (et_or (et_test (er_op (er_frz (erl_call4 (er_var rfl (Rp.mono ((SF.of e1038).trans (SF.of e1040)) r1030)) (er_var rfl r1045) (er_var rfl r1041) (er_var rfl r1042) (by have hO := (other_bok hB hinv2); have hq := hO.1.2.2 _ (at_mem (d := (0, 0)) (k := place_d.toNat) (by omega)); exact ⟨hB, hplace_d, ⟨hq.1, hq.2.1, hq.2.2⟩, (k08_left hB hplace_d hleft (by assumption)).2.2⟩))) (er_getL (d := []) (er_var rfl (Rp.mono ((SF.of e1038).trans (SF.of e1040)) r1028)) (by exact (k08_left hB hplace_d hleft (by assumption)).1)) rr_neT)) (fun hsc => (et_test (er_op (er_call1 (er_getL (d := []) (er_var rfl (Rp.mono ((SF.of e1038).trans (SF.of e1040)) r1028)) (by exact (k08_left hB hplace_d hleft (by assumption)).1)) (by first | exact hB | exact (k08_left hB hplace_d hleft (by assumption)).2.1)) (er_up (er_len (er_var rfl (Rp.mono (((SF.of e1027).trans (SF.of e1038)).trans (SF.of e1040)) r1019)))) rr_neI)))) (by exact k08_4 hB hplace_d hleft (by assumption)) (fun _ e1047 => ?_)
        refine s_nxz ?_
        have r1048 := (Rp.mono ((((SF.of e1027).trans (SF.of e1038)).trans (SF.of e1040)).trans (SF.of e1047)) r1019)
        -- end: count_choices(_law_bounds) == len(_law_rows)
        exact s_true (K := K) (er_op (er_call1 (er_var rfl (Rp.mono (((SF.of e1038).trans (SF.of e1040)).trans (SF.of e1047)) r1030)) (by first | exact hB | exact (k08_left hB hplace_d hleft (by assumption)).2.1)) (er_up (er_len (er_var rfl (Rp.mono (((SF.of e1038).trans (SF.of e1040)).trans (SF.of e1047)) r1032)))) rr_eqI) (by exact decide_eq_true (count_rows (ord_of hB))) q
      ·
        refine s_nxz ?_
        -- end: count_choices(_law_bounds) == len(_law_rows)
        exact s_true (K := K) (er_op (er_call1 (er_var rfl (Rp.mono (SF.of e1038) r1030)) (by first | exact hB | exact (k08_left hB hplace_d hleft (by assumption)).2.1)) (er_up (er_len (er_var rfl (Rp.mono (SF.of e1038) r1032)))) rr_eqI) (by exact decide_eq_true (count_rows (ord_of hB))) q
end
end BL

set_option Elab.async false
set_option linter.all false
set_option maxRecDepth 100000
set_option maxHeartbeats 0
namespace BL
open PySem PySem.Spec PyProof.Rows L2
def dd_is_int : He.DefD := ⟨("is_int", none), "is_int", "is_int", defArgs s_is_int, defBody s_is_int, defScope s_is_int, [], []⟩
def dd_is_bound : He.DefD := ⟨("is_bound", none), "is_bound", "is_bound", defArgs s_is_bound, defBody s_is_bound, defScope s_is_bound, [], []⟩
def dd_is_bounds : He.DefD := ⟨("is_bounds", none), "is_bounds", "is_bounds", defArgs s_is_bounds, defBody s_is_bounds, defScope s_is_bounds, [], []⟩
def dd_check_bounds : He.DefD := ⟨("check_bounds", none), "check_bounds", "check_bounds", defArgs s_check_bounds, defBody s_check_bounds, defScope s_check_bounds, [], []⟩
def dd_check_place : He.DefD := ⟨("check_place", none), "check_place", "check_place", defArgs s_check_place, defBody s_check_place, defScope s_check_place, [], []⟩
def dd_check_pairs : He.DefD := ⟨("check_pairs", none), "check_pairs", "check_pairs", defArgs s_check_pairs, defBody s_check_pairs, defScope s_check_pairs, [], []⟩
def dd_checked : He.DefD := ⟨("checked", none), "checked", "checked", defArgs s_checked, defBody s_checked, defScope s_checked, [], []⟩
def dd_with_sum : He.DefD := ⟨("with_sum", none), "with_sum", "with_sum", defArgs s_with_sum, defBody s_with_sum, defScope s_with_sum, [], []⟩
def dd_narrowed : He.DefD := ⟨("narrowed", none), "narrowed", "narrowed", defArgs s_narrowed, defBody s_narrowed, defScope s_narrowed, [], []⟩
def dd_with_pairs : He.DefD := ⟨("with_pairs", none), "with_pairs", "with_pairs", defArgs s_with_pairs, defBody s_with_pairs, defScope s_with_pairs, [], []⟩
def dd_can_be_pairs : He.DefD := ⟨("can_be_pairs", none), "can_be_pairs", "can_be_pairs", defArgs s_can_be_pairs, defBody s_can_be_pairs, defScope s_can_be_pairs, [], []⟩
def dd_with_value : He.DefD := ⟨("with_value", none), "with_value", "with_value", defArgs s_with_value, defBody s_with_value, defScope s_with_value, [], []⟩
def dd_count_choices : He.DefD := ⟨("count_choices", none), "count_choices", "count_choices", defArgs s_count_choices, defBody s_count_choices, defScope s_count_choices, [], []⟩
def dd_met : He.DefD := ⟨("met", none), "met", "met", defArgs s_met, defBody s_met, defScope s_met, [], []⟩
def dd__law_start : He.DefD := ⟨("_law_start", none), "_law_start", "_law_start", defArgs s__law_start, defBody s__law_start, defScope s__law_start, [], []⟩
def dd__law_draw : He.DefD := ⟨("_law_draw", none), "_law_draw", "_law_draw", defArgs s__law_draw, defBody s__law_draw, defScope s__law_draw, [], []⟩
def dd__law_error : He.DefD := ⟨("_law_error", none), "_law_error", "_law_error", defArgs s__law_error, defBody s__law_error, defScope s__law_error, [], []⟩
def dd__law_true : He.DefD := ⟨("_law_true", none), "_law_true", "_law_true", defArgs s__law_true, defBody s__law_true, defScope s__law_true, [], []⟩
def dd__law_choices : He.DefD := ⟨("_law_choices", none), "_law_choices", "_law_choices", defArgs s__law_choices, defBody s__law_choices, defScope s__law_choices, [], []⟩
def dd__law_small : He.DefD := ⟨("_law_small", none), "_law_small", "_law_small", defArgs s__law_small, defBody s__law_small, defScope s__law_small, [], []⟩
def dd__law_inside : He.DefD := ⟨("_law_inside", none), "_law_inside", "_law_inside", defArgs s__law_inside, defBody s__law_inside, defScope s__law_inside, [], []⟩
def dd__law_call : He.DefD := ⟨("_law_call", none), "_law_call", "_law_call", defArgs s__law_call, defBody s__law_call, defScope s__law_call, [], []⟩
def dd__law_due : He.DefD := ⟨("_law_due", none), "_law_due", "_law_due", defArgs s__law_due, defBody s__law_due, defScope s__law_due, [], []⟩
def dd_law : He.DefD := ⟨("law", none), "law", "law", defArgs s_law, defBody s_law, defScope s_law, [], []⟩
def fnD : List He.DefD := [dd_is_int, dd_is_bound, dd_is_bounds, dd_check_bounds, dd_check_place, dd_check_pairs, dd_checked, dd_with_sum, dd_narrowed, dd_with_pairs, dd_can_be_pairs, dd_with_value, dd_count_choices, dd_met, dd__law_start, dd__law_draw, dd__law_error, dd__law_true, dd__law_choices, dd__law_small, dd__law_inside, dd__law_call, dd__law_due, dd_law]
def faD : List He.Fa := [.glo "is_int", .glo "is_bound", .glo "is_bounds", .glo "check_bounds", .glo "check_place", .glo "check_pairs", .glo "checked", .glo "with_sum", .glo "narrowed", .glo "with_pairs", .glo "can_be_pairs", .glo "with_value", .glo "count_choices", .glo "met", .glo "_law_start", .glo "_law_draw", .glo "_law_error", .glo "_law_true", .glo "_law_choices", .glo "_law_small", .glo "_law_inside", .glo "_law_call", .glo "_law_due", .glo "law", .free "ValueError", .free "all", .free "any", .free "bool", .free "int", .free "isinstance", .free "len", .free "list", .free "max", .free "min", .free "range", .free "sum", .free "tuple", .free "zip", .int "MOST_BOUND" 50, .int "MOST_VALUES" 7, .glo "BadBounds", .glo "BadNumber", .glo "BadOrder", .glo "BadText", .glo "NotFound", .glo "BoundError"]
abbrev rowR : PySem.W.OpenRow := PySem.W.OpenLaw.row PySem.Challenge.rw_boundstats_k08_whole_facts
def exD (K : Fg) : Bool := (errs.all fun c => errB K c)
abbrev hkD : PySem.W.Hook := hookB 4 faD fnD exD
def obD (s : PySem.W.SharedT) : He.AlD × Bool := (He.obsDG 4 faD fnD (HandSHeadRun.getT s), exD (He.frG (HandSHeadRun.getT s) (He.asD (HandSHeadRun.getT s) 4)))
theorem obD_eq (s : PySem.W.SharedT) : obD s = hkD.obs s.abs := hookB_eq (HandSHeadRun.getT_eq s)
def looseD0 : List Str := ["BoundError", "BadBounds", "BadNumber", "BadOrder", "BadText", "NotFound", "MOST_VALUES", "MOST_BOUND", "is_int", "is_bound", "is_bounds", "check_bounds", "check_place", "check_pairs", "checked", "with_sum", "narrowed", "with_pairs", "can_be_pairs", "with_value"]
def looseD1 : List Str := ["count_choices", "met", "_law_start", "_law_draw", "_law_error", "_law_true", "_law_choices", "_law_small", "_law_inside", "_law_call", "_law_due"]
def looseD : List Str := looseD0 ++ looseD1
theorem runD (w : World) : HandSHeadRun.RunEq rowR (PySem.W.view rowR.prog [34]) hkD obD 3000 looseD w := by
  intro os
  kernel_rfl
theorem txt_of {K : Fg} {h : Heap} {mg : Str → Option Value} (X : K.In h) (G : h.Ns mainGlobals mg) (c : He.SaysD faD fnD K) (cx : exD K = true) : Txt K mg where
  d_is_int := by
    obtain ⟨fd, F⟩ := c.def_ 0 (d := dd_is_int) rfl
    exact ⟨_, fd, F, He.glo_ok X G (c.fact 0 (f := .glo "is_int") rfl)⟩
  d_is_bound := by
    obtain ⟨fd, F⟩ := c.def_ 1 (d := dd_is_bound) rfl
    exact ⟨_, fd, F, He.glo_ok X G (c.fact 1 (f := .glo "is_bound") rfl)⟩
  d_is_bounds := by
    obtain ⟨fd, F⟩ := c.def_ 2 (d := dd_is_bounds) rfl
    exact ⟨_, fd, F, He.glo_ok X G (c.fact 2 (f := .glo "is_bounds") rfl)⟩
  d_check_bounds := by
    obtain ⟨fd, F⟩ := c.def_ 3 (d := dd_check_bounds) rfl
    exact ⟨_, fd, F, He.glo_ok X G (c.fact 3 (f := .glo "check_bounds") rfl)⟩
  d_check_place := by
    obtain ⟨fd, F⟩ := c.def_ 4 (d := dd_check_place) rfl
    exact ⟨_, fd, F, He.glo_ok X G (c.fact 4 (f := .glo "check_place") rfl)⟩
  d_check_pairs := by
    obtain ⟨fd, F⟩ := c.def_ 5 (d := dd_check_pairs) rfl
    exact ⟨_, fd, F, He.glo_ok X G (c.fact 5 (f := .glo "check_pairs") rfl)⟩
  d_checked := by
    obtain ⟨fd, F⟩ := c.def_ 6 (d := dd_checked) rfl
    exact ⟨_, fd, F, He.glo_ok X G (c.fact 6 (f := .glo "checked") rfl)⟩
  d_with_sum := by
    obtain ⟨fd, F⟩ := c.def_ 7 (d := dd_with_sum) rfl
    exact ⟨_, fd, F, He.glo_ok X G (c.fact 7 (f := .glo "with_sum") rfl)⟩
  d_narrowed := by
    obtain ⟨fd, F⟩ := c.def_ 8 (d := dd_narrowed) rfl
    exact ⟨_, fd, F, He.glo_ok X G (c.fact 8 (f := .glo "narrowed") rfl)⟩
  d_with_pairs := by
    obtain ⟨fd, F⟩ := c.def_ 9 (d := dd_with_pairs) rfl
    exact ⟨_, fd, F, He.glo_ok X G (c.fact 9 (f := .glo "with_pairs") rfl)⟩
  d_can_be_pairs := by
    obtain ⟨fd, F⟩ := c.def_ 10 (d := dd_can_be_pairs) rfl
    exact ⟨_, fd, F, He.glo_ok X G (c.fact 10 (f := .glo "can_be_pairs") rfl)⟩
  d_with_value := by
    obtain ⟨fd, F⟩ := c.def_ 11 (d := dd_with_value) rfl
    exact ⟨_, fd, F, He.glo_ok X G (c.fact 11 (f := .glo "with_value") rfl)⟩
  d_count_choices := by
    obtain ⟨fd, F⟩ := c.def_ 12 (d := dd_count_choices) rfl
    exact ⟨_, fd, F, He.glo_ok X G (c.fact 12 (f := .glo "count_choices") rfl)⟩
  d_met := by
    obtain ⟨fd, F⟩ := c.def_ 13 (d := dd_met) rfl
    exact ⟨_, fd, F, He.glo_ok X G (c.fact 13 (f := .glo "met") rfl)⟩
  d__law_start := by
    obtain ⟨fd, F⟩ := c.def_ 14 (d := dd__law_start) rfl
    exact ⟨_, fd, F, He.glo_ok X G (c.fact 14 (f := .glo "_law_start") rfl)⟩
  d__law_draw := by
    obtain ⟨fd, F⟩ := c.def_ 15 (d := dd__law_draw) rfl
    exact ⟨_, fd, F, He.glo_ok X G (c.fact 15 (f := .glo "_law_draw") rfl)⟩
  d__law_error := by
    obtain ⟨fd, F⟩ := c.def_ 16 (d := dd__law_error) rfl
    exact ⟨_, fd, F, He.glo_ok X G (c.fact 16 (f := .glo "_law_error") rfl)⟩
  d__law_true := by
    obtain ⟨fd, F⟩ := c.def_ 17 (d := dd__law_true) rfl
    exact ⟨_, fd, F, He.glo_ok X G (c.fact 17 (f := .glo "_law_true") rfl)⟩
  d__law_choices := by
    obtain ⟨fd, F⟩ := c.def_ 18 (d := dd__law_choices) rfl
    exact ⟨_, fd, F, He.glo_ok X G (c.fact 18 (f := .glo "_law_choices") rfl)⟩
  d__law_small := by
    obtain ⟨fd, F⟩ := c.def_ 19 (d := dd__law_small) rfl
    exact ⟨_, fd, F, He.glo_ok X G (c.fact 19 (f := .glo "_law_small") rfl)⟩
  d__law_inside := by
    obtain ⟨fd, F⟩ := c.def_ 20 (d := dd__law_inside) rfl
    exact ⟨_, fd, F, He.glo_ok X G (c.fact 20 (f := .glo "_law_inside") rfl)⟩
  d__law_call := by
    obtain ⟨fd, F⟩ := c.def_ 21 (d := dd__law_call) rfl
    exact ⟨_, fd, F, He.glo_ok X G (c.fact 21 (f := .glo "_law_call") rfl)⟩
  d__law_due := by
    obtain ⟨fd, F⟩ := c.def_ 22 (d := dd__law_due) rfl
    exact ⟨_, fd, F, He.glo_ok X G (c.fact 22 (f := .glo "_law_due") rfl)⟩
  d_law := by
    obtain ⟨fd, F⟩ := c.def_ 23 (d := dd_law) rfl
    exact ⟨_, fd, F, He.glo_ok X G (c.fact 23 (f := .glo "law") rfl)⟩
  n_ValueError := He.free_ok X G (c.fact 24 (f := .free "ValueError") rfl)
  n_all := He.free_ok X G (c.fact 25 (f := .free "all") rfl)
  n_any := He.free_ok X G (c.fact 26 (f := .free "any") rfl)
  n_bool := He.free_ok X G (c.fact 27 (f := .free "bool") rfl)
  n_int := He.free_ok X G (c.fact 28 (f := .free "int") rfl)
  n_isinstance := He.free_ok X G (c.fact 29 (f := .free "isinstance") rfl)
  n_len := He.free_ok X G (c.fact 30 (f := .free "len") rfl)
  n_list := He.free_ok X G (c.fact 31 (f := .free "list") rfl)
  n_max := He.free_ok X G (c.fact 32 (f := .free "max") rfl)
  n_min := He.free_ok X G (c.fact 33 (f := .free "min") rfl)
  n_range := He.free_ok X G (c.fact 34 (f := .free "range") rfl)
  n_sum := He.free_ok X G (c.fact 35 (f := .free "sum") rfl)
  n_tuple := He.free_ok X G (c.fact 36 (f := .free "tuple") rfl)
  n_zip := He.free_ok X G (c.fact 37 (f := .free "zip") rfl)
  c_MOST_BOUND := He.int_ok X G (c.fact 38 (f := .int "MOST_BOUND" 50) rfl)
  c_MOST_VALUES := He.int_ok X G (c.fact 39 (f := .int "MOST_VALUES" 7) rfl)
  x := by
    have hx : (errs.all fun c => errB K c) = true := by first | exact cx | exact (Bool.and_eq_true_iff.mp cx).1 | exact (Bool.and_eq_true_iff.mp (Bool.and_eq_true_iff.mp cx).1).1
    refine ⟨fun d hd => errB_ok ?_ (List.all_eq_true.mp hx d hd), He.glo_ok X G (c.fact 45 (f := .glo "BoundError") rfl)⟩
    simp only [errs, List.mem_cons, List.mem_nil_iff, or_false] at hd
    rcases hd with rfl | rfl | rfl | rfl | rfl
    · exact He.glo_ok X G (c.fact 40 (f := .glo "BadBounds") rfl)
    · exact He.glo_ok X G (c.fact 41 (f := .glo "BadNumber") rfl)
    · exact He.glo_ok X G (c.fact 42 (f := .glo "BadOrder") rfl)
    · exact He.glo_ok X G (c.fact 43 (f := .glo "BadText") rfl)
    · exact He.glo_ok X G (c.fact 44 (f := .glo "NotFound") rfl)
theorem endD {P : Program} {w : World} {K : Fg} {h : Heap} {mg : Str → Option Value} {f : Addr} (X : K.In h) (G : h.Ns mainGlobals mg) (hfa : mg ("law" : Str) = some (.ref f)) (c : He.SaysD faD fnD K) (cx : exD K = true) :
    ∃ fd : FuncData, (∀ (s : Shared) (v : Value), BindsTo s fd ⟨[v], []⟩ [("_law_script", v)]) ∧ ∀ base : Heap, K.In base → base.Ns mainGlobals mg → FnOk P w K mg base CX0 7 f fd ["_law_script"] (spLaw K) := by
  have T := txt_of X G c cx
  obtain ⟨fd, F⟩ := c.def_ 23 (d := dd_law) rfl
  have e := hfa.symm.trans (He.glo_ok X G (c.fact 23 (f := .glo "law") rfl))
  cases e
  have b := FunD.bindsA (ps := ["_law_script"]) F fun _ _ _ _ _ _ us hl => match us, hl with | [_], _ => rfl
  exact ⟨fd, fun s v => b s [v] rfl, fun base _ _ => ok_law T F⟩
end BL
open PySem PySem.W PySem.Calls PyProof.Rows
set_option maxRecDepth 100000 in
set_option maxHeartbeats 0 in
theorem PySem.Challenge.cw_boundstats_k08_whole_facts_holds : PySem.Challenge.rw_boundstats_k08_whole_facts.Holds := by
  w_on; o_law
  refine HandSHeadRun.head_any (r := OpenLaw.row PySem.Challenge.rw_boundstats_k08_whole_facts) (q := view (OpenLaw.row PySem.Challenge.rw_boundstats_k08_whole_facts).prog [34]) (H := BL.hkD) (ob := BL.obD) (M := 3000) (loose := BL.looseD) (d := HandSHeadRun.topDef (OpenLaw.row PySem.Challenge.rw_boundstats_k08_whole_facts).prog 34) (kwd := []) BL.obD_eq
    (by kernel_rfl) (fun s => by kernel_rfl) BL.runD (by kernel_rfl) (by kernel_rfl) (by kernel_rfl) (by rfl) (by first | assumption | decide +kernel) (by decide +kernel) ⟨rfl, rfl, rfl, rfl, rfl, by decide +kernel⟩ ?hw ?hc
  case hw => w_witness2
  case hc =>
    refine L2.walk_ofE (l := PySem.Challenge.rw_boundstats_k08_whole_facts) (n := 63) (k := 7) (x := "_law_script") (CX := L2.CX0) rfl (by decide) (by kernel_rfl) ⟨rfl, by decide, by decide⟩ ?F (fun _ _ _ _ z => z)
    intro w mg fa h Y G hmg0
    obtain ⟨K, KX, c, cx⟩ := Y
    have hmg : mg ("law" : PySem.Str) = some (.ref fa) := by
      have e : (HandSHeadRun.topDef (OpenLaw.row PySem.Challenge.rw_boundstats_k08_whole_facts).prog 34).name = ("law" : PySem.Str) := by kernel_rfl
      rw [← e]
      exact hmg0
    obtain ⟨fd, hb, hF⟩ := BL.endD (P := (PySem.Challenge.rw_boundstats_k08_whole_facts).prog) (w := w) KX G hmg c cx
    exact ⟨K, fd, BL.spLaw K, KX, hb, fun H a ns hl _ hS => ⟨a, ns, rfl, hS, hl, fun _ => rfl⟩, hF⟩
#print axioms PySem.Challenge.cw_boundstats_k08_whole_facts_holds
