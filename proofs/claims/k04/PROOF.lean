import PyProof.Rows.All
import Wide.All
import OpenK.AllK
import Wide.FinOn
import HandS.ForMost
import HandS.Evl
import HandS.Walk
import HandS.SortInts
import HandS.Wide
import HandS.IsInst
import HandS.Style
import HandS.Defaults
import HandS.Deep
import HandS.Conv
import HandS.NoneIn
import HandS.More
import HandS.Head0
import HandS.Head1
import HandS.Head2
import HandS.HeadEnd
import HandS.HeadHook1
import HandS.HeadHook2
import HandS.Steps
import HandS.SortRule
import HandS.SetFor
import HandS.TupSets
import KE.KStateDown
import Lean
import HandS.WordsExc
import PySem.Challenge.RW_boundstats_k04_whole_squares
set_option Elab.async false
set_option linter.all false
set_option maxRecDepth 100000
set_option maxHeartbeats 2000000
/-! typed readings: values as plain data, lists locked once made -/
namespace BL
open PySem PySem.Spec PyProof.Rows L2
abbrev Fg := PySem.W.Frag
/-! ### what stays: tuples, locked things -/
inductive Sta : HO → Prop
  | tup (xs : List V) : Sta (.tup xs)
  | frz (o : Obj) (u : HO) : Sta (.frz o u)
theorem sta_lst {xs : List V} : ¬ Sta (.lst xs) := fun h => nomatch h
def SF (H H' : Hp) : Prop := ∀ a o, Sta o → H a = some o → H' a = some o
section
variable {H H1 H2 H' : Hp} {p a : Addr} {o u : HO} {xs ys : List V} {K : Fg}
theorem SF.refl (H : Hp) : SF H H := fun _ _ _ h => h
theorem SF.trans (a : SF H H1) (b : SF H1 H2) : SF H H2 := fun x o s h => b x o s (a x o s h)
theorem SF.of (e : Same H H') : SF H H' := fun a o _ h => e a o h
theorem SF.new (h : H p = none) : SF H (upd H p o) := fun a u _ e => by
  rw [upd_ne (ne_of_none e h)]; exact e
theorem SF.chg (h : H p = some u) (n : ¬ Sta u) : SF H (upd H p o) := fun a w s e => by
  by_cases q : a = p
  · subst q; rw [h] at e; cases e; exact absurd s n
  · rw [upd_ne q]; exact e
theorem SF.lst (h : H p = some (.lst xs)) : SF H (upd H p o) := SF.chg h sta_lst
theorem same_new (h : H p = none) : Same H (upd H p o) := fun a u e => by
  rw [upd_ne (ne_of_none e h)]; exact e
/-- what H does not know may change -/
theorem same_mut (e : Same H H') (h : H p = none) : Same H (upd H' p o) := fun a u ha => by
  rw [upd_ne (ne_of_none ha h)]; exact e a u ha
theorem sf_mut (e : SF H H') (h : H p = none) : SF H (upd H' p o) := fun a u s ha => by
  rw [upd_ne (ne_of_none ha h)]; exact e a u s ha
theorem none_back (e : Same H H') (h : H' p = none) : H p = none := e.free h
theorem upd_get (h : H a = some u) (n : a ≠ p) : upd H p o a = some u := by rw [upd_ne n]; exact h
def Fz (H : Hp) (a : Addr) (xs : List V) : Prop := ∃ o, H a = some (.frz o (.lst xs))
theorem Fz.seq (h : Fz H a xs) : SqL K H a xs := by
  obtain ⟨o, h⟩ := h; exact .inl (.inr ⟨o, h⟩)
theorem Fz.sf (e : SF H H') (h : Fz H a xs) : Fz H' a xs := by
  obtain ⟨o, h⟩ := h; exact ⟨o, e _ _ (.frz _ _) h⟩
theorem sqt_sf (e : SF H H') (h : SqT K H a xs) : SqT K H' a xs := by
  rcases h with (h | ⟨o, h⟩) | h
  · exact .inl (.inl (e _ _ (.tup _) h))
  · exact .inl (.inr ⟨o, e _ _ (.frz _ _) h⟩)
  · exact .inr h
theorem sq_lst (h : H a = some (.lst xs)) : SqL K H a xs := .inl (.inl h)
theorem sq_tup (h : H a = some (.tup xs)) : SqT K H a xs := .inl (.inl h)
end
theorem paired_mono {α β : Type} {F G : α → β → Prop} (h : ∀ a b, F a b → G a b) : ∀ {l : List α} {r : List β}, Paired F l r → Paired G l r
  | _, _, .nil => .nil
  | _, _, .cons a b => .cons (h _ _ a) (paired_mono h b)
theorem paired_len {α β : Type} {F : α → β → Prop} {l : List α} {r : List β} (h : Paired F l r) : l.length = r.length := Paired.length h
theorem paired_app {α β : Type} {F : α → β → Prop} : ∀ {l l' : List α} {r r' : List β}, Paired F l r → Paired F l' r' → Paired F (l ++ l') (r ++ r')
  | _, _, _, _, .nil, h => h
  | _, _, _, _, .cons a b, h => .cons a (paired_app b h)
theorem paired_get {α β : Type} {F : α → β → Prop} : ∀ {l : List α} {r : List β} {i : Nat} {y : β}, Paired F l r → r[i]? = some y → ∃ x, l[i]? = some x ∧ F x y
  | _, _, i, _, .nil, e => by simp at e
  | _, _, 0, _, .cons a _, e => by simp at e; subst e; exact ⟨_, rfl, a⟩
  | _, _, i + 1, y, .cons _ b, e => by
    obtain ⟨x, h1, h2⟩ := paired_get (i := i) (y := y) b (by simpa using e)
    exact ⟨x, by simpa using h1, h2⟩
theorem paired_get2 {α β : Type} {F : α → β → Prop} : ∀ {l : List α} {r : List β} {i : Nat} {x : α}, Paired F l r → l[i]? = some x → ∃ y, r[i]? = some y ∧ F x y
  | _, _, i, _, .nil, e => by simp at e
  | _, _, 0, _, .cons a _, e => by simp at e; subst e; exact ⟨_, rfl, a⟩
  | _, _, i + 1, y, .cons _ b, e => by
    obtain ⟨x, h1, h2⟩ := paired_get2 (i := i) (x := y) b (by simpa using e)
    exact ⟨x, by simpa using h1, h2⟩
theorem paired_set {α β : Type} {F : α → β → Prop} {x : α} {y : β} (f : F x y) : ∀ {l : List α} {r : List β} (i : Nat), Paired F l r → Paired F (l.set i x) (r.set i y)
  | _, _, _, .nil => .nil
  | _, _, 0, .cons _ b => .cons f b
  | _, _, i + 1, .cons a b => .cons a (paired_set f i b)
theorem paired_take {α β : Type} {F : α → β → Prop} : ∀ {l : List α} {r : List β} (n : Nat), Paired F l r → Paired F (l.take n) (r.take n)
  | _, _, 0, _ => .nil
  | _, _, _ + 1, .nil => .nil
  | _, _, n + 1, .cons a b => .cons a (paired_take n b)
theorem paired_drop {α β : Type} {F : α → β → Prop} : ∀ {l : List α} {r : List β} (n : Nat), Paired F l r → Paired F (l.drop n) (r.drop n)
  | _, _, 0, h => h
  | _, _, _ + 1, .nil => .nil
  | _, _, n + 1, .cons a b => paired_drop n b

/-! ### data -/
class Rp (α : Type) where
  rep : Fg → Hp → V → α → Prop
  mono : ∀ {K : Fg} {H H' : Hp} {v : V} {x : α}, SF H H' → rep K H v x → rep K H' v x
/-- a triple -/
structure T3 (α β γ : Type) where
  a : α
  b : β
  c : γ
  deriving DecidableEq
instance : Rp Int := ⟨fun _ _ v i => v = .int i, fun _ h => h⟩
instance : Rp Nat := ⟨fun _ _ v i => v = .int (i : Int), fun _ h => h⟩
instance : Rp Bool := ⟨fun _ _ v b => v = .bl b, fun _ h => h⟩
instance : Rp Str := ⟨fun _ _ v b => v = .str b, fun _ h => h⟩
instance : Rp Unit := ⟨fun _ _ v _ => v = .non, fun _ h => h⟩
instance {α β : Type} [Rp α] [Rp β] : Rp (α × β) := ⟨fun K H v p => ∃ a v1 v2, v = .ref a ∧ SqT K H a [v1, v2] ∧ Rp.rep K H v1 p.1 ∧ Rp.rep K H v2 p.2,
  fun e h => by obtain ⟨a, v1, v2, h1, h2, h3, h4⟩ := h; exact ⟨a, v1, v2, h1, sqt_sf e h2, Rp.mono e h3, Rp.mono e h4⟩⟩
instance {α β γ : Type} [Rp α] [Rp β] [Rp γ] : Rp (T3 α β γ) := ⟨fun K H v p => ∃ a v1 v2 v3, v = .ref a ∧ SqT K H a [v1, v2, v3] ∧ Rp.rep K H v1 p.a ∧ Rp.rep K H v2 p.b ∧ Rp.rep K H v3 p.c,
  fun e h => by obtain ⟨a, v1, v2, v3, h1, h2, h3, h4, h5⟩ := h; exact ⟨a, v1, v2, v3, h1, sqt_sf e h2, Rp.mono e h3, Rp.mono e h4, Rp.mono e h5⟩⟩
abbrev RL {α : Type} [Rp α] (K : Fg) (H : Hp) (vs : List V) (l : List α) : Prop := Paired (Rp.rep K H) vs l
theorem RL.mono {α : Type} [Rp α] {K : Fg} {H H' : Hp} {vs : List V} {l : List α} (e : SF H H') (h : RL K H vs l) : RL K H' vs l := paired_mono (fun _ _ => Rp.mono e) h
instance {α : Type} [Rp α] : Rp (List α) := ⟨fun K H v l => ∃ a vs, v = .ref a ∧ Fz H a vs ∧ RL K H vs l,
  fun e h => by obtain ⟨a, vs, h1, h2, h3⟩ := h; exact ⟨a, vs, h1, h2.sf e, h3.mono e⟩⟩
/-- None, or a thing that is not None -/
instance {α : Type} [Rp α] : Rp (Option α) := ⟨fun K H v o => match o with
  | none => v = .non
  | some x => v ≠ .non ∧ Rp.rep K H v x, fun {K H H' v o} e h => by
    cases o with
    | none => exact h
    | some x => exact ⟨h.1, Rp.mono e h.2⟩⟩
instance {α β : Type} [Rp α] [Rp β] : Rp (Sum α β) := ⟨fun K H v o => match o with
  | .inl x => Rp.rep K H v x
  | .inr x => Rp.rep K H v x, fun {K H H' v o} e h => by
    cases o with
    | inl x => exact Rp.mono e h
    | inr x => exact Rp.mono e h⟩
/-- a tuple of any length -/
structure Tp (α : Type) where
  l : List α
  deriving DecidableEq
instance {α : Type} [Rp α] : Rp (Tp α) := ⟨fun K H v t => ∃ a vs, v = .ref a ∧ SqT K H a vs ∧ RL K H vs t.l,
  fun e h => by obtain ⟨a, vs, h1, h2, h3⟩ := h; exact ⟨a, vs, h1, sqt_sf e h2, h3.mono e⟩⟩
section
variable {K : Fg} {H H' : Hp}
theorem rep_int {v : V} {i : Int} : Rp.rep K H v i ↔ v = .int i := Iff.rfl
theorem rl_ints : ∀ {vs : List V} {l : List Int}, RL K H vs l → vs = l.map V.int
  | _, _, .nil => rfl
  | _, _, .cons a b => by rw [List.map_cons, ← rl_ints b, rep_int.mp a]
theorem rl_nats : ∀ {vs : List V} {l : List Nat}, RL K H vs l → vs = (l.map fun n : Nat => (n : Int)).map V.int
  | _, _, .nil => rfl
  | _, _, .cons a b => by
    have e : _ = V.int _ := a
    rw [List.map_cons, List.map_cons, ← rl_nats b, e]
theorem rl_bools : ∀ {vs : List V} {l : List Bool}, RL K H vs l → vs = l.map V.bl
  | _, _, .nil => rfl
  | _, _, .cons a b => by
    have e : _ = V.bl _ := a
    rw [List.map_cons, ← rl_bools b, e]
theorem rl_strs : ∀ {vs : List V} {l : List Str}, RL K H vs l → vs = l.map V.str
  | _, _, .nil => rfl
  | _, _, .cons a b => by
    have e : _ = V.str _ := a
    rw [List.map_cons, ← rl_strs b, e]
theorem rl_of_ints : ∀ (l : List Int), RL K H (l.map V.int) l
  | [] => .nil
  | _ :: r => .cons rfl (rl_of_ints r)
theorem rl_of_nats : ∀ (l : List Nat), RL K H ((l.map fun n : Nat => (n : Int)).map V.int) l
  | [] => .nil
  | _ :: r => .cons rfl (rl_of_nats r)
theorem rl_of_bools : ∀ (l : List Bool), RL K H (l.map V.bl) l
  | [] => .nil
  | _ :: r => .cons rfl (rl_of_bools r)
theorem rl_of_strs : ∀ (l : List Str), RL K H (l.map V.str) l
  | [] => .nil
  | _ :: r => .cons rfl (rl_of_strs r)
end

/-! ### data compared: == of any depth -/
class Rq (α : Type) [Rp α] where
  toD : α → PyData
  dp : ∀ {K : Fg} {H : Hp} {v : V} {x : α}, Rp.rep K H v x → Dp K H v (toD x)
  ok : α → Prop
  dep : Nat
  lay : ∀ x, ok x → (toD x).canLay0 = true
  deep : ∀ x, (toD x).depth ≤ dep
  eqv : ∀ x y : α, PyData.eqv (toD x) (toD y) = true ↔ x = y
class Rt (α : Type) [Rp α] [Rq α] where
  all : ∀ x : α, Rq.ok x
theorem dp_all {α : Type} [Rp α] [Rq α] {K : Fg} {H : Hp} : ∀ {vs : List V} {l : List α}, RL K H vs l → DpAll K H vs (l.map Rq.toD)
  | _, _, .nil => .nil
  | _, _, .cons a b => .cons (Rq.dp a) (dp_all b)
theorem lay_all {α : Type} [Rp α] [Rq α] : ∀ {l : List α}, (∀ x ∈ l, Rq.ok x) → PyData.canLayAll0 (l.map Rq.toD) = true
  | [], _ => rfl
  | x :: r, h => by
    show (PyData.canLay0 (Rq.toD x) && PyData.canLayAll0 (r.map Rq.toD)) = true
    rw [Rq.lay x (h x (List.mem_cons_self ..)), lay_all (l := r) fun y hy => h y (List.mem_cons_of_mem _ hy)]; rfl
theorem deep_all {α : Type} [Rp α] [Rq α] : ∀ {l : List α}, PyData.depthAll (l.map Rq.toD) ≤ Rq.dep α
  | [] => Nat.zero_le _
  | x :: r => by
    show max (PyData.depth (Rq.toD x)) (PyData.depthAll (r.map Rq.toD)) ≤ _
    exact Nat.max_le.mpr ⟨Rq.deep x, deep_all⟩
theorem eqv_all {α : Type} [Rp α] [Rq α] : ∀ {l r : List α}, PyData.eqvAll (l.map Rq.toD) (r.map Rq.toD) = true ↔ l = r
  | [], [] => by simp [PyData.eqvAll]
  | [], _ :: _ => by simp [PyData.eqvAll]
  | _ :: _, [] => by simp [PyData.eqvAll]
  | x :: l, y :: r => by
    show (PyData.eqv (Rq.toD x) (Rq.toD y) && PyData.eqvAll (l.map Rq.toD) (r.map Rq.toD)) = true ↔ _
    rw [Bool.and_eq_true, Rq.eqv, eqv_all, List.cons.injEq]
instance : Rq Int := ⟨.int, fun {K H v x} h => by cases (show v = .int x from h); exact .int _, fun _ => True, 1, fun _ _ => rfl, fun _ => by show PyData.depth _ ≤ 1; simp [PyData.depth], fun x y => by simp [PyData.eqv]⟩
instance : Rq Nat := ⟨fun n => .int (n : Int), fun {K H v x} h => by cases (show v = .int (x : Int) from h); exact .int _, fun _ => True, 1, fun _ _ => rfl, fun _ => by show PyData.depth _ ≤ 1; simp [PyData.depth], fun x y => by simp [PyData.eqv]; omega⟩
instance : Rq Bool := ⟨.bool, fun {K H v x} h => by cases (show v = .bl x from h); exact .bl _, fun _ => True, 1, fun _ _ => rfl, fun _ => by show PyData.depth _ ≤ 1; simp [PyData.depth], fun x y => by simp [PyData.eqv]⟩
instance : Rq Str := ⟨.str, fun {K H v x} h => by cases (show v = .str x from h); exact .str _, fun x => (PyData.str x).canLay0 = true, 1, fun _ h => h, fun _ => by show PyData.depth _ ≤ 1; simp [PyData.depth], fun x y => by simp [PyData.eqv]⟩
instance {α β : Type} [Rp α] [Rp β] [Rq α] [Rq β] : Rq (α × β) := ⟨fun p => .tuple [Rq.toD p.1, Rq.toD p.2], fun {K H v x} h => by
    obtain ⟨a, v1, v2, rfl, h2, h3, h4⟩ := h; exact .tup h2 (.cons (Rq.dp h3) (.cons (Rq.dp h4) .nil)), fun p => Rq.ok p.1 ∧ Rq.ok p.2, max (Rq.dep α) (Rq.dep β) + 1,
  fun p h => by simp [PyData.canLay0, PyData.canLayAll0, Rq.lay p.1 h.1, Rq.lay p.2 h.2],
  fun p => by have := Rq.deep p.1; have := Rq.deep p.2; simp only [PyData.depth, PyData.depthAll]; omega,
  fun p q => by obtain ⟨p1, p2⟩ := p; obtain ⟨q1, q2⟩ := q; simp [PyData.eqv, PyData.eqvAll, Rq.eqv]⟩
instance {α β γ : Type} [Rp α] [Rp β] [Rp γ] [Rq α] [Rq β] [Rq γ] : Rq (T3 α β γ) := ⟨fun p => .tuple [Rq.toD p.a, Rq.toD p.b, Rq.toD p.c], fun {K H v x} h => by
    obtain ⟨a, v1, v2, v3, rfl, h2, h3, h4, h5⟩ := h; exact .tup h2 (.cons (Rq.dp h3) (.cons (Rq.dp h4) (.cons (Rq.dp h5) .nil))), fun p => Rq.ok p.a ∧ Rq.ok p.b ∧ Rq.ok p.c, max (Rq.dep α) (max (Rq.dep β) (Rq.dep γ)) + 1,
  fun p h => by simp [PyData.canLay0, PyData.canLayAll0, Rq.lay p.a h.1, Rq.lay p.b h.2.1, Rq.lay p.c h.2.2],
  fun p => by have := Rq.deep p.a; have := Rq.deep p.b; have := Rq.deep p.c; simp only [PyData.depth, PyData.depthAll]; omega,
  fun p q => by obtain ⟨p1, p2, p3⟩ := p; obtain ⟨q1, q2, q3⟩ := q; simp [PyData.eqv, PyData.eqvAll, Rq.eqv]⟩
instance {α : Type} [Rp α] [Rq α] : Rq (List α) := ⟨fun l => .list (l.map Rq.toD), fun {K H v x} h => by
    obtain ⟨a, vs, rfl, h2, h3⟩ := h; exact .lst h2.seq (dp_all h3), fun l => ∀ x ∈ l, Rq.ok x, Rq.dep α + 1,
  fun p h => by simp only [PyData.canLay0]; exact lay_all h,
  fun p => by have := deep_all (l := p); simp only [PyData.depth]; omega,
  fun p q => by simp only [PyData.eqv]; exact eqv_all⟩
instance {α : Type} [Rp α] [Rq α] : Rq (Tp α) := ⟨fun l => .tuple (l.l.map Rq.toD), fun {K H v x} h => by
    obtain ⟨a, vs, rfl, h2, h3⟩ := h; exact .tup h2 (dp_all h3), fun l => ∀ x ∈ l.l, Rq.ok x, Rq.dep α + 1,
  fun p h => by simp only [PyData.canLay0]; exact lay_all h,
  fun p => by have := deep_all (l := p.l); simp only [PyData.depth]; omega,
  fun p q => by obtain ⟨p⟩ := p; obtain ⟨q⟩ := q; simp only [PyData.eqv, Tp.mk.injEq]; exact eqv_all⟩
instance : Rt Int := ⟨fun _ => trivial⟩
instance : Rt Nat := ⟨fun _ => trivial⟩
instance : Rt Bool := ⟨fun _ => trivial⟩
instance {α β : Type} [Rp α] [Rp β] [Rq α] [Rq β] [Rt α] [Rt β] : Rt (α × β) := ⟨fun p => ⟨Rt.all p.1, Rt.all p.2⟩⟩
instance {α β γ : Type} [Rp α] [Rp β] [Rp γ] [Rq α] [Rq β] [Rq γ] [Rt α] [Rt β] [Rt γ] : Rt (T3 α β γ) := ⟨fun p => ⟨Rt.all p.a, Rt.all p.b, Rt.all p.c⟩⟩
instance {α : Type} [Rp α] [Rq α] [Rt α] : Rt (List α) := ⟨fun _ x _ => Rt.all x⟩
instance {α : Type} [Rp α] [Rq α] [Rt α] : Rt (Tp α) := ⟨fun _ x _ => Rt.all x⟩
theorem shaped_of {α : Type} [Rp α] [Rq α] {x : α} (h : Rq.ok x) (hd : Rq.dep α ≤ 64) : SeqAt.shaped (Rq.toD x) = true := by
  show (PyData.canLay0 (Rq.toD x) && decide (PyData.depth (Rq.toD x) ≤ 64)) = true
  rw [Rq.lay x h, decide_eq_true (Nat.le_trans (Rq.deep x) hd)]; rfl
end BL

set_option Elab.async false
set_option linter.all false
set_option maxRecDepth 100000
set_option maxHeartbeats 2000000
namespace BL
open PySem PySem.Spec PyProof.Rows L2
/-! lists, locked or not, joined and repeated -/
def rCatR : R2 := fun x y H Q => ∃ l b xs zs, x = .ref l ∧ y = .ref b ∧ L2.Rd H l (.lst xs) ∧ L2.Rd H b (.lst zs) ∧ xs.length + zs.length ≤ sizeLine ∧ ∀ p, H p = none → Q (.ref p) (upd H p (.lst (xs ++ zs)))
theorem rd_lst {X : Cx} {pins : List (Addr × Obj)} {σ : L2.St} {H : Hp} {s : Shared} {a : Addr} {xs : List V} (I : Inv X pins σ H s) (h : L2.Rd H a (.lst xs)) :
    xs.length ≤ sizeLine ∧ ∃ (its : List Value) (n : Nat), Vals xs its ∧ xs.length = its.length ∧ s.heap.get? a = some { cls := .type "list", data := .seq its.toArray n } := by
  obtain ⟨z, its, n, r, e⟩ := h.ok I.hok
  exact ⟨z, its, n, r, r.length, e⟩
theorem op_catR {X : Cx} : OpR X (binaryOp .Add) rCatR := by
  intro pins s σ H x y v u Q I rx ry h
  obtain ⟨l, b, xs, zs, rfl, rfl, hH, hB, hz, q⟩ := h
  cases rx
  cases ry
  obtain ⟨z, its, n, r, hl, e⟩ := rd_lst I hH
  obtain ⟨z2, its2, n2, r2, hl2, e2⟩ := rd_lst I hB
  refine PySem.P.add_list e e2 ?_ (by rw [List.size_toArray, List.size_toArray]; omega)
  have ea : its.toArray ++ its2.toArray = (its ++ its2).toArray := by simp
  rw [ea]
  exact ⟨.ref _, _, I.lnew (t' := s.toks) (r.append r2) (by rw [List.length_append]; omega), rfl, q _ I.fresh⟩
/-! ### readings: what an expression gives, all that was tracked kept -/
def Er (K : Fg) (te : TE) (σ : L2.St) (H : Hp) {α : Type} [Rp α] (x : α) : Prop := ∀ H1, Same H H1 → ∀ Q : VK, (∀ v H2, Same H1 H2 → Rp.rep K H2 v x → Q v H2) → te σ H1 Q
/-- a new list, not yet locked -/
def ErL (K : Fg) (te : TE) (σ : L2.St) (H : Hp) {α : Type} [Rp α] (l : List α) : Prop := ∀ H1, Same H H1 → ∀ Q : VK, (∀ p vs H2, Same H1 H2 → H1 p = none → H2 p = some (.lst vs) → RL K H2 vs l → Q (.ref p) H2) → te σ H1 Q
def Et (K : Fg) (tt : TT) (σ : L2.St) (H : Hp) (b : Bool) : Prop := ∀ H1, Same H H1 → ∀ Q : Bool → Hp → Prop, (∀ H2, Same H1 H2 → Q b H2) → tt σ H1 Q
def Ea (K : Fg) (ta : TA) (σ : L2.St) (H : Hp) {α : Type} [Rp α] (l : List α) : Prop := ∀ H1, Same H H1 → ∀ Q : List V → Hp → Prop, (∀ vs H2, Same H1 H2 → RL K H2 vs l → Q vs H2) → ta σ H1 Q
def tFrz (t : TE) : TE := fun σ H Q => t σ H fun v H1 => ∃ a xs, v = .ref a ∧ H1 a = some (.lst xs) ∧ ∀ od, Q v (upd H1 a (.frz od (.lst xs)))
theorem pe_frz {X : Cx} {e : Expr} {t : TE} (h : PE X e t) : PE X e (tFrz t) := ⟨fun pins s σ H Q I q => thn (h.run pins s σ H _ I q) fun u s1 hh => by
  obtain ⟨v, H1, I1, r, a, xs, ev, ha, q⟩ := hh
  obtain ⟨od, I2⟩ := I1.lock ha trivial
  exact ⟨v, _, I2, r, q od⟩⟩
section
variable {K : Fg} {σ : L2.St} {H H' H1 : Hp} {ta tb tc te : TE} {tt uu : TT} {α β γ δ : Type} [Rp α] [Rp β] [Rp γ] [Rp δ] {x : α} {y : β} {z : γ} {v u : V} {r r' : R2} {b c : Bool} {i j : Int}
theorem Er.mono (e : Same H H') (h : Er K te σ H x) : Er K te σ H' x := fun H1 a Q q => h H1 (e.trans a) Q q
theorem Et.mono (e : Same H H') (h : Et K tt σ H b) : Et K tt σ H' b := fun H1 a Q q => h H1 (e.trans a) Q q
theorem Er.to {x' : α} (h : Er K te σ H x) (e : x = x') : Er K te σ H x' := e ▸ h
theorem ErL.to {l l' : List α} (h : ErL K te σ H l) (e : l = l') : ErL K te σ H l' := e ▸ h
theorem Et.to {b' : Bool} (h : Et K tt σ H b) (e : b = b') : Et K tt σ H b' := e ▸ h
theorem er_var {k : Nat} (hv : σ[k]? = some (some v)) (h : Rp.rep K H v x) : Er K (tVar k) σ H x := fun H1 e Q q => ⟨v, hv, q v H1 (Same.refl _) (Rp.mono (SF.of e) h)⟩
/-- a constant -/
theorem er_c (h : ∀ H, Rp.rep K H v x) : Er K (tC v) σ H x := fun H1 _ Q q => q v H1 (Same.refl _) (h H1)
theorem er_int : Er K (tC (.int i)) σ H i := er_c fun _ => rfl
theorem er_str {s : Str} : Er K (tC (.str s)) σ H s := er_c fun _ => rfl
theorem er_bl : Er K (tC (.bl b)) σ H b := er_c fun _ => rfl
theorem er_non : Er K (tC .non) σ H () := er_c fun _ => rfl
/-- a place as a number -/
theorem er_up {n : Nat} (h : Er K te σ H n) : Er K te σ H (n : Int) := h
theorem er_dn {n : Nat} (h : Er K te σ H i) (e : i = (n : Int)) : Er K te σ H n := by subst e; exact h
theorem er_frz {l : List α} (h : ErL K te σ H l) : Er K (tFrz te) σ H l := fun H1 e Q q => h H1 e _ fun p vs H2 e2 hp h2 r =>
  ⟨p, vs, rfl, h2, fun od => q (.ref p) _ (same_mut e2 hp) ⟨p, vs, rfl, ⟨od, upd_same⟩, r.mono (SF.lst h2)⟩⟩
/-! operators by values -/
def R2r (K : Fg) (r : R2) (x : α) (y : β) (z : γ) : Prop := ∀ H v u, Rp.rep K H v x → Rp.rep K H u y → ∀ Q : VK, (∀ w H', Same H H' → Rp.rep K H' w z → Q w H') → r v u H Q
theorem er_op (ha : Er K ta σ H x) (hb : Er K tb σ H y) (hr : R2r K r x y z) : Er K (tOp r ta tb) σ H z := fun H1 e Q q =>
  ha H1 e _ fun v H2 e2 r2 => hb H2 (e.trans e2) _ fun u H3 e3 r3 => hr H3 v u (Rp.mono (SF.of e3) r2) r3 Q fun w H4 e4 r4 => q w H4 ((e2.trans e3).trans e4) r4
theorem rr_add : R2r K (rI0 fun i j => .int (i + j)) i j (i + j) := fun H v u e1 e2 Q q => ⟨i, j, e1, e2, q _ H (Same.refl _) rfl⟩
theorem rr_sub : R2r K (rI0 fun i j => .int (i - j)) i j (i - j) := fun H v u e1 e2 Q q => ⟨i, j, e1, e2, q _ H (Same.refl _) rfl⟩
theorem rr_mul (h : CMul i j) : R2r K (rI CMul fun i j => .int (i * j)) i j (i * j) := fun H v u e1 e2 Q q => ⟨i, j, e1, e2, h, q _ H (Same.refl _) rfl⟩
theorem rr_mulW (h : CMulW i j) : R2r K (rI CMulW fun i j => .int (i * j)) i j (i * j) := fun H v u e1 e2 Q q => ⟨i, j, e1, e2, h, q _ H (Same.refl _) rfl⟩
theorem rr_mod (h : 0 < j) : R2r K (rI (fun _ j => 0 < j) fun i j => .int (i % j)) i j (i % j) := fun H v u e1 e2 Q q => ⟨i, j, e1, e2, h, q _ H (Same.refl _) rfl⟩
theorem rr_div (h : CDiv i j) : R2r K (rI CDiv fun i j => .int (i / j)) i j (i / j) := fun H v u e1 e2 Q q => ⟨i, j, e1, e2, h, q _ H (Same.refl _) rfl⟩
theorem rr_divW (h : CDivW i j) : R2r K (rI CDivW fun i j => .int (i / j)) i j (i / j) := fun H v u e1 e2 Q q => ⟨i, j, e1, e2, h, q _ H (Same.refl _) rfl⟩
theorem rr_pow (h : CPow i j) : R2r K (rI CPow fun i j => .int (i ^ j.toNat)) i j (i ^ j.toNat) := fun H v u e1 e2 Q q => ⟨i, j, e1, e2, h, q _ H (Same.refl _) rfl⟩
theorem rr_lt : R2r K (rI0 fun i j => .bl (decide (i < j))) i j (decide (i < j)) := fun H v u e1 e2 Q q => ⟨i, j, e1, e2, q _ H (Same.refl _) rfl⟩
theorem rr_le : R2r K (rI0 fun i j => .bl (decide (i ≤ j))) i j (decide (i ≤ j)) := fun H v u e1 e2 Q q => ⟨i, j, e1, e2, q _ H (Same.refl _) rfl⟩
theorem rr_gt : R2r K (rI0 fun i j => .bl (decide (j < i))) i j (decide (j < i)) := fun H v u e1 e2 Q q => ⟨i, j, e1, e2, q _ H (Same.refl _) rfl⟩
theorem rr_ge : R2r K (rI0 fun i j => .bl (decide (j ≤ i))) i j (decide (j ≤ i)) := fun H v u e1 e2 Q q => ⟨i, j, e1, e2, q _ H (Same.refl _) rfl⟩
theorem rr_eqI : R2r K rEq i j (decide (i = j)) := fun H v u e1 e2 Q q => by
  cases (show v = .int i from e1); cases (show u = .int j from e2)
  exact ⟨rfl, q _ H (Same.refl _) (by show V.bl _ = V.bl _; simp)⟩
theorem rr_neI : R2r K rNe i j (!decide (i = j)) := fun H v u e1 e2 Q q => by
  cases (show v = .int i from e1); cases (show u = .int j from e2)
  exact ⟨rfl, q _ H (Same.refl _) (by show V.bl _ = V.bl _; simp)⟩
theorem rr_eqB : R2r K rEq b c (decide (b = c)) := fun H v u e1 e2 Q q => by
  cases (show v = .bl b from e1); cases (show u = .bl c from e2)
  exact ⟨rfl, q _ H (Same.refl _) (by show V.bl _ = V.bl _; simp)⟩
theorem rr_neB : R2r K rNe b c (!decide (b = c)) := fun H v u e1 e2 Q q => by
  cases (show v = .bl b from e1); cases (show u = .bl c from e2)
  exact ⟨rfl, q _ H (Same.refl _) (by show V.bl _ = V.bl _; simp)⟩
theorem rr_eqS {s t : Str} : R2r K rEq s t (decide (s = t)) := fun H v u e1 e2 Q q => by
  cases (show v = .str s from e1); cases (show u = .str t from e2)
  exact ⟨rfl, q _ H (Same.refl _) (by show V.bl _ = V.bl _; simp)⟩
theorem rr_neS {s t : Str} : R2r K rNe s t (!decide (s = t)) := fun H v u e1 e2 Q q => by
  cases (show v = .str s from e1); cases (show u = .str t from e2)
  exact ⟨rfl, q _ H (Same.refl _) (by show V.bl _ = V.bl _; simp)⟩
theorem eqv_dec [Rq α] [DecidableEq α] (x y : α) : PyData.eqv (Rq.toD x) (Rq.toD y) = decide (x = y) := by
  by_cases h : x = y
  · rw [(Rq.eqv x y).mpr h, decide_eq_true h]
  · rw [decide_eq_false h]
    cases e : PyData.eqv (Rq.toD x) (Rq.toD y) with
    | false => rfl
    | true => exact absurd ((Rq.eqv x y).mp e) h
theorem rr_eqD [Rq α] [DecidableEq α] {x y : α} (hx : Rq.ok x) (hy : Rq.ok y) (hd : Rq.dep α ≤ 64 := by decide) : R2r K (rEqD K) x y (decide (x = y)) := fun H v u e1 e2 Q q =>
  ⟨_, _, Rq.dp e1, Rq.dp e2, shaped_of hx hd, shaped_of hy hd, by rw [eqv_dec]; exact q _ H (Same.refl _) rfl⟩
theorem rr_neD [Rq α] [DecidableEq α] {x y : α} (hx : Rq.ok x) (hy : Rq.ok y) (hd : Rq.dep α ≤ 64 := by decide) : R2r K (rNeD K) x y (!decide (x = y)) := fun H v u e1 e2 Q q =>
  ⟨_, _, Rq.dp e1, Rq.dp e2, shaped_of hx hd, shaped_of hy hd, by rw [eqv_dec]; exact q _ H (Same.refl _) rfl⟩
theorem rr_eqT [Rq α] [Rt α] [DecidableEq α] {x y : α} (hd : Rq.dep α ≤ 64 := by decide) : R2r K (rEqD K) x y (decide (x = y)) := rr_eqD (Rt.all x) (Rt.all y) hd
theorem rr_neT [Rq α] [Rt α] [DecidableEq α] {x y : α} (hd : Rq.dep α ≤ 64 := by decide) : R2r K (rNeD K) x y (!decide (x = y)) := rr_neD (Rt.all x) (Rt.all y) hd
theorem rr_isB : R2r K (fun x y H Q => ∃ a b : Bool, x = .bl a ∧ y = .bl b ∧ Q (.bl (decide (a = b))) H) b c (decide (b = c)) := fun H v u e1 e2 Q q => ⟨b, c, e1, e2, q _ H (Same.refl _) rfl⟩
theorem rr_notB : R2r K (fun x y H Q => ∃ a b : Bool, x = .bl a ∧ y = .bl b ∧ Q (.bl (!decide (a = b))) H) b c (!decide (b = c)) := fun H v u e1 e2 Q q => ⟨b, c, e1, e2, q _ H (Same.refl _) rfl⟩
/-! items -/
theorem rr_ixL {l : List α} {n : Nat} {x : α} (hx : l[n]? = some x) : R2r K (rIxL K) l (n : Int) x := fun H v u e1 e2 Q q => by
  obtain ⟨a, vs, rfl, h2, h3⟩ := e1
  cases (show u = .int (n : Int) from e2)
  obtain ⟨w, hw, rw⟩ := paired_get h3 hx
  exact ⟨a, vs, n, w, rfl, rfl, h2.seq, atI_nat hw, q w H (Same.refl _) rw⟩
theorem rr_ixI {l : List α} {n : Nat} {x : α} (hi : i = (n : Int)) (hx : l[n]? = some x) : R2r K (rIxL K) l i x := by subst hi; exact rr_ixL hx
theorem rr_ixLast {l : List α} {x : α} (hx : l.getLast? = some x) : R2r K (rIxL K) l (-1 : Int) x := fun H v u e1 e2 Q q => by
  obtain ⟨a, vs, rfl, h2, h3⟩ := e1
  cases (show u = .int (-1) from e2)
  have hn : 0 < l.length := by cases l with
    | nil => cases hx
    | cons _ _ => exact Nat.succ_pos _
  rw [List.getLast?_eq_getElem?] at hx
  obtain ⟨w, hw, rw'⟩ := paired_get h3 hx
  have hl := paired_len h3
  refine ⟨a, vs, -1, w, rfl, rfl, h2.seq, ?_, q w H (Same.refl _) rw'⟩
  rw [← hl] at hw
  unfold atI ixN
  rw [if_neg (by omega), if_pos (by omega)]
  have e : ((-1 : Int) + (vs.length : Int)).toNat = vs.length - 1 := by omega
  rw [e]
  exact hw
theorem rr_ixP0 {p : α × β} : R2r K (rIxT K) p (0 : Int) p.1 := fun H v u e1 e2 Q q => by
  obtain ⟨a, v1, v2, rfl, h2, h3, h4⟩ := e1
  cases (show u = .int 0 from e2)
  exact ⟨a, _, 0, v1, rfl, rfl, h2, atI_nat (j := 0) rfl, q _ H (Same.refl _) h3⟩
theorem rr_ixP1 {p : α × β} : R2r K (rIxT K) p (1 : Int) p.2 := fun H v u e1 e2 Q q => by
  obtain ⟨a, v1, v2, rfl, h2, h3, h4⟩ := e1
  cases (show u = .int 1 from e2)
  exact ⟨a, _, 1, v2, rfl, rfl, h2, atI_nat (j := 1) rfl, q _ H (Same.refl _) h4⟩
theorem rr_ixA {p : T3 α β γ} : R2r K (rIxT K) p (0 : Int) p.a := fun H v u e1 e2 Q q => by
  obtain ⟨a, v1, v2, v3, rfl, h2, h3, h4, h5⟩ := e1
  cases (show u = .int 0 from e2)
  exact ⟨a, _, 0, v1, rfl, rfl, h2, atI_nat (j := 0) rfl, q _ H (Same.refl _) h3⟩
theorem rr_ixB {p : T3 α β γ} : R2r K (rIxT K) p (1 : Int) p.b := fun H v u e1 e2 Q q => by
  obtain ⟨a, v1, v2, v3, rfl, h2, h3, h4, h5⟩ := e1
  cases (show u = .int 1 from e2)
  exact ⟨a, _, 1, v2, rfl, rfl, h2, atI_nat (j := 1) rfl, q _ H (Same.refl _) h4⟩
theorem rr_ixC {p : T3 α β γ} : R2r K (rIxT K) p (2 : Int) p.c := fun H v u e1 e2 Q q => by
  obtain ⟨a, v1, v2, v3, rfl, h2, h3, h4, h5⟩ := e1
  cases (show u = .int 2 from e2)
  exact ⟨a, _, 2, v3, rfl, rfl, h2, atI_nat (j := 2) rfl, q _ H (Same.refl _) h5⟩
/-! one operand -/
theorem er_neg (h : Er K te σ H i) : Er K (tUn (rU fun i => .int (-i)) te) σ H (-i) := fun H1 e Q q => h H1 e _ fun v H2 e2 r => ⟨i, r, q _ H2 e2 rfl⟩
/-! chains, tests -/
theorem er_chain {b b' : Bool} (ha : Er K ta σ H x) (hb : Er K tb σ H y) (hc : Er K tc σ H z) (h1 : R2r K r x y b) (h2 : R2r K r' y z b') : Er K (tChain r r' ta tb tc) σ H (b && b') := fun H1 e Q q =>
  ha H1 e _ fun v H2 e2 r2 => hb H2 (e.trans e2) _ fun u H3 e3 r3 => h1 H3 v u (Rp.mono (SF.of e3) r2) r3 _ fun w H4 e4 r4 => ⟨b, r4, by
    cases b with
    | true =>
      refine iteT ?_
      exact hc H4 (((e.trans e2).trans e3).trans e4) _ fun w' H5 e5 r5 => h2 H5 u w' (Rp.mono (SF.of (e4.trans e5)) r3) r5 Q fun w2 H6 e6 r6 => q w2 H6 ((((e2.trans e3).trans e4).trans e5).trans e6) r6
    | false =>
      refine iteF ?_
      exact q _ H4 ((e2.trans e3).trans e4) rfl⟩
theorem et_test (h : Er K te σ H b) : Et K (tTest te) σ H b := fun H1 e _ q => h H1 e _ fun v H2 e2 r => ⟨b, r, q H2 e2⟩
theorem et_B (h : Er K te σ H b) : Et K (tB te) σ H b := fun H1 e _ q => h H1 e _ fun v H2 e2 r => ⟨b, r, q H2 e2⟩
theorem et_and (h1 : Et K tt σ H b) (h2 : b = true → Et K uu σ H c) : Et K (tAnd tt uu) σ H (b && c) := fun H1 e Q q => h1 H1 e _ fun H2 e2 => by
  cases b with
  | true => exact iteT (h2 rfl H2 (e.trans e2) Q fun H3 e3 => q H3 (e2.trans e3))
  | false => exact iteF (q H2 e2)
theorem et_or (h1 : Et K tt σ H b) (h2 : b = false → Et K uu σ H c) : Et K (tOr tt uu) σ H (b || c) := fun H1 e Q q => h1 H1 e _ fun H2 e2 => by
  cases b with
  | true => exact iteT (q H2 e2)
  | false => exact iteF (h2 rfl H2 (e.trans e2) Q fun H3 e3 => q H3 (e2.trans e3))
theorem et_not (h1 : Et K tt σ H b) : Et K (tNot tt) σ H (!b) := fun H1 e _ q => h1 H1 e _ fun H2 e2 => q H2 e2
theorem et_yes : Et K tYes σ H true := fun H1 e _ q => q H1 (Same.refl _)
theorem er_andV (h1 : Er K ta σ H b) (h2 : b = true → Er K tb σ H c) : Er K (tAndV ta tb) σ H (b && c) := fun H1 e Q q => h1 H1 e _ fun v H2 e2 r => ⟨b, r, by
  cases b with
  | true => exact iteT (h2 rfl H2 (e.trans e2) Q fun v H3 e3 r3 => q v H3 (e2.trans e3) r3)
  | false => exact iteF (q _ H2 e2 rfl)⟩
theorem er_orV (h1 : Er K ta σ H b) (h2 : b = false → Er K tb σ H c) : Er K (tOrV ta tb) σ H (b || c) := fun H1 e Q q => h1 H1 e _ fun v H2 e2 r => ⟨b, r, by
  cases b with
  | true => exact iteT (q _ H2 e2 rfl)
  | false => exact iteF (h2 rfl H2 (e.trans e2) Q fun v H3 e3 r3 => q v H3 (e2.trans e3) r3)⟩
theorem er_notV (h1 : Er K ta σ H b) : Er K (tNotV ta) σ H (!b) := fun H1 e Q q => h1 H1 e _ fun v H2 e2 r => ⟨b, r, q _ H2 e2 rfl⟩
theorem er_if {x' : α} (h : Et K tt σ H b) (h1 : b = true → Er K ta σ H x) (h2 : b = false → Er K tb σ H x') : Er K (tIf tt ta tb) σ H (if b = true then x else x') := fun H1 e Q q => h H1 e _ fun H2 e2 => by
  cases b with
  | true => exact iteT (h1 rfl H2 (e.trans e2) Q fun v H3 e3 r3 => q v H3 (e2.trans e3) (by rw [if_pos rfl]; exact r3))
  | false => exact iteF (h2 rfl H2 (e.trans e2) Q fun v H3 e3 r3 => q v H3 (e2.trans e3) (by rw [if_neg Bool.false_ne_true]; exact r3))
theorem erl_if {l l' : List α} (h : Et K tt σ H b) (h1 : b = true → ErL K ta σ H l) (h2 : b = false → ErL K tb σ H l') : ErL K (tIf tt ta tb) σ H (if b = true then l else l') := fun H1 e Q q => h H1 e _ fun H2 e2 => by
  cases b with
  | true => exact iteT (h1 rfl H2 (e.trans e2) Q fun p vs H3 e3 hp h3 r3 => q p vs H3 (e2.trans e3) (e2.free hp) h3 (by rw [if_pos rfl]; exact r3))
  | false => exact iteF (h2 rfl H2 (e.trans e2) Q fun p vs H3 e3 hp h3 r3 => q p vs H3 (e2.trans e3) (e2.free hp) h3 (by rw [if_neg Bool.false_ne_true]; exact r3))
/-! displays -/
theorem er_pair (h1 : Er K ta σ H x) (h2 : Er K tb σ H y) : Er K (tTup (tCons ta (tCons tb tNil))) σ H (x, y) := fun H1 e Q q =>
  h1 H1 e _ fun v H2 e2 r2 => h2 H2 (e.trans e2) _ fun u H3 e3 r3 => ⟨by show 2 ≤ sizeLine; decide, fun p hp =>
    q (.ref p) _ ((e2.trans e3).trans (same_new hp)) ⟨p, v, u, rfl, sq_tup upd_same, Rp.mono (SF.of (e3.trans (same_new hp))) r2, Rp.mono (SF.new hp) r3⟩⟩
theorem er_three (h1 : Er K ta σ H x) (h2 : Er K tb σ H y) (h3 : Er K tc σ H z) : Er K (tTup (tCons ta (tCons tb (tCons tc tNil)))) σ H (T3.mk x y z) := fun H1 e Q q =>
  h1 H1 e _ fun v H2 e2 r2 => h2 H2 (e.trans e2) _ fun u H3 e3 r3 => h3 H3 ((e.trans e2).trans e3) _ fun w H4 e4 r4 => ⟨by show 3 ≤ sizeLine; decide, fun p hp =>
    q (.ref p) _ (((e2.trans e3).trans e4).trans (same_new hp)) ⟨p, v, u, w, rfl, sq_tup upd_same, Rp.mono (SF.of ((e3.trans e4).trans (same_new hp))) r2, Rp.mono (SF.of (e4.trans (same_new hp))) r3, Rp.mono (SF.new hp) r4⟩⟩
theorem ea_nil : Ea K tNil σ H ([] : List α) := fun H1 _ _ q => q [] H1 (Same.refl _) .nil
theorem ea_cons {tr : TA} {l : List α} (h : Er K ta σ H x) (hr : Ea K tr σ H l) : Ea K (tCons ta tr) σ H (x :: l) := fun H1 e _ q =>
  h H1 e _ fun v H2 e2 r2 => hr H2 (e.trans e2) _ fun vs H3 e3 r3 => q _ H3 (e2.trans e3) (.cons (Rp.mono (SF.of e3) r2) r3)
theorem sz1000 {n : Nat} (h : n ≤ 1000000) : n ≤ sizeLine := Nat.le_trans h (by decide)
theorem erl_lst {t : TA} {l : List α} (h : Ea K t σ H l) (hz : l.length ≤ 1000000 := by first | decide | simp) : ErL K (tLst t) σ H l := fun H1 e Q q =>
  h H1 e _ fun vs H2 e2 r2 => ⟨by rw [paired_len r2]; exact sz1000 hz, fun p hp => q p vs _ (e2.trans (same_new hp)) (e2.free hp) upd_same (r2.mono (SF.new hp))⟩
theorem er_tuple {t : TA} {l : List α} (h : Ea K t σ H l) (hz : l.length ≤ 1000000 := by first | decide | simp) : Er K (tTup t) σ H (Tp.mk l) := fun H1 e Q q =>
  h H1 e _ fun vs H2 e2 r2 => ⟨by rw [paired_len r2]; exact sz1000 hz, fun p hp => q (.ref p) _ (e2.trans (same_new hp)) ⟨p, vs, rfl, sq_tup upd_same, r2.mono (SF.new hp)⟩⟩
theorem erl_cat {l l' : List α} (h1 : Er K ta σ H l) (h2 : Er K tb σ H l') (hz : l.length + l'.length ≤ 1000000) : ErL K (tOp rCatR ta tb) σ H (l ++ l') := fun H1 e Q q =>
  h1 H1 e _ fun v H2 e2 r2 => h2 H2 (e.trans e2) _ fun u H3 e3 r3 => by
    obtain ⟨a, vs, rfl, f1, p1⟩ := Rp.mono (SF.of e3) r2
    obtain ⟨b, us, rfl, f2, p2⟩ := r3
    refine ⟨a, b, vs, us, rfl, rfl, .inr f1, .inr f2, ?_, fun p hp => q p _ _ ((e2.trans e3).trans (same_new hp)) ((e2.trans e3).free hp) upd_same (RL.mono (SF.new hp) (paired_app p1 p2))⟩
    rw [paired_len p1, paired_len p2]; exact sz1000 hz
theorem paired_rep {F : V → α → Prop} {vs : List V} {l : List α} (h : Paired F vs l) : ∀ n : Nat, Paired F (List.replicate n vs).flatten (List.replicate n l).flatten
  | 0 => .nil
  | n + 1 => by
    rw [List.replicate_succ, List.replicate_succ, List.flatten_cons, List.flatten_cons]
    exact paired_app h (paired_rep h n)
theorem erl_rep {l : List α} {k : Int} (h1 : ErL K ta σ H l) (h2 : ∀ H', Same H H' → Er K tb σ H' k) (hk : -1000000 ≤ k ∧ k ≤ 1000000) (hz : l.length * k.toNat ≤ 1000000) : ErL K (tOp rRep ta tb) σ H (List.replicate k.toNat l).flatten := fun H1 e Q q =>
  h1 H1 e _ fun a vs H2 e2 hp h2' p1 => h2 H2 (e.trans e2) H2 (Same.refl _) _ fun u H3 e3 r3 => by
    cases (show u = .int k from r3)
    refine ⟨a, k, vs, rfl, rfl, e3 _ _ h2', by omega, by omega, ?_, fun p hp => q p _ _ ((e2.trans e3).trans (same_new hp)) ((e2.trans e3).free hp) upd_same (RL.mono ((SF.of e3).trans (SF.new hp)) (paired_rep p1 k.toNat))⟩
    rw [paired_len p1]; exact sz1000 hz
end
end BL

set_option Elab.async false
set_option linter.all false
set_option maxRecDepth 100000
set_option maxHeartbeats 2000000
namespace BL
open PySem PySem.Spec PyProof.Rows L2
/-! ### plain functions that the built-ins answer by -/
def mxl : List Int → Int
  | [] => 0
  | [x] => x
  | x :: y :: r => max x (mxl (y :: r))
def mnl : List Int → Int
  | [] => 0
  | [x] => x
  | x :: y :: r => min x (mnl (y :: r))
theorem mxl_mem : ∀ {l : List Int}, l ≠ [] → mxl l ∈ l
  | [x], _ => List.mem_singleton.mpr rfl
  | x :: y :: r, _ => by
    have ih := mxl_mem (l := y :: r) (by simp)
    show max x (mxl (y :: r)) ∈ _
    rcases Int.le_total x (mxl (y :: r)) with h | h
    · rw [Int.max_eq_right h]; exact List.mem_cons_of_mem _ ih
    · rw [Int.max_eq_left h]; exact List.mem_cons_self ..
theorem mxl_le : ∀ {l : List Int} {x : Int}, x ∈ l → x ≤ mxl l
  | [y], x, h => by rw [List.mem_singleton.mp h]; exact Int.le_refl _
  | y :: z :: r, x, h => by
    show x ≤ max y (mxl (z :: r))
    rcases List.mem_cons.mp h with h | h
    · subst h; exact Int.le_max_left ..
    · exact Int.le_trans (mxl_le h) (Int.le_max_right ..)
theorem mnl_mem : ∀ {l : List Int}, l ≠ [] → mnl l ∈ l
  | [x], _ => List.mem_singleton.mpr rfl
  | x :: y :: r, _ => by
    have ih := mnl_mem (l := y :: r) (by simp)
    show min x (mnl (y :: r)) ∈ _
    rcases Int.le_total x (mnl (y :: r)) with h | h
    · rw [Int.min_eq_left h]; exact List.mem_cons_self ..
    · rw [Int.min_eq_right h]; exact List.mem_cons_of_mem _ ih
theorem mnl_le : ∀ {l : List Int} {x : Int}, x ∈ l → mnl l ≤ x
  | [y], x, h => by rw [List.mem_singleton.mp h]; exact Int.le_refl _
  | y :: z :: r, x, h => by
    show min y (mnl (z :: r)) ≤ x
    rcases List.mem_cons.mp h with h | h
    · subst h; exact Int.min_le_left ..
    · exact Int.le_trans (Int.min_le_right ..) (mnl_le h)
theorem mxl_eq {l : List Int} {m : Int} (h1 : m ∈ l) (h2 : ∀ y ∈ l, y ≤ m) : m = mxl l := by
  have h3 := h2 _ (mxl_mem (l := l) (by rintro rfl; cases h1))
  have h4 := mxl_le h1
  omega
theorem mnl_eq {l : List Int} {m : Int} (h1 : m ∈ l) (h2 : ∀ y ∈ l, m ≤ y) : m = mnl l := by
  have h3 := h2 _ (mnl_mem (l := l) (by rintro rfl; cases h1))
  have h4 := mnl_le h1
  omega
/-- sorted, ascending -/
def ins (x : Int) : List Int → List Int
  | [] => [x]
  | y :: r => if x ≤ y then x :: y :: r else y :: ins x r
def srt : List Int → List Int
  | [] => []
  | x :: r => ins x (srt r)
theorem ins_perm (x : Int) : ∀ l : List Int, (ins x l).Perm (x :: l)
  | [] => .refl _
  | y :: r => by
    unfold ins
    split
    · exact .refl _
    · exact ((ins_perm x r).cons y).trans (.swap ..)
theorem srt_perm : ∀ l : List Int, (srt l).Perm l
  | [] => .refl _
  | x :: r => (ins_perm x (srt r)).trans ((srt_perm r).cons x)
theorem ins_sorted (x : Int) : ∀ {l : List Int}, l.Pairwise (· ≤ ·) → (ins x l).Pairwise (· ≤ ·)
  | [], _ => by simp [ins]
  | y :: r, h => by
    obtain ⟨h1, h2⟩ := List.pairwise_cons.mp h
    unfold ins
    split
    · rename_i hxy
      refine List.pairwise_cons.mpr ⟨fun z hz => ?_, h⟩
      rcases List.mem_cons.mp hz with hz | hz
      · subst hz; exact hxy
      · exact Int.le_trans hxy (h1 z hz)
    · rename_i hxy
      refine List.pairwise_cons.mpr ⟨fun z hz => ?_, ins_sorted x h2⟩
      rcases List.mem_cons.mp ((ins_perm x r).mem_iff.mp hz) with hz | hz
      · subst hz; omega
      · exact h1 z hz
theorem srt_sorted : ∀ l : List Int, (srt l).Pairwise (· ≤ ·)
  | [] => .nil
  | x :: r => ins_sorted x (srt_sorted r)
theorem srt_uniq : ∀ {l r : List Int}, l.Perm r → l.Pairwise (· ≤ ·) → r.Pairwise (· ≤ ·) → l = r
  | [], r, h, _, _ => (List.Perm.nil_eq h)
  | x :: l, [], h, _, _ => absurd h.length_eq (by simp)
  | x :: l, y :: r, h, h1, h2 => by
    obtain ⟨a1, a2⟩ := List.pairwise_cons.mp h1
    obtain ⟨b1, b2⟩ := List.pairwise_cons.mp h2
    have e : x = y := by
      have m1 : x ∈ y :: r := h.mem_iff.mp (List.mem_cons_self ..)
      have m2 : y ∈ x :: l := h.mem_iff.mpr (List.mem_cons_self ..)
      have q1 : y ≤ x := by
        rcases List.mem_cons.mp m1 with m | m
        · omega
        · exact b1 x m
      have q2 : x ≤ y := by
        rcases List.mem_cons.mp m2 with m | m
        · omega
        · exact a1 y m
      omega
    subst e
    rw [srt_uniq (List.Perm.cons_inv h) a2 b2]
theorem srt_eq {l r : List Int} (h : l.Perm r) (hs : l.Pairwise (· ≤ ·)) : l = srt r := srt_uniq (h.trans (srt_perm r).symm) hs (srt_sorted r)
theorem srt_len (l : List Int) : (srt l).length = l.length := (srt_perm l).length_eq
def iabs (i : Int) : Int := if i < 0 then -i else i
section
variable {K : Fg} {σ : L2.St} {H H' H1 : Hp} {ta tb tc td te : TE} {tt uu : TT} {α β γ δ : Type} [Rp α] [Rp β] [Rp γ] [Rp δ] {x : α} {y : β} {z : γ} {v u : V} {i j : Int} {b c : Bool}
/-! ### built-ins -/
theorem er_cb1 {r : List V → Hp → VK → Prop} (h : Er K ta σ H x) (hr : ∀ H v, Rp.rep K H v x → ∀ Q : VK, (∀ w H', Same H H' → Rp.rep K H' w y → Q w H') → r [v] H Q) : Er K (tCB r (tCons ta tNil)) σ H y := fun H1 e Q q =>
  h H1 e _ fun v H2 e2 r2 => hr H2 v r2 Q fun w H3 e3 r3 => q w H3 (e2.trans e3) r3
theorem er_cb2 {r : List V → Hp → VK → Prop} (h : Er K ta σ H x) (h' : Er K tb σ H y) (hr : ∀ H v u, Rp.rep K H v x → Rp.rep K H u y → ∀ Q : VK, (∀ w H', Same H H' → Rp.rep K H' w z → Q w H') → r [v, u] H Q) : Er K (tCB r (tCons ta (tCons tb tNil))) σ H z := fun H1 e Q q =>
  h H1 e _ fun v H2 e2 r2 => h' H2 (e.trans e2) _ fun u H3 e3 r3 => hr H3 v u (Rp.mono (SF.of e3) r2) r3 Q fun w H4 e4 r4 => q w H4 ((e2.trans e3).trans e4) r4
theorem erl_cb1 {r : List V → Hp → VK → Prop} {l : List β} (h : Er K ta σ H x) (hr : ∀ H v, Rp.rep K H v x → ∀ Q : VK, (∀ p vs H', Same H H' → H p = none → H' p = some (.lst vs) → RL K H' vs l → Q (.ref p) H') → r [v] H Q) : ErL K (tCB r (tCons ta tNil)) σ H l := fun H1 e Q q =>
  h H1 e _ fun v H2 e2 r2 => hr H2 v r2 Q fun p vs H3 e3 hp h3 r3 => q p vs H3 (e2.trans e3) (e2.free hp) h3 r3
theorem er_sum {l : List Int} (h : Er K ta σ H l) : Er K (tCB (rSum K) (tCons ta tNil)) σ H l.sum := er_cb1 h fun H v r Q q => by
  obtain ⟨a, vs, rfl, h2, h3⟩ := r
  exact ⟨a, l, rfl, by rw [← rl_ints h3]; exact h2.seq, q _ H (Same.refl _) rfl⟩
abbrev rLenC (K : Fg) : List V → Hp → VK → Prop := fun xs H Q => ∃ p ys, xs = [.ref p] ∧ (SqL K H p ys ∨ SqT K H p ys) ∧ Q (.int (ys.length : Int)) H
theorem er_len {l : List α} (h : Er K ta σ H l) : Er K (tCB (rLenC K) (tCons ta tNil)) σ H l.length := er_cb1 h fun H v r Q q => by
  obtain ⟨a, vs, rfl, h2, h3⟩ := r
  exact ⟨a, vs, rfl, .inl h2.seq, by rw [paired_len h3]; exact q _ H (Same.refl _) rfl⟩
theorem er_lenP {p : α × β} (h : Er K ta σ H p) : Er K (tCB (rLenC K) (tCons ta tNil)) σ H (2 : Int) := er_cb1 h fun H v r Q q => by
  obtain ⟨a, v1, v2, rfl, h2, _⟩ := r
  exact ⟨a, _, rfl, .inr h2, q _ H (Same.refl _) rfl⟩
theorem er_lenT {t : Tp α} (h : Er K ta σ H t) : Er K (tCB (rLenC K) (tCons ta tNil)) σ H t.l.length := er_cb1 h fun H v r Q q => by
  obtain ⟨a, vs, rfl, h2, h3⟩ := r
  exact ⟨a, vs, rfl, .inr h2, by rw [paired_len h3]; exact q _ H (Same.refl _) rfl⟩
theorem er_max {l : List Int} (h : Er K ta σ H l) (hn : l ≠ []) : Er K (tCB (rMax K) (tCons ta tNil)) σ H (mxl l) := er_cb1 h fun H v r Q q => by
  obtain ⟨a, vs, rfl, h2, h3⟩ := r
  exact ⟨a, l, rfl, by rw [← rl_ints h3]; exact h2.seq, List.length_pos_iff.mpr hn, fun m h1 h2 => q _ H (Same.refl _) (by rw [← mxl_eq h1 h2]; rfl)⟩
theorem er_min {l : List Int} (h : Er K ta σ H l) (hn : l ≠ []) : Er K (tCB (rMin K) (tCons ta tNil)) σ H (mnl l) := er_cb1 h fun H v r Q q => by
  obtain ⟨a, vs, rfl, h2, h3⟩ := r
  exact ⟨a, l, rfl, by rw [← rl_ints h3]; exact h2.seq, List.length_pos_iff.mpr hn, fun m h1 h2 => q _ H (Same.refl _) (by rw [← mnl_eq h1 h2]; rfl)⟩
abbrev rMax2C : List V → Hp → VK → Prop := fun xs H Q => ∃ i j, xs = [.int i, .int j] ∧ Q (.int (if j > i then j else i)) H
abbrev rMin2C : List V → Hp → VK → Prop := fun xs H Q => ∃ i j, xs = [.int i, .int j] ∧ Q (.int (if j < i then j else i)) H
abbrev rAbsC : List V → Hp → VK → Prop := fun xs H Q => ∃ i, xs = [.int i] ∧ Q (.int (if i < 0 then -i else i)) H
theorem er_max2 (h : Er K ta σ H i) (h' : Er K tb σ H j) : Er K (tCB rMax2C (tCons ta (tCons tb tNil))) σ H (max i j) := er_cb2 h h' fun H v u e1 e2 Q q => by
  cases (show v = .int i from e1); cases (show u = .int j from e2)
  refine ⟨i, j, rfl, q _ H (Same.refl _) (congrArg V.int ?_)⟩
  split <;> omega
theorem er_min2 (h : Er K ta σ H i) (h' : Er K tb σ H j) : Er K (tCB rMin2C (tCons ta (tCons tb tNil))) σ H (min i j) := er_cb2 h h' fun H v u e1 e2 Q q => by
  cases (show v = .int i from e1); cases (show u = .int j from e2)
  refine ⟨i, j, rfl, q _ H (Same.refl _) (congrArg V.int ?_)⟩
  split <;> omega
theorem er_abs (h : Er K ta σ H i) : Er K (tCB rAbsC (tCons ta tNil)) σ H (iabs i) := er_cb1 h fun H v e1 Q q => by
  cases (show v = .int i from e1)
  exact ⟨i, rfl, q _ H (Same.refl _) rfl⟩
theorem erl_sorted {l : List Int} (h : Er K ta σ H l) : ErL K (tCB (rSortedI K) (tCons ta tNil)) σ H (srt l) := erl_cb1 h fun H v r Q q => by
  obtain ⟨a, vs, rfl, h2, h3⟩ := r
  refine ⟨a, l, rfl, by rw [← rl_ints h3]; exact h2.seq, fun ns' p hp hs hn => q p _ _ (same_new hn) hn upd_same ?_⟩
  rw [srt_eq hp hs]; exact rl_of_ints _
theorem er_all {l : List Bool} (h : Er K ta σ H l) : Er K (tCB (rAll K) (tCons ta tNil)) σ H (l.all id) := er_cb1 h fun H v r Q q => by
  obtain ⟨a, vs, rfl, h2, h3⟩ := r
  exact ⟨a, l, rfl, by rw [← rl_bools h3]; exact h2.seq, q _ H (Same.refl _) rfl⟩
theorem er_any {l : List Bool} (h : Er K ta σ H l) : Er K (tCB (rAny K) (tCons ta tNil)) σ H (l.any id) := er_cb1 h fun H v r Q q => by
  obtain ⟨a, vs, rfl, h2, h3⟩ := r
  exact ⟨a, l, rfl, by rw [← rl_bools h3]; exact h2.seq, q _ H (Same.refl _) rfl⟩
abbrev rListC (K : Fg) : List V → Hp → VK → Prop := fun xs H Q => ∃ p ys, xs = [.ref p] ∧ (SqL K H p ys ∨ SqT K H p ys) ∧ ∀ l, H l = none → Q (.ref l) (upd H l (.lst ys))
theorem erl_list {l : List α} (h : Er K ta σ H l) : ErL K (tCB (rListC K) (tCons ta tNil)) σ H l := erl_cb1 h fun H v r Q q => by
  obtain ⟨a, vs, rfl, h2, h3⟩ := r
  exact ⟨a, vs, rfl, .inl h2.seq, fun p hp => q p vs _ (same_new hp) hp upd_same (h3.mono (SF.new hp))⟩
theorem erl_listT {t : Tp α} (h : Er K ta σ H t) : ErL K (tCB (rListC K) (tCons ta tNil)) σ H t.l := erl_cb1 h fun H v r Q q => by
  obtain ⟨a, vs, rfl, h2, h3⟩ := r
  exact ⟨a, vs, rfl, .inr h2, fun p hp => q p vs _ (same_new hp) hp upd_same (h3.mono (SF.new hp))⟩
/-! ### isinstance -/
class Ty (α : Type) [Rp α] where
  n : α → String
  ty : ∀ {K : Fg} {H : Hp} {v : V} {x : α}, Rp.rep K H v x → TyX K H v (.type (n x))
instance : Ty Int := ⟨fun _ => "int", fun {K H v x} h => by cases (show v = .int x from h); exact .base (.int _)⟩
instance : Ty Nat := ⟨fun _ => "int", fun {K H v x} h => by cases (show v = .int (x : Int) from h); exact .base (.int _)⟩
instance : Ty Bool := ⟨fun _ => "bool", fun {K H v x} h => by cases (show v = .bl x from h); exact .base (.bl _)⟩
instance : Ty Str := ⟨fun _ => "str", fun {K H v x} h => by cases (show v = .str x from h); exact .base (.str _)⟩
instance : Ty Unit := ⟨fun _ => "NoneType", fun {K H v x} h => by cases (show v = .non from h); exact .base .non⟩
theorem ty_tup {a : Addr} {vs : List V} (h : SqT K H a vs) : TyX K H (.ref a) (.type "tuple") := by
  rcases h with (h | ⟨o, h⟩) | ⟨o, its, n, h, hc, _⟩
  · exact .base (.tup h)
  · exact .fTuple h
  · exact .kTuple h hc
instance {α : Type} [Rp α] : Ty (List α) := ⟨fun _ => "list", fun {K H v x} h => by obtain ⟨a, vs, rfl, ⟨o, h2⟩, _⟩ := h; exact .base (.frz h2)⟩
instance {α β : Type} [Rp α] [Rp β] : Ty (α × β) := ⟨fun _ => "tuple", fun {K H v x} h => by obtain ⟨a, v1, v2, rfl, h2, _⟩ := h; exact ty_tup h2⟩
instance {α β γ : Type} [Rp α] [Rp β] [Rp γ] : Ty (T3 α β γ) := ⟨fun _ => "tuple", fun {K H v x} h => by obtain ⟨a, v1, v2, v3, rfl, h2, _⟩ := h; exact ty_tup h2⟩
instance {α : Type} [Rp α] : Ty (Tp α) := ⟨fun _ => "tuple", fun {K H v x} h => by obtain ⟨a, vs, rfl, h2, _⟩ := h; exact ty_tup h2⟩
theorem er_isi [Ty α] {s : String} {b : Bool} (h : Er K ta σ H x) (hb : kitB (Ty.n x) s = some b) : Er K (tCB (rIsi K) (tCons ta (tCons (tC (.ty s)) tNil))) σ H b := fun H1 e Q q =>
  h H1 e _ fun v H2 e2 r2 => ⟨v, .ty s, .type (Ty.n x), .type s, b, rfl, .ty s, Ty.ty r2, kit_ty hb, q _ H2 e2 rfl⟩
/-! ### slices -/
theorem paired_cut {F : V → α → Prop} {vs : List V} {l : List α} (h : Paired F vs l) (n m : Nat) : Paired F ((vs.drop n).take m) ((l.drop n).take m) := paired_take m (paired_drop n h)
def Eo (K : Fg) (to : TO) (σ : L2.St) (H : Hp) (o : Option Int) : Prop := ∀ H1, Same H H1 → ∀ Q : Option Int → Hp → Prop, (∀ H2, Same H1 H2 → Q o H2) → to σ H1 Q
theorem eo_none : Eo K tNoPart σ H none := fun H1 _ _ q => q H1 (Same.refl _)
theorem eo_some (h : Er K te σ H i) : Eo K (tPart te) σ H (some i) := fun H1 e _ q => h H1 e _ fun v H2 e2 r => ⟨i, r, q H2 e2⟩
def cutL (l : List α) (lo hi : Option Int) : List α := (l.drop (HT.sIx l.length 0 lo)).take (HT.sIx l.length l.length hi - HT.sIx l.length 0 lo)
theorem erl_sl {tl th : TO} {l : List α} {lo hi : Option Int} (h : Er K te σ H l) (h1 : Eo K tl σ H lo) (h2 : Eo K th σ H hi) : ErL K (tSl (rSlL K) te tl th) σ H (cutL l lo hi) := fun H1 e Q q =>
  h H1 e _ fun v H2 e2 r2 => h1 H2 (e.trans e2) _ fun H3 e3 => h2 H3 ((e.trans e2).trans e3) _ fun H4 e4 => by
    obtain ⟨a, vs, rfl, f, p⟩ := r2
    have f4 : Fz H4 a vs := f.sf (SF.of (e3.trans e4))
    have p4 : RL K H4 vs l := p.mono (SF.of (e3.trans e4))
    refine ⟨a, vs, rfl, f4.seq, fun n hn => q n _ _ (((e2.trans e3).trans e4).trans (same_new hn)) (((e2.trans e3).trans e4).free hn) upd_same ?_⟩
    have hc : RL K H4 (cutV vs lo hi) (cutL l lo hi) := by
      unfold cutV cutL
      rw [paired_len p4]
      exact paired_cut p4 _ _
    exact hc.mono (SF.new hn)
theorem cutL_from (l : List α) (n : Nat) : cutL l (some (n : Int)) none = l.drop n := by
  unfold cutL
  rw [HT.sIx_nat, HT.sIx_none]
  by_cases h : n ≤ l.length
  · rw [Nat.min_eq_left h, List.take_of_length_le (by rw [List.length_drop]; omega)]
  · rw [Nat.min_eq_right (by omega), List.drop_of_length_le (Nat.le_refl _), List.drop_of_length_le (by omega)]; simp
theorem cutL_to (l : List α) (n : Nat) : cutL l none (some (n : Int)) = l.take n := by
  unfold cutL
  rw [HT.sIx_nat, HT.sIx_none, List.drop_zero, Nat.sub_zero]
  by_cases h : n ≤ l.length
  · rw [Nat.min_eq_left h]
  · rw [Nat.min_eq_right (by omega), List.take_of_length_le (Nat.le_refl _), List.take_of_length_le (by omega)]
/-! ### promises: n arguments that stand for data, an answer, all that was tracked kept -/
def ansV (K : Fg) (y : β) (H : Hp) (Q : VK) : Prop := ∀ u H', Same H H' → Rp.rep K H' u y → Q u H'
def ansL (K : Fg) (l : List β) (H : Hp) (Q : VK) : Prop := ∀ p us H', Same H H' → H p = none → H' p = some (.lst us) → RL K H' us l → Q (.ref p) H'
def sp1 (K : Fg) (pre : α → Prop) (f : α → β) : Sp := fun vs H Q _ => ∃ v x, vs = [v] ∧ Rp.rep K H v x ∧ pre x ∧ ansV K (f x) H Q
def sp2 (K : Fg) (pre : α → β → Prop) (f : α → β → γ) : Sp := fun vs H Q _ => ∃ v u x y, vs = [v, u] ∧ Rp.rep K H v x ∧ Rp.rep K H u y ∧ pre x y ∧ ansV K (f x y) H Q
def sp3 (K : Fg) (pre : α → β → γ → Prop) (f : α → β → γ → δ) : Sp := fun vs H Q _ => ∃ v u w x y z, vs = [v, u, w] ∧ Rp.rep K H v x ∧ Rp.rep K H u y ∧ Rp.rep K H w z ∧ pre x y z ∧ ansV K (f x y z) H Q
def sl1 (K : Fg) (pre : α → Prop) (f : α → List β) : Sp := fun vs H Q _ => ∃ v x, vs = [v] ∧ Rp.rep K H v x ∧ pre x ∧ ansL K (f x) H Q
def sl2 (K : Fg) (pre : α → β → Prop) (f : α → β → List γ) : Sp := fun vs H Q _ => ∃ v u x y, vs = [v, u] ∧ Rp.rep K H v x ∧ Rp.rep K H u y ∧ pre x y ∧ ansL K (f x y) H Q
def sl3 (K : Fg) (pre : α → β → γ → Prop) (f : α → β → γ → List δ) : Sp := fun vs H Q _ => ∃ v u w x y z, vs = [v, u, w] ∧ Rp.rep K H v x ∧ Rp.rep K H u y ∧ Rp.rep K H w z ∧ pre x y z ∧ ansL K (f x y z) H Q
theorem er_call1 {pre : α → Prop} {f : α → β} {E : XK} (h : Er K ta σ H x) (hp : pre x) : Er K (tCall (sp1 K pre f) [] E (tCons ta tNil)) σ H (f x) := fun H1 e Q q =>
  h H1 e _ fun v H2 e2 r2 => ⟨v, x, rfl, r2, hp, fun u H3 e3 r3 => q u H3 (e2.trans e3) r3⟩
theorem er_call2 {pre : α → β → Prop} {f : α → β → γ} {E : XK} (h : Er K ta σ H x) (h' : Er K tb σ H y) (hp : pre x y) : Er K (tCall (sp2 K pre f) [] E (tCons ta (tCons tb tNil))) σ H (f x y) := fun H1 e Q q =>
  h H1 e _ fun v H2 e2 r2 => h' H2 (e.trans e2) _ fun u H3 e3 r3 => ⟨v, u, x, y, rfl, Rp.mono (SF.of e3) r2, r3, hp, fun u H4 e4 r4 => q u H4 ((e2.trans e3).trans e4) r4⟩
theorem er_call3 {pre : α → β → γ → Prop} {f : α → β → γ → δ} {E : XK} (h : Er K ta σ H x) (h' : Er K tb σ H y) (h'' : Er K tc σ H z) (hp : pre x y z) : Er K (tCall (sp3 K pre f) [] E (tCons ta (tCons tb (tCons tc tNil)))) σ H (f x y z) := fun H1 e Q q =>
  h H1 e _ fun v H2 e2 r2 => h' H2 (e.trans e2) _ fun u H3 e3 r3 => h'' H3 ((e.trans e2).trans e3) _ fun w H4 e4 r4 =>
    ⟨v, u, w, x, y, z, rfl, Rp.mono (SF.of (e3.trans e4)) r2, Rp.mono (SF.of e4) r3, r4, hp, fun u H5 e5 r5 => q u H5 (((e2.trans e3).trans e4).trans e5) r5⟩
theorem erl_call1 {pre : α → Prop} {f : α → List β} {E : XK} (h : Er K ta σ H x) (hp : pre x) : ErL K (tCall (sl1 K pre f) [] E (tCons ta tNil)) σ H (f x) := fun H1 e Q q =>
  h H1 e _ fun v H2 e2 r2 => ⟨v, x, rfl, r2, hp, fun p us H3 e3 hn h3 r3 => q p us H3 (e2.trans e3) (e2.free hn) h3 r3⟩
theorem erl_call2 {pre : α → β → Prop} {f : α → β → List γ} {E : XK} (h : Er K ta σ H x) (h' : Er K tb σ H y) (hp : pre x y) : ErL K (tCall (sl2 K pre f) [] E (tCons ta (tCons tb tNil))) σ H (f x y) := fun H1 e Q q =>
  h H1 e _ fun v H2 e2 r2 => h' H2 (e.trans e2) _ fun u H3 e3 r3 => ⟨v, u, x, y, rfl, Rp.mono (SF.of e3) r2, r3, hp, fun p us H4 e4 hn h4 r4 => q p us H4 ((e2.trans e3).trans e4) ((e2.trans e3).free hn) h4 r4⟩
theorem erl_call3 {pre : α → β → γ → Prop} {f : α → β → γ → List δ} {E : XK} (h : Er K ta σ H x) (h' : Er K tb σ H y) (h'' : Er K tc σ H z) (hp : pre x y z) : ErL K (tCall (sl3 K pre f) [] E (tCons ta (tCons tb (tCons tc tNil)))) σ H (f x y z) := fun H1 e Q q =>
  h H1 e _ fun v H2 e2 r2 => h' H2 (e.trans e2) _ fun u H3 e3 r3 => h'' H3 ((e.trans e2).trans e3) _ fun w H4 e4 r4 =>
    ⟨v, u, w, x, y, z, rfl, Rp.mono (SF.of (e3.trans e4)) r2, Rp.mono (SF.of e4) r3, r4, hp, fun p us H5 e5 hn h5 r5 => q p us H5 (((e2.trans e3).trans e4).trans e5) (((e2.trans e3).trans e4).free hn) h5 r5⟩
/-! ### statements -/
variable {D : Ends} {tu tw tz : TS} {g : TG}
theorem s_set {k : Nat} (h : Er K te σ H x) (q : ∀ v H1, Same H H1 → Rp.rep K H1 v x → D.nx (σ.set k (some v)) H1) : tAsg te (gName k) D σ H := h H (Same.refl _) _ q
theorem s_setL {k : Nat} {l : List α} (h : ErL K te σ H l) (q : ∀ p vs H1, Same H H1 → H p = none → H1 p = some (.lst vs) → RL K H1 vs l → D.nx (σ.set k (some (.ref p))) H1) : tAsg te (gName k) D σ H := h H (Same.refl _) _ q
theorem q_set {k : Nat} (h : Er K te σ H x) (q : ∀ v H1, Same H H1 → Rp.rep K H1 v x → tz D (σ.set k (some v)) H1) : tSeq (tAsg te (gName k)) tz D σ H := h H (Same.refl _) _ q
theorem q_setL {k : Nat} {l : List α} (h : ErL K te σ H l) (q : ∀ p vs H1, Same H H1 → H p = none → H1 p = some (.lst vs) → RL K H1 vs l → tz D (σ.set k (some (.ref p))) H1) : tSeq (tAsg te (gName k)) tz D σ H := h H (Same.refl _) _ q
theorem s_drop (h : Er K te σ H x) (q : ∀ H1, Same H H1 → D.nx σ H1) : tDrop te D σ H := h H (Same.refl _) _ fun _ H1 e _ => q H1 e
theorem q_drop (h : Er K te σ H x) (q : ∀ H1, Same H H1 → tz D σ H1) : tSeq (tDrop te) tz D σ H := h H (Same.refl _) _ fun _ H1 e _ => q H1 e
theorem s_par {k m : Nat} (h : Er K ta σ H x) (h' : Er K tb σ H y) (q : ∀ v u H1, Same H H1 → Rp.rep K H1 v x → Rp.rep K H1 u y → D.nx ((σ.set k (some v)).set m (some u)) H1) : tPar k m (tCons ta (tCons tb tNil)) D σ H :=
  h H (Same.refl _) _ fun v H1 e r => h' H1 e _ fun u H2 e2 r2 => ⟨v, u, rfl, q v u H2 (e.trans e2) (Rp.mono (SF.of e2) r) r2⟩
theorem q_par {k m : Nat} (h : Er K ta σ H x) (h' : Er K tb σ H y) (q : ∀ v u H1, Same H H1 → Rp.rep K H1 v x → Rp.rep K H1 u y → tz D ((σ.set k (some v)).set m (some u)) H1) : tSeq (tPar k m (tCons ta (tCons tb tNil))) tz D σ H :=
  s_par (D := { D with nx := tz D }) h h' q
theorem tg_pair {p : α × β} {k m : Nat} (h : Rp.rep K H v p) : ∃ v1 v2, Rp.rep K H v1 p.1 ∧ Rp.rep K H v2 p.2 ∧ ∀ Q : L2.St → Hp → Prop, Q ((σ.set k (some v1)).set m (some v2)) H → gTup K 2 (gCons (gName k) (gCons (gName m) gNil)) v σ H Q := by
  obtain ⟨a, v1, v2, rfl, h2, h3, h4⟩ := h
  exact ⟨v1, v2, h3, h4, fun Q q => ⟨a, _, rfl, h2, rfl, v1, _, rfl, v2, _, rfl, rfl, q⟩⟩
theorem tg_three {p : T3 α β γ} {k m n : Nat} (h : Rp.rep K H v p) : ∃ v1 v2 v3, Rp.rep K H v1 p.a ∧ Rp.rep K H v2 p.b ∧ Rp.rep K H v3 p.c ∧ ∀ Q : L2.St → Hp → Prop, Q (((σ.set k (some v1)).set m (some v2)).set n (some v3)) H → gTup K 3 (gCons (gName k) (gCons (gName m) (gCons (gName n) gNil))) v σ H Q := by
  obtain ⟨a, v1, v2, v3, rfl, h2, h3, h4, h5⟩ := h
  exact ⟨v1, v2, v3, h3, h4, h5, fun Q q => ⟨a, _, rfl, h2, rfl, v1, _, rfl, v2, _, rfl, v3, _, rfl, rfl, q⟩⟩
theorem s_unp {p : α × β} {k m : Nat} (h : Er K te σ H p) (q : ∀ v u H1, Same H H1 → Rp.rep K H1 v p.1 → Rp.rep K H1 u p.2 → D.nx ((σ.set k (some v)).set m (some u)) H1) : tAsg te (gTup K 2 (gCons (gName k) (gCons (gName m) gNil))) D σ H :=
  h H (Same.refl _) _ fun v H1 e r => by
    obtain ⟨v1, v2, r1, r2, f⟩ := tg_pair (σ := σ) (k := k) (m := m) r
    exact f _ (q v1 v2 H1 e r1 r2)
theorem q_unp {p : α × β} {k m : Nat} (h : Er K te σ H p) (q : ∀ v u H1, Same H H1 → Rp.rep K H1 v p.1 → Rp.rep K H1 u p.2 → tz D ((σ.set k (some v)).set m (some u)) H1) : tSeq (tAsg te (gTup K 2 (gCons (gName k) (gCons (gName m) gNil)))) tz D σ H :=
  s_unp (D := { D with nx := tz D }) h q
theorem s_ret (h : Er K te σ H x) (q : ∀ v H1, Same H H1 → Rp.rep K H1 v x → D.rt v H1) : tRet te D σ H := h H (Same.refl _) _ q
theorem s_retL {l : List α} (h : ErL K te σ H l) (q : ∀ p vs H1, Same H H1 → H p = none → H1 p = some (.lst vs) → RL K H1 vs l → D.rt (.ref p) H1) : tRet te D σ H := h H (Same.refl _) _ q
theorem s_if (h : Et K tt σ H b) (h1 : b = true → ∀ H1, Same H H1 → tu D σ H1) (h2 : b = false → ∀ H1, Same H H1 → tw D σ H1) : tIfS tt tu tw D σ H := h H (Same.refl _) _ fun H1 e => by
  cases b with
  | true => exact iteT (h1 rfl H1 e)
  | false => exact iteF (h2 rfl H1 e)
theorem q_if (h : Et K tt σ H b) (h1 : b = true → ∀ H1, Same H H1 → tu { D with nx := tz D } σ H1) (h2 : b = false → ∀ H1, Same H H1 → tw { D with nx := tz D } σ H1) : tSeq (tIfS tt tu tw) tz D σ H := s_if (D := { D with nx := tz D }) h h1 h2
theorem q_when (h : Et K tt σ H b) (h1 : b = true → ∀ H1, Same H H1 → tu { D with nx := tz D } σ H1) (h2 : b = false → ∀ H1, Same H H1 → tz D σ H1) : tSeq (tIfS tt tu tNext) tz D σ H := s_if (D := { D with nx := tz D }) h h1 h2
/-- the test is known not to hold -/
theorem q_not (h : Et K tt σ H b) (hb : b = false) (q : ∀ H1, Same H H1 → tz D σ H1) : tSeq (tIfS tt tu tNext) tz D σ H := q_when h (fun e => by rw [hb] at e; cases e) fun _ => q
theorem s_not (h : Et K tt σ H b) (hb : b = false) (q : ∀ H1, Same H H1 → D.nx σ H1) : tIfS tt tu tNext D σ H := s_if h (fun e => by rw [hb] at e; cases e) fun _ => q
/-! lists not locked yet -/
def Un (K : Fg) (H : Hp) (p : Addr) (l : List α) : Prop := ∃ vs, H p = some (.lst vs) ∧ RL K H vs l
theorem Un.of {p : Addr} {vs : List V} {l : List α} (h : H p = some (.lst vs)) (r : RL K H vs l) : Un K H p l := ⟨vs, h, r⟩
theorem Un.mono {p : Addr} {l : List α} (e : Same H H') (h : Un K H p l) : Un K H' p l := by
  obtain ⟨vs, h, r⟩ := h; exact ⟨vs, e _ _ h, r.mono (SF.of e)⟩
/-- from H to H' the list at p alone has changed, new things are there -/
structure Mu (p : Addr) (H H' : Hp) : Prop where
  sf : SF H H'
  ne : ∀ q o, q ≠ p → H q = some o → H' q = some o
theorem Mu.base {p : Addr} {H0 : Hp} (m : Mu p H H') (e : Same H0 H) (h : H0 p = none) : Same H0 H' := fun a o ha => m.ne a o (ne_of_none ha h) (e a o ha)
theorem Mu.trans {p : Addr} {H2 : Hp} (m : Mu p H H') (n : Mu p H' H2) : Mu p H H2 := ⟨m.sf.trans n.sf, fun q o h e => n.ne q o h (m.ne q o h e)⟩
theorem Mu.of {p : Addr} (e : Same H H') : Mu p H H' := ⟨SF.of e, fun q o _ h => e q o h⟩
theorem mu_upd {p : Addr} {vs : List V} {o : HO} (e : Same H H1) (h : H p = some (.lst vs)) : Mu p H (upd H1 p o) := ⟨(SF.of e).trans (SF.lst (e _ _ h)), fun q u n hq => by rw [upd_ne n]; exact e _ _ hq⟩
theorem Un.ne {p q : Addr} {l : List α} (m : Mu p H H') (n : q ≠ p) (h : Un K H q l) : Un K H' q l := by
  obtain ⟨vs, h, r⟩ := h; exact ⟨vs, m.ne _ _ n h, r.mono m.sf⟩
theorem s_app {k : Nat} {p : Addr} {l : List α} (hσ : σ[k]? = some (some (.ref p))) (hu : Un K H p l) (h : Er K te σ H x) (hz : l.length < 1000000) (q : ∀ H2, Mu p H H2 → Un K H2 p (l ++ [x]) → D.nx σ H2) :
    tDrop (tBM K "list" rAppend (tVar k) (tCons te tNil)) D σ H := by
  obtain ⟨vs, hp, r⟩ := hu
  refine ⟨.ref p, hσ, Or.inl ⟨rfl, vs, sq_lst hp⟩, ?_⟩
  refine h H (Same.refl _) _ fun v H2 e2 r2 => ⟨p, vs, v, rfl, rfl, e2 _ _ hp, ?_, q _ (mu_upd e2 hp) ⟨_, upd_same, RL.mono (SF.lst (e2 _ _ hp)) (paired_app (r.mono (SF.of e2)) (.cons r2 .nil))⟩⟩
  rw [paired_len r]; exact Nat.lt_of_lt_of_le hz (by decide)
theorem q_app {k : Nat} {p : Addr} {l : List α} (hσ : σ[k]? = some (some (.ref p))) (hu : Un K H p l) (h : Er K te σ H x) (hz : l.length < 1000000) (q : ∀ H2, Mu p H H2 → Un K H2 p (l ++ [x]) → tz D σ H2) :
    tSeq (tDrop (tBM K "list" rAppend (tVar k) (tCons te tNil))) tz D σ H := s_app (D := { D with nx := tz D }) hσ hu h hz q
theorem s_setI {k : Nat} {p : Addr} {l : List α} {n : Nat} (hσ : σ[k]? = some (some (.ref p))) (hu : Un K H p l) (h : Er K te σ H x) (hi : Er K tb σ H n) (hn : n < l.length) (q : ∀ H2, Mu p H H2 → Un K H2 p (l.set n x) → D.nx σ H2) :
    tAsg te (gSub (tVar k) tb rSetL) D σ H := by
  obtain ⟨vs, hp, r⟩ := hu
  refine h H (Same.refl _) _ fun v H2 e2 r2 => ⟨.ref p, hσ, hi H2 e2 _ fun u H3 e3 r3 => ?_⟩
  cases (show u = .int (n : Int) from r3)
  refine ⟨p, vs, (n : Int), n, rfl, rfl, (e2.trans e3) _ _ hp, ?_, q _ (mu_upd (e2.trans e3) hp) ⟨_, upd_same, RL.mono (SF.lst ((e2.trans e3) _ _ hp)) (paired_set (Rp.mono (SF.of e3) r2) n (r.mono (SF.of (e2.trans e3))))⟩⟩
  rw [paired_len r]
  unfold ixN
  rw [if_pos (by omega), if_pos (by omega)]; simp
theorem q_setI {k : Nat} {p : Addr} {l : List α} {n : Nat} (hσ : σ[k]? = some (some (.ref p))) (hu : Un K H p l) (h : Er K te σ H x) (hi : Er K tb σ H n) (hn : n < l.length) (q : ∀ H2, Mu p H H2 → Un K H2 p (l.set n x) → tz D σ H2) :
    tSeq (tAsg te (gSub (tVar k) tb rSetL)) tz D σ H := s_setI (D := { D with nx := tz D }) hσ hu h hi hn q
theorem er_ixU {k : Nat} {p : Addr} {l : List α} {n : Nat} {x : α} (hσ : σ[k]? = some (some (.ref p))) (hu : Un K H p l) (hi : Er K tb σ H (n : Int)) (hx : l[n]? = some x) : Er K (tOp (rIxL K) (tVar k) tb) σ H x := fun H1 e Q q => by
  obtain ⟨vs, hp, r⟩ := hu
  refine ⟨.ref p, hσ, hi H1 e _ fun u H2 e2 r2 => ?_⟩
  cases (show u = .int (n : Int) from r2)
  obtain ⟨w, hw, rw'⟩ := paired_get r hx
  exact ⟨p, vs, n, w, rfl, rfl, sq_lst ((e.trans e2) _ _ hp), atI_nat hw, q w H2 e2 (Rp.mono (SF.of (e.trans e2)) rw')⟩
theorem er_lenU {k : Nat} {p : Addr} {l : List α} (hσ : σ[k]? = some (some (.ref p))) (hu : Un K H p l) : Er K (tCB (rLenC K) (tCons (tVar k) tNil)) σ H l.length := fun H1 e Q q => by
  obtain ⟨vs, hp, r⟩ := hu
  exact ⟨.ref p, hσ, p, vs, rfl, .inl (sq_lst (e _ _ hp)), by rw [paired_len r]; exact q _ H1 (Same.refl _) rfl⟩
/-- the list in a slot is locked from here on -/
def tFzS (k : Nat) (t : TS) : TS := fun D σ H => ∃ p vs, σ[k]? = some (some (.ref p)) ∧ H p = some (.lst vs) ∧ ∀ od, t D σ (upd H p (.frz od (.lst vs)))
theorem pss_frz {X : Cx} {rest : List Stmt} {t : TS} (k : Nat) (h : PSs X rest t) : PSs X rest (tFzS k t) := ⟨fun pins s σ H D I q => by
  obtain ⟨p, vs, hs, hp, q⟩ := q
  obtain ⟨od, I2⟩ := I.lock hp trivial
  exact h.run pins s σ _ D I2 (q od)⟩
theorem q_frz {k : Nat} {p : Addr} {l : List α} (hσ : σ[k]? = some (some (.ref p))) (hu : Un K H p l) (q : ∀ H2, Mu p H H2 → Rp.rep K H2 (.ref p) l → tz D σ H2) : tFzS k tz D σ H := by
  obtain ⟨vs, hp, r⟩ := hu
  exact ⟨p, vs, hσ, hp, fun od => q _ (mu_upd (Same.refl _) hp) ⟨p, vs, rfl, ⟨od, upd_same⟩, r.mono (SF.lst hp)⟩⟩
theorem s_aug {k : Nat} {f : Int → Int → Int} (hσ : σ[k]? = some (some (.int i))) (h : Er K te σ H j) (q : ∀ H1, Same H H1 → D.nx (σ.set k (some (.int (f i j)))) H1) : tAug k te (ipI f) D σ H :=
  ⟨.int i, hσ, h H (Same.refl _) _ fun v H1 e r => ⟨i, j, rfl, r, q H1 e⟩⟩
theorem q_aug {k : Nat} {f : Int → Int → Int} (hσ : σ[k]? = some (some (.int i))) (h : Er K te σ H j) (q : ∀ H1, Same H H1 → tz D (σ.set k (some (.int (f i j)))) H1) : tSeq (tAug k te (ipI f)) tz D σ H := s_aug (D := { D with nx := tz D }) hσ h q
end
end BL

set_option Elab.async false
set_option linter.all false
set_option maxRecDepth 100000
set_option maxHeartbeats 2000000
namespace BL
open PySem PySem.Spec PyProof.Rows L2
/-! ### what is walked -/
def Src (K : Fg) (wi : TI) (σ : L2.St) (H : Hp) {α : Type} [Rp α] (l : List α) : Prop := ∀ H1, Same H H1 → ∀ RR : It → Hp → Prop,
  (∀ (J : It) (H2 : Hp) (G : Hp → Prop) (Y : Nat → Hp → V → Hp → Prop), Same H1 H2 → Walk J l.length G Y → (∀ H', SF H2 H' → G H') →
    (∀ i x, l[i]? = some x → ∀ H', SF H2 H' → ∀ v H'', Y i H' v H'' → Same H' H'' ∧ Rp.rep K H'' v x) → RR J H2) → wi σ H1 RR
def enumL {α : Type} (l : List α) : List (Nat × α) := (List.range l.length).zip l
def rgI (lo : Int) (n : Nat) : List Int := (List.range n).map fun k : Nat => lo + (k : Int)
section
variable {K : Fg} {σ : L2.St} {H H' H1 : Hp} {ta tb tc td te : TE} {tt uu : TT} {α β γ δ : Type} [Rp α] [Rp β] [Rp γ] [Rp δ] {x : α} {y : β} {z : γ} {v u : V} {i j : Int} {b c : Bool}
theorem src_list {l : List α} (h : Er K te σ H l) : Src K (iList K te) σ H l := fun H1 e RR k => h H1 e _ fun v H2 e2 r => by
  obtain ⟨a, vs, rfl, f, p⟩ := r
  refine ⟨a, rfl, ⟨vs, f.seq⟩, k _ H2 (fun H => SqL K H a vs) (YAt vs) e2 (by rw [← paired_len p]; exact walk_list) (fun H' s => (f.sf s).seq) fun i x hx H' s v H'' y => ?_⟩
  obtain ⟨rfl, hv⟩ := y
  obtain ⟨w, hw, r⟩ := paired_get p hx
  rw [hv] at hw; cases hw
  exact ⟨Same.refl _, Rp.mono s r⟩
theorem src_tup {t : Tp α} (h : Er K te σ H t) : Src K (iTup K te) σ H t.l := fun H1 e RR k => h H1 e _ fun v H2 e2 r => by
  obtain ⟨a, vs, rfl, f, p⟩ := r
  refine ⟨a, rfl, ⟨vs, f⟩, k _ H2 (fun H => SqT K H a vs) (YAt vs) e2 (by rw [← paired_len p]; exact walk_tup) (fun H' s => sqt_sf s f) fun i x hx H' s v H'' y => ?_⟩
  obtain ⟨rfl, hv⟩ := y
  obtain ⟨w, hw, r⟩ := paired_get p hx
  rw [hv] at hw; cases hw
  exact ⟨Same.refl _, Rp.mono s r⟩
theorem src_two {p : α × α} (h : Er K te σ H p) : Src K (iTup K te) σ H [p.1, p.2] := src_tup (t := ⟨[p.1, p.2]⟩) fun H1 e Q q => h H1 e Q fun v H2 e2 r => q v H2 e2 (by
  obtain ⟨a, v1, v2, rfl, h2, h3, h4⟩ := r
  exact ⟨a, _, rfl, h2, .cons h3 (.cons h4 .nil)⟩)
theorem src_range1 {n : Nat} (h : Er K te σ H n) (hz : n ≤ 1000000) : Src K (iRng1 (tCons te tNil)) σ H (List.range n) := fun H1 e RR k => h H1 e _ fun v H2 e2 r => by
  cases (show v = .int (n : Int) from r)
  refine ⟨(n : Int), rfl, by omega, by omega, k _ H2 (fun _ => True) (YFn fun i => .int (0 + i)) e2 ?_ (fun _ _ => trivial) fun i x hx H' s v H'' y => ?_⟩
  · rw [List.length_range, Int.toNat_natCast]; exact walk_range
  · obtain ⟨rfl, rfl⟩ := y
    have hi : i < n := by
      have := (List.getElem?_eq_some_iff.mp hx).1
      rwa [List.length_range] at this
    rw [List.getElem?_range hi] at hx
    cases hx
    exact ⟨Same.refl _, by show V.int _ = V.int _; rw [Int.zero_add]⟩
theorem src_range2 {lo hi : Int} (h : Er K ta σ H lo) (h' : Er K tb σ H hi) (h1 : -1000000 ≤ lo ∧ lo ≤ 1000000) (h2 : -1000000 ≤ hi ∧ hi ≤ 1000000) : Src K (iRng2 (tCons ta (tCons tb tNil))) σ H (rgI lo (hi - lo).toNat) := fun H1 e RR k =>
  h H1 e _ fun v H2 e2 r2 => h' H2 (e.trans e2) _ fun u H3 e3 r3 => by
  cases (show v = .int lo from r2)
  cases (show u = .int hi from r3)
  refine ⟨lo, hi, rfl, ⟨by omega, by omega, by omega, by omega⟩, k _ H3 (fun _ => True) (YFn fun i => .int (lo + i)) (e2.trans e3) ?_ (fun _ _ => trivial) fun i x hx H' s v H'' y => ?_⟩
  · unfold rgI; rw [List.length_map, List.length_range]; exact walk_range
  · obtain ⟨rfl, rfl⟩ := y
    have hi : i < (hi - lo).toNat := by
      have := (List.getElem?_eq_some_iff.mp hx).1
      unfold rgI at this
      rwa [List.length_map, List.length_range] at this
    unfold rgI at hx
    rw [List.getElem?_map, List.getElem?_range hi] at hx
    cases hx
    exact ⟨Same.refl _, rfl⟩
theorem enumL_get {l : List α} {i : Nat} {p : Nat × α} (h : (enumL l)[i]? = some p) : l[i]? = some p.2 ∧ p.1 = i := by
  unfold enumL at h
  rw [List.getElem?_zip_eq_some] at h
  obtain ⟨h1, h2⟩ := h
  have hi : i < l.length := (List.getElem?_eq_some_iff.mp h2).1
  rw [List.getElem?_range hi] at h1
  exact ⟨h2, (Option.some.inj h1).symm⟩
theorem enumL_len (l : List α) : (enumL l).length = l.length := by unfold enumL; rw [List.length_zip, List.length_range, Nat.min_self]
theorem src_enum {l : List α} (h : Er K te σ H l) : Src K (iEnum K (tCons te tNil)) σ H (enumL l) := fun H1 e RR k => h H1 e _ fun v H2 e2 r => by
  obtain ⟨a, vs, rfl, f, p⟩ := r
  refine ⟨a, vs, rfl, f.seq, k _ H2 (fun H => SqL K H a vs) _ e2 (by rw [enumL_len, ← paired_len p]; exact walk_enum) (fun H' s => (f.sf s).seq) fun i x hx H' s v H'' y => ?_⟩
  obtain ⟨T, w1, w2, rfl, hT, rfl, h1, h2⟩ := y
  obtain ⟨g1, g2⟩ := enumL_get hx
  obtain ⟨w, hw, r⟩ := paired_get p g1
  have h2' : vs[i]? = some w2 := h2
  rw [h2'] at hw; cases hw
  refine ⟨same_new hT, T, w1, w2, rfl, sq_tup upd_same, ?_, Rp.mono (s.trans (SF.new hT)) r⟩
  cases h1
  show V.int _ = V.int _
  rw [g2]
theorem src_zip {l : List α} {m : List β} (h : Er K ta σ H l) (h' : Er K tb σ H m) : Src K (iZip K (tCons ta (tCons tb tNil))) σ H (l.zip m) := fun H1 e RR k => h H1 e _ fun v H2 e2 r2 => h' H2 (e.trans e2) _ fun u H3 e3 r3 => by
  obtain ⟨a, vs, rfl, f, p⟩ := r2
  obtain ⟨b, us, rfl, f', p'⟩ := r3
  have f3 := f.sf (SF.of e3)
  have p3 := p.mono (SF.of e3)
  refine ⟨a, b, vs, us, rfl, f3.seq, f'.seq, k _ H3 (fun H => SqL K H a vs ∧ SqL K H b us) _ (e2.trans e3) (walk_zip (by rw [List.length_zip, paired_len p, paired_len p'])) (fun H' s => ⟨(f3.sf s).seq, (f'.sf s).seq⟩) fun i x hx H' s v H'' y => ?_⟩
  obtain ⟨T, w1, w2, rfl, hT, rfl, h1, h2⟩ := y
  rw [List.getElem?_zip_eq_some] at hx
  obtain ⟨w, hw, r⟩ := paired_get p3 hx.1
  obtain ⟨w', hw', r'⟩ := paired_get p' hx.2
  have h1' : vs[i]? = some w1 := h1
  have h2' : us[i]? = some w2 := h2
  rw [h1'] at hw; cases hw
  rw [h2'] at hw'; cases hw'
  exact ⟨same_new hT, T, w1, w2, rfl, sq_tup upd_same, Rp.mono (s.trans (SF.new hT)) r, Rp.mono (s.trans (SF.new hT)) r'⟩
/-! ### for -/
variable {D : Ends} {tu tw tz : TS} {g : TG} {wi : TI}
theorem s_for {l : List α} (hs : Src K wi σ H l) (Pv : Hp → Nat → L2.St → Hp → Prop) (h0 : ∀ H1, Same H H1 → Pv H1 0 σ H1) (hf : ∀ H1 k σ' H', Pv H1 k σ' H' → SF H1 H')
    (turn : ∀ H1 k x σ' H' v H'', Same H H1 → l[k]? = some x → Pv H1 k σ' H' → Same H' H'' → Rp.rep K H'' v x → g v σ' H'' fun σ2 H2 => tu { D with nx := Pv H1 (k + 1), ct := Pv H1 (k + 1), bk := D.nx } σ2 H2)
    (hd : ∀ H1 σ' H', Same H H1 → Pv H1 l.length σ' H' → D.nx σ' H') : tFor wi g tu D σ H := hs H (Same.refl _) _ fun J H2 G Y e2 w hG hY =>
  for_it w (Pv H2) (h0 H2 e2) (fun k σ' H' _ p => hG H' (hf _ _ _ _ p)) (fun k v σ' H' H'' hk p y => by
    obtain ⟨x, hx⟩ : ∃ x, l[k]? = some x := ⟨l[k], List.getElem?_eq_getElem hk⟩
    obtain ⟨s, r⟩ := hY k x hx H' (hf _ _ _ _ p) v H'' y
    exact turn H2 k x σ' H' v H'' e2 hx p s r) fun σ' H' p => hd H2 σ' H' e2 p
theorem q_for {l : List α} (hs : Src K wi σ H l) (Pv : Hp → Nat → L2.St → Hp → Prop) (h0 : ∀ H1, Same H H1 → Pv H1 0 σ H1) (hf : ∀ H1 k σ' H', Pv H1 k σ' H' → SF H1 H')
    (turn : ∀ H1 k x σ' H' v H'', Same H H1 → l[k]? = some x → Pv H1 k σ' H' → Same H' H'' → Rp.rep K H'' v x → g v σ' H'' fun σ2 H2 => tu { D with nx := Pv H1 (k + 1), ct := Pv H1 (k + 1), bk := tz D } σ2 H2)
    (hd : ∀ H1 σ' H', Same H H1 → Pv H1 l.length σ' H' → tz D σ' H') : tSeq (tFor wi g tu) tz D σ H := s_for (D := { D with nx := tz D }) hs Pv h0 hf turn hd
theorem s_while (Pv : L2.St → Hp → Prop) (μ : L2.St → Hp → Nat) (h0 : Pv σ H)
    (hs : ∀ σ' H', Pv σ' H' → ∃ b, Et K tt σ' H' b ∧ (b = true → ∀ H1, Same H' H1 → tu { D with nx := fun σ2 H2 => Pv σ2 H2 ∧ μ σ2 H2 < μ σ' H', ct := fun σ2 H2 => Pv σ2 H2 ∧ μ σ2 H2 < μ σ' H', bk := D.nx } σ' H1) ∧ (b = false → ∀ H1, Same H' H1 → D.nx σ' H1)) : tWhile tt tu D σ H := by
  refine ⟨fun m σ H => m = μ σ H ∧ Pv σ H, ⟨_, rfl, h0⟩, ?_⟩
  rintro m σ' H' ⟨rfl, p⟩
  obtain ⟨b, hb, h1, h2⟩ := hs σ' H' p
  refine hb H' (Same.refl _) _ fun H2 e => ?_
  cases b with
  | true => exact ⟨_, fun σ2 H2 ⟨p', l⟩ => ⟨_, l, rfl, p'⟩, h1 rfl H2 e⟩
  | false => exact h2 rfl H2 e
theorem q_while (Pv : L2.St → Hp → Prop) (μ : L2.St → Hp → Nat) (h0 : Pv σ H)
    (hs : ∀ σ' H', Pv σ' H' → ∃ b, Et K tt σ' H' b ∧ (b = true → ∀ H1, Same H' H1 → tu { D with nx := fun σ2 H2 => Pv σ2 H2 ∧ μ σ2 H2 < μ σ' H', ct := fun σ2 H2 => Pv σ2 H2 ∧ μ σ2 H2 < μ σ' H', bk := tz D } σ' H1) ∧ (b = false → ∀ H1, Same H' H1 → tz D σ' H1)) : tSeq (tWhile tt tu) tz D σ H :=
  s_while (D := { D with nx := tz D }) Pv μ h0 hs
/-! ### comprehensions -/
def mapIf (c : α → Bool) (f : α → β) (l : List α) : List β := (l.filter c).map f
theorem erl_lc {l : List α} {vs : List Nat} {c : α → Bool} {f : α → β} (hs : Src K wi σ H l) (hz : l.length ≤ 1000000)
    (turn : ∀ x, x ∈ l → ∀ v H1, Same H H1 → Rp.rep K H1 v x → ∃ σ2, (∀ Q : L2.St → Hp → Prop, Q σ2 H1 → g v (wipe σ vs) H1 Q) ∧ wipe σ2 vs = wipe σ vs ∧ Et K tt σ2 H1 (c x) ∧ (c x = true → Er K te σ2 H1 (f x))) :
    ErL K (tLc wi g tt te vs) σ H (mapIf c f l) := fun H1 e Q q => hs H1 e _ fun J H2 G Y e2 w hG hY D hD => by
  refine lc_it w (fun k H' => Same H2 H' ∧ ∃ us, H' D = some (.lst us) ∧ RL K H' us (mapIf c f (l.take k))) ⟨same_new hD, [], upd_same, .nil⟩ (fun k H' _ p => hG H' (SF.of p.1)) (fun k v H' H'' hk p y => ?_) fun H' p => ?_
  · obtain ⟨p1, us, p2, p3⟩ := p
    have hx : l[k]? = some l[k] := List.getElem?_eq_getElem hk
    obtain ⟨s, r⟩ := hY k _ hx H' (SF.of p1) v H'' y
    obtain ⟨σ2, hg, hw, ht, he⟩ := turn l[k] (List.mem_of_getElem? hx) v H'' ((e.trans e2).trans (p1.trans s)) r
    refine hg _ ⟨hw, ht H'' (Same.refl _) _ fun H3 e3 => ?_⟩
    have htake : l.take (k + 1) = l.take k ++ [l[k]] := by rw [List.take_add_one, hx]; rfl
    cases hc : c l[k] with
    | true =>
      refine iteT (he hc H3 e3 _ fun w' H4 e4 r4 => ?_)
      have hm : mapIf c f (l.take (k + 1)) = mapIf c f (l.take k) ++ [f l[k]] := by
        unfold mapIf
        rw [htake, List.filter_append, List.map_append]; simp [hc]
      refine ⟨us, (s.trans (e3.trans e4)) _ _ p2, ?_, same_mut (p1.trans (s.trans (e3.trans e4))) hD, us ++ [w'], upd_same, ?_⟩
      · rw [paired_len p3]
        have : (mapIf c f (l.take k)).length ≤ l.length := by
          unfold mapIf
          rw [List.length_map]
          exact Nat.le_trans (List.length_filter_le _ _) (by rw [List.length_take]; exact Nat.min_le_right _ _)
        exact Nat.lt_of_le_of_lt (Nat.le_trans this hz) (by decide)
      · rw [hm]
        exact RL.mono (SF.lst ((s.trans (e3.trans e4)) _ _ p2)) (paired_app (p3.mono (SF.of (s.trans (e3.trans e4)))) (.cons r4 .nil))
    | false =>
      refine iteF ?_
      have hm : mapIf c f (l.take (k + 1)) = mapIf c f (l.take k) := by
        unfold mapIf
        rw [htake, List.filter_append, List.map_append]; simp [hc]
      exact ⟨p1.trans (s.trans e3), us, (s.trans e3) _ _ p2, by rw [hm]; exact p3.mono (SF.of (s.trans e3))⟩
  · obtain ⟨p1, us, p2, p3⟩ := p
    rw [List.take_length] at p3
    exact q D us H' (e2.trans p1) (e2.free hD) p2 p3
/-- for x in ..: one name -/
theorem erl_lc1 {l : List α} {vs : List Nat} {k : Nat} {c : α → Bool} {f : α → β} (hs : Src K wi σ H l) (hz : l.length ≤ 1000000) (hw : ∀ v : V, wipe ((wipe σ vs).set k (some v)) vs = wipe σ vs)
    (turn : ∀ x, x ∈ l → ∀ v H1, Same H H1 → Rp.rep K H1 v x → Et K tt ((wipe σ vs).set k (some v)) H1 (c x) ∧ (c x = true → Er K te ((wipe σ vs).set k (some v)) H1 (f x))) :
    ErL K (tLc wi (gName k) tt te vs) σ H (mapIf c f l) := erl_lc hs hz fun x hx v H1 e r => ⟨_, fun Q q => q, hw v, turn x hx v H1 e r⟩
/-- for x, y in .. -/
theorem erl_lc2 {l : List (α × β)} {vs : List Nat} {k m : Nat} {c : α × β → Bool} {f : α × β → γ} (hs : Src K wi σ H l) (hz : l.length ≤ 1000000) (hw : ∀ v u : V, wipe (((wipe σ vs).set k (some v)).set m (some u)) vs = wipe σ vs)
    (turn : ∀ x, x ∈ l → ∀ v u H1, Same H H1 → Rp.rep K H1 v x.1 → Rp.rep K H1 u x.2 → Et K tt (((wipe σ vs).set k (some v)).set m (some u)) H1 (c x) ∧ (c x = true → Er K te (((wipe σ vs).set k (some v)).set m (some u)) H1 (f x))) :
    ErL K (tLc wi (gTup K 2 (gCons (gName k) (gCons (gName m) gNil))) tt te vs) σ H (mapIf c f l) := erl_lc hs hz fun x hx v H1 e r => by
  obtain ⟨v1, v2, r1, r2, f⟩ := tg_pair (σ := wipe σ vs) (k := k) (m := m) r
  exact ⟨_, f, hw v1 v2, turn x hx v1 v2 H1 e r1 r2⟩
theorem mapIf_all {f : α → β} {l : List α} : mapIf (fun _ => true) f l = l.map f := by unfold mapIf; rw [List.filter_eq_self.mpr fun _ _ => rfl]
/-- no test -/
theorem erl_lm1 {l : List α} {vs : List Nat} {k : Nat} {f : α → β} (hs : Src K wi σ H l) (hz : l.length ≤ 1000000) (hw : ∀ v : V, wipe ((wipe σ vs).set k (some v)) vs = wipe σ vs)
    (turn : ∀ x, x ∈ l → ∀ v H1, Same H H1 → Rp.rep K H1 v x → Er K te ((wipe σ vs).set k (some v)) H1 (f x)) :
    ErL K (tLc wi (gName k) tYes te vs) σ H (l.map f) := (erl_lc1 (c := fun _ => true) hs hz hw fun x hx v H1 e r => ⟨et_yes, fun _ => turn x hx v H1 e r⟩).to mapIf_all
theorem erl_lm2 {l : List (α × β)} {vs : List Nat} {k m : Nat} {f : α × β → γ} (hs : Src K wi σ H l) (hz : l.length ≤ 1000000) (hw : ∀ v u : V, wipe (((wipe σ vs).set k (some v)).set m (some u)) vs = wipe σ vs)
    (turn : ∀ x, x ∈ l → ∀ v u H1, Same H H1 → Rp.rep K H1 v x.1 → Rp.rep K H1 u x.2 → Er K te (((wipe σ vs).set k (some v)).set m (some u)) H1 (f x)) :
    ErL K (tLc wi (gTup K 2 (gCons (gName k) (gCons (gName m) gNil))) tYes te vs) σ H (l.map f) := (erl_lc2 (c := fun _ => true) hs hz hw fun x hx v u H1 e r r' => ⟨et_yes, fun _ => turn x hx v u H1 e r r'⟩).to mapIf_all
end
/-! ### the rules that name the written part, the part given by name (a comprehension's block has the same) -/
section
variable {X : Cx} (K : Fg) (h : X.K = K)
include h
theorem k_ixl : IxR X (rIxL K) := by subst h; exact ix_list
theorem k_ixt : IxR X (rIxT K) := by subst h; exact ix_tup
theorem k_sum (hc : X.calm = true) : CallR X (.builtin "sum") (rSum K) := by subst h; exact cr_sum hc
theorem k_max (hc : X.calm = true) : CallR X (.builtin "max") (rMax K) := by subst h; exact cr_max hc
theorem k_min (hc : X.calm = true) : CallR X (.builtin "min") (rMin K) := by subst h; exact cr_min hc
theorem k_all (hc : X.calm = true) : CallR X (.builtin "all") (rAll K) := by subst h; exact cr_all hc
theorem k_any (hc : X.calm = true) : CallR X (.builtin "any") (rAny K) := by subst h; exact cr_any hc
theorem k_sorted : CallR X (.builtin "sorted") (rSortedI K) := by subst h; exact cr_sortedI
theorem k_len : CallR X (.builtin "len") (rLenC K) := by subst h; exact call_len_seq
theorem k_list : CallR X (.type "list") (rListC K) := by subst h; exact call_list_of
theorem k_isi : CallR X (.builtin "isinstance") (rIsi K) := by subst h; exact call_isi
theorem k_eqD (hu : X.A.units + 64 < cLine) : OpR X (compareOp .Eq) (rEqD K) := by subst h; exact op_eqD hu
theorem k_neD (hu : X.A.units + 64 < cLine) : OpR X (compareOp .NotEq) (rNeD K) := by subst h; exact op_neD hu
theorem k_in : OpR X (compareOp .In) (rIn K false) := by subst h; exact op_in_seq
theorem k_notIn : OpR X (compareOp .NotIn) (rIn K true) := by subst h; exact op_notIn_seq
theorem k_sl : SlR X (rSlL K) := by subst h; exact sl_list
theorem k_pl {tg l : Expr} {tl : TE} (hl : PE X l tl) : PI X tg l (iList K tl) := by subst h; exact pi_list hl
theorem k_pt {tg l : Expr} {tl : TE} (hl : PE X l tl) : PI X tg l (iTup K tl) := by subst h; exact pi_tup hl
theorem k_pe {e : Expr} {ta : TA} {p pos tpos : Pos} {elts : List Expr} {kk : Nat} (hg : Gl X "enumerate") (hm : X.mg "enumerate" = none) (ha : PA X [e] ta) (hs : starEach [e] X.env = [(false, eval e X.env)] := by rfl) :
    PI X (.Tuple elts kk tpos) (.Call (.Name "enumerate" p) [e] [] pos) (iEnum K ta) := by subst h; exact pi_enum hg hm ha hs
theorem k_pz {e e2 : Expr} {ta : TA} {p pos tpos : Pos} {elts : List Expr} {kk : Nat} (hg : Gl X "zip") (hm : X.mg "zip" = none) (ha : PA X [e, e2] ta)
    (hs : starEach [e, e2] X.env = (false, eval e X.env) :: starEach [e2] X.env := by rfl) (hpl : (backTo pos (starEach [e2] X.env)).any (·.1) = false := by rfl) :
    PI X (.Tuple elts kk tpos) (.Call (.Name "zip" p) [e, e2] [] pos) (iZip K ta) := by subst h; exact pi_zip hg hm ha hs hpl
theorem k_gt (n : Nat) {es : List Expr} {k : Nat} {t : TGs} {pos : Pos} (hc : X.calm = true) (hp : PGs X es t)
    (hn : (assignEach es X.env).length = n := by rfl) (hst : (assignEach es X.env).findIdx? (·.1) = none := by rfl) : PG X (.Tuple es k pos) (gTup K n t) := by subst h; exact pg_tup hc hp hn hst
theorem k_app {o e : Expr} {to te : TE} {apos cpos : Pos} (ho : PE X o to) (he : PE X e te)
    (hbase : attributeBase o "append" X.env (eval o X.env) = eval o X.env := by rfl)
    (hfew : ((backTo cpos (starEach [e] X.env)).all (fun x => !x.1) && (backToKw cpos (keywordEach [] X.env)).all (fun x => x.1.isSome)
      && decide ([e].length + ([] : List Keyword).length + (if ([] : List Keyword).isEmpty then 0 else 1) < 30)) = true := by rfl)
    (hline : (apos.endLine == cpos.line) = true := by rfl) (hs : starEach [e] X.env = (false, eval e X.env) :: starEach [] X.env := by rfl) (hplain : (backTo cpos (starEach [] X.env)).any (·.1) = false := by rfl) :
    PE X (.Call (.Attribute o "append" apos) [e] [] cpos) (tBM K "list" rAppend to (tCons te tNil)) := by
  subst h; exact pe_bm PySem.F.plainAttrs_list PySem.F.slot_list_append PySem.F.type_list_append mt_append ho (pa_cons he pa_nil hs) hbase hfew hline hs hplain
end
/-! ### a def by its name -/
def Ok (P : Program) (w : World) (K : Fg) (mg : Str → Option Value) (base : Heap) (CX : CXT) (k : Nat) (x : Str) (ps : List Str) (sp : Sp) : Prop :=
  ∃ f fd, mg x = some (.ref f) ∧ PySem.W.keepIn K (.ref f) = true ∧ Binds K fd ps [] ∧ FnOk P w K mg base CX k f fd ps sp
section
variable {X : Cx} {CX : CXT} {k : Nat} {x : Str} {ps : List Str} {sp : Sp} {E : XK} {t : TA} {e : Expr} {es : List Expr} {p pos : Pos}
theorem pe_fn (G : Ok X.prog X.w X.K X.mg X.base CX k x ps sp) (hr : Room k X.A) (hx : Passes CX X E) (ha : PA X (e :: es) t) (hg : Gl X x := by rfl) (hdb : (x == ("__debug__" : Str)) = false := by decide)
    (he : starEach (e :: es) X.env = (false, eval e X.env) :: starEach es X.env := by rfl) (hpl : (backTo pos (starEach es X.env)).any (·.1) = false := by rfl) : PE X (.Call (.Name x p) (e :: es) [] pos) (tCall sp [] E t) := by
  obtain ⟨f, fd, h1, h2, h3, h4⟩ := G
  exact pe_call h4 hr hg h1 h2 h3 .nil hx ha hdb he hpl
theorem pe_fn0 (G : Ok X.prog X.w X.K X.mg X.base CX k x ps sp) (hr : Room k X.A) (hx : Passes CX X E) (hg : Gl X x := by rfl) (hdb : (x == ("__debug__" : Str)) = false := by decide) : PE X (.Call (.Name x p) [] [] pos) (tCall sp [] E tNil) := by
  obtain ⟨f, fd, h1, h2, h3, h4⟩ := G
  exact pe_call0 h4 hr hg h1 h2 h3 .nil hx hdb
end
theorem Ok.mono {P : Program} {w : World} {K : Fg} {mg : Str → Option Value} {base : Heap} {CX : CXT} {j k : Nat} {x : Str} {ps : List Str} {sp : Sp} (F : Ok P w K mg base CX j x ps sp) (h : j ≤ k) : Ok P w K mg base CX k x ps sp := by
  obtain ⟨f, fd, h1, h2, h3, h4⟩ := F
  exact ⟨f, fd, h1, h2, h3, h4.mono h⟩
/-- a module's number -/
theorem pe_gint {X : Cx} {x : Str} {i : Int} {pos : Pos} (h : ∃ t, X.mg x = some (.int i t)) (hg : Gl X x := by rfl) (hd : (x == ("__debug__" : Str)) = false := by decide) : PE X (.Name x pos) (tC (.int i)) := by
  obtain ⟨t, h⟩ := h
  exact pe_glob hg h ⟨t, rfl⟩ hd
/-- a def of the text: what the head tells -/
def Fd (K : Fg) (mg : Str → Option Value) (x : Str) (st : Stmt) : Prop := ∃ f fd, FunD K x x (defArgs st) (defBody st) (defScope st) [] [] f fd ∧ mg x = some (.ref f)
section
variable {P : Program} {w : World} {K : Fg} {mg : Str → Option Value} {base : Heap}
theorem fnok_of {x : Str} {st : Stmt} {N ps : List Str} {k : Nat} {sp : Sp} {f : Addr} {fd : FuncData} (F : FunD K x x (defArgs st) (defBody st) (defScope st) [] [] f fd) (S : FnScope N ps (defScope st))
    (len : ∀ vs H Q E, sp vs H Q E → vs.length = ps.length)
    (hbody : ∀ (cdv : Value) (A : Around) (outer : List Env) (s : Shared) (H : Hp) (vs : List V) (Q : VK) (E : XK), Room k (A.deeper (envOfC x (defScope st) s.heap.objs.size f cdv)) → sp vs H Q E →
      ∃ t, PSs (cxOf CX0 P w K mg base N x (defScope st) f cdv A outer s H E).nox (defBody st) t ∧ t { nx := fun _ H' => Q .non H', rt := Q } (start N vs) H) : FnOk P w K mg base CX0 (k + 1) f fd ps sp :=
  F.ok S len fun cdv A outer s H vs Q E hr h => by
    obtain ⟨t, h1, h2⟩ := hbody cdv A outer s H vs Q E hr h
    exact ⟨t, PSs.nox h1, h2⟩
/-- a def keeps its promise: its body as a term of rules, and the reading of that term; nothing it raises leaves it -/
theorem ok_of {x : Str} {st : Stmt} {N ps : List Str} {k : Nat} {sp : Sp} (F : Fd K mg x st) (S : FnScope N ps (defScope st))
    (hb : ∀ (kV doc pm : Value) (an : Option Addr) (cdv ct : Value) (us : List Value), us.length = ps.length → bindArgs (PySem.W.fnOf x x (defArgs st) (defBody st) (defScope st) .none kV doc pm an cdv ct) ⟨us, []⟩ = pure (ps.zip us))
    (len : ∀ vs H Q E, sp vs H Q E → vs.length = ps.length)
    (hbody : ∀ (f : Addr) (cdv : Value) (A : Around) (outer : List Env) (s : Shared) (H : Hp) (vs : List V) (Q : VK) (E : XK), Room k (A.deeper (envOfC x (defScope st) s.heap.objs.size f cdv)) → sp vs H Q E →
      ∃ t, PSs (cxOf CX0 P w K mg base N x (defScope st) f cdv A outer s H E).nox (defBody st) t ∧ t { nx := fun _ H' => Q .non H', rt := Q } (start N vs) H) : Ok P w K mg base CX0 (k + 1) x ps sp := by
  obtain ⟨f, fd, F, g⟩ := F
  refine ⟨f, fd, g, F.kp, ?_, F.ok S len fun cdv A outer s H vs Q E hr h => ?_⟩
  · exact F.bindsN hb
  · obtain ⟨t, h1, h2⟩ := hbody f cdv A outer s H vs Q E hr h
    exact ⟨t, PSs.nox h1, h2⟩
end
section
variable {K : Fg} {α β γ δ : Type} [Rp α] [Rp β] [Rp γ] [Rp δ]
theorem len_sp1 {pre : α → Prop} {f : α → β} : ∀ vs H Q E, sp1 K pre f vs H Q E → vs.length = 1 := fun vs H Q E h => by obtain ⟨_, _, rfl, _⟩ := h; rfl
theorem len_sp2 {pre : α → β → Prop} {f : α → β → γ} : ∀ vs H Q E, sp2 K pre f vs H Q E → vs.length = 2 := fun vs H Q E h => by obtain ⟨_, _, _, _, rfl, _⟩ := h; rfl
theorem len_sp3 {pre : α → β → γ → Prop} {f : α → β → γ → δ} : ∀ vs H Q E, sp3 K pre f vs H Q E → vs.length = 3 := fun vs H Q E h => by obtain ⟨_, _, _, _, _, _, rfl, _⟩ := h; rfl
theorem len_sl1 {pre : α → Prop} {f : α → List β} : ∀ vs H Q E, sl1 K pre f vs H Q E → vs.length = 1 := fun vs H Q E h => by obtain ⟨_, _, rfl, _⟩ := h; rfl
theorem len_sl2 {pre : α → β → Prop} {f : α → β → List γ} : ∀ vs H Q E, sl2 K pre f vs H Q E → vs.length = 2 := fun vs H Q E h => by obtain ⟨_, _, _, _, rfl, _⟩ := h; rfl
theorem len_sl3 {pre : α → β → γ → Prop} {f : α → β → γ → List δ} : ∀ vs H Q E, sl3 K pre f vs H Q E → vs.length = 3 := fun vs H Q E h => by obtain ⟨_, _, _, _, _, _, rfl, _⟩ := h; rfl
end
theorem bi1 {x : Str} {a : Arguments} {b : List Stmt} {sc : Scope} {p : Str} (h : ∀ (kV doc pm : Value) (an : Option Addr) (cdv ct u : Value), bindArgs (PySem.W.fnOf x x a b sc .none kV doc pm an cdv ct) ⟨[u], []⟩ = pure [(p, u)]) :
    ∀ (kV doc pm : Value) (an : Option Addr) (cdv ct : Value) (us : List Value), us.length = [p].length → bindArgs (PySem.W.fnOf x x a b sc .none kV doc pm an cdv ct) ⟨us, []⟩ = pure ([p].zip us)
  | kV, doc, pm, an, cdv, ct, [u], _ => h kV doc pm an cdv ct u
theorem bi2 {x : Str} {a : Arguments} {b : List Stmt} {sc : Scope} {p q : Str} (h : ∀ (kV doc pm : Value) (an : Option Addr) (cdv ct u v : Value), bindArgs (PySem.W.fnOf x x a b sc .none kV doc pm an cdv ct) ⟨[u, v], []⟩ = pure [(p, u), (q, v)]) :
    ∀ (kV doc pm : Value) (an : Option Addr) (cdv ct : Value) (us : List Value), us.length = [p, q].length → bindArgs (PySem.W.fnOf x x a b sc .none kV doc pm an cdv ct) ⟨us, []⟩ = pure ([p, q].zip us)
  | kV, doc, pm, an, cdv, ct, [u, v], _ => h kV doc pm an cdv ct u v
theorem bi3 {x : Str} {a : Arguments} {b : List Stmt} {sc : Scope} {p q r : Str} (h : ∀ (kV doc pm : Value) (an : Option Addr) (cdv ct u v w : Value), bindArgs (PySem.W.fnOf x x a b sc .none kV doc pm an cdv ct) ⟨[u, v, w], []⟩ = pure [(p, u), (q, v), (r, w)]) :
    ∀ (kV doc pm : Value) (an : Option Addr) (cdv ct : Value) (us : List Value), us.length = [p, q, r].length → bindArgs (PySem.W.fnOf x x a b sc .none kV doc pm an cdv ct) ⟨us, []⟩ = pure ([p, q, r].zip us)
  | kV, doc, pm, an, cdv, ct, [u, v, w], _ => h kV doc pm an cdv ct u v w
end BL

set_option Elab.async false
set_option linter.all false
set_option maxRecDepth 100000
set_option maxHeartbeats 2000000
namespace BL
open PySem PySem.Spec PyProof.Rows L2
/-! ### draws: the list of numbers at pn and the count, in the list at pd; nothing else changes -/
def Dr (H : Hp) (pd pn : Addr) : Prop := ∃ (ns : List Int) (k : Int), H pd = some (.lst [.ref pn, .int k]) ∧ H pn = some (.lst (ns.map V.int)) ∧ 0 < ns.length ∧ ns.length ≤ 1000 ∧ 0 ≤ k ∧ pd ≠ pn
structure DM (pd pn : Addr) (H H' : Hp) : Prop where
  sf : SF H H'
  ne : ∀ q o, q ≠ pd → q ≠ pn → H q = some o → H' q = some o
section
variable {K : Fg} {σ : L2.St} {H H' H1 : Hp} {pd pn : Addr} {ta tb tc td te : TE} {tt uu : TT} {α β γ δ : Type} [Rp α] [Rp β] [Rp γ] [Rp δ] {x : α} {y : β} {z : γ} {v u : V} {i j : Int} {b c : Bool}
theorem Dr.mono (e : Same H H') (h : Dr H pd pn) : Dr H' pd pn := by
  obtain ⟨ns, k, h1, h2, h3⟩ := h; exact ⟨ns, k, e _ _ h1, e _ _ h2, h3⟩
theorem DM.of (e : Same H H') : DM pd pn H H' := ⟨SF.of e, fun q o _ _ h => e q o h⟩
theorem DM.refl (H : Hp) : DM pd pn H H := DM.of (Same.refl H)
theorem DM.trans {H2 : Hp} (a : DM pd pn H H1) (b : DM pd pn H1 H2) : DM pd pn H H2 := ⟨a.sf.trans b.sf, fun q o n m h => b.ne q o n m (a.ne q o n m h)⟩
theorem Dr.of_mu {p : Addr} (m : Mu p H H') (h1 : pd ≠ p) (h2 : pn ≠ p) (h : Dr H pd pn) : Dr H' pd pn := by
  obtain ⟨ns, k, g1, g2, g3⟩ := h; exact ⟨ns, k, m.ne _ _ h1 g1, m.ne _ _ h2 g2, g3⟩
theorem Dr.pd_ne {p : Addr} (h : Dr H pd pn) (n : H p = none) : pd ≠ p := by obtain ⟨_, _, g1, _⟩ := h; exact ne_of_none g1 n
theorem Dr.pn_ne {p : Addr} (h : Dr H pd pn) (n : H p = none) : pn ≠ p := by obtain ⟨_, _, _, g1, _⟩ := h; exact ne_of_none g1 n
theorem Un.dm {p : Addr} {l : List α} (m : DM pd pn H H') (h1 : p ≠ pd) (h2 : p ≠ pn) (h : Un K H p l) : Un K H' p l := by
  obtain ⟨vs, g, r⟩ := h; exact ⟨vs, m.ne _ _ h1 h2 g, r.mono m.sf⟩
theorem DM.free (m : DM pd pn H H') (dr : Dr H pd pn) {p : Addr} (h : H' p = none) (dr' : Dr H' pd pn) : H p = none := by
  have h1 : p ≠ pd := (dr'.pd_ne h).symm
  have h2 : p ≠ pn := (dr'.pn_ne h).symm
  cases e : H p with
  | none => rfl
  | some o => rw [m.ne p o h1 h2 e] at h; cases h
/-! an expression that may draw: P tells what it can be -/
def Ep (K : Fg) (pd pn : Addr) (te : TE) (σ : L2.St) (H : Hp) {α : Type} [Rp α] (P : α → Prop) : Prop := ∀ H1, DM pd pn H H1 → Dr H1 pd pn → ∀ Q : VK, (∀ v H2 x, DM pd pn H1 H2 → Dr H2 pd pn → P x → Rp.rep K H2 v x → Q v H2) → te σ H1 Q
def EpL (K : Fg) (pd pn : Addr) (te : TE) (σ : L2.St) (H : Hp) {α : Type} [Rp α] (P : List α → Prop) : Prop := ∀ H1, DM pd pn H H1 → Dr H1 pd pn → ∀ Q : VK, (∀ p vs H2 l, DM pd pn H1 H2 → Dr H2 pd pn → P l → H1 p = none → H2 p = some (.lst vs) → RL K H2 vs l → Q (.ref p) H2) → te σ H1 Q
theorem ep_of (h : ∀ H1, DM pd pn H H1 → Er K te σ H1 x) : Ep K pd pn te σ H (fun y => y = x) := fun H1 m dr Q q => h H1 m H1 (Same.refl _) Q fun v H2 e r => q v H2 x (DM.of e) (dr.mono e) rfl r
theorem epl_of {l : List α} (h : ∀ H1, DM pd pn H H1 → ErL K te σ H1 l) : EpL K pd pn te σ H (fun y => y = l) := fun H1 m dr Q q => h H1 m H1 (Same.refl _) Q fun p vs H2 e hp h2 r => q p vs H2 l (DM.of e) (dr.mono e) rfl hp h2 r
theorem dm_frz {p : Addr} {vs : List V} {od : Obj} (m : DM pd pn H H') (dr : Dr H pd pn) (h : H p = none) : DM pd pn H (upd H' p (.frz od (.lst vs))) := ⟨sf_mut m.sf h, fun q o n1 n2 e => by rw [upd_ne (ne_of_none e h)]; exact m.ne q o n1 n2 e⟩
theorem ep_frz {P : List α → Prop} (h : EpL K pd pn te σ H P) : Ep K pd pn (tFrz te) σ H P := fun H1 m dr Q q => h H1 m dr _ fun p vs H2 l m2 dr2 hP hp h2 r => ⟨p, vs, rfl, h2, fun od => by
  have n1 := dr.pd_ne hp
  have n2 := dr.pn_ne hp
  refine q (.ref p) _ l (dm_frz m2 dr hp) ?_ hP ⟨p, vs, rfl, ⟨od, upd_same⟩, RL.mono (SF.lst h2) r⟩
  obtain ⟨ns, k, g1, g2, g3⟩ := dr2
  exact ⟨ns, k, upd_get g1 n1, upd_get g2 n2, g3⟩⟩
theorem ep_op {r : R2} {P : α → Prop} {P2 : α → β → Prop} {f : α → β → γ} (ha : Ep K pd pn ta σ H P) (hb : ∀ x, P x → Ep K pd pn tb σ H (P2 x)) (hr : ∀ x y, P x → P2 x y → R2r K r x y (f x y)) : Ep K pd pn (tOp r ta tb) σ H (fun z => ∃ x y, P x ∧ P2 x y ∧ z = f x y) := fun H1 m dr Q q =>
  ha H1 m dr _ fun v H2 x m2 dr2 hx r2 => hb x hx H2 (m.trans m2) dr2 _ fun u H3 y m3 dr3 hy r3 => hr x y hx hy H3 v u (Rp.mono m3.sf r2) r3 Q fun w H4 e4 r4 => q w H4 _ ((m2.trans m3).trans (DM.of e4)) (dr3.mono e4) ⟨x, y, hx, hy, rfl⟩ r4
theorem ep_pair {P : α → Prop} {P2 : α → β → Prop} (ha : Ep K pd pn ta σ H P) (hb : ∀ x, P x → Ep K pd pn tb σ H (P2 x)) : Ep K pd pn (tTup (tCons ta (tCons tb tNil))) σ H (fun z : α × β => P z.1 ∧ P2 z.1 z.2) := fun H1 m dr Q q =>
  ha H1 m dr _ fun v H2 x m2 dr2 hx r2 => hb x hx H2 (m.trans m2) dr2 _ fun u H3 y m3 dr3 hy r3 => ⟨by show 2 ≤ sizeLine; decide, fun p hp =>
    q (.ref p) _ (x, y) ((m2.trans m3).trans (DM.of (same_new hp))) (dr3.mono (same_new hp)) ⟨hx, hy⟩ ⟨p, v, u, rfl, sq_tup upd_same, Rp.mono (m3.sf.trans (SF.new hp)) r2, Rp.mono (SF.new hp) r3⟩⟩
theorem Ep.imp {P P' : α → Prop} (h : Ep K pd pn te σ H P) (hi : ∀ x, P x → P' x) : Ep K pd pn te σ H P' := fun H1 m dr Q q => h H1 m dr Q fun v H2 x m2 dr2 hx r => q v H2 x m2 dr2 (hi x hx) r
variable {D : Ends} {tu tw tz : TS} {g : TG}
theorem q_setP {k : Nat} {P : α → Prop} (dr : Dr H pd pn) (h : Ep K pd pn te σ H P) (q : ∀ v H1 x, DM pd pn H H1 → Dr H1 pd pn → P x → Rp.rep K H1 v x → tz D (σ.set k (some v)) H1) : tSeq (tAsg te (gName k)) tz D σ H := h H (DM.refl _) dr _ fun v H1 x m d p r => q v H1 x m d p r
theorem q_parP {k n : Nat} {P : α → Prop} {P2 : α → β → Prop} (dr : Dr H pd pn) (h : Ep K pd pn ta σ H P) (h' : ∀ x, P x → Ep K pd pn tb σ H (P2 x)) (q : ∀ v u H1 x y, DM pd pn H H1 → Dr H1 pd pn → P x → P2 x y → Rp.rep K H1 v x → Rp.rep K H1 u y → tz D ((σ.set k (some v)).set n (some u)) H1) :
    tSeq (tPar k n (tCons ta (tCons tb tNil))) tz D σ H := h H (DM.refl _) dr _ fun v H1 x m d p r => h' x p H1 m d _ fun u H2 y m2 d2 p2 r2 => ⟨v, u, rfl, q v u H2 x y (m.trans m2) d2 p p2 (Rp.mono m2.sf r) r2⟩
theorem s_retP {P : α → Prop} (dr : Dr H pd pn) (h : Ep K pd pn te σ H P) (q : ∀ v H1 x, DM pd pn H H1 → Dr H1 pd pn → P x → Rp.rep K H1 v x → D.rt v H1) : tRet te D σ H := h H (DM.refl _) dr _ fun v H1 x m d p r => q v H1 x m d p r
/-! the promises of the draws' defs -/
def spDraw : Sp := fun vs H Q _ => ∃ (pd pn : Addr) (lim : Int), vs = [.ref pd, .int lim] ∧ Dr H pd pn ∧ 0 < lim ∧ lim < 1000000 ∧ ∀ (d : Int) H', 0 ≤ d → d < lim → DM pd pn H H' → Dr H' pd pn → Q (.int d) H'
def spStart (K : Fg) : Sp := fun vs H Q _ => ∃ (a : Addr) (ns : List Int), vs = [.ref a] ∧ SqL K H a (ns.map V.int) ∧ ns.length ≤ 63 ∧ ∀ (pd pn : Addr) H', Same H H' → H pd = none → H pn = none → Dr H' pd pn → Q (.ref pd) H'
def spPick (K : Fg) {α : Type} [Rp α] : Sp := fun vs H Q _ => ∃ (pd pn : Addr) (v : V) (l : List α), vs = [.ref pd, v] ∧ Dr H pd pn ∧ Rp.rep K H v l ∧ 0 < l.length ∧ l.length < 1000000 ∧ ∀ (x : α) u H', x ∈ l → DM pd pn H H' → Dr H' pd pn → Rp.rep K H' u x → Q u H'
/-- a def that draws a list: P of its number tells what comes -/
def spDraws (K : Fg) {α : Type} [Rp α] (pre : Int → Prop) (P : Int → List α → Prop) : Sp := fun vs H Q _ => ∃ (pd pn : Addr) (n : Int), vs = [.ref pd, .int n] ∧ Dr H pd pn ∧ pre n ∧ ∀ p us l H', P n l → DM pd pn H H' → Dr H' pd pn → H p = none → H' p = some (.lst us) → RL K H' us l → Q (.ref p) H'
theorem ep_draw {E : XK} (h : ∀ H1, DM pd pn H H1 → Er K tb σ H1 i) (hσ : ∃ k : Nat, ta = tVar k ∧ σ[k]? = some (some (.ref pd))) (h0 : 0 < i) (h1 : i < 1000000) : Ep K pd pn (tCall spDraw [] E (tCons ta (tCons tb tNil))) σ H (fun d : Int => 0 ≤ d ∧ d < i) := fun H1 m dr Q q => by
  obtain ⟨k, rfl, hk⟩ := hσ
  refine ⟨.ref pd, hk, h H1 m H1 (Same.refl _) _ fun u H2 e r => ?_⟩
  cases (show u = .int i from r)
  exact ⟨pd, pn, i, rfl, dr.mono e, h0, h1, fun d H3 a b m3 d3 => q (.int d) H3 d ((DM.of e).trans m3) d3 ⟨a, b⟩ rfl⟩
theorem ep_pick {E : XK} {l : List α} (h : ∀ H1, DM pd pn H H1 → Er K tb σ H1 l) (hσ : ∃ k : Nat, ta = tVar k ∧ σ[k]? = some (some (.ref pd))) (h0 : 0 < l.length) (h1 : l.length < 1000000) : Ep K pd pn (tCall (spPick K (α := α)) [] E (tCons ta (tCons tb tNil))) σ H (fun x => x ∈ l) := fun H1 m dr Q q => by
  obtain ⟨k, rfl, hk⟩ := hσ
  refine ⟨.ref pd, hk, h H1 m H1 (Same.refl _) _ fun u H2 e r => ?_⟩
  exact ⟨pd, pn, u, l, rfl, dr.mono e, r, h0, h1, fun x w H3 a m3 d3 r3 => q w H3 x ((DM.of e).trans m3) d3 a r3⟩
/-- .. the list's items drawn too -/
theorem ep_pickP {E : XK} {P : List α → Prop} (h : Ep K pd pn tb σ H P) (hσ : ∃ k : Nat, ta = tVar k ∧ σ[k]? = some (some (.ref pd))) (h0 : ∀ l, P l → 0 < l.length ∧ l.length < 1000000) : Ep K pd pn (tCall (spPick K (α := α)) [] E (tCons ta (tCons tb tNil))) σ H (fun x => ∃ l, P l ∧ x ∈ l) := fun H1 m dr Q q => by
  obtain ⟨k, rfl, hk⟩ := hσ
  refine ⟨.ref pd, hk, h H1 m dr _ fun u H2 l m2 d2 hl r => ?_⟩
  exact ⟨pd, pn, u, l, rfl, d2, r, (h0 l hl).1, (h0 l hl).2, fun x w H3 a m3 d3 r3 => q w H3 x (m2.trans m3) d3 ⟨l, hl, a⟩ r3⟩
theorem epl_draws {E : XK} {pre : Int → Prop} {P : Int → List α → Prop} (h : ∀ H1, DM pd pn H H1 → Er K tb σ H1 i) (hσ : ∃ k : Nat, ta = tVar k ∧ σ[k]? = some (some (.ref pd))) (hp : pre i) : EpL K pd pn (tCall (spDraws K pre P) [] E (tCons ta (tCons tb tNil))) σ H (P i) := fun H1 m dr Q q => by
  obtain ⟨k, rfl, hk⟩ := hσ
  refine ⟨.ref pd, hk, h H1 m H1 (Same.refl _) _ fun u H2 e r => ?_⟩
  cases (show u = .int i from r)
  exact ⟨pd, pn, i, rfl, dr.mono e, hp, fun p us l H3 hl m3 d3 hn h3 r3 => q p us H3 l ((DM.of e).trans m3) d3 hl (e.free hn) h3 r3⟩
theorem s_appP {k : Nat} {p : Addr} {l : List α} {P : α → Prop} (dr : Dr H pd pn) (hσ : σ[k]? = some (some (.ref p))) (hu : Un K H p l) (n1 : p ≠ pd) (n2 : p ≠ pn) (h : Ep K pd pn te σ H P) (hz : l.length < 1000000)
    (q : ∀ H2 x, (∀ H0, DM pd pn H0 H → H0 p = none → DM pd pn H0 H2) → Dr H2 pd pn → P x → Un K H2 p (l ++ [x]) → D.nx σ H2) : tDrop (tBM K "list" rAppend (tVar k) (tCons te tNil)) D σ H := by
  obtain ⟨vs, hp, r⟩ := hu
  refine ⟨.ref p, hσ, Or.inl ⟨rfl, vs, sq_lst hp⟩, ?_⟩
  refine h H (DM.refl _) dr _ fun v H2 x m2 d2 hx r2 => ⟨p, vs, v, rfl, rfl, m2.ne _ _ n1 n2 hp, ?_, q _ x (fun H0 m0 h0 => ?_) ?_ hx ⟨_, upd_same, RL.mono (SF.lst (m2.ne _ _ n1 n2 hp)) (paired_app (r.mono m2.sf) (.cons r2 .nil))⟩⟩
  · rw [paired_len r]; exact Nat.lt_of_lt_of_le hz (by decide)
  · exact ⟨sf_mut (m0.sf.trans m2.sf) h0, fun q o a b e => by rw [upd_ne (ne_of_none e h0)]; exact (m0.trans m2).ne q o a b e⟩
  · obtain ⟨ns, k, g1, g2, g3⟩ := d2
    exact ⟨ns, k, upd_get g1 n1.symm, upd_get g2 n2.symm, g3⟩
theorem q_appP {k : Nat} {p : Addr} {l : List α} {P : α → Prop} (dr : Dr H pd pn) (hσ : σ[k]? = some (some (.ref p))) (hu : Un K H p l) (n1 : p ≠ pd) (n2 : p ≠ pn) (h : Ep K pd pn te σ H P) (hz : l.length < 1000000)
    (q : ∀ H2 x, (∀ H0, DM pd pn H0 H → H0 p = none → DM pd pn H0 H2) → Dr H2 pd pn → P x → Un K H2 p (l ++ [x]) → tz D σ H2) : tSeq (tDrop (tBM K "list" rAppend (tVar k) (tCons te tNil))) tz D σ H := s_appP (D := { D with nx := tz D }) dr hσ hu n1 n2 h hz q
/-- for k in range(e), e drawn -/
theorem s_forR {k : Nat} {P : Int → Prop} (dr : Dr H pd pn) (h : Ep K pd pn te σ H P) (hz : ∀ x, P x → -1000000 ≤ x ∧ x ≤ 1000000) (Pv : Int → Nat → L2.St → Hp → Prop) (h0 : ∀ x H1, DM pd pn H H1 → Dr H1 pd pn → P x → Pv x 0 σ H1)
    (turn : ∀ (x : Int) (i : Nat) σ' H', P x → (i : Int) < x → Pv x i σ' H' → tu { D with nx := Pv x (i + 1), ct := Pv x (i + 1), bk := D.nx } (σ'.set k (some (.int (i : Int)))) H') (hd : ∀ x σ' H', P x → Pv x x.toNat σ' H' → D.nx σ' H') : tFor (iRng1 (tCons te tNil)) (gName k) tu D σ H :=
  h H (DM.refl _) dr _ fun v H1 x m d hx r => by
    cases (show v = .int x from r)
    refine ⟨x, rfl, by have := hz x hx; omega, by have := hz x hx; omega, for_range (lo := 0) (n := x.toNat) (Pv x) (h0 x H1 m d hx) (fun i σ' H' hi p => ?_) fun σ' H' p => hd x σ' H' hx p⟩
    have e : (0 : Int) + (i : Int) = (i : Int) := Int.zero_add _
    show tu { D with nx := Pv x (i + 1), ct := Pv x (i + 1), bk := D.nx } (σ'.set k (some (.int ((0 : Int) + (i : Int))))) H'
    rw [e]
    exact turn x i σ' H' hx (by omega) p
theorem q_forR {k : Nat} {P : Int → Prop} (dr : Dr H pd pn) (h : Ep K pd pn te σ H P) (hz : ∀ x, P x → -1000000 ≤ x ∧ x ≤ 1000000) (Pv : Int → Nat → L2.St → Hp → Prop) (h0 : ∀ x H1, DM pd pn H H1 → Dr H1 pd pn → P x → Pv x 0 σ H1)
    (turn : ∀ (x : Int) (i : Nat) σ' H', P x → (i : Int) < x → Pv x i σ' H' → tu { D with nx := Pv x (i + 1), ct := Pv x (i + 1), bk := tz D } (σ'.set k (some (.int (i : Int)))) H') (hd : ∀ x σ' H', P x → Pv x x.toNat σ' H' → tz D σ' H') : tSeq (tFor (iRng1 (tCons te tNil)) (gName k) tu) tz D σ H :=
  s_forR (D := { D with nx := tz D }) dr h hz Pv h0 turn hd
theorem epl_lst2 {P : α → Prop} {P2 : α → α → Prop} (ha : Ep K pd pn ta σ H P) (hb : ∀ x, P x → Ep K pd pn tb σ H (P2 x)) : EpL K pd pn (tLst (tCons ta (tCons tb tNil))) σ H (fun l => ∃ x y, P x ∧ P2 x y ∧ l = [x, y]) := fun H1 m dr Q q =>
  ha H1 m dr _ fun v H2 x m2 dr2 hx r2 => hb x hx H2 (m.trans m2) dr2 _ fun u H3 y m3 dr3 hy r3 => ⟨by show 2 ≤ sizeLine; decide, fun p hp =>
    q p _ _ [x, y] ((m2.trans m3).trans (DM.of (same_new hp))) (dr3.mono (same_new hp)) ⟨x, y, hx, hy, rfl⟩ ((m2.trans m3).free dr hp dr3) upd_same (.cons (Rp.mono (m3.sf.trans (SF.new hp)) r2) (.cons (Rp.mono (SF.new hp) r3) .nil))⟩
/-- the law's own promise -/
def spLaw (K : Fg) : Sp := fun vs H Q _ => ∃ (a : Addr) (ns : List Int), vs = [.ref a] ∧ SqL K H a (ns.map V.int) ∧ ns.length ≤ 63 ∧ ∀ H', Q (.bl true) H'
theorem len_law : ∀ vs H Q E, spLaw K vs H Q E → vs.length = 1 := fun vs H Q E h => by obtain ⟨_, _, rfl, _⟩ := h; rfl
/-- _law_draws = _law_start(_law_script) -/
theorem q_start {k m : Nat} {E : XK} {a : Addr} {ns : List Int} (hσ : σ[m]? = some (some (.ref a))) (hs : SqL K H a (ns.map V.int)) (hz : ns.length ≤ 63) (q : ∀ pd pn H1, Same H H1 → Dr H1 pd pn → tz D (σ.set k (some (.ref pd))) H1) :
    tSeq (tAsg (tCall (spStart K) [] E (tCons (tVar m) tNil)) (gName k)) tz D σ H := ⟨.ref a, hσ, a, ns, rfl, hs, hz, fun pd pn H1 e _ _ d => q pd pn H1 e d⟩
theorem s_true {D : Ends} (h : Er K te σ H b) (hb : b = true) (hQ : ∀ H', D.rt (.bl true) H') : tRet te D σ H := h H (Same.refl _) _ fun v H1 e r => by
  cases (show v = .bl b from r); rw [hb]; exact hQ H1
theorem sub_dr {k : Nat} (h : σ[k]? = some (some (.ref pd))) : ∃ m : Nat, tVar k = tVar m ∧ σ[m]? = some (some (.ref pd)) := ⟨k, rfl, h⟩
end
end BL

set_option Elab.async false
set_option linter.all false
set_option maxRecDepth 100000
set_option maxHeartbeats 2000000
namespace BL
open PySem PySem.Spec PyProof.Rows L2
/-! ### a <= b <= c <= d -/
def tTest3 (r r' r'' : R2) (ta tb tc td : TE) : TT := fun σ H Q => ta σ H fun x H1 => tb σ H1 fun y H2 => r x y H2 fun z H3 => ∃ k, z = .bl k ∧
  (if k = true then tc σ H3 fun x' H4 => r' y x' H4 fun z' H5 => ∃ k', z' = .bl k' ∧ (if k' = true then td σ H5 fun w' H6 => r'' x' w' H6 fun z2 H7 => ∃ k2, z2 = .bl k2 ∧ Q k2 H7 else Q false H5) else Q false H3)
theorem pt_chain3 {X : Cx} {a b c d : Expr} {ta tb tc td : TE} {pos : Pos} {op op' op'' : CmpOp} {r r' r'' : R2} (ho : OpR X (compareOp op) r) (ho' : OpR X (compareOp op') r') (ho'' : OpR X (compareOp op'') r'') (ha : PE X a ta) (hb : PE X b tb) (hc : PE X c tc) (hd : PE X d td)
    (hm : lastMarks [op, op', op''] [b, c, d] = false := by with_unfolding_all rfl) : PT X (.Compare a [op, op', op''] [b, c, d] pos) (tTest3 r r' r'' ta tb tc td) := by
  refine ⟨fun pins s σ H Q I h => ?_⟩
  refine isTrue_chain (thn (ha.run pins s σ H _ I h) fun v s1 ⟨x, H1, I1, r1, q1⟩ => test_link (thn (hb.run pins s1 σ H1 _ I1 q1) fun u s2 ⟨y, H2, I2, r2, q2⟩ =>
    thn (ho pins s2 σ H2 x y v u _ I2 r1 r2 q2) fun d s3 ⟨z, H3, I3, r3, k, e, q3⟩ => ?_)) hm
  subst e
  cases r3
  refine wpAny_truthy_bool ?_
  cases k with
  | false => exact ite_ff ⟨H3, I3, q3⟩
  | true =>
    refine ite_tt (test_link (thn (hc.run pins s3 σ H3 _ I3 q3) fun w' s4 ⟨z', H4, I4, r4, q4⟩ => thn (ho' pins s4 σ H4 y z' u w' _ I4 r2 r4 q4) fun d' s5 ⟨z2, H5, I5, r5, k2, e2, q5⟩ => ?_))
    subst e2
    cases r5
    refine wpAny_truthy_bool ?_
    cases k2 with
    | false => exact ite_ff ⟨H5, I5, q5⟩
    | true =>
      refine ite_tt (test_last (thn (hd.run pins s5 σ H5 _ I5 q5) fun w2 s6 ⟨z3, H6, I6, r6, q6⟩ => thn (ho'' pins s6 σ H6 z' z3 w' w2 _ I6 r4 r6 q6) fun d2 s7 ⟨z4, H7, I7, r7, k3, e3, q7⟩ => ?_))
      subst e3
      cases r7
      exact wpAny_truthy_bool ⟨H7, I7, q7⟩
section
variable {K : Fg} {σ : L2.St} {H H' H1 : Hp} {ta tb tc td te : TE} {tt uu : TT} {α β γ δ : Type} [Rp α] [Rp β] [Rp γ] [Rp δ] {x : α} {y : β} {z : γ} {z2 : δ} {v u : V} {i j : Int} {b c : Bool} {r r' r'' : R2}
theorem et_chain3 {b b' b'' : Bool} (ha : Er K ta σ H x) (hb : Er K tb σ H y) (hc : Er K tc σ H z) (hd : Er K td σ H z2) (h1 : R2r K r x y b) (h2 : R2r K r' y z b') (h3 : R2r K r'' z z2 b'') : Et K (tTest3 r r' r'' ta tb tc td) σ H (b && (b' && b'')) := fun H1 e Q q =>
  ha H1 e _ fun v H2 e2 r2 => hb H2 (e.trans e2) _ fun u H3 e3 r3 => h1 H3 v u (Rp.mono (SF.of e3) r2) r3 _ fun w H4 e4 r4 => ⟨b, r4, by
    have c4 := ((e.trans e2).trans e3).trans e4
    cases b with
    | false => exact iteF (q H4 ((e2.trans e3).trans e4))
    | true =>
      refine iteT (hc H4 c4 _ fun w' H5 e5 r5 => h2 H5 u w' (Rp.mono (SF.of (e4.trans e5)) r3) r5 _ fun w2 H6 e6 r6 => ⟨b', r6, ?_⟩)
      cases b' with
      | false => exact iteF (q H6 (((e2.trans e3).trans e4).trans (e5.trans e6)))
      | true =>
        refine iteT (hd H6 (c4.trans (e5.trans e6)) _ fun w3 H7 e7 r7 => h3 H7 w' w3 (Rp.mono (SF.of (e6.trans e7)) r5) r7 _ fun w4 H8 e8 r8 => ⟨b'', r8, ?_⟩)
        exact q H8 ((((e2.trans e3).trans e4).trans (e5.trans e6)).trans (e7.trans e8))⟩
/-! ### in -/
theorem flat_bls (l : List Bool) : (l.map V.bl).all flatV = true := by rw [List.all_map, List.all_eq_true]; intro x _; rfl
theorem flat_ints (l : List Int) : (l.map V.int).all flatV = true := by rw [List.all_map, List.all_eq_true]; intro x _; rfl
theorem flat_strs' (l : List Str) : (l.map V.str).all flatV = true := by rw [List.all_map, List.all_eq_true]; intro x _; rfl
theorem inV_bl (b : Bool) (l : List Bool) : inV (.bl b) (l.map V.bl) = decide (b ∈ l) := by
  unfold inV
  rw [List.any_map]
  induction l with
  | nil => rfl
  | cons x r ih =>
    rw [List.any_cons, ih]
    show ((x == b) || _) = _
    by_cases e : b = x
    · subst e; simp
    · simp [e]; intro h; exact absurd h.symm e
theorem inV_int (b : Int) (l : List Int) : inV (.int b) (l.map V.int) = decide (b ∈ l) := by
  unfold inV
  rw [List.any_map]
  induction l with
  | nil => rfl
  | cons x r ih =>
    rw [List.any_cons, ih]
    show ((x == b) || _) = _
    by_cases e : b = x
    · subst e; simp
    · simp [e]; intro h; exact absurd h.symm e
theorem inV_str (b : Str) (l : List Str) : inV (.str b) (l.map V.str) = decide (b ∈ l) := by
  unfold inV
  rw [List.any_map]
  induction l with
  | nil => rfl
  | cons x r ih =>
    rw [List.any_cons, ih]
    show ((x == b) || _) = _
    by_cases e : b = x
    · subst e; simp
    · simp [e]; intro h; exact absurd h.symm e
def neg (n b : Bool) : Bool := if n then !b else b
theorem rr_inB {n : Bool} {l : List Bool} : R2r K (rIn K n) b l (neg n (decide (b ∈ l))) := fun H v u e1 e2 Q q => by
  obtain ⟨a, vs, rfl, h2, h3⟩ := e2
  cases (show v = .bl b from e1)
  rw [rl_bools h3] at h2
  exact ⟨a, _, rfl, .inl h2.seq, rfl, flat_bls l, by rw [inV_bl]; exact q _ H (Same.refl _) (by cases n <;> rfl)⟩
theorem rr_inI {n : Bool} {l : List Int} : R2r K (rIn K n) i l (neg n (decide (i ∈ l))) := fun H v u e1 e2 Q q => by
  obtain ⟨a, vs, rfl, h2, h3⟩ := e2
  cases (show v = .int i from e1)
  rw [rl_ints h3] at h2
  exact ⟨a, _, rfl, .inl h2.seq, rfl, flat_ints l, by rw [inV_int]; exact q _ H (Same.refl _) (by cases n <;> rfl)⟩
theorem rr_inS {n : Bool} {s : Str} {l : List Str} : R2r K (rIn K n) s l (neg n (decide (s ∈ l))) := fun H v u e1 e2 Q q => by
  obtain ⟨a, vs, rfl, h2, h3⟩ := e2
  cases (show v = .str s from e1)
  rw [rl_strs h3] at h2
  exact ⟨a, _, rfl, .inl h2.seq, rfl, flat_strs' l, by rw [inV_str]; exact q _ H (Same.refl _) (by cases n <;> rfl)⟩
theorem rr_inST {n : Bool} {s : Str} {t : Tp Str} : R2r K (rIn K n) s t (neg n (decide (s ∈ t.l))) := fun H v u e1 e2 Q q => by
  obtain ⟨a, vs, rfl, h2, h3⟩ := e2
  cases (show v = .str s from e1)
  rw [rl_strs h3] at h2
  exact ⟨a, _, rfl, .inr h2, rfl, flat_strs' t.l, by rw [inV_str]; exact q _ H (Same.refl _) (by cases n <;> rfl)⟩
theorem any_eqv [Rq α] [DecidableEq α] (x : α) (l : List α) : ((l.map Rq.toD).any fun w => PyData.eqv w (Rq.toD x)) = decide (x ∈ l) := by
  rw [List.any_map]
  induction l with
  | nil => rfl
  | cons y r ih =>
    rw [List.any_cons, ih]
    show (PyData.eqv (Rq.toD y) (Rq.toD x) || _) = _
    rw [eqv_dec]
    by_cases e : x = y
    · subst e; simp
    · simp [e]; intro h; exact absurd h.symm e
theorem rr_inD [Rq α] [Rt α] [DecidableEq α] {l : List α} (hd : Rq.dep α + 1 ≤ 64 := by decide) : R2r K (rInD K) x l (decide (x ∈ l)) := fun H v u e1 e2 Q q => by
  have h2 : Dp K H u (.list (l.map Rq.toD)) := Rq.dp e2
  exact ⟨_, _, Rq.dp e1, h2, shaped_of (Rt.all x) (by omega), shaped_of (α := List α) (Rt.all l) hd, by rw [any_eqv]; exact q _ H (Same.refl _) rfl⟩
theorem rr_ninD [Rq α] [Rt α] [DecidableEq α] {l : List α} (hd : Rq.dep α + 1 ≤ 64 := by decide) : R2r K (rNotInD K) x l (!decide (x ∈ l)) := fun H v u e1 e2 Q q => by
  have h2 : Dp K H u (.list (l.map Rq.toD)) := Rq.dp e2
  exact ⟨_, _, Rq.dp e1, h2, shaped_of (Rt.all x) (by omega), shaped_of (α := List α) (Rt.all l) hd, by rw [any_eqv]; exact q _ H (Same.refl _) rfl⟩
/-- a constant tuple of the module -/
theorem er_kt {t : Tp α} {a : Addr} (h : ∀ H, Rp.rep K H (.ref a) t) : Er K (tC (.ref a)) σ H t := er_c h
/-! ### the if's answer is known -/
theorem er_ifT (h : Et K tt σ H true) (ha : Er K ta σ H x) : Er K (tIf tt ta tb) σ H x := fun H1 e Q q => h H1 e _ fun H2 e2 => iteT (ha H2 (e.trans e2) Q fun v H3 e3 r => q v H3 (e2.trans e3) r)
theorem er_ifF (h : Et K tt σ H false) (hb : Er K tb σ H x) : Er K (tIf tt ta tb) σ H x := fun H1 e Q q => h H1 e _ fun H2 e2 => iteF (hb H2 (e.trans e2) Q fun v H3 e3 r => q v H3 (e2.trans e3) r)
/-! ### a list not locked, handed through a check -/
def spThru (K : Fg) (pre : List α → Prop) : Sp := fun vs H Q _ => ∃ (p : Addr) (us : List V) (l : List α), vs = [.ref p] ∧ H p = some (.lst us) ∧ RL K H us l ∧ pre l ∧ ∀ H', Same H H' → Q (.ref p) H'
theorem erl_thru {E : XK} {pre : List α → Prop} {l : List α} (h : ErL K ta σ H l) (hp : pre l) : ErL K (tCall (spThru K pre) [] E (tCons ta tNil)) σ H l := fun H1 e Q q =>
  h H1 e _ fun p vs H2 e2 hn h2 r2 => ⟨p, vs, l, rfl, h2, r2, hp, fun H3 e3 => q p vs H3 (e2.trans e3) hn (e3 _ _ h2) (r2.mono (SF.of e3))⟩
theorem s_retThru {E : XK} {pre : List α → Prop} {l : List α} {D : Ends} {k : Nat} {p : Addr} (hσ : σ[k]? = some (some (.ref p))) (hu : Un K H p l) (hp : pre l) (q : ∀ H1 us, Same H H1 → H1 p = some (.lst us) → RL K H1 us l → D.rt (.ref p) H1) :
    tRet (tCall (spThru K pre) [] E (tCons (tVar k) tNil)) D σ H := by
  obtain ⟨us, h1, r⟩ := hu
  exact ⟨.ref p, hσ, p, us, l, rfl, h1, r, hp, fun H1 e => q H1 us e (e _ _ h1) (r.mono (SF.of e))⟩
/-- a check that runs while its list is locked -/
theorem q_lockd {p : Addr} {us : List V} {l : List α} {D : Ends} {tu tz : TS} (hp : H p = some (.lst us)) (hr : RL K H us l)
    (q : ∀ (od : Obj), Rp.rep K (upd H p (.frz od (.lst us))) (.ref p) l → tu ⟨fun σ' H' => H' p = some (.frz od (.lst us)) ∧ tz D σ' (upd H' p (.lst us)), fun v H' => H' p = some (.frz od (.lst us)) ∧ D.rt v (upd H' p (.lst us)), fun σ' H' => H' p = some (.frz od (.lst us)) ∧ D.bk σ' (upd H' p (.lst us)), fun σ' H' => H' p = some (.frz od (.lst us)) ∧ D.ct σ' (upd H' p (.lst us))⟩ σ (upd H p (.frz od (.lst us)))) :
    tSeq (tLock tu) tz D σ H := ⟨p, .lst us, hp, trivial, fun od => q od ⟨p, us, rfl, ⟨od, upd_same⟩, hr.mono (SF.lst hp)⟩⟩
theorem same_lock {p : Addr} {us : List V} {od : Obj} (hp : H p = some (.lst us)) (e : Same (upd H p (.frz od (.lst us))) H1) : Same H (upd H1 p (.lst us)) := fun a o h => by
  by_cases n : a = p
  · subst n; rw [upd_same]; rw [hp] at h; exact h
  · rw [upd_ne n]; exact e a o (by rw [upd_ne n]; exact h)
/-- a, b = a list of two -/
theorem tg_unl {l : List α} {k m : Nat} {d : α} (h : Rp.rep K H v l) (hl : l.length = 2) : ∃ v1 v2, Rp.rep K H v1 (l.getD 0 d) ∧ Rp.rep K H v2 (l.getD 1 d) ∧ ∀ Q : L2.St → Hp → Prop, Q ((σ.set k (some v1)).set m (some v2)) H → gUnl K 2 (gCons (gName k) (gCons (gName m) gNil)) v σ H Q := by
  obtain ⟨a, vs, rfl, h2, h3⟩ := h
  match l, hl with
  | [x, y], _ =>
    cases h3 with
    | cons r1 h4 =>
      cases h4 with
      | cons r2 h5 =>
        cases h5
        exact ⟨_, _, r1, r2, fun Q q => ⟨a, _, rfl, h2.seq, rfl, _, _, rfl, _, _, rfl, rfl, q⟩⟩
theorem q_unl {l : List α} {k m : Nat} {d : α} {D : Ends} {tz : TS} (h : Er K te σ H l) (hl : l.length = 2) (q : ∀ v u H1, Same H H1 → Rp.rep K H1 v (l.getD 0 d) → Rp.rep K H1 u (l.getD 1 d) → tz D ((σ.set k (some v)).set m (some u)) H1) : tSeq (tAsg te (gUnl K 2 (gCons (gName k) (gCons (gName m) gNil)))) tz D σ H :=
  h H (Same.refl _) _ fun v H1 e r => by
    obtain ⟨v1, v2, r1, r2, f⟩ := tg_unl (σ := σ) (k := k) (m := m) (d := d) r hl
    exact f _ (q v1 v2 H1 e r1 r2)
end
section
variable {X : Cx} (K : Fg) (h : X.K = K)
include h
theorem k_gl (n : Nat) {es : List Expr} {k : Nat} {t : TGs} {pos : Pos} (hc : X.calm = true) (hp : PGs X es t)
    (hn : (assignEach es X.env).length = n := by rfl) (hst : (assignEach es X.env).findIdx? (·.1) = none := by rfl) : PG X (.Tuple es k pos) (gUnl K n t) := by subst h; exact pg_unl hc hp hn hst
theorem k_inD (hu : X.A.units + 65 < cLine) : OpR X (compareOp .In) (rInD K) := by subst h; exact op_inD hu
theorem k_ninD (hu : X.A.units + 65 < cLine) : OpR X (compareOp .NotIn) (rNotInD K) := by subst h; exact op_notInD hu
end
theorem u65 {k : Nat} {A : Around} (r : Room k A) : A.units + 65 < cLine := by have := r.un; omega
/-! ### the head's facts, with tables -/
def hookB (n : Nat) (fa : List He.Fa) (fn : List He.DefD) (ex : Fg → Bool) : PySem.W.Hook where
  α := He.AlD × Bool
  obs := fun s => (He.obsDG n fa fn s.heap.get?, ex (He.frG s.heap.get? (He.asD s.heap.get? n)))
  val := fun _ => (He.valD fn, true)
  says := fun _ h => ∃ K : Fg, K.In h ∧ He.SaysD fa fn K ∧ ex K = true
  of := fun _ _ e => ⟨_, He.frG_in, congrArg Prod.fst e, congrArg Prod.snd e⟩
  keeps := fun _ _ _ ⟨K, hK, c⟩ k => ⟨K, PySem.W.Frag.In.keeps hK k, c⟩
theorem hookB_eq {n : Nat} {fa : List He.Fa} {fn : List He.DefD} {ex : Fg → Bool} {g : Addr → Option Obj} {s : Shared} (h : ∀ a, g a = s.heap.get? a) : ((He.obsDG n fa fn g, ex (He.frG g (He.asD g n))) : He.AlD × Bool) = (hookB n fa fn ex).obs s := by
  have e : g = s.heap.get? := funext h
  rw [e] <;> rfl
theorem rl_dv (K : Fg) (H : Hp) : ∀ l : List Str, RL K H ((l.map He.Dv.str).map (He.Dv.v K)) l
  | [] => .nil
  | _ :: r => .cons rfl (rl_dv K H r)
theorem tup_of {K : Fg} {x : Str} {l : List Str} (h : He.tupB K x (l.map He.Dv.str) = true) (H : Hp) : Rp.rep K H (.ref (He.ga K x)) (Tp.mk l) := ⟨_, _, rfl, He.tupB_ok h H, rl_dv K H l⟩
end BL

set_option Elab.async false
set_option linter.all false
set_option maxRecDepth 100000
set_option maxHeartbeats 2000000
namespace BL
open PySem PySem.Spec PyProof.Rows L2
/-! ### some lists change, nothing else -/
structure Mus (ps : List Addr) (H H' : Hp) : Prop where
  sf : SF H H'
  ne : ∀ q o, q ∉ ps → H q = some o → H' q = some o
section
variable {K : Fg} {σ : L2.St} {H H' H0 H1 H2 : Hp} {pd pn p q : Addr} {ps qs : List Addr} {ta tb tc td te : TE} {tt uu : TT} {α β γ δ : Type} [Rp α] [Rp β] [Rp γ] [Rp δ] {x : α} {y : β} {z : γ} {v u : V} {i j : Int} {b c : Bool}
theorem Mus.of (e : Same H H') : Mus ps H H' := ⟨SF.of e, fun q o _ h => e q o h⟩
theorem Mus.refl (H : Hp) : Mus ps H H := Mus.of (Same.refl H)
theorem Mus.trans (a : Mus ps H H1) (b : Mus ps H1 H2) : Mus ps H H2 := ⟨a.sf.trans b.sf, fun q o n h => b.ne q o n (a.ne q o n h)⟩
theorem Mus.mu (m : Mu p H H') (h : p ∈ ps) : Mus ps H H' := ⟨m.sf, fun q o n e => m.ne q o (fun c => n (c ▸ h)) e⟩
theorem Mus.dm (m : DM pd pn H H') (h1 : pd ∈ ps) (h2 : pn ∈ ps) : Mus ps H H' := ⟨m.sf, fun q o n e => m.ne q o (fun c => n (c ▸ h1)) (fun c => n (c ▸ h2)) e⟩
theorem Mus.sub (m : Mus ps H H') (h : ∀ x ∈ ps, x ∈ qs) : Mus qs H H' := ⟨m.sf, fun q o n e => m.ne q o (fun c => n (h q c)) e⟩
theorem Mus.same0 (m : Mus [] H H') : Same H H' := fun q o e => m.ne q o (by simp) e
theorem Mus.to_dm (m : Mus [pd, pn] H H') : DM pd pn H H' := ⟨m.sf, fun q o n1 n2 e => m.ne q o (by simp [n1, n2]) e⟩
/-- p is new since H0 -/
theorem Mus.fresh (B : Mus ps H0 H) (n : p ∉ ps) (h : H p = none) : H0 p = none := by
  cases e : H0 p with
  | none => rfl
  | some o => rw [B.ne p o n e] at h; cases h
theorem Mus.mut (B : Mus ps H0 H) (h : H0 p = none) (m : Mu p H H') : Mus ps H0 H' := ⟨B.sf.trans m.sf, fun q o n e => m.ne q o (ne_of_none e h) (B.ne q o n e)⟩
theorem Mus.cut (B : Mus ps H0 H) (h : H0 p = none) (m : Mus (p :: ps) H H') : Mus ps H0 H' := ⟨B.sf.trans m.sf, fun q o n e => m.ne q o (fun c => by
  rcases List.mem_cons.mp c with c | c
  · exact ne_of_none e h c
  · exact n c) (B.ne q o n e)⟩
/-- all that changes is new since H0 -/
theorem Mus.base (B : Mus [] H0 H) (m : Mus ps H H') (h : ∀ p ∈ ps, H0 p = none) : Mus [] H0 H' := ⟨B.sf.trans m.sf, fun q o _ e => m.ne q o (fun c => by rw [h q c] at e; cases e) (B.ne q o (by simp) e)⟩
theorem Mus.baseS (B : Mus qs H0 H) (m : Mus ps H H') (h : ∀ p ∈ ps, H0 p = none ∨ p ∈ qs) : Mus qs H0 H' := ⟨B.sf.trans m.sf, fun q o n e => m.ne q o (fun c => by
  rcases h q c with h | h
  · rw [h] at e; cases e
  · exact n h) (B.ne q o n e)⟩
theorem nin0 : p ∉ ([] : List Addr) := by simp
theorem nin (h : p ≠ q) (n : p ∉ ps) : p ∉ q :: ps := fun c => by
  rcases List.mem_cons.mp c with c | c
  · exact h c
  · exact n c
theorem all0 {F : Addr → Prop} : ∀ p ∈ ([] : List Addr), F p := fun _ h => by cases h
theorem allC {F : Addr → Prop} (h : F q) (n : ∀ p ∈ ps, F p) : ∀ p ∈ q :: ps, F p := fun x c => by
  rcases List.mem_cons.mp c with c | c
  · subst c; exact h
  · exact n x c
theorem Un.mus {l : List α} (m : Mus ps H H') (n : p ∉ ps) (h : Un K H p l) : Un K H' p l := by
  obtain ⟨vs, g, r⟩ := h; exact ⟨vs, m.ne _ _ n g, r.mono m.sf⟩
theorem Dr.mus (m : Mus ps H H') (n1 : pd ∉ ps) (n2 : pn ∉ ps) (h : Dr H pd pn) : Dr H' pd pn := by
  obtain ⟨ns, k, g1, g2, g3⟩ := h; exact ⟨ns, k, m.ne _ _ n1 g1, m.ne _ _ n2 g2, g3⟩
theorem Un.nep {l : List α} (h : Un K H q l) (n : H p = none) : q ≠ p := by obtain ⟨_, g, _⟩ := h; exact ne_of_none g n
/-! ### a loop's fold -/
theorem fold_step {l : List α} {f : β → α → β} {a s : β} {k : Nat} {x : α} (hx : l[k]? = some x) (hs : s = (l.take k).foldl f a) : f s x = (l.take (k + 1)).foldl f a := by
  rw [List.take_add_one, hx, List.foldl_append, hs]; rfl
theorem fold_all {l : List α} {f : β → α → β} {a s : β} (hs : s = (l.take l.length).foldl f a) : s = l.foldl f a := by rw [hs, List.take_length]
theorem fold_app1 {γ : Type} (f : α → γ) : ∀ (l : List α) (a : List γ), l.foldl (fun s x => s ++ [f x]) a = a ++ l.map f
  | [], a => by simp
  | x :: l, a => by rw [List.foldl_cons, fold_app1 f l]; simp
theorem fold_app2 {γ δ : Type} (f : α → γ) (g : α → δ) : ∀ (l : List α) (a : List γ × List δ), l.foldl (fun s x => (s.1 ++ [f x], s.2 ++ [g x])) a = (a.1 ++ l.map f, a.2 ++ l.map g)
  | [], a => by simp
  | x :: l, a => by rw [List.foldl_cons, fold_app2 f g l]; simp
/-! ### if: one name is set -/
variable {D : Ends} {tu tw tz : TS}
theorem set_same' {k : Nat} (h : σ[k]? = some (some v)) : σ.set k (some v) = σ := by
  refine List.ext_getElem? fun i => ?_
  rw [List.getElem?_set]
  split
  · rename_i e; subst e
    rw [h]
    split
    · rfl
    · rename_i hn; rw [List.getElem?_eq_none (by omega)] at h; cases h
  · rfl
theorem q_ifset {k : Nat} {x y : α} (hc : Et K tt σ H c) (h1 : c = true → ∀ H1, Same H H1 → Er K te σ H1 y) (hold : σ[k]? = some (some v)) (r0 : Rp.rep K H v x)
    (q : ∀ w H1, Same H H1 → Rp.rep K H1 w (if c = true then y else x) → tz D (σ.set k (some w)) H1) : tSeq (tIfS tt (tAsg te (gName k)) tNext) tz D σ H :=
  q_when hc (fun e H1 s => h1 e H1 s H1 (Same.refl _) _ fun w H2 e2 r2 => q w H2 (s.trans e2) (by rw [if_pos e]; exact r2)) fun e H1 s => by
    have := q v H1 s (by rw [if_neg (by rw [e]; exact Bool.false_ne_true)]; exact Rp.mono (SF.of s) r0)
    rwa [set_same' hold] at this
theorem q_ifset2 {k : Nat} {x y : α} (hc : Et K tt σ H c) (h1 : c = true → ∀ H1, Same H H1 → Er K ta σ H1 y) (h2 : c = false → ∀ H1, Same H H1 → Er K tb σ H1 x)
    (q : ∀ w H1, Same H H1 → Rp.rep K H1 w (if c = true then y else x) → tz D (σ.set k (some w)) H1) : tSeq (tIfS tt (tAsg ta (gName k)) (tAsg tb (gName k))) tz D σ H :=
  q_if hc (fun e H1 s => h1 e H1 s H1 (Same.refl _) _ fun w H2 e2 r2 => q w H2 (s.trans e2) (by rw [if_pos e]; exact r2))
    fun e H1 s => h2 e H1 s H1 (Same.refl _) _ fun w H2 e2 r2 => q w H2 (s.trans e2) (by rw [if_neg (by rw [e]; exact Bool.false_ne_true)]; exact r2)
/-! ### None or a value -/
theorem er_O0 : Er K (tC .non) σ H (none : Option α) := er_c (x := (none : Option α)) fun _ => rfl
class Nn (α : Type) [Rp α] : Prop where
  n : ∀ {K : Fg} {H : Hp} {v : V} {x : α}, Rp.rep K H v x → v ≠ .non
instance : Nn Int := ⟨fun h => by cases h; exact V.noConfusion⟩
instance : Nn Nat := ⟨fun h => by cases h; exact V.noConfusion⟩
instance : Nn Bool := ⟨fun h => by cases h; exact V.noConfusion⟩
instance : Nn Str := ⟨fun h => by cases h; exact V.noConfusion⟩
instance {α : Type} [Rp α] : Nn (List α) := ⟨fun h => by obtain ⟨_, _, rfl, _⟩ := h; exact V.noConfusion⟩
instance {α β : Type} [Rp α] [Rp β] : Nn (α × β) := ⟨fun h => by obtain ⟨_, _, _, rfl, _⟩ := h; exact V.noConfusion⟩
instance {α β γ : Type} [Rp α] [Rp β] [Rp γ] : Nn (T3 α β γ) := ⟨fun h => by obtain ⟨_, _, _, _, rfl, _⟩ := h; exact V.noConfusion⟩
theorem er_O1 [Nn α] (h : Er K te σ H x) : Er K te σ H (some x) := fun H1 e Q q => h H1 e Q fun v H2 e2 r => q v H2 e2 ⟨Nn.n r, r⟩
theorem er_Oget {o : Option α} (h : Er K te σ H o) (ho : o = some x) : Er K te σ H x := fun H1 e Q q => h H1 e Q fun v H2 e2 r => by
  rw [ho] at r; exact q v H2 e2 r.2
theorem opt_non {o : Option α} (h : Rp.rep K H v o) : decide (v = .non) = o.isNone := by
  cases o with
  | none => cases (show v = .non from h); rfl
  | some x => exact decide_eq_false h.1
theorem er_isN {o : Option α} (h : Er K te σ H o) : Er K (tOp rIsN te (tC .non)) σ H o.isNone := fun H1 e Q q => h H1 e _ fun v H2 e2 r => ⟨rfl, q _ H2 e2 (by show V.bl _ = V.bl _; rw [opt_non r])⟩
theorem er_notN {o : Option α} (h : Er K te σ H o) : Er K (tOp rNotN te (tC .non)) σ H (!o.isNone) := fun H1 e Q q => h H1 e _ fun v H2 e2 r => ⟨rfl, q _ H2 e2 (by show V.bl _ = V.bl _; rw [opt_non r])⟩
/-! ### names that count -/
theorem q_augI {k : Nat} {f : Int → Int → Int} (hσ : σ[k]? = some (some v)) (r : Rp.rep K H v i) (h : Er K te σ H j) (q : ∀ w H1, Same H H1 → Rp.rep K H1 w (f i j) → tz D (σ.set k (some w)) H1) : tSeq (tAug k te (ipI f)) tz D σ H := by
  cases (show v = .int i from r)
  exact q_aug hσ h fun H1 e => q _ H1 e rfl
theorem s_ext {k : Nat} {l m : List α} (hσ : σ[k]? = some (some (.ref p))) (hu : Un K H p l) (h : ErL K te σ H m) (hz : l.length + m.length ≤ 1000000) (q : ∀ H2, Mu p H H2 → Un K H2 p (l ++ m) → D.nx σ H2) :
    tAug k te rExt2 D σ H := by
  obtain ⟨vs, hp, r⟩ := hu
  refine ⟨.ref p, hσ, h H (Same.refl _) _ fun b us H2 e2 hn h2 r2 => ?_⟩
  have hp2 := e2 _ _ hp
  refine ⟨p, b, vs, us, rfl, rfl, hp2, h2, ?_, ?_⟩
  · rw [paired_len r, paired_len r2]; exact Nat.le_trans hz (by decide)
  · have e : σ.set k (some (.ref p)) = σ := set_same' hσ
    show D.nx (σ.set k (some (.ref p))) _
    rw [e]
    exact q _ (mu_upd e2 hp) ⟨_, upd_same, RL.mono (SF.lst hp2) (paired_app (r.mono (SF.of e2)) r2)⟩
theorem q_ext {k : Nat} {l m : List α} (hσ : σ[k]? = some (some (.ref p))) (hu : Un K H p l) (h : ErL K te σ H m) (hz : l.length + m.length ≤ 1000000) (q : ∀ H2, Mu p H H2 → Un K H2 p (l ++ m) → tz D σ H2) :
    tSeq (tAug k te rExt2) tz D σ H := s_ext (D := { D with nx := tz D }) hσ hu h hz q
end
section
variable {K : Fg} {σ : L2.St} {H : Hp} {pd pn : Addr} {ta tb tc : TE} {α β : Type} [Rp α] [Rp β] {D : Ends} {tz : TS}
theorem q_parL {k m : Nat} {l : List α} {l' : List β} (h : ErL K ta σ H l) (h' : ErL K tb σ H l')
    (q : ∀ p p' vs vs' H1 H2, Same H H1 → Same H1 H2 → H p = none → H1 p' = none → H1 p = some (.lst vs) → RL K H1 vs l → H2 p' = some (.lst vs') → RL K H2 vs' l' → tz D ((σ.set k (some (.ref p))).set m (some (.ref p'))) H2) : tSeq (tPar k m (tCons ta (tCons tb tNil))) tz D σ H :=
  h H (Same.refl _) _ fun p vs H1 e hp h1 r => h' H1 e _ fun p' vs' H2 e2 hp' h2 r2 => ⟨.ref p, .ref p', rfl, q p p' vs vs' H1 H2 e e2 hp hp' h1 r h2 r2⟩
theorem q_unpL {k m : Nat} {l : List α} {l' : List β} (h : ErL K ta σ H l) (h' : ErL K tb σ H l')
    (q : ∀ p p' vs vs' H1 H2, Same H H1 → Same H1 H2 → H p = none → H1 p' = none → H1 p = some (.lst vs) → RL K H1 vs l → H2 p' = some (.lst vs') → RL K H2 vs' l' → tz D ((σ.set k (some (.ref p))).set m (some (.ref p'))) H2) : tSeq (tAsg (tTup (tCons ta (tCons tb tNil))) (gTup K 2 (gCons (gName k) (gCons (gName m) gNil)))) tz D σ H :=
  h H (Same.refl _) _ fun p vs H1 e hp h1 r => h' H1 e _ fun p' vs' H2 e2 hp' h2 r2 => ⟨by show 2 ≤ sizeLine; decide, fun t ht => ⟨t, _, rfl, sq_tup upd_same, rfl, .ref p, _, rfl, .ref p', _, rfl, rfl, q p p' vs vs' H1 _ e (e2.trans (same_new ht)) hp hp' h1 r ((same_new ht) _ _ h2) (r2.mono (SF.new ht))⟩⟩
theorem epl_lst3 {P : α → Prop} {P2 : α → α → Prop} {P3 : α → α → α → Prop} (ha : Ep K pd pn ta σ H P) (hb : ∀ x, P x → Ep K pd pn tb σ H (P2 x)) (hc : ∀ x y, P x → P2 x y → Ep K pd pn tc σ H (P3 x y)) : EpL K pd pn (tLst (tCons ta (tCons tb (tCons tc tNil)))) σ H (fun l => ∃ x y z, P x ∧ P2 x y ∧ P3 x y z ∧ l = [x, y, z]) := fun H1 m dr Q q =>
  ha H1 m dr _ fun v H2 x m2 dr2 hx r2 => hb x hx H2 (m.trans m2) dr2 _ fun u H3 y m3 dr3 hy r3 => hc x y hx hy H3 ((m.trans m2).trans m3) dr3 _ fun w H4 z m4 dr4 hz r4 => ⟨by show 3 ≤ sizeLine; decide, fun p hp =>
    q p _ _ [x, y, z] (((m2.trans m3).trans m4).trans (DM.of (same_new hp))) (dr4.mono (same_new hp)) ⟨x, y, z, hx, hy, hz, rfl⟩ (((m2.trans m3).trans m4).free dr hp dr4) upd_same (.cons (Rp.mono ((m3.sf.trans m4.sf).trans (SF.new hp)) r2) (.cons (Rp.mono (m4.sf.trans (SF.new hp)) r3) (.cons (Rp.mono (SF.new hp) r4) .nil)))⟩
end
section
variable {K : Fg} {σ : L2.St} {H : Hp} {ta tb tc td : TE} {α β γ δ ε : Type} [Rp α] [Rp β] [Rp γ] [Rp δ] [Rp ε] {x : α} {y : β} {z : γ} {w : δ}
def sp4 (K : Fg) (pre : α → β → γ → δ → Prop) (f : α → β → γ → δ → ε) : Sp := fun vs H Q _ => ∃ v0 v1 v2 v3 x0 x1 x2 x3, vs = [v0, v1, v2, v3] ∧ Rp.rep K H v0 x0 ∧ Rp.rep K H v1 x1 ∧ Rp.rep K H v2 x2 ∧ Rp.rep K H v3 x3 ∧ pre x0 x1 x2 x3 ∧ ansV K (f x0 x1 x2 x3) H Q
theorem er_call4 {pre : α → β → γ → δ → Prop} {f : α → β → γ → δ → ε} {E : XK} (h0 : Er K ta σ H x) (h1 : Er K tb σ H y) (h2 : Er K tc σ H z) (h3 : Er K td σ H w) (hp : pre x y z w) : Er K (tCall (sp4 K pre f) [] E (tCons ta (tCons tb (tCons tc (tCons td tNil))))) σ H (f x y z w) := fun H1 e Q q =>
  h0 H1 e _ fun v0 H2 e2 r0 => h1 H2 (e.trans e2) _ fun v1 H3 e3 r1 => h2 H3 ((e.trans e2).trans e3) _ fun v2 H4 e4 r2 => h3 H4 (((e.trans e2).trans e3).trans e4) _ fun v3 H5 e5 r3 =>
    ⟨v0, v1, v2, v3, x, y, z, w, rfl, Rp.mono (SF.of ((e3.trans e4).trans e5)) r0, Rp.mono (SF.of (e4.trans e5)) r1, Rp.mono (SF.of e5) r2, r3, hp, fun u H6 e6 r6 => q u H6 ((((e2.trans e3).trans e4).trans e5).trans e6) r6⟩
theorem len_sp4 {pre : α → β → γ → δ → Prop} {f : α → β → γ → δ → ε} : ∀ vs H Q E, sp4 K pre f vs H Q E → vs.length = 4 := fun vs H Q E h => by obtain ⟨_, _, _, _, _, _, _, _, rfl, _⟩ := h; rfl
end
theorem bi4 {x : Str} {a : Arguments} {b : List Stmt} {sc : Scope} {p q r t : Str} (h : ∀ (kV doc pm : Value) (an : Option Addr) (cdv ct u v w z : Value), bindArgs (PySem.W.fnOf x x a b sc .none kV doc pm an cdv ct) ⟨[u, v, w, z], []⟩ = pure [(p, u), (q, v), (r, w), (t, z)]) :
    ∀ (kV doc pm : Value) (an : Option Addr) (cdv ct : Value) (us : List Value), us.length = [p, q, r, t].length → bindArgs (PySem.W.fnOf x x a b sc .none kV doc pm an cdv ct) ⟨us, []⟩ = pure ([p, q, r, t].zip us)
  | kV, doc, pm, an, cdv, ct, [u, v, w, z], _ => h kV doc pm an cdv ct u v w z
theorem dead_eq {α : Type} [DecidableEq α] {a b : α} (h : a = b) : (!decide (a = b)) = false := by rw [decide_eq_true h]; rfl
theorem q_last {t : TS} {D : Ends} {σ : L2.St} {H : Hp} (h : tSeq t tNext D σ H) : t D σ H := h
theorem s_gn {k : Nat} {v : V} {σ : L2.St} {H : Hp} {Q : L2.St → Hp → Prop} (h : Q (σ.set k (some v)) H) : gName k v σ H Q := h
theorem s_nx {D : Ends} {σ : L2.St} {H : Hp} (h : D.nx σ H) : tNext D σ H := h
theorem s_nxz {tz : TS} {D : Ends} {σ : L2.St} {H : Hp} (h : tz D σ H) : tNext { D with nx := tz D } σ H := h
theorem Rp.cong {α : Type} [Rp α] {K : Fg} {H : Hp} {v : V} {x y : α} (h : Rp.rep K H v y) (e : x = y) : Rp.rep K H v x := by rw [e]; exact h
theorem find_none {α β : Type} {l : List α} {f : α → Option β} {k : Nat} {x : α} (hx : l[k]? = some x) (hs : (l.take k).findSome? f = none) (hn : f x = none) : (l.take (k + 1)).findSome? f = none := by
  rw [List.take_add_one, hx, List.findSome?_append, hs]; simp [hn]
theorem find_at {α β : Type} {l : List α} {f : α → Option β} {k : Nat} {x : α} {y : β} (hx : l[k]? = some x) (hs : (l.take k).findSome? f = none) (hn : f x = some y) : l.findSome? f = some y := by
  conv => lhs; rw [← List.take_append_drop (k + 1) l, List.take_add_one, hx]
  rw [List.findSome?_append, List.findSome?_append, hs]; simp [hn]
theorem find_all {α β : Type} {l : List α} {f : α → Option β} (hs : (l.take l.length).findSome? f = none) : l.findSome? f = none := by rw [List.take_length] at hs; exact hs
theorem ip_ext {X : Cx} : PIp X .Add rExt2 := fun pins s σ H x y v u Q I r1 r2 h => iop_ext pins s σ H x y v u Q I r1 r2 h
end BL

set_option Elab.async false
set_option linter.all false
set_option maxRecDepth 100000
set_option maxHeartbeats 2000000
namespace BL
open PySem PySem.Spec PyProof.Rows L2
theorem nff {b : Bool} (h : b = false) : ¬ (b = true) := by rw [h]; exact Bool.false_ne_true
theorem fold_grow {α β : Type} {f : List β → α → List β} {c : Nat} : ∀ {l : List α} {a : List β}, (∀ s x, x ∈ l → (f s x).length ≤ s.length + c) → (l.foldl f a).length ≤ a.length + c * l.length
  | [], a, _ => by simp
  | x :: l, a, h => by
    rw [List.foldl_cons, List.length_cons, Nat.mul_add]
    have h1 := h a x (List.mem_cons_self ..)
    have h2 := fold_grow (l := l) (a := f a x) fun s y hy => h s y (List.mem_cons_of_mem _ hy)
    omega
theorem fold_growE {α β : Type} {f : List β → α → List β} (c : Nat) {l : List α} {a s : List β} (hs : s = l.foldl f a) (h : ∀ s x, x ∈ l → (f s x).length ≤ s.length + c) : s.length ≤ a.length + c * l.length := by rw [hs]; exact fold_grow h
theorem fold_inv {α β : Type} {f : β → α → β} {P : β → Prop} : ∀ {l : List α} {a : β}, P a → (∀ s x, x ∈ l → P s → P (f s x)) → P (l.foldl f a)
  | [], _, h, _ => h
  | x :: l, a, h, hs => fold_inv (l := l) (hs a x (List.mem_cons_self ..) h) fun s y hy => hs s y (List.mem_cons_of_mem _ hy)
theorem fold_invE {α β : Type} {f : β → α → β} (P : β → Prop) {l : List α} {a s : β} (hs : s = l.foldl f a) (h : P a) (h2 : ∀ s x, x ∈ l → P s → P (f s x)) : P s := by rw [hs]; exact fold_inv h h2
theorem mapIf_le {α β : Type} {c : α → Bool} {f : α → β} {l : List α} : (mapIf c f l).length ≤ l.length := by unfold mapIf; rw [List.length_map]; exact List.length_filter_le _ _
theorem last_atD {α : Type} {l : List α} {d : α} (h : l ≠ []) : l.getLast? = some (l.getLastD d) := by
  rw [List.getLastD_eq_getLast?]
  cases e : l.getLast? with
  | none => exact absurd (List.getLast?_eq_none_iff.mp e) h
  | some x => rfl
theorem lastD_mem {α : Type} {l : List α} {d : α} (h : l ≠ []) : l.getLastD d ∈ l := List.mem_of_getLast? (last_atD h)
theorem mem_enumN {α : Type} [Rp α] {l : List α} {p : Nat × α} (h : p ∈ enumL l) : l[p.1]? = some p.2 ∧ p.1 < l.length := by
  obtain ⟨i, hi⟩ := List.getElem?_of_mem h
  obtain ⟨h1, h2⟩ := enumL_get hi
  rw [h2]
  exact ⟨h1, (List.getElem?_eq_some_iff.mp h1).1⟩
/-! ### pairs of numbers, sorted -/
/-- a pair of numbers in a tuple of its own -/
structure Pt where
  a : Int
  b : Int
instance : Rp Pt := ⟨fun _ H v p => ∃ t, v = .ref t ∧ H t = some (.tup [.int p.a, .int p.b]), fun {K H H' v p} e h => by
  obtain ⟨t, h1, h2⟩ := h; exact ⟨t, h1, e _ _ (.tup _) h2⟩⟩
def insP (x : Int × Int) : List (Int × Int) → List (Int × Int)
  | [] => [x]
  | y :: r => if SrtO.lexB y x = true then y :: insP x r else x :: y :: r
def srtP : List (Int × Int) → List (Int × Int)
  | [] => []
  | x :: r => insP x (srtP r)
theorem insP_perm (x : Int × Int) : ∀ l : List (Int × Int), (insP x l).Perm (x :: l)
  | [] => .refl _
  | y :: r => by
    unfold insP
    split
    · exact ((insP_perm x r).cons y).trans (.swap ..)
    · exact .refl _
theorem srtP_perm : ∀ l : List (Int × Int), (srtP l).Perm l
  | [] => .refl _
  | x :: r => (insP_perm x (srtP r)).trans ((srtP_perm r).cons x)
abbrev SoP (l : List (Int × Int)) : Prop := l.Pairwise fun x y => SrtO.lexB y x = false
theorem insP_sorted (x : Int × Int) : ∀ {l : List (Int × Int)}, SoP l → SoP (insP x l)
  | [], _ => List.pairwise_singleton _ _
  | y :: r, h => by
    obtain ⟨h1, h2⟩ := List.pairwise_cons.mp h
    unfold insP
    split
    · rename_i c
      refine List.pairwise_cons.mpr ⟨fun z hz => ?_, insP_sorted x h2⟩
      rcases List.mem_cons.mp ((insP_perm x r).mem_iff.mp hz) with e | hz
      · subst e
        have a := SrtO.lexB_iff.mp c
        exact SrtO.lexB_no.mpr (by omega)
      · exact h1 z hz
    · rename_i c
      refine List.pairwise_cons.mpr ⟨fun z hz => ?_, h⟩
      have c' : SrtO.lexB y x = false := by simpa using c
      rcases List.mem_cons.mp hz with e | hz
      · subst e; exact c'
      · have a := SrtO.lexB_no.mp c'
        have b := SrtO.lexB_no.mp (h1 z hz)
        exact SrtO.lexB_no.mpr (by omega)
theorem srtP_sorted : ∀ l : List (Int × Int), SoP (srtP l)
  | [] => .nil
  | x :: r => insP_sorted x (srtP_sorted r)
theorem soP_uniq : ∀ {l r : List (Int × Int)}, l.Perm r → SoP l → SoP r → l = r
  | [], r, h, _, _ => (List.Perm.nil_eq h)
  | x :: l, [], h, _, _ => absurd h.length_eq (by simp)
  | x :: l, y :: r, h, h1, h2 => by
    obtain ⟨a1, a2⟩ := List.pairwise_cons.mp h1
    obtain ⟨b1, b2⟩ := List.pairwise_cons.mp h2
    have e : x = y := by
      have m1 : x ∈ y :: r := h.mem_iff.mp (List.mem_cons_self ..)
      have m2 : y ∈ x :: l := h.mem_iff.mpr (List.mem_cons_self ..)
      rcases List.mem_cons.mp m1 with m | m
      · exact m
      · rcases List.mem_cons.mp m2 with n | n
        · exact n.symm
        · have p := SrtO.lexB_no.mp (a1 y n)
          have q := SrtO.lexB_no.mp (b1 x m)
          exact Prod.ext (by omega) (by omega)
    subst e
    rw [soP_uniq (List.Perm.cons_inv h) a2 b2]
def kP (H : Hp) (v : V) : Int × Int := match v with
  | .ref t => match H t with
    | some (.tup [.int i, .int j]) => (i, j)
    | _ => (0, 0)
  | _ => (0, 0)
theorem kP_at {H : Hp} {t : Addr} {i j : Int} (h : H t = some (.tup [.int i, .int j])) : kP H (.ref t) = (i, j) := by
  show (match H t with | some (.tup [.int i, .int j]) => (i, j) | _ => (0, 0)) = _
  rw [h]
section
variable {K : Fg} {σ : L2.St} {H H' H1 : Hp} {p : Addr} {ta tb tc te : TE} {tt : TT} {α β : Type} [Rp α] [Rp β] {x : α} {v u : V} {i j : Int} {b : Bool}
theorem er_ptup (h1 : Er K ta σ H i) (h2 : Er K tb σ H j) : Er K (tTup (tCons ta (tCons tb tNil))) σ H (Pt.mk i j) := fun H1 e Q q =>
  h1 H1 e _ fun v H2 e2 r2 => h2 H2 (e.trans e2) _ fun u H3 e3 r3 => ⟨by show 2 ≤ sizeLine; decide, fun p hp => by
    cases (show v = .int i from r2); cases (show u = .int j from r3)
    exact q (.ref p) _ ((e2.trans e3).trans (same_new hp)) ⟨p, rfl, upd_same⟩⟩
theorem pt_k : ∀ {vs : List V} {l : List Pt}, RL K H vs l → vs.map (kP H) = l.map fun p => (p.a, p.b)
  | _, _, .nil => rfl
  | _, _, .cons h r => by
    obtain ⟨t, rfl, ht⟩ := h
    rw [List.map_cons, List.map_cons, kP_at ht, pt_k r]
theorem pt_all : ∀ {vs : List V} {l : List Pt}, RL K H vs l → ∀ x ∈ vs, ∃ t, x = V.ref t ∧ H t = some (.tup [.int (kP H x).1, .int (kP H x).2])
  | _, _, .nil, _, h => by cases h
  | _, _, .cons h r, x, hx => by
    rcases List.mem_cons.mp hx with e | hx
    · subst e
      obtain ⟨t, rfl, ht⟩ := h
      exact ⟨t, rfl, by rw [kP_at ht]; exact ht⟩
    · exact pt_all r x hx
theorem rl_pt : ∀ {ys : List V}, (∀ x ∈ ys, ∃ t, x = V.ref t ∧ H t = some (.tup [.int (kP H x).1, .int (kP H x).2])) → RL K H ys (ys.map (kP H))
  | [], _ => .nil
  | y :: ys, h => .cons (by
      obtain ⟨t, e, ht⟩ := h y (List.mem_cons_self ..)
      exact ⟨t, _, _, e, sq_tup ht, rfl, rfl⟩) (rl_pt fun x hx => h x (List.mem_cons_of_mem _ hx))
theorem erl_sortedP {l : List Pt} (h : Er K ta σ H l) : ErL K (tCB (rSortedPO K) (tCons ta tNil)) σ H (srtP (l.map fun p => (p.a, p.b))) := erl_cb1 h fun H v r Q q => by
  obtain ⟨a, vs, rfl, h2, h3⟩ := r
  have ha := pt_all h3
  refine ⟨a, vs, kP H, rfl, h2.seq, ha, fun ys p hs hst hn => q p ys _ (same_new hn) hn upd_same ?_⟩
  have hy : ∀ x ∈ ys, ∃ t, x = V.ref t ∧ H t = some (.tup [.int (kP H x).1, .int (kP H x).2]) := fun x hx => ha x (hst.perm.mem_iff.mp hx)
  have e : srtP (l.map fun p => (p.a, p.b)) = ys.map (kP H) := by
    refine (soP_uniq ?_ ?_ (srtP_sorted _)).symm
    · exact ((hst.perm.map (kP H)).trans (by rw [pt_k h3])).trans (srtP_perm _).symm
    · exact List.pairwise_map.mpr hs
  rw [e]
  exact (rl_pt hy).mono (SF.new hn)
/-! ### lists not locked, read -/
theorem er_lastU {k : Nat} {l : List α} {x : α} (hσ : σ[k]? = some (some (.ref p))) (hu : Un K H p l) (hi : Er K tb σ H (-1 : Int)) (hx : l.getLast? = some x) : Er K (tOp (rIxL K) (tVar k) tb) σ H x := fun H1 e Q q => by
  obtain ⟨vs, hp, r⟩ := hu
  refine ⟨.ref p, hσ, hi H1 e _ fun u H2 e2 r2 => ?_⟩
  cases (show u = .int (-1) from r2)
  have hn : 0 < l.length := by cases l with
    | nil => cases hx
    | cons _ _ => exact Nat.succ_pos _
  rw [List.getLast?_eq_getElem?] at hx
  obtain ⟨w, hw, rw'⟩ := paired_get r hx
  have hl := paired_len r
  refine ⟨p, vs, -1, w, rfl, rfl, sq_lst ((e.trans e2) _ _ hp), ?_, q w H2 e2 (Rp.mono (SF.of (e.trans e2)) rw')⟩
  unfold atI ixN
  rw [if_neg (by decide), if_pos (by omega)]
  show vs[((-1 : Int) + (vs.length : Int)).toNat]? = some w
  rw [show ((-1 : Int) + (vs.length : Int)).toNat = l.length - 1 by omega]
  exact hw
theorem un_dp [Rq α] {l : List α} (h : Un K H p l) : Dp K H (.ref p) (.list (l.map Rq.toD)) := by
  obtain ⟨vs, h1, r⟩ := h
  exact .lst (sq_lst h1) (dp_all r)
theorem er_eqU {k : Nat} [Rq α] [Rt α] [DecidableEq α] {l m : List α} (hσ : σ[k]? = some (some (.ref p))) (hu : Un K H p l) (h : Er K tb σ H m) (hd : Rq.dep (List α) ≤ 64 := by decide) : Er K (tOp (rEqD K) (tVar k) tb) σ H (decide (l = m)) := fun H1 e Q q =>
  ⟨.ref p, hσ, h H1 e _ fun u H2 e2 r2 => ⟨_, _, un_dp (Un.mono (e.trans e2) hu), Rq.dp r2, shaped_of (α := List α) (Rt.all l) hd, shaped_of (α := List α) (Rt.all m) hd, by rw [show PyData.list (l.map Rq.toD) = Rq.toD l from rfl, eqv_dec]; exact q _ H2 e2 rfl⟩⟩
theorem src_range1I (h : Er K te σ H i) (hz : -1000000 ≤ i ∧ i ≤ 1000000) : Src K (iRng1 (tCons te tNil)) σ H (List.range i.toNat) := fun H1 e RR k => h H1 e _ fun v H2 e2 r => by
  cases (show v = .int i from r)
  refine ⟨i, rfl, by omega, by omega, k _ H2 (fun _ => True) (YFn fun j => .int (0 + j)) e2 ?_ (fun _ _ => trivial) fun j x hx H' s v H'' y => ?_⟩
  · rw [List.length_range]; exact walk_range
  · obtain ⟨rfl, rfl⟩ := y
    have hi : j < i.toNat := by
      have := (List.getElem?_eq_some_iff.mp hx).1
      rwa [List.length_range] at this
    rw [List.getElem?_range hi] at hx
    cases hx
    exact ⟨Same.refl _, by show V.int _ = V.int _; rw [Int.zero_add]⟩
/-! ### len(set(numbers)) -/
theorem er_lenSet {l : List Int} (h : Er K ta σ H l) (hn : l.Nodup) (hl : l.length < 64) : Er K (tLenSetI K ta) σ H l.length := fun H1 e Q q => h H1 e _ fun v H2 e2 r => by
  obtain ⟨a, vs, rfl, f, r⟩ := r
  have h2 := rl_ints r
  subst h2
  exact ⟨a, l, rfl, f.seq, hl, hn, q _ H2 e2 rfl⟩
/-! ### while, with what falls -/
variable {D : Ends} {tu tz : TS}
theorem s_whileN (Pv : Nat → L2.St → Hp → Prop) (n : Nat) (h0 : Pv n σ H)
    (hs : ∀ m σ' H', Pv m σ' H' → ∃ b, Et K tt σ' H' b ∧ (b = true → ∀ H1, Same H' H1 → tu { D with nx := fun σ2 H2 => ∃ m', m' < m ∧ Pv m' σ2 H2, ct := fun σ2 H2 => ∃ m', m' < m ∧ Pv m' σ2 H2, bk := D.nx } σ' H1) ∧ (b = false → ∀ H1, Same H' H1 → D.nx σ' H1)) : tWhile tt tu D σ H := by
  refine ⟨Pv, ⟨n, h0⟩, ?_⟩
  rintro m σ' H' p
  obtain ⟨b, hb, h1, h2⟩ := hs m σ' H' p
  refine hb H' (Same.refl _) _ fun H2 e => ?_
  cases b with
  | true => exact ⟨_, fun σ2 H2 ⟨m', l, p'⟩ => ⟨m', l, p'⟩, h1 rfl H2 e⟩
  | false => exact h2 rfl H2 e
theorem q_whileN (Pv : Nat → L2.St → Hp → Prop) (n : Nat) (h0 : Pv n σ H)
    (hs : ∀ m σ' H', Pv m σ' H' → ∃ b, Et K tt σ' H' b ∧ (b = true → ∀ H1, Same H' H1 → tu { D with nx := fun σ2 H2 => ∃ m', m' < m ∧ Pv m' σ2 H2, ct := fun σ2 H2 => ∃ m', m' < m ∧ Pv m' σ2 H2, bk := tz D } σ' H1) ∧ (b = false → ∀ H1, Same H' H1 → tz D σ' H1)) : tSeq (tWhile tt tu) tz D σ H :=
  s_whileN (D := { D with nx := tz D }) Pv n h0 hs
end
section
variable {X : Cx} (K : Fg) (h : X.K = K)
include h
theorem k_sortedP : CallR X (.builtin "sorted") (rSortedPO K) := by subst h; exact cr_sortedPO
theorem k_lenSet {a : Expr} {ta : TE} {p p2 q pos : Pos} (hc : X.calm = true) (hg : Gl X "len") (hm : X.mg "len" = none) (hg2 : Gl X "set") (hm2 : X.mg "set" = none) (ha : PE X a ta)
    (na : starEach [a] X.env = (false, eval a X.env) :: starEach [] X.env := by rfl) : PE X (.Call (.Name "len" p) [.Call (.Name "set" p2) [a] [] q] [] pos) (tLenSetI K ta) := by subst h; exact pe_lenSetI hc hg hm hg2 hm2 ha na
end
end BL

set_option Elab.async false
set_option linter.all false
set_option maxRecDepth 100000
set_option maxHeartbeats 2000000
namespace BL
open PySem PySem.Spec PyProof.Rows L2
section
variable {K : Fg} {σ : L2.St} {H H' H1 : Hp} {pd pn : Addr} {ta tb tc te : TE} {tt : TT} {α β γ δ : Type} [Rp α] [Rp β] [Rp γ] [Rp δ] {x : α} {v u : V} {i j : Int} {b : Bool} {wi : TI} {g : TG}
/-! ### a comprehension that draws -/
theorem epl_lm {l : List α} {vs : List Nat} {P : α → β → Prop} (hs : ∀ H1, DM pd pn H H1 → Src K wi σ H1 l) (hz : l.length ≤ 1000000)
    (turn : ∀ x, x ∈ l → ∀ v H1, DM pd pn H H1 → Rp.rep K H1 v x → ∃ σ2, (∀ Q : L2.St → Hp → Prop, Q σ2 H1 → g v (wipe σ vs) H1 Q) ∧ wipe σ2 vs = wipe σ vs ∧ Ep K pd pn te σ2 H1 (P x)) :
    EpL K pd pn (tLc wi g tYes te vs) σ H (fun out => Paired P l out) := fun H1 m dr Q q => hs H1 m H1 (Same.refl _) _ fun J H2 G Y e2 w hG hY D hD => by
  have d2 := dr.mono e2
  have n1 : D ≠ pd := (d2.pd_ne hD).symm
  have n2 : D ≠ pn := (d2.pn_ne hD).symm
  refine lc_it w (fun k H' => DM pd pn H2 H' ∧ Dr H' pd pn ∧ ∃ us out, H' D = some (.lst us) ∧ RL K H' us out ∧ Paired P (l.take k) out) ⟨DM.of (same_new hD), d2.mono (same_new hD), [], [], upd_same, .nil, .nil⟩ (fun k H' _ p => hG H' p.1.sf) (fun k v H' H'' hk p y => ?_) fun H' p => ?_
  · obtain ⟨p1, p2, us, out, p3, p4, p5⟩ := p
    have hx : l[k]? = some l[k] := List.getElem?_eq_getElem hk
    obtain ⟨s, r⟩ := hY k _ hx H' p1.sf v H'' y
    obtain ⟨σ2, hg, hw, he⟩ := turn l[k] (List.mem_of_getElem? hx) v H'' (m.trans ((DM.of e2).trans (p1.trans (DM.of s)))) r
    refine hg _ ⟨hw, et_yes (K := K) H'' (Same.refl _) _ fun H3 e3 => iteT ?_⟩
    refine he H3 (DM.of e3) ((p2.mono s).mono e3) _ fun w' H4 z m4 d4 hz4 r4 => ?_
    have hD3 : H3 D = some (.lst us) := (s.trans e3) _ _ p3
    have hD4 : H4 D = some (.lst us) := m4.ne _ _ n1 n2 hD3
    have htake : l.take (k + 1) = l.take k ++ [l[k]] := by rw [List.take_add_one, hx]; rfl
    have hlen : us.length ≤ l.length := by
      rw [paired_len p4, ← paired_len p5, List.length_take]; exact Nat.min_le_right _ _
    have mm : DM pd pn H2 H4 := p1.trans ((DM.of (s.trans e3)).trans m4)
    refine ⟨us, hD4, Nat.lt_of_le_of_lt (Nat.le_trans hlen hz) (by decide), ⟨sf_mut mm.sf hD, fun q o a b e => by rw [upd_ne (ne_of_none e hD)]; exact mm.ne q o a b e⟩, ?_, us ++ [w'], out ++ [z], upd_same, ?_, ?_⟩
    · obtain ⟨ns, kk, g1, g2, g3⟩ := d4
      exact ⟨ns, kk, upd_get g1 n1.symm, upd_get g2 n2.symm, g3⟩
    · exact RL.mono (SF.lst hD4) (paired_app (p4.mono ((SF.of (s.trans e3)).trans m4.sf)) (.cons r4 .nil))
    · rw [htake]; exact paired_app p5 (.cons hz4 .nil)
  · obtain ⟨p1, p2, us, out, p3, p4, p5⟩ := p
    rw [List.take_length] at p5
    exact q D us H' out ((DM.of e2).trans p1) p2 p5 (e2.free hD) p3 p4
theorem epl_lm1 {l : List α} {vs : List Nat} {k : Nat} {P : α → β → Prop} (hs : ∀ H1, DM pd pn H H1 → Src K wi σ H1 l) (hz : l.length ≤ 1000000) (hw : ∀ v : V, wipe ((wipe σ vs).set k (some v)) vs = wipe σ vs)
    (turn : ∀ x, x ∈ l → ∀ v H1, DM pd pn H H1 → Rp.rep K H1 v x → Ep K pd pn te ((wipe σ vs).set k (some v)) H1 (P x)) :
    EpL K pd pn (tLc wi (gName k) tYes te vs) σ H (fun out => Paired P l out) := epl_lm hs hz fun x hx v H1 e r => ⟨_, fun Q q => q, hw v, turn x hx v H1 e r⟩
theorem DM.mu_new {p : Addr} {H2 : Hp} (m : DM pd pn H H1) (h : H p = none) (mu : Mu p H1 H2) : DM pd pn H H2 := ⟨m.sf.trans mu.sf, fun q o a b e => mu.ne q o (ne_of_none e h) (m.ne q o a b e)⟩
theorem q_setLP {D : Ends} {tz : TS} {k : Nat} {P : List α → Prop} (dr : Dr H pd pn) (h : EpL K pd pn te σ H P) (q : ∀ v H1 l, DM pd pn H H1 → Dr H1 pd pn → P l → Rp.rep K H1 v l → tz D (σ.set k (some v)) H1)
    (hσ : ∀ p : Addr, (σ.set k (some (.ref p)))[k]? = some (some (.ref p)) := by intros; rfl) : tSeq (tAsg te (gName k)) (tFzS k tz) D σ H := h H (DM.refl _) dr _ fun p vs H1 l m d hP hn h1 r =>
  q_frz (hσ p) (Un.of h1 r) fun H2 mu r2 => q (.ref p) H2 l (m.mu_new hn mu) (d.of_mu mu (dr.pd_ne hn) (dr.pn_ne hn)) hP r2
/-! ### a number in a pair -/
theorem rr_inP {n : Bool} {p : Int × Int} : R2r K (rIn K n) i p (neg n (decide (i ∈ [p.1, p.2]))) := fun H v u e1 e2 Q q => by
  obtain ⟨a, v1, v2, rfl, h2, h3, h4⟩ := e2
  cases (show v = .int i from e1)
  cases (show v1 = .int p.1 from h3)
  cases (show v2 = .int p.2 from h4)
  exact ⟨a, _, rfl, .inr h2, rfl, flat_ints [p.1, p.2], by rw [show [V.int p.1, V.int p.2] = [p.1, p.2].map V.int from rfl, inV_int]; exact q _ H (Same.refl _) (by cases n <;> rfl)⟩
/-! ### a part of the law that is handed the draws: it answers True -/
def ansT (pd pn : Addr) (H : Hp) (Q : VK) : Prop := ∀ H', DM pd pn H H' → Dr H' pd pn → Q (.bl true) H'
def st1 (K : Fg) (pre : α → Prop) : Sp := fun vs H Q _ => ∃ pd pn v0 x0, vs = [.ref pd, v0] ∧ Dr H pd pn ∧ Rp.rep K H v0 x0 ∧ pre x0 ∧ ansT pd pn H Q
def st2 (K : Fg) (pre : α → β → Prop) : Sp := fun vs H Q _ => ∃ pd pn v0 v1 x0 x1, vs = [.ref pd, v0, v1] ∧ Dr H pd pn ∧ Rp.rep K H v0 x0 ∧ Rp.rep K H v1 x1 ∧ pre x0 x1 ∧ ansT pd pn H Q
def st3 (K : Fg) (pre : α → β → γ → Prop) : Sp := fun vs H Q _ => ∃ pd pn v0 v1 v2 x0 x1 x2, vs = [.ref pd, v0, v1, v2] ∧ Dr H pd pn ∧ Rp.rep K H v0 x0 ∧ Rp.rep K H v1 x1 ∧ Rp.rep K H v2 x2 ∧ pre x0 x1 x2 ∧ ansT pd pn H Q
theorem s_trueD {D : Ends} (h : Er K te σ H b) (hb : b = true) (hQ : ∀ H', Same H H' → D.rt (.bl true) H') : tRet te D σ H := h H (Same.refl _) _ fun v H1 e r => by
  cases (show v = .bl b from r); rw [hb]; exact hQ H1 e
/-- return part(draws, ..): True, too -/
theorem s_ret_st3 {D : Ends} {E : XK} {pre : α → β → γ → Prop} {x : α} {y : β} {z : γ} {k : Nat} (hσ : σ[k]? = some (some (.ref pd))) (dr : Dr H pd pn) (h1 : Er K ta σ H x) (h2 : Er K tb σ H y) (h3 : Er K tc σ H z) (hp : pre x y z) (hQ : ∀ H', DM pd pn H H' → Dr H' pd pn → D.rt (.bl true) H') :
    tRet (tCall (st3 K pre) [] E (tCons (tVar k) (tCons ta (tCons tb (tCons tc tNil))))) D σ H :=
  ⟨.ref pd, hσ, h1 H (Same.refl _) _ fun v0 H1 e1 r0 => h2 H1 e1 _ fun v1 H2 e2 r1 => h3 H2 (e1.trans e2) _ fun v2 H3 e3 r2 =>
    ⟨pd, pn, v0, v1, v2, x, y, z, rfl, dr.mono ((e1.trans e2).trans e3), Rp.mono (SF.of (e2.trans e3)) r0, Rp.mono (SF.of e3) r1, r2, hp, fun H' m d => hQ H' ((DM.of ((e1.trans e2).trans e3)).trans m) d⟩⟩
theorem len_st3 {pre : α → β → γ → Prop} : ∀ vs H Q E, st3 K pre vs H Q E → vs.length = 4 := fun vs H Q E h => by obtain ⟨_, _, _, _, _, _, _, _, rfl, _⟩ := h; rfl
theorem len_st2 {pre : α → β → Prop} : ∀ vs H Q E, st2 K pre vs H Q E → vs.length = 3 := fun vs H Q E h => by obtain ⟨_, _, _, _, _, _, rfl, _⟩ := h; rfl
theorem len_st1 {pre : α → Prop} : ∀ vs H Q E, st1 K pre vs H Q E → vs.length = 2 := fun vs H Q E h => by obtain ⟨_, _, _, _, rfl, _⟩ := h; rfl
end
end BL

set_option Elab.async false
set_option linter.all false
set_option maxRecDepth 100000
set_option maxHeartbeats 2000000
namespace BL
open PySem PySem.Spec PyProof.Rows L2
/-! ### the mathematics that all laws share -/
/-- bounds as they are asked -/
def BOk (b : List (Int × Int)) : Prop := 1 ≤ b.length ∧ b.length ≤ 7 ∧ ∀ p ∈ b, -50 ≤ p.1 ∧ p.1 ≤ p.2 ∧ p.2 ≤ 50
theorem getD_at {α : Type} {l : List α} {n : Nat} {d : α} (h : n < l.length) : l[n]? = some (l.getD n d) := by
  rw [List.getElem?_eq_getElem h, List.getD_eq_getElem?_getD, List.getElem?_eq_getElem h]; rfl
/-- what the laws draw: few values with few choices -/
def SmallP (n : Int) (b : List (Int × Int)) : Prop := 1 ≤ b.length ∧ (b.length : Int) ≤ n ∧ ∀ t ∈ b, -4 ≤ t.1 ∧ t.1 < 4 ∧ t.1 ≤ t.2 ∧ t.2 < t.1 + 4
theorem iabs_nat (i : Int) : iabs i = (i.natAbs : Int) := by unfold iabs; split <;> omega
def gcdI (a b : Int) : Int := (Int.gcd a b : Int)
/-- a fraction in lowest terms -/
def frI (a b : Int) : Int × Int := (a / gcdI a b, b / gcdI a b)
theorem gcdI_pos {a b : Int} (h : 0 < b) : 0 < gcdI a b := by
  unfold gcdI
  have := Int.gcd_pos_of_ne_zero_right a (show b ≠ 0 by omega)
  omega
theorem gcdI_le {a b : Int} (h : 0 < b) : gcdI a b ≤ b := by
  unfold gcdI
  have h1 : Int.gcd a b ∣ b.natAbs := Nat.gcd_dvd_right _ _
  have := Nat.le_of_dvd (by omega) h1
  omega
theorem gcd_turn {a b : Nat} (h : b ≠ 0) : Nat.gcd b (a % b) = Nat.gcd a b := by
  rw [Nat.gcd_comm a b, Nat.gcd_rec b a, Nat.gcd_comm (a % b) b]
theorem nat_mod_int (a b : Nat) : ((a : Int) % (b : Int)) = ((a % b : Nat) : Int) := by omega
def BndP (n : Int) (b : List (Int × Int)) : Prop := 1 ≤ b.length ∧ (b.length : Int) ≤ n ∧ ∀ t ∈ b, -30 ≤ t.1 ∧ t.1 < 30 ∧ t.1 ≤ t.2 ∧ t.2 < t.1 + 20
theorem bnd_bok {n : Int} {b : List (Int × Int)} (h : BndP n b) (hn : n ≤ 7) : BOk b := ⟨h.1, by have := h.2.1; omega, fun p hp => by have := h.2.2 p hp; omega⟩
theorem ord_of {b : List (Int × Int)} (h : BOk b) : ∀ p ∈ b, p.1 ≤ p.2 := fun p hp => (h.2.2 p hp).2.1
/-! ### lists below one another, place by place -/
def leL : List Int → List Int → Prop
  | [], [] => True
  | x :: l, y :: r => x ≤ y ∧ leL l r
  | _, _ => False
theorem leL_refl : ∀ l : List Int, leL l l
  | [] => trivial
  | _ :: l => ⟨Int.le_refl _, leL_refl l⟩
theorem leL_len : ∀ {l r : List Int}, leL l r → l.length = r.length
  | [], [], _ => rfl
  | _ :: l, _ :: r, h => by rw [List.length_cons, List.length_cons, leL_len h.2]
  | [], _ :: _, h => h.elim
  | _ :: _, [], h => h.elim
theorem leL_trans : ∀ {l r s : List Int}, leL l r → leL r s → leL l s
  | [], [], [], _, _ => trivial
  | _ :: _, _ :: _, _ :: _, h, k => ⟨Int.le_trans h.1 k.1, leL_trans h.2 k.2⟩
  | [], _ :: _, _, h, _ => h.elim
  | _ :: _, [], _, h, _ => h.elim
  | [], [], _ :: _, _, h => h.elim
  | _ :: _, _ :: _, [], _, h => h.elim
theorem leL_sum : ∀ {l r : List Int}, leL l r → l.sum ≤ r.sum
  | [], [], _ => Int.le_refl _
  | _ :: l, _ :: r, h => by rw [List.sum_cons, List.sum_cons]; have := leL_sum h.2; have := h.1; omega
  | [], _ :: _, h => h.elim
  | _ :: _, [], h => h.elim
theorem leL_getD : ∀ {l r : List Int} (n : Nat), leL l r → l.getD n 0 ≤ r.getD n 0
  | [], [], _, _ => Int.le_refl _
  | _ :: _, _ :: _, 0, h => h.1
  | _ :: l, _ :: r, n + 1, h => by
    rw [List.getD_cons_succ, List.getD_cons_succ]; exact leL_getD n h.2
  | [], _ :: _, _, h => h.elim
  | _ :: _, [], _, h => h.elim
theorem ins_head {x : Int} {l : List Int} (h : (x :: l).Pairwise (· ≤ ·)) : ins x l = x :: l := by
  cases l with
  | nil => rfl
  | cons y r =>
    unfold ins
    rw [if_pos ((List.pairwise_cons.mp h).1 y (List.mem_cons_self ..))]
theorem leL_ins : ∀ {l r : List Int} {x y : Int}, l.Pairwise (· ≤ ·) → r.Pairwise (· ≤ ·) → leL l r → x ≤ y → leL (ins x l) (ins y r)
  | [], [], x, y, _, _, _, h => ⟨h, trivial⟩
  | a :: l, b :: r, x, y, hl, hr, hlr, h => by
    obtain ⟨h1, h2⟩ := hlr
    have hl2 := (List.pairwise_cons.mp hl).2
    have hr2 := (List.pairwise_cons.mp hr).2
    unfold ins
    by_cases c1 : x ≤ a
    · rw [if_pos c1]
      by_cases c2 : y ≤ b
      · rw [if_pos c2]; exact ⟨h, h1, h2⟩
      · rw [if_neg c2]
        refine ⟨by omega, ?_⟩
        rw [← ins_head hl]
        exact leL_ins hl2 hr2 h2 (by omega)
    · rw [if_neg c1]
      by_cases c2 : y ≤ b
      · rw [if_pos c2]
        refine ⟨by omega, ?_⟩
        rw [← ins_head hr]
        exact leL_ins hl2 hr2 h2 (by omega)
      · rw [if_neg c2]
        exact ⟨h1, leL_ins hl2 hr2 h2 h⟩
  | [], _ :: _, _, _, _, _, h, _ => h.elim
  | _ :: _, [], _, _, _, _, h, _ => h.elim
theorem leL_srt : ∀ {l r : List Int}, leL l r → leL (srt l) (srt r)
  | [], [], _ => trivial
  | _ :: l, _ :: r, h => leL_ins (srt_sorted l) (srt_sorted r) (leL_srt h.2) h.1
  | [], _ :: _, h => h.elim
  | _ :: _, [], h => h.elim
theorem leL_above (c : Int) : ∀ {l r : List Int}, leL l r → (l.filter fun v => decide (v > c)).length ≤ (r.filter fun v => decide (v > c)).length
  | [], [], _ => Nat.le_refl _
  | x :: l, y :: r, h => by
    have ih := leL_above c h.2
    have h1 := h.1
    rw [List.filter_cons, List.filter_cons]
    by_cases c1 : x > c
    · rw [if_pos (decide_eq_true c1), if_pos (decide_eq_true (show y > c by omega)), List.length_cons, List.length_cons]; omega
    · rw [if_neg (by simp; omega)]
      split
      · rw [List.length_cons]; omega
      · exact ih
  | [], _ :: _, h => h.elim
  | _ :: _, [], h => h.elim
theorem srt_zero {l : List Int} (h : l ≠ []) : (srt l).getD 0 0 = mnl l := by
  have hl : 0 < (srt l).length := by rw [srt_len]; exact List.length_pos_iff.mpr h
  refine mnl_eq ?_ fun y hy => ?_
  · refine (srt_perm l).mem_iff.mp ?_
    cases e : srt l with
    | nil => rw [e] at hl; cases hl
    | cons x r => exact List.mem_cons_self ..
  · have hs := srt_sorted l
    have hy := (srt_perm l).mem_iff.mpr hy
    cases e : srt l with
    | nil => rw [e] at hl; cases hl
    | cons x r =>
      rw [e] at hs hy
      rcases List.mem_cons.mp hy with q | q
      · subst q; exact Int.le_refl _
      · exact (List.pairwise_cons.mp hs).1 y q
theorem sorted_last : ∀ {l : List Int}, l.Pairwise (· ≤ ·) → ∀ y ∈ l, y ≤ l.getD (l.length - 1) 0
  | [x], _, y, h => by rw [List.mem_singleton.mp h]; exact Int.le_refl _
  | x :: z :: r, hs, y, h => by
    have h2 := (List.pairwise_cons.mp hs).2
    have e : (x :: z :: r).getD ((x :: z :: r).length - 1) 0 = (z :: r).getD ((z :: r).length - 1) 0 := by simp [List.getD_cons_succ]
    rw [e]
    rcases List.mem_cons.mp h with q | q
    · subst q
      exact Int.le_trans ((List.pairwise_cons.mp hs).1 z (List.mem_cons_self ..)) (sorted_last h2 z (List.mem_cons_self ..))
    · exact sorted_last h2 y q
theorem getD_mem {l : List Int} {n : Nat} (h : n < l.length) : l.getD n 0 ∈ l := List.mem_of_getElem? (getD_at h)
theorem srt_last {l : List Int} (h : l ≠ []) : (srt l).getD (l.length - 1) 0 = mxl l := by
  have hl : 0 < (srt l).length := by rw [srt_len]; exact List.length_pos_iff.mpr h
  refine mxl_eq ?_ fun y hy => ?_
  · exact (srt_perm l).mem_iff.mp (getD_mem (by rw [srt_len] at hl ⊢; omega))
  · have := sorted_last (srt_sorted l) y ((srt_perm l).mem_iff.mpr hy)
    rw [srt_len] at this
    exact this
/-! ### fractions in lowest terms, compared -/
theorem frI_spec {x n : Int} (h : 0 < n) : ∃ g, 0 < g ∧ x = (frI x n).1 * g ∧ n = (frI x n).2 * g ∧ 0 < (frI x n).2 := by
  have hg := gcdI_pos (a := x) h
  have d1 : gcdI x n ∣ x := Int.gcd_dvd_left ..
  have d2 : gcdI x n ∣ n := Int.gcd_dvd_right ..
  refine ⟨gcdI x n, hg, (Int.ediv_mul_cancel d1).symm, (Int.ediv_mul_cancel d2).symm, ?_⟩
  exact Int.ediv_pos_of_pos_of_dvd h (Int.le_of_lt hg) d2
theorem frI_le {x n : Int} (h : 0 < n) : 0 < (frI x n).2 ∧ (frI x n).2 ≤ n := by
  obtain ⟨g, h1, h2, h3, h4⟩ := frI_spec (x := x) h
  refine ⟨h4, ?_⟩
  have : (frI x n).2 * 1 ≤ (frI x n).2 * g := Int.mul_le_mul_of_nonneg_left (by omega) (by omega)
  omega
/-- a fraction a / b below another, as their whole numbers tell -/
theorem frI_lt {x y n m : Int} (hn : 0 < n) (hm : 0 < m) : (frI x n).1 * (frI y m).2 < (frI y m).1 * (frI x n).2 ↔ x * m < y * n := by
  obtain ⟨g, g1, g2, g3, g4⟩ := frI_spec (x := x) hn
  obtain ⟨k, k1, k2, k3, k4⟩ := frI_spec (x := y) hm
  have e1 : x * m = (frI x n).1 * (frI y m).2 * (g * k) := by
    calc x * m = ((frI x n).1 * g) * ((frI y m).2 * k) := by rw [← g2, ← k3]
      _ = _ := by simp only [Int.mul_assoc, Int.mul_left_comm, Int.mul_comm]
  have e2 : y * n = (frI y m).1 * (frI x n).2 * (g * k) := by
    calc y * n = ((frI y m).1 * k) * ((frI x n).2 * g) := by rw [← k2, ← g3]
      _ = _ := by simp only [Int.mul_assoc, Int.mul_left_comm, Int.mul_comm]
  rw [e1, e2]
  have hp : 0 < g * k := Int.mul_pos g1 k1
  exact ⟨fun h => Int.mul_lt_mul_of_pos_right h hp, fun h => Int.lt_of_mul_lt_mul_right h (Int.le_of_lt hp)⟩
/-! ### all choices of integers, one after another -/
def rowExt (p : Int × Int) (r : List Int) : List (List Int) := (rgI p.1 (p.2 + 1 - p.1).toNat).map fun v => r ++ [v]
def rowsFrom (acc : List (List Int)) (b : List (Int × Int)) : List (List Int) := b.foldl (fun a p => a.flatMap (rowExt p)) acc
def rowsOf (b : List (Int × Int)) : List (List Int) := rowsFrom [[]] b
def inB : List (Int × Int) → List Int → Prop
  | [], [] => True
  | p :: b, x :: r => (p.1 ≤ x ∧ x ≤ p.2) ∧ inB b r
  | _, _ => False
theorem mem_rgI {lo : Int} {n : Nat} {x : Int} : x ∈ rgI lo n ↔ lo ≤ x ∧ x < lo + n := by
  unfold rgI
  rw [List.mem_map]
  constructor
  · rintro ⟨k, hk, rfl⟩
    have := List.mem_range.mp hk
    omega
  · rintro ⟨h1, h2⟩
    exact ⟨(x - lo).toNat, List.mem_range.mpr (by omega), by omega⟩
theorem len_rgI (lo : Int) (n : Nat) : (rgI lo n).length = n := by unfold rgI; rw [List.length_map, List.length_range]
theorem mem_rowsFrom : ∀ {b : List (Int × Int)} {acc : List (List Int)} {r : List Int}, r ∈ rowsFrom acc b ↔ ∃ r0 ∈ acc, ∃ r1, r = r0 ++ r1 ∧ inB b r1
  | [], acc, r => by
    constructor
    · intro h; exact ⟨r, h, [], (List.append_nil r).symm, trivial⟩
    · rintro ⟨r0, h0, r1, rfl, h1⟩
      cases r1 with
      | nil => rw [List.append_nil]; exact h0
      | cons _ _ => exact h1.elim
  | p :: b, acc, r => by
    show r ∈ rowsFrom (acc.flatMap (rowExt p)) b ↔ _
    rw [mem_rowsFrom]
    constructor
    · rintro ⟨r0, h0, r1, rfl, h1⟩
      obtain ⟨a, ha, h2⟩ := List.mem_flatMap.mp h0
      obtain ⟨v, hv, rfl⟩ := List.mem_map.mp h2
      have hv := mem_rgI.mp hv
      exact ⟨a, ha, v :: r1, by simp, by omega, h1⟩
    · rintro ⟨r0, h0, r1, rfl, h1⟩
      cases r1 with
      | nil => exact h1.elim
      | cons v r1 =>
        refine ⟨r0 ++ [v], List.mem_flatMap.mpr ⟨r0, h0, List.mem_map.mpr ⟨v, mem_rgI.mpr ?_, rfl⟩⟩, r1, by simp, h1.2⟩
        have := h1.1
        omega
theorem mem_rows {b : List (Int × Int)} {r : List Int} : r ∈ rowsOf b ↔ inB b r := by
  unfold rowsOf
  rw [mem_rowsFrom]
  constructor
  · rintro ⟨r0, h0, r1, rfl, h1⟩
    rw [List.mem_singleton.mp h0]; exact h1
  · intro h; exact ⟨[], List.mem_singleton.mpr rfl, r, rfl, h⟩
theorem inB_len : ∀ {b : List (Int × Int)} {r : List Int}, inB b r → r.length = b.length
  | [], [], _ => rfl
  | _ :: b, _ :: r, h => by rw [List.length_cons, List.length_cons, inB_len h.2]
  | [], _ :: _, h => h.elim
  | _ :: _, [], h => h.elim
theorem rows_take {b : List (Int × Int)} {k : Nat} {p : Int × Int} (h : b[k]? = some p) : rowsOf (b.take (k + 1)) = (rowsOf (b.take k)).flatMap (rowExt p) := by
  unfold rowsOf rowsFrom
  rw [List.take_add_one, h, List.foldl_append]; rfl
theorem flat_len {α β : Type} {f : α → List β} {n : Nat} : ∀ {l : List α}, (∀ x ∈ l, (f x).length ≤ n) → (l.flatMap f).length ≤ l.length * n
  | [], _ => by simp
  | x :: l, h => by
    rw [List.flatMap_cons, List.length_append, List.length_cons, Nat.add_mul, Nat.one_mul, Nat.add_comm]
    exact Nat.add_le_add (flat_len fun y hy => h y (List.mem_cons_of_mem _ hy)) (h x (List.mem_cons_self ..))
theorem rows_card : ∀ {b : List (Int × Int)} {acc : List (List Int)} {m : Nat}, (∀ p ∈ b, p.2 + 1 - p.1 ≤ (m : Int)) → (rowsFrom acc b).length ≤ acc.length * m ^ b.length
  | [], acc, m, _ => by show acc.length ≤ acc.length * m ^ 0; rw [Nat.pow_zero, Nat.mul_one]; exact Nat.le_refl _
  | p :: b, acc, m, h => by
    have ih := rows_card (b := b) (acc := acc.flatMap (rowExt p)) (m := m) fun q hq => h q (List.mem_cons_of_mem _ hq)
    have h1 : (acc.flatMap (rowExt p)).length ≤ acc.length * m := flat_len fun r _ => by
      unfold rowExt
      rw [List.length_map, len_rgI]
      have := h p (List.mem_cons_self ..)
      omega
    show (rowsFrom (acc.flatMap (rowExt p)) b).length ≤ acc.length * m ^ (b.length + 1)
    refine Nat.le_trans ih ?_
    rw [Nat.pow_succ, Nat.mul_comm (m ^ b.length) m, ← Nat.mul_assoc]
    exact Nat.mul_le_mul_right _ h1
/-- few bounds of few choices -/
def Few (b : List (Int × Int)) : Prop := b.length ≤ 7 ∧ ∀ p ∈ b, -1000 ≤ p.1 ∧ p.1 ≤ p.2 ∧ p.2 < p.1 + 4 ∧ p.2 ≤ 1000
theorem few_card {b : List (Int × Int)} (h : Few b) (k : Nat) : (rowsOf (b.take k)).length ≤ 16384 := by
  have h1 := rows_card (b := b.take k) (acc := [[]]) (m := 4) fun p hp => by have := h.2 p (List.mem_of_mem_take hp); omega
  have h2 : (b.take k).length ≤ 7 := Nat.le_trans (by rw [List.length_take]; exact Nat.min_le_right _ _) h.1
  have h3 : 4 ^ (b.take k).length ≤ 4 ^ 7 := Nat.pow_le_pow_right (by decide) h2
  have h4 : (4 : Nat) ^ 7 = 16384 := by decide
  have h5 : ([[]] : List (List Int)).length = 1 := rfl
  unfold rowsOf
  exact Nat.le_trans h1 (by rw [h5, Nat.one_mul]; exact Nat.le_trans h3 (by decide))
theorem ext_card {p : Int × Int} (h : p.2 < p.1 + 4) {l : List (List Int)} : (l.flatMap (rowExt p)).length ≤ l.length * 4 := flat_len fun r _ => by
  unfold rowExt
  rw [List.length_map, len_rgI]; omega
theorem small_few {n : Int} {b : List (Int × Int)} (h : SmallP n b) (hn : n ≤ 7) : Few b := ⟨by have := h.2.1; omega, fun p hp => by have := h.2.2 p hp; omega⟩
theorem small_bok {n : Int} {b : List (Int × Int)} (h : SmallP n b) (hn : n ≤ 7) : BOk b := ⟨h.1, by have := h.2.1; omega, fun p hp => by have := h.2.2 p hp; omega⟩
/-! ### fractions: their size -/
def Sz (k : Nat) (p : Int × Int) : Prop := 0 < p.2 ∧ p.2.natAbs < 2 ^ k ∧ p.1.natAbs < 2 ^ k
theorem pow_le2 {k m : Nat} (h : k ≤ m) : 2 ^ k ≤ 2 ^ m := Nat.pow_le_pow_right (by decide) h
theorem Sz.le {k m : Nat} {p : Int × Int} (h : Sz k p) (hk : k ≤ m) : Sz m p := ⟨h.1, Nat.lt_of_lt_of_le h.2.1 (pow_le2 hk), Nat.lt_of_lt_of_le h.2.2 (pow_le2 hk)⟩
theorem small_pre {b : Int} (h : 0 < b) (h2 : b ≤ 100) : 0 < b ∧ b.natAbs < 2 ^ 4000 := ⟨h, Nat.lt_of_lt_of_le (show b.natAbs < 2 ^ 7 by omega) (pow_le2 (by decide))⟩
theorem gcd_div {i a b : Int} (h : 0 < b ∧ b.natAbs < 2 ^ 4000) : CDivW i (gcdI a b) :=
  wide_div (b := 4000) (gcdI_pos h.1) (wide_le (Int.le_of_lt (gcdI_pos h.1)) (gcdI_le h.1) h.2) (by decide) (by decide)
theorem cmulW {i j : Int} {k : Nat} (hi : i.natAbs < 2 ^ k) (hj : j.natAbs < 2 ^ k) (h0 : 0 < k) (h : k ≤ 4000) : CMulW i j := by
  have a := PySem.Flt.log2_lt_of h0 hi
  have b := PySem.Flt.log2_lt_of h0 hj
  unfold CMulW; omega
theorem frI_sz {a b : Int} {k : Nat} (hb : 0 < b) (h1 : a.natAbs < 2 ^ k) (h2 : b.natAbs < 2 ^ k) : Sz k (frI a b) := by
  have hg := gcdI_pos (a := a) hb
  obtain ⟨g, g1, g2, g3, g4⟩ := frI_spec (x := a) hb
  refine ⟨g4, Nat.lt_of_le_of_lt ?_ h2, Nat.lt_of_le_of_lt ?_ h1⟩
  · conv => rhs; rw [g3, Int.natAbs_mul]
    exact Nat.le_mul_of_pos_right _ (by omega)
  · conv => rhs; rw [g2, Int.natAbs_mul]
    exact Nat.le_mul_of_pos_right _ (by omega)
theorem mul_sz {i j : Int} {k m : Nat} (hi : i.natAbs < 2 ^ k) (hj : j.natAbs < 2 ^ m) : (i * j).natAbs < 2 ^ (k + m) := wide_lt hi hj
theorem add_sz {i j : Int} {k : Nat} (hi : i.natAbs < 2 ^ k) (hj : j.natAbs < 2 ^ k) : (i + j).natAbs < 2 ^ (k + 1) := by
  rw [Nat.pow_succ]; omega
theorem sz_one {x : Int} (h : -200 ≤ x ∧ x ≤ 200) : Sz 8 (x, 1) := ⟨(show (0 : Int) < 1 by decide), (show (1 : Int).natAbs < 2 ^ 8 by decide), by show x.natAbs < 2 ^ 8; omega⟩
theorem sz_zero : Sz 1 (0, 1) := ⟨(show (0 : Int) < 1 by decide), (show (1 : Int).natAbs < 2 ^ 1 by decide), (show (0 : Int).natAbs < 2 ^ 1 by decide)⟩
theorem sz_pre {k m : Nat} {p q : Int × Int} (hp : Sz k p) (hq : Sz m q) (h : k + m ≤ 4000) : 0 < p.2 * q.2 ∧ (p.2 * q.2).natAbs < 2 ^ 4000 :=
  ⟨Int.mul_pos hp.1 hq.1, Nat.lt_of_lt_of_le (mul_sz hp.2.1 hq.2.1) (pow_le2 h)⟩
def pls (p q : Int × Int) : Int × Int := frI (p.1 * q.2 + q.1 * p.2) (p.2 * q.2)
def tms (p q : Int × Int) : Int × Int := frI (p.1 * q.1) (p.2 * q.2)
theorem sz_pls {k m : Nat} {p q : Int × Int} (hp : Sz k p) (hq : Sz m q) : Sz (k + m + 1) (pls p q) := by
  refine frI_sz (Int.mul_pos hp.1 hq.1) (add_sz (mul_sz hp.2.2 hq.2.1) ?_) (Nat.lt_of_lt_of_le (mul_sz hp.2.1 hq.2.1) (pow_le2 (by omega)))
  rw [Nat.add_comm]; exact mul_sz hq.2.2 hp.2.1
theorem sz_tms {k m : Nat} {p q : Int × Int} (hp : Sz k p) (hq : Sz m q) : Sz (k + m) (tms p q) := frI_sz (Int.mul_pos hp.1 hq.1) (mul_sz hp.2.2 hq.2.2) (mul_sz hp.2.1 hq.2.1)
theorem sz_neg {k : Nat} {p : Int × Int} (hp : Sz k p) : Sz k (-p.1, p.2) := ⟨hp.1, hp.2.1, by show (-p.1).natAbs < _; rw [Int.natAbs_neg]; exact hp.2.2⟩
theorem sz_fold {α : Type} {g : α → Int × Int} {k : Nat} : ∀ {l : List α} {m : Nat} {a : Int × Int}, Sz m a → (∀ x ∈ l, Sz k (g x)) → Sz (m + l.length * (k + 1)) (l.foldl (fun s x => pls s (g x)) a)
  | [], m, a, h, _ => by simpa using h
  | x :: l, m, a, h, hl => by
    rw [List.foldl_cons, List.length_cons, Nat.add_mul, Nat.one_mul]
    have h1 := sz_pls h (hl x (List.mem_cons_self ..))
    have := sz_fold (l := l) h1 fun y hy => hl y (List.mem_cons_of_mem _ hy)
    exact this.le (by omega)
theorem sz_neg0 {k : Nat} {p : Int × Int} (hp : Sz k p) : Sz k (0 - p.1, p.2) := by rw [Int.zero_sub]; exact sz_neg hp
theorem n_sz {α : Type} {l : List α} (h0 : l ≠ []) (h : l.length ≤ 8) : Sz 8 ((1 : Int), (l.length : Int)) := ⟨by have := List.length_pos_iff.mpr h0; show (0 : Int) < (l.length : Int); omega, by show (l.length : Int).natAbs < 2 ^ 8; omega, (show (1 : Int).natAbs < 2 ^ 8 by decide)⟩
/-! all lows and highs -/
def cstep (s : List (List Int)) (p : Int × Int) : List (List Int) := s.map (fun r => r ++ [p.1]) ++ mapIf (fun _ => decide (p.2 > p.1)) (fun r => r ++ [p.2]) s
theorem cor_len : ∀ {l : List (Int × Int)} {a : List (List Int)}, (l.foldl cstep a).length ≤ a.length * 2 ^ l.length
  | [], a => by simp
  | p :: l, a => by
    rw [List.foldl_cons, List.length_cons, Nat.pow_succ]
    refine Nat.le_trans (cor_len (l := l)) ?_
    rw [Nat.mul_comm (2 ^ l.length) 2, ← Nat.mul_assoc]
    refine Nat.mul_le_mul_right _ ?_
    unfold cstep
    rw [List.length_append, List.length_map]
    have := mapIf_le (c := fun _ : List Int => decide (p.2 > p.1)) (f := fun r => r ++ [p.2]) (l := a)
    omega
theorem cor_lenE {l : List (Int × Int)} {s : List (List Int)} (hs : s = l.foldl cstep [[]]) (h : l.length ≤ 7) : s.length ≤ 128 := by
  rw [hs]
  refine Nat.le_trans cor_len ?_
  have := pow_le2 h
  show 1 * _ ≤ _
  omega
theorem inB_app : ∀ {b : List (Int × Int)} {r : List Int} {p : Int × Int} {x : Int}, inB b r → p.1 ≤ x → x ≤ p.2 → inB (b ++ [p]) (r ++ [x])
  | [], [], _, _, _, h1, h2 => ⟨⟨h1, h2⟩, trivial⟩
  | _ :: b, _ :: r, _, _, h, h1, h2 => ⟨h.1, inB_app h.2 h1 h2⟩
  | [], _ :: _, _, _, h, _, _ => h.elim
  | _ :: _, [], _, _, h, _, _ => h.elim
theorem cor_in : ∀ {l : List (Int × Int)} {b : List (Int × Int)} {a : List (List Int)}, (∀ p ∈ l, p.1 ≤ p.2) → (∀ r ∈ a, inB b r) → ∀ r ∈ l.foldl cstep a, inB (b ++ l) r
  | [], b, a, _, h, r, hr => by rw [List.append_nil]; exact h r hr
  | p :: l, b, a, hp, h, r, hr => by
    rw [List.foldl_cons] at hr
    have h1 := hp p (List.mem_cons_self ..)
    have := cor_in (b := b ++ [p]) (fun q hq => hp q (List.mem_cons_of_mem _ hq)) (fun q hq => by
      unfold cstep at hq
      rcases List.mem_append.mp hq with hq | hq
      · obtain ⟨r0, h0, rfl⟩ := List.mem_map.mp hq
        exact inB_app (h r0 h0) (Int.le_refl _) h1
      · obtain ⟨r0, h0, rfl⟩ := List.mem_map.mp hq
        exact inB_app (h r0 (List.mem_filter.mp h0).1) h1 (Int.le_refl _)) r hr
    rwa [List.append_assoc] at this
theorem cor_inE {l : List (Int × Int)} {s : List (List Int)} (hs : s = l.foldl cstep [[]]) (hp : ∀ p ∈ l, p.1 ≤ p.2) : ∀ r ∈ s, inB l r := fun r hr => by
  rw [hs] at hr
  exact cor_in (b := []) hp (fun q hq => by rw [List.mem_singleton.mp hq]; trivial) r hr
theorem cor_ne : ∀ {l : List (Int × Int)} {a : List (List Int)}, a ≠ [] → l.foldl cstep a ≠ []
  | [], _, h => h
  | p :: l, a, h => cor_ne (l := l) (by unfold cstep; cases a with
    | nil => exact absurd rfl h
    | cons x r => simp)
theorem inB_all : ∀ {b : List (Int × Int)} {r : List Int}, inB b r → (∀ p ∈ b, -50 ≤ p.1 ∧ p.1 ≤ p.2 ∧ p.2 ≤ 50) → ∀ x ∈ r, -50 ≤ x ∧ x ≤ 50
  | [], [], _, _, _, h => by cases h
  | p :: b, y :: r, h, hb, x, hx => by
    rcases List.mem_cons.mp hx with e | hx
    · subst e; have := hb p (List.mem_cons_self ..); have := h.1; omega
    · exact inB_all h.2 (fun q hq => hb q (List.mem_cons_of_mem _ hq)) x hx
  | [], _ :: _, h, _, _, _ => h.elim
  | _ :: _, [], h, _, _, _ => h.elim
theorem row_sz {b : List (Int × Int)} (hB : BOk b) {r : List Int} (h : inB b r) : (r.map fun x => (x, (1 : Int))) ≠ [] ∧ (r.map fun x => (x, (1 : Int))).length ≤ 8 ∧ ∀ p ∈ r.map (fun x => (x, (1 : Int))), Sz 10 p := by
  have hl := inB_len h
  have := hB.1; have := hB.2.1
  refine ⟨fun e => ?_, by rw [List.length_map]; omega, fun p hp => ?_⟩
  · have := congrArg List.length e; rw [List.length_map] at this; simp at this; subst this; simp at hl; omega
  · obtain ⟨x, hx, rfl⟩ := List.mem_map.mp hp
    have := inB_all h hB.2.2 x hx
    exact (sz_one (by omega)).le (by decide)
/-! ### sums of rationals, and n times the squares about the mean -/
def s1 (l : List Rat) : Rat := l.foldr (· + ·) 0
def s2 (l : List Rat) : Rat := l.foldr (fun x s => x * x + s) 0
def ln (l : List Rat) : Rat := l.foldr (fun _ s => s + 1) 0
def vr (l : List Rat) : Rat := ln l * s2 l - s1 l * s1 l
theorem s1c (x : Rat) (l : List Rat) : s1 (x :: l) = x + s1 l := rfl
theorem s2c (x : Rat) (l : List Rat) : s2 (x :: l) = x * x + s2 l := rfl
theorem lnc (x : Rat) (l : List Rat) : ln (x :: l) = ln l + 1 := rfl
theorem sq_nn (x : Rat) : 0 ≤ x * x := by
  by_cases h : 0 ≤ x
  · exact Rat.mul_nonneg h h
  · have := Rat.mul_nonneg (a := -x) (b := -x) (by grind) (by grind); grind
theorem sqd_nn (x : Rat) : ∀ l : List Rat, 0 ≤ ln l * (x * x) - 2 * x * s1 l + s2 l
  | [] => by show (0 : Rat) ≤ 0 * (x * x) - 2 * x * 0 + 0; grind
  | y :: l => by
    have ih := sqd_nn x l
    have := sq_nn (x - y)
    rw [s1c, s2c, lnc]; grind
theorem vr_nn : ∀ l : List Rat, 0 ≤ vr l
  | [] => by show (0 : Rat) ≤ 0 * 0 - 0 * 0; grind
  | x :: l => by
    have ih := vr_nn l
    have := sqd_nn x l
    unfold vr at *
    rw [s1c, s2c, lnc]; grind
theorem ln_nn : ∀ l : List Rat, 0 ≤ ln l
  | [] => by show (0 : Rat) ≤ 0; grind
  | _ :: l => by rw [lnc]; have := ln_nn l; grind
/-- of pairs (x, y): what the x's have more -/
def dif (l : List (Rat × Rat)) : List Rat := l.map fun p => p.1 - p.2
def prd (l : List (Rat × Rat)) : Rat := l.foldr (fun p s => (p.1 - p.2) * p.2 + s) 0
theorem s1_dif : ∀ l : List (Rat × Rat), s1 (l.map (·.1)) = s1 (l.map (·.2)) + s1 (dif l)
  | [] => by show (0 : Rat) = 0 + 0; grind
  | p :: l => by
    have ih := s1_dif l
    show p.1 + s1 (l.map (·.1)) = p.2 + s1 (l.map (·.2)) + (p.1 - p.2 + s1 (dif l))
    grind
theorem s2_dif : ∀ l : List (Rat × Rat), s2 (l.map (·.1)) = s2 (l.map (·.2)) + 2 * prd l + s2 (dif l)
  | [] => by show (0 : Rat) = 0 + 2 * 0 + 0; grind
  | p :: l => by
    have ih := s2_dif l
    show p.1 * p.1 + s2 (l.map (·.1)) = p.2 * p.2 + s2 (l.map (·.2)) + 2 * ((p.1 - p.2) * p.2 + prd l) + ((p.1 - p.2) * (p.1 - p.2) + s2 (dif l))
    grind
theorem ln_map {α : Type} (f g : α → Rat) : ∀ l : List α, ln (l.map f) = ln (l.map g)
  | [] => rfl
  | _ :: l => by rw [List.map_cons, List.map_cons, lnc, lnc, ln_map f g l]
theorem prd_nn (n Y : Rat) : ∀ l : List (Rat × Rat), (∀ p ∈ l, 0 ≤ (p.1 - p.2) * (n * p.2 - Y)) → 0 ≤ n * prd l - Y * s1 (dif l)
  | [], _ => by show (0 : Rat) ≤ n * 0 - Y * 0; grind
  | p :: l, h => by
    have ih := prd_nn n Y l fun q hq => h q (List.mem_cons_of_mem _ hq)
    have := h p (List.mem_cons_self ..)
    show 0 ≤ n * ((p.1 - p.2) * p.2 + prd l) - Y * (p.1 - p.2 + s1 (dif l))
    grind
/-- moving away from the mean makes the squares more -/
theorem vr_key (l : List (Rat × Rat)) (h : ∀ p ∈ l, 0 ≤ (p.1 - p.2) * (ln (l.map (·.2)) * p.2 - s1 (l.map (·.2)))) : vr (l.map (·.2)) ≤ vr (l.map (·.1)) := by
  have a := s1_dif l
  have b := s2_dif l
  have c := prd_nn _ _ l h
  have d := vr_nn (dif l)
  have e1 : ln (l.map (·.1)) = ln (l.map (·.2)) := ln_map _ _ l
  have e2 : ln (dif l) = ln (l.map (·.2)) := ln_map _ _ l
  unfold vr at *
  rw [e2] at d
  rw [e1, a, b]
  grind
/-- one more value -/
theorem vr_more (x : Rat) (l : List Rat) (h : 0 < ln l) : vr l * (ln l + 1) ≤ vr (x :: l) * ln l := by
  have a := sqd_nn x l
  have b := sq_nn (ln l * x - s1 l)
  unfold vr
  rw [s1c, s2c, lnc]
  grind
/-! ### cut to bounds -/
def clp (lo hi t : Rat) : Rat := if t < lo then lo else if hi < t then hi else t
def clps (b : List (Rat × Rat)) (t : Rat) : List Rat := b.map fun p => clp p.1 p.2 t
theorem clp_in {lo hi : Rat} (t : Rat) (h : lo ≤ hi) : lo ≤ clp lo hi t ∧ clp lo hi t ≤ hi := by unfold clp; grind
theorem clp_mono {lo hi s t : Rat} (h : lo ≤ hi) (hs : s ≤ t) : clp lo hi s ≤ clp lo hi t ∧ clp lo hi t - clp lo hi s ≤ t - s := by unfold clp; grind
theorem clps_mono {s t : Rat} (hs : s ≤ t) : ∀ {b : List (Rat × Rat)}, (∀ p ∈ b, p.1 ≤ p.2) → s1 (clps b s) ≤ s1 (clps b t) ∧ s1 (clps b t) - s1 (clps b s) ≤ ln (clps b t) * (t - s)
  | [], _ => by show (0 : Rat) ≤ 0 ∧ (0 : Rat) - 0 ≤ 0 * (t - s); grind
  | p :: b, h => by
    have ih := clps_mono hs (b := b) fun q hq => h q (List.mem_cons_of_mem _ hq)
    have := clp_mono (h p (List.mem_cons_self ..)) hs
    show clp p.1 p.2 s + s1 (clps b s) ≤ clp p.1 p.2 t + s1 (clps b t) ∧ (clp p.1 p.2 t + s1 (clps b t)) - (clp p.1 p.2 s + s1 (clps b s)) ≤ (ln (clps b t) + 1) * (t - s)
    grind
theorem ln_clps (b : List (Rat × Rat)) (s t : Rat) : ln (clps b s) = ln (clps b t) := ln_map _ _ b
section
variable {b : List (Rat × Rat)} {c : Rat}
/-- c is the centre: the mean of what it cuts to -/
def Cen (b : List (Rat × Rat)) (c : Rat) : Prop := s1 (clps b c) = ln (clps b c) * c
theorem mul_nn_of {x y : Rat} (h : (0 ≤ x ∧ 0 ≤ y) ∨ (x ≤ 0 ∧ y ≤ 0)) : 0 ≤ x * y := by
  rcases h with ⟨h1, h2⟩ | ⟨h1, h2⟩
  · exact Rat.mul_nonneg h1 h2
  · have := Rat.mul_nonneg (a := -x) (b := -y) (by grind) (by grind); grind
/-- no choice has less -/
theorem cen_least (hc : Cen b c) (hb : ∀ p ∈ b, p.1 ≤ p.2) (f : Rat × Rat → Rat) (hf : ∀ p ∈ b, p.1 ≤ f p ∧ f p ≤ p.2) : vr (clps b c) ≤ vr (b.map f) := by
  have h := vr_key (b.map fun p => (f p, clp p.1 p.2 c)) (fun q hq => by
    obtain ⟨p, hp, rfl⟩ := List.mem_map.mp hq
    rw [List.map_map]
    have e : (b.map ((fun x : Rat × Rat => x.2) ∘ fun p => (f p, clp p.1 p.2 c))) = clps b c := rfl
    rw [e, hc]
    have hn := ln_nn (clps b c)
    have h1 := hf p hp
    have h2 := hb p hp
    show 0 ≤ (f p - clp p.1 p.2 c) * (ln (clps b c) * clp p.1 p.2 c - ln (clps b c) * c)
    have : 0 ≤ (f p - clp p.1 p.2 c) * (clp p.1 p.2 c - c) := by
      refine mul_nn_of ?_
      unfold clp; grind
    have := Rat.mul_nonneg hn this
    grind)
  rw [List.map_map, List.map_map] at h
  exact h
/-- the mean of what t cuts to, where t lies below the centre, above it -/
theorem cen_below (hc : Cen b c) (hb : ∀ p ∈ b, p.1 ≤ p.2) {t : Rat} (ht : t ≤ c) : ln (clps b t) * t ≤ s1 (clps b t) := by
  have := (clps_mono ht hb).2
  unfold Cen at hc
  rw [ln_clps b t c]
  grind
theorem cen_above (hc : Cen b c) (hb : ∀ p ∈ b, p.1 ≤ p.2) {t : Rat} (ht : c ≤ t) : s1 (clps b t) ≤ ln (clps b t) * t := by
  have := (clps_mono ht hb).2
  unfold Cen at hc
  rw [ln_clps b c t] at hc
  grind
theorem cut_away {s t : Rat} (hb : ∀ p ∈ b, p.1 ≤ p.2) (h : (s ≤ t ∧ ln (clps b t) * t ≤ s1 (clps b t)) ∨ (t ≤ s ∧ s1 (clps b t) ≤ ln (clps b t) * t)) : vr (clps b t) ≤ vr (clps b s) := by
  have h := vr_key (b.map fun p => (clp p.1 p.2 s, clp p.1 p.2 t)) (fun q hq => by
    obtain ⟨p, hp, rfl⟩ := List.mem_map.mp hq
    rw [List.map_map]
    have e : (b.map ((fun x : Rat × Rat => x.2) ∘ fun p => (clp p.1 p.2 s, clp p.1 p.2 t))) = clps b t := rfl
    rw [e]
    have hn := ln_nn (clps b t)
    have h2 := hb p hp
    show 0 ≤ (clp p.1 p.2 s - clp p.1 p.2 t) * (ln (clps b t) * clp p.1 p.2 t - s1 (clps b t))
    have a1 : s ≤ t → clp p.1 p.2 s < clp p.1 p.2 t → clp p.1 p.2 t ≤ t := by unfold clp; grind
    have a2 : t ≤ s → clp p.1 p.2 t < clp p.1 p.2 s → t ≤ clp p.1 p.2 t := by unfold clp; grind
    rcases h with ⟨h, hm⟩ | ⟨h, hm⟩
    · have m := (clp_mono h2 h).1
      by_cases q : clp p.1 p.2 s < clp p.1 p.2 t
      · refine mul_nn_of (.inr ⟨by grind, ?_⟩)
        have := Rat.mul_le_mul_of_nonneg_left (a1 h q) hn
        grind
      · have : clp p.1 p.2 s - clp p.1 p.2 t = 0 := by grind
        rw [this]; grind
    · have m := (clp_mono h2 h).1
      by_cases q : clp p.1 p.2 t < clp p.1 p.2 s
      · refine mul_nn_of (.inl ⟨by grind, ?_⟩)
        have := Rat.mul_le_mul_of_nonneg_left (a2 h q) hn
        grind
      · have : clp p.1 p.2 s - clp p.1 p.2 t = 0 := by grind
        rw [this]; grind)
  rw [List.map_map, List.map_map] at h
  exact h
end
/-! ### fractions in lowest terms as rationals -/
def fr (x : Rat) : Int × Int := (x.num, (x.den : Int))
theorem frI_fr {a b : Int} (hb : 0 < b) : frI a b = fr ((a : Rat) / (b : Rat)) := by
  rw [← Rat.divInt_eq_div]
  unfold fr frI gcdI
  rw [Rat.num_divInt, Rat.den_divInt, if_neg (by omega), Int.sign_eq_one_of_pos hb, Int.one_mul, Int.gcd_comm b a]
  refine Prod.ext rfl ?_
  show b / ((Int.gcd a b : Nat) : Int) = ((b.natAbs / Int.gcd a b : Nat) : Int)
  rw [Int.natCast_ediv, Int.natAbs_of_nonneg (by omega)]
theorem fr_int (x : Int) : (x, (1 : Int)) = fr (x : Rat) := rfl
theorem fr_den (x : Rat) : 0 < (fr x).2 := by
  show (0 : Int) < (x.den : Int)
  have := x.den_pos; omega
theorem fr_val (x : Rat) : ((fr x).1 : Rat) / ((fr x).2 : Rat) = x := by
  rw [← Rat.divInt_eq_div]
  show Rat.divInt x.num (x.den : Int) = x
  rw [Rat.num_divInt_den]
theorem fr_inj {x y : Rat} (h : fr x = fr y) : x = y := by rw [← fr_val x, ← fr_val y, h]
theorem cast_pos {b : Int} (h : 0 < b) : (0 : Rat) < (b : Rat) := by
  have := Rat.intCast_lt_intCast.mpr h
  simpa using this
theorem fr_pls (x y : Rat) : pls (fr x) (fr y) = fr (x + y) := by
  have h1 := fr_den x
  have h2 := fr_den y
  unfold pls
  rw [frI_fr (Int.mul_pos h1 h2)]
  congr 1
  have a := fr_val x
  have b := fr_val y
  have p1 := cast_pos h1
  have p2 := cast_pos h2
  rw [Rat.intCast_add, Rat.intCast_mul, Rat.intCast_mul, Rat.intCast_mul]
  generalize ((fr x).1 : Rat) = u at *
  generalize ((fr x).2 : Rat) = v at *
  generalize ((fr y).1 : Rat) = w at *
  generalize ((fr y).2 : Rat) = z at *
  grind
theorem fr_tms (x y : Rat) : tms (fr x) (fr y) = fr (x * y) := by
  have h1 := fr_den x
  have h2 := fr_den y
  unfold tms
  rw [frI_fr (Int.mul_pos h1 h2)]
  congr 1
  have a := fr_val x
  have b := fr_val y
  have p1 := cast_pos h1
  have p2 := cast_pos h2
  rw [Rat.intCast_mul, Rat.intCast_mul]
  generalize ((fr x).1 : Rat) = u at *
  generalize ((fr x).2 : Rat) = v at *
  generalize ((fr y).1 : Rat) = w at *
  generalize ((fr y).2 : Rat) = z at *
  grind
theorem fr_neg (x : Rat) : (-(fr x).1, (fr x).2) = fr (-x) := by
  unfold fr
  rw [Rat.neg_num, Rat.neg_den]
theorem fr_lt (x y : Rat) : (decide ((fr x).1 * (fr y).2 < (fr y).1 * (fr x).2)) = decide (x < y) := decide_eq_decide.mpr (Rat.lt_iff x y).symm
theorem fr_one {n : Int} (h : 0 < n) : ((1 : Int), n) = fr (1 / (n : Rat)) := by
  have e := frI_fr (a := 1) h
  have g : gcdI 1 n = 1 := by unfold gcdI; rw [Int.one_gcd]; rfl
  unfold frI at e
  rw [g, Int.ediv_one, Int.ediv_one] at e
  rw [e]; congr 1
theorem ln_len (l : List Rat) : ln l = ((l.length : Int) : Rat) := by
  induction l with
  | nil => rfl
  | cons x l ih =>
    rw [lnc, ih, List.length_cons, Int.natCast_add, Rat.intCast_add]; rfl
theorem fr_tot : ∀ (l : List Rat) (a : Rat), (l.map fr).foldl (fun s x => pls s x) (fr a) = fr (a + s1 l)
  | [], a => by show fr a = fr (a + 0); congr 1; grind
  | x :: l, a => by
    rw [List.map_cons, List.foldl_cons, fr_pls, fr_tot l, s1c]; congr 1; grind
theorem fr_sqs : ∀ (l : List Rat) (a : Rat), (l.map fr).foldl (fun s x => pls s (tms x x)) (fr a) = fr (a + s2 l)
  | [], a => by show fr a = fr (a + 0); congr 1; grind
  | x :: l, a => by
    rw [List.map_cons, List.foldl_cons, fr_tms, fr_pls, fr_sqs l, s2c]; congr 1; grind
theorem fr_gaps (m : Rat) : ∀ (l : List Rat) (a : Rat), (l.map fr).foldl (fun s x => pls s (tms (pls x (fr (-m))) (pls x (fr (-m))))) (fr a) = fr (a + (s2 l - 2 * m * s1 l + ln l * (m * m)))
  | [], a => by show fr a = fr (a + (0 - 2 * m * 0 + 0 * (m * m))); congr 1; grind
  | x :: l, a => by
    rw [List.map_cons, List.foldl_cons, fr_pls, fr_tms, fr_pls, fr_gaps m l, s1c, s2c, lnc]; congr 1; grind
/-- the squares about the mean -/
def sq (l : List Rat) : Rat := vr l / ln l
theorem ln_pos {l : List Rat} (h : l ≠ []) : 0 < ln l := by
  rw [ln_len]
  exact cast_pos (by have := List.length_pos_iff.mpr h; omega)
theorem sq_le {l r : List Rat} (hn : ln l = ln r) (hl : r ≠ []) (h : vr l ≤ vr r) : sq l ≤ sq r := by
  have hp := ln_pos hl
  unfold sq
  rw [hn]
  generalize ln r = n at *
  have : vr r / n - vr l / n = (vr r - vr l) * n⁻¹ := by grind
  have h2 : 0 ≤ (vr r - vr l) * n⁻¹ := Rat.mul_nonneg (by grind) (Rat.le_of_lt (Rat.inv_pos.mpr hp))
  grind
theorem sq_nn' (l : List Rat) : 0 ≤ sq l := by
  unfold sq
  have h1 := vr_nn l
  have h2 := ln_nn l
  rw [Rat.div_def]
  refine Rat.mul_nonneg h1 ?_
  by_cases h : ln l = 0
  · rw [h, Rat.inv_zero]; exact Rat.le_refl
  · exact Rat.le_of_lt (Rat.inv_pos.mpr (by grind))
/-! ### marks, one after another -/
theorem consec : ∀ {l : List Int} {x y : Int}, l.Pairwise (· ≤ ·) → (x, y) ∈ l.zip (l.drop 1) → x ≤ y ∧ x ∈ l ∧ y ∈ l ∧ ∀ m ∈ l, m ≤ x ∨ y ≤ m
  | [], _, _, _, h => by simp at h
  | [a], _, _, _, h => by simp at h
  | a :: b :: l, x, y, hs, h => by
    have hs2 := (List.pairwise_cons.mp hs).2
    have ha := (List.pairwise_cons.mp hs).1
    rw [List.drop_succ_cons, List.drop_zero, List.zip_cons_cons] at h
    rcases List.mem_cons.mp h with e | h
    · cases e
      refine ⟨ha b (List.mem_cons_self ..), List.mem_cons_self .., List.mem_cons_of_mem _ (List.mem_cons_self ..), fun m hm => ?_⟩
      rcases List.mem_cons.mp hm with e | hm
      · left; omega
      · right
        rcases List.mem_cons.mp hm with e | hm
        · omega
        · exact (List.pairwise_cons.mp hs2).1 m hm
    · have h' : (x, y) ∈ (b :: l).zip ((b :: l).drop 1) := by rw [List.drop_succ_cons, List.drop_zero]; exact h
      obtain ⟨h1, h2, h3, h4⟩ := consec hs2 h'
      refine ⟨h1, List.mem_cons_of_mem _ h2, List.mem_cons_of_mem _ h3, fun m hm => ?_⟩
      rcases List.mem_cons.mp hm with e | hm
      · subst e; left; exact ha x h2
      · exact h4 m hm
/-- what goes from not less than nothing to not more than nothing does so between two marks -/
theorem cross {f : Int → Rat} : ∀ {l : List Int} {a z : Int}, l.head? = some a → l.getLast? = some z → l.length ≥ 2 → 0 ≤ f a → f z ≤ 0 → ∃ x y, (x, y) ∈ l.zip (l.drop 1) ∧ 0 ≤ f x ∧ f y ≤ 0
  | [], _, _, _, _, h, _, _ => by simp at h
  | [_], _, _, _, _, h, _, _ => by simp at h
  | a :: b :: l, a', z, h1, h2, h3, h4, h5 => by
    simp only [List.head?_cons, Option.some.injEq] at h1
    subst h1
    by_cases c : f b ≤ 0
    · exact ⟨a, b, by rw [List.drop_succ_cons, List.drop_zero, List.zip_cons_cons]; exact List.mem_cons_self .., h4, c⟩
    · have hb : 0 ≤ f b := by grind
      cases l with
      | nil =>
        simp only [List.getLast?_cons_cons, List.getLast?_singleton, Option.some.injEq] at h2
        subst h2; exact absurd h5 c
      | cons d r =>
        obtain ⟨x, y, m, p, q⟩ := cross (f := f) (l := b :: d :: r) (a := b) (z := z) rfl (by rw [List.getLast?_cons_cons] at h2; exact h2) (by simp) hb h5
        refine ⟨x, y, ?_, p, q⟩
        rw [List.drop_succ_cons, List.drop_zero] at m ⊢
        rw [List.zip_cons_cons]
        exact List.mem_cons_of_mem _ m
def marks (b : List (Int × Int)) : List Int := srt (b.map (fun p => p.1) ++ b.map fun p => p.2)
def fixed (b : List (Int × Int)) (x y : Int) : List Int := mapIf (fun t : Int × Int => decide (t.1 ≥ y)) (fun t => t.1) b ++ mapIf (fun t : Int × Int => decide (t.2 ≤ x)) (fun t => t.2) b
theorem mem_mapIf {α β : Type} {c : α → Bool} {f : α → β} {l : List α} {a : α} (h : a ∈ l) (hc : c a = true) : f a ∈ mapIf c f l := List.mem_map.mpr ⟨a, List.mem_filter.mpr ⟨h, hc⟩, rfl⟩
theorem mem_marks {b : List (Int × Int)} {p : Int × Int} (h : p ∈ b) : p.1 ∈ marks b ∧ p.2 ∈ marks b :=
  ⟨(srt_perm _).mem_iff.mpr (List.mem_append_left _ (List.mem_map.mpr ⟨p, h, rfl⟩)), (srt_perm _).mem_iff.mpr (List.mem_append_right _ (List.mem_map.mpr ⟨p, h, rfl⟩))⟩
theorem fixed_ne {b : List (Int × Int)} (hn : b ≠ []) (h : ¬ mxl (b.map fun p => p.1) ≤ mnl (b.map fun p => p.2)) {x y : Int} (hm : (x, y) ∈ (marks b).zip ((marks b).drop 1)) : fixed b x y ≠ [] := by
  obtain ⟨h1, _, _, h4⟩ := consec (srt_sorted _) hm
  obtain ⟨p, hp, ep⟩ := List.mem_map.mp (mxl_mem (l := b.map fun p => p.1) (by simpa using hn))
  obtain ⟨q, hq, eq⟩ := List.mem_map.mp (mnl_mem (l := b.map fun p => p.2) (by simpa using hn))
  rw [← ep, ← eq] at h
  intro c
  have a1 : ¬ p.1 ≥ y := fun k => by
    have := mem_mapIf (c := fun t : Int × Int => decide (t.1 ≥ y)) (f := fun t => t.1) hp (decide_eq_true k)
    have : p.1 ∈ fixed b x y := List.mem_append_left _ this
    rw [c] at this; cases this
  have a2 : ¬ q.2 ≤ x := fun k => by
    have := mem_mapIf (c := fun t : Int × Int => decide (t.2 ≤ x)) (f := fun t => t.2) hq (decide_eq_true k)
    have : q.2 ∈ fixed b x y := List.mem_append_right _ this
    rw [c] at this; cases this
  have b1 := h4 _ (mem_marks hp).1
  have b2 := h4 _ (mem_marks hq).2
  omega
theorem fixed_len (b : List (Int × Int)) (x y : Int) : (fixed b x y).length ≤ 2 * b.length := by
  unfold fixed
  rw [List.length_append]
  have := mapIf_le (c := fun t : Int × Int => decide (t.1 ≥ y)) (f := fun t => t.1) (l := b)
  have := mapIf_le (c := fun t : Int × Int => decide (t.2 ≤ x)) (f := fun t => t.2) (l := b)
  omega
theorem sum_abs {c : Int} : ∀ {l : List Int}, (∀ x ∈ l, -c ≤ x ∧ x ≤ c) → -(c * l.length) ≤ l.sum ∧ l.sum ≤ c * l.length
  | [], _ => by simp
  | x :: l, h => by
    have h1 := h x (List.mem_cons_self ..)
    have ih := sum_abs (l := l) fun y hy => h y (List.mem_cons_of_mem _ hy)
    rw [List.sum_cons, List.length_cons, Int.natCast_add, Int.mul_add]; omega
theorem fixed_in {b : List (Int × Int)} {x y : Int} (h : ∀ p ∈ b, -50 ≤ p.1 ∧ p.1 ≤ p.2 ∧ p.2 ≤ 50) : ∀ v ∈ fixed b x y, -50 ≤ v ∧ v ≤ 50 := fun v hv => by
  rcases List.mem_append.mp hv with hv | hv
  · obtain ⟨p, hp, rfl⟩ := List.mem_map.mp hv
    have := h p (List.mem_filter.mp hp).1; omega
  · obtain ⟨p, hp, rfl⟩ := List.mem_map.mp hv
    have := h p (List.mem_filter.mp hp).1; omega
theorem num_sz {b : List (Int × Int)} (hB : BOk b) (h : ¬ mxl (b.map fun p => p.1) ≤ mnl (b.map fun p => p.2)) {x y : Int} (hm : (x, y) ∈ (marks b).zip ((marks b).drop 1)) :
    0 < ((fixed b x y).length : Int) ∧ Sz 10 (frI (fixed b x y).sum (fixed b x y).length) := by
  have hn : b ≠ [] := fun e => by have := hB.1; rw [e] at this; simp at this
  have h1 := List.length_pos_iff.mpr (fixed_ne hn h hm)
  have h2 := fixed_len b x y
  have h3 := sum_abs (c := 50) (fixed_in (b := b) (x := x) (y := y) hB.2.2)
  have := hB.2.1
  exact ⟨by omega, frI_sz (by omega) (by omega) (by omega)⟩
theorem mark_in {b : List (Int × Int)} (hB : BOk b) {m : Int} (h : m ∈ marks b) : -50 ≤ m ∧ m ≤ 50 := by
  have h := (srt_perm _).mem_iff.mp h
  rcases List.mem_append.mp h with h | h
  · obtain ⟨p, hp, rfl⟩ := List.mem_map.mp h
    have := hB.2.2 p hp; omega
  · obtain ⟨p, hp, rfl⟩ := List.mem_map.mp h
    have := hB.2.2 p hp; omega
/-! ### squares are convex in each value: the corners have the most -/
def vrA (n a s : Rat) (l : List Rat) : Rat := (n + ln l) * (s + s2 l) - (a + s1 l) * (a + s1 l)
theorem vrA_zero (l : List Rat) : vrA 0 0 0 l = vr l := by unfold vrA vr; grind
theorem vrA_cons (n a s x : Rat) (l : List Rat) : vrA n a s (x :: l) = vrA (n + 1) (a + x) (s + x * x) l := by
  unfold vrA; rw [s1c, s2c, lnc]; grind
theorem vrA_conv {n a s lo x hi : Rat} (l : List Rat) (hn : 0 ≤ n) (h1 : lo ≤ x) (h2 : x ≤ hi) : ∃ e, (e = lo ∨ e = hi) ∧ vrA n a s (x :: l) ≤ vrA n a s (e :: l) := by
  have hl := ln_nn l
  have hN : 0 ≤ n + ln l := by grind
  by_cases c : 0 ≤ (n + ln l) * (hi + x) - 2 * (a + s1 l)
  · refine ⟨hi, .inr rfl, ?_⟩
    have := Rat.mul_nonneg (show 0 ≤ hi - x by grind) c
    unfold vrA; rw [s1c, s1c, s2c, s2c, lnc, lnc]; grind
  · refine ⟨lo, .inl rfl, ?_⟩
    have m := Rat.mul_nonneg hN (show 0 ≤ hi - lo by grind)
    have := Rat.mul_nonneg (show 0 ≤ x - lo by grind) (show 0 ≤ 2 * (a + s1 l) - (n + ln l) * (x + lo) by grind)
    unfold vrA; rw [s1c, s1c, s2c, s2c, lnc, lnc]; grind
/-- each value at one of its ends -/
def Cor (c : List ((Rat × Rat) × Rat)) : Prop := ∀ q ∈ c, q.2 = q.1.1 ∨ q.2 = q.1.2
theorem cor_most : ∀ (z : List ((Rat × Rat) × Rat)) {n a s : Rat}, 0 ≤ n → (∀ q ∈ z, q.1.1 ≤ q.2 ∧ q.2 ≤ q.1.2) →
    ∃ c : List ((Rat × Rat) × Rat), c.map (·.1) = z.map (·.1) ∧ Cor c ∧ vrA n a s (z.map (·.2)) ≤ vrA n a s (c.map (·.2))
  | [], _, _, _, _, _ => ⟨[], rfl, fun _ hq => absurd hq List.not_mem_nil, Rat.le_refl⟩
  | q :: z, n, a, s, hn, h => by
    have hq := h q (List.mem_cons_self ..)
    obtain ⟨e, he, h1⟩ := vrA_conv (a := a) (s := s) (z.map (·.2)) hn hq.1 hq.2
    obtain ⟨c, c1, c2, c3⟩ := cor_most z (n := n + 1) (a := a + e) (s := s + e * e) (by grind) fun r hr => h r (List.mem_cons_of_mem _ hr)
    refine ⟨(q.1, e) :: c, by rw [List.map_cons, List.map_cons, c1], fun r hr => ?_, ?_⟩
    · rcases List.mem_cons.mp hr with hr | hr
      · subst hr; exact he
      · exact c2 r hr
    · rw [List.map_cons]
      refine Rat.le_trans h1 ?_
      rw [vrA_cons, List.map_cons, vrA_cons]
      exact c3
theorem cor_most0 (z : List ((Rat × Rat) × Rat)) (h : ∀ q ∈ z, q.1.1 ≤ q.2 ∧ q.2 ≤ q.1.2) : ∃ c : List ((Rat × Rat) × Rat), c.map (·.1) = z.map (·.1) ∧ Cor c ∧ vr (z.map (·.2)) ≤ vr (c.map (·.2)) := by
  obtain ⟨c, c1, c2, c3⟩ := cor_most z (n := 0) (a := 0) (s := 0) Rat.le_refl h
  rw [vrA_zero, vrA_zero] at c3
  exact ⟨c, c1, c2, c3⟩
/-! the greatest of some -/
def bestR (B : Rat) (l : List Rat) : Rat := l.foldl (fun s x => if s < x then x else s) B
theorem bestR_ge : ∀ (l : List Rat) (B : Rat), B ≤ bestR B l ∧ ∀ x ∈ l, x ≤ bestR B l
  | [], _ => ⟨Rat.le_refl, fun _ h => by cases h⟩
  | y :: l, B => by
    obtain ⟨h1, h2⟩ := bestR_ge l (if B < y then y else B)
    have e : bestR B (y :: l) = bestR (if B < y then y else B) l := rfl
    rw [e]
    refine ⟨?_, fun x hx => ?_⟩
    · split at h1 <;> grind
    · rcases List.mem_cons.mp hx with q | hx
      · subst q; split at h1 <;> grind
      · exact h2 x hx
theorem bestR_mem : ∀ (l : List Rat) (B : Rat), bestR B l = B ∨ bestR B l ∈ l
  | [], _ => .inl rfl
  | y :: l, B => by
    have e : bestR B (y :: l) = bestR (if B < y then y else B) l := rfl
    rw [e]
    rcases bestR_mem l (if B < y then y else B) with h | h
    · rw [h]; split
      · exact .inr (List.mem_cons_self ..)
      · exact .inl rfl
    · exact .inr (List.mem_cons_of_mem _ h)
/-- it is the one that is attained and no less than all -/
theorem bestR_eq {l : List Rat} {B m : Rat} (hl : l ≠ []) (h0 : ∀ x ∈ l, B ≤ x) (hm : m ∈ l) (hx : ∀ x ∈ l, x ≤ m) : bestR B l = m := by
  obtain ⟨h1, h2⟩ := bestR_ge l B
  have h3 := h2 m hm
  rcases bestR_mem l B with e | e
  · have := h0 m hm; grind
  · have := hx _ e; grind
/-! in whole numbers -/
def inC : List (Int × Int) → List Int → Prop
  | [], [] => True
  | p :: b, x :: r => (x = p.1 ∨ x = p.2) ∧ inC b r
  | _, _ => False
theorem cor_int : ∀ {b : List (Int × Int)} {c : List ((Rat × Rat) × Rat)}, c.map (·.1) = (b.map fun p => ((p.1 : Rat), (p.2 : Rat))) → Cor c → ∃ r, inC b r ∧ r.map (fun x : Int => (x : Rat)) = c.map (·.2)
  | [], [], _, _ => ⟨[], trivial, rfl⟩
  | p :: b, q :: c, e, h => by
    rw [List.map_cons, List.map_cons, List.cons.injEq] at e
    obtain ⟨r, h1, h2⟩ := cor_int e.2 fun t ht => h t (List.mem_cons_of_mem _ ht)
    have hq := h q (List.mem_cons_self ..)
    rw [e.1] at hq
    rcases hq with hq | hq
    · exact ⟨p.1 :: r, ⟨.inl rfl, h1⟩, by rw [List.map_cons, List.map_cons, h2, hq]⟩
    · exact ⟨p.2 :: r, ⟨.inr rfl, h1⟩, by rw [List.map_cons, List.map_cons, h2, hq]⟩
  | [], _ :: _, e, _ => by cases e
  | _ :: _, [], e, _ => by cases e
theorem inC_split {f : List (List Int) → Int × Int → List (List Int)} (hf : ∀ s p r, p.1 ≤ p.2 → (r ∈ f s p ↔ ∃ r0 ∈ s, r = r0 ++ [p.1] ∨ r = r0 ++ [p.2])) : ∀ {b : List (Int × Int)} {acc : List (List Int)} {r : List Int}, (∀ p ∈ b, p.1 ≤ p.2) → (r ∈ b.foldl f acc ↔ ∃ r0 ∈ acc, ∃ r1, r = r0 ++ r1 ∧ inC b r1)
  | [], acc, r, _ => by
    constructor
    · intro h; exact ⟨r, h, [], (List.append_nil r).symm, trivial⟩
    · rintro ⟨r0, h0, r1, rfl, h1⟩
      cases r1 with
      | nil => rw [List.append_nil]; exact h0
      | cons _ _ => exact h1.elim
  | p :: b, acc, r, hb => by
    have hp := hb p (List.mem_cons_self ..)
    rw [List.foldl_cons, inC_split hf fun q hq => hb q (List.mem_cons_of_mem _ hq)]
    constructor
    · rintro ⟨r0, h0, r1, rfl, h1⟩
      obtain ⟨a, ha, h2⟩ := (hf _ _ _ hp).mp h0
      rcases h2 with rfl | rfl
      · exact ⟨a, ha, p.1 :: r1, by simp, .inl rfl, h1⟩
      · exact ⟨a, ha, p.2 :: r1, by simp, .inr rfl, h1⟩
    · rintro ⟨r0, h0, r1, rfl, h1⟩
      cases r1 with
      | nil => exact h1.elim
      | cons v r1 =>
        refine ⟨r0 ++ [v], (hf _ _ _ hp).mpr ⟨r0, h0, ?_⟩, r1, by simp, h1.2⟩
        rcases h1.1 with e | e
        · subst e; exact .inl rfl
        · subst e; exact .inr rfl
theorem inC_inB : ∀ {b : List (Int × Int)} {r : List Int}, (∀ p ∈ b, p.1 ≤ p.2) → inC b r → inB b r
  | [], [], _, _ => trivial
  | p :: b, x :: r, hb, h => by
    have hp := hb p (List.mem_cons_self ..)
    exact ⟨by rcases h.1 with e | e <;> omega, inC_inB (fun q hq => hb q (List.mem_cons_of_mem _ hq)) h.2⟩
  | [], _ :: _, _, h => h.elim
  | _ :: _, [], _, h => h.elim
theorem inC_get : ∀ {b : List (Int × Int)} {r : List Int}, inC b r → ∀ k, k < b.length → r.getD k 0 = (b.getD k (0, 0)).1 ∨ r.getD k 0 = (b.getD k (0, 0)).2
  | p :: b, x :: r, h, 0, _ => h.1
  | p :: b, x :: r, h, k + 1, hk => by
    rw [List.getD_cons_succ, List.getD_cons_succ]
    exact inC_get h.2 k (by simpa using hk)
  | [], [], _, _, h => by cases h
  | [], _ :: _, h, _, _ => h.elim
  | _ :: _, [], h, _, _ => h.elim
def topS (i : Nat) : Stmt := PySem.Challenge.pw_boundstats_k04_whole_squares.main.body.getD i (.Pass ⟨0, 0, 0, 0⟩)
abbrev s_is_int : Stmt := topS 5
abbrev N_is_int : List Str := ["value", "low", "high"]
theorem sc_is_int : FnScope N_is_int ["value", "low", "high"] (defScope s_is_int) := ⟨rfl, rfl, rfl, by decide +kernel, rfl, by decide +kernel, by decide +kernel⟩
abbrev s_is_bound : Stmt := topS 6
abbrev N_is_bound : List Str := ["value"]
theorem sc_is_bound : FnScope N_is_bound ["value"] (defScope s_is_bound) := ⟨rfl, rfl, rfl, by decide +kernel, rfl, by decide +kernel, by decide +kernel⟩
abbrev s_is_bounds : Stmt := topS 7
abbrev N_is_bounds : List Str := ["value", "one"]
theorem sc_is_bounds : FnScope N_is_bounds ["value"] (defScope s_is_bounds) := ⟨rfl, rfl, rfl, by decide +kernel, rfl, by decide +kernel, by decide +kernel⟩
abbrev s_check_bounds : Stmt := topS 8
abbrev N_check_bounds : List Str := ["value"]
theorem sc_check_bounds : FnScope N_check_bounds ["value"] (defScope s_check_bounds) := ⟨rfl, rfl, rfl, by decide +kernel, rfl, by decide +kernel, by decide +kernel⟩
abbrev s_common_divisor : Stmt := topS 10
abbrev N_common_divisor : List Str := ["one", "other"]
theorem sc_common_divisor : FnScope N_common_divisor ["one", "other"] (defScope s_common_divisor) := ⟨rfl, rfl, rfl, by decide +kernel, rfl, by decide +kernel, by decide +kernel⟩
abbrev s_lowest : Stmt := topS 11
abbrev N_lowest : List Str := ["top", "below", "divisor"]
theorem sc_lowest : FnScope N_lowest ["top", "below"] (defScope s_lowest) := ⟨rfl, rfl, rfl, by decide +kernel, rfl, by decide +kernel, by decide +kernel⟩
abbrev s_plus : Stmt := topS 12
abbrev N_plus : List Str := ["one", "other"]
theorem sc_plus : FnScope N_plus ["one", "other"] (defScope s_plus) := ⟨rfl, rfl, rfl, by decide +kernel, rfl, by decide +kernel, by decide +kernel⟩
abbrev s_minus : Stmt := topS 13
abbrev N_minus : List Str := ["one", "other"]
theorem sc_minus : FnScope N_minus ["one", "other"] (defScope s_minus) := ⟨rfl, rfl, rfl, by decide +kernel, rfl, by decide +kernel, by decide +kernel⟩
abbrev s_times : Stmt := topS 14
abbrev N_times : List Str := ["one", "other"]
theorem sc_times : FnScope N_times ["one", "other"] (defScope s_times) := ⟨rfl, rfl, rfl, by decide +kernel, rfl, by decide +kernel, by decide +kernel⟩
abbrev s_less : Stmt := topS 15
abbrev N_less : List Str := ["one", "other"]
theorem sc_less : FnScope N_less ["one", "other"] (defScope s_less) := ⟨rfl, rfl, rfl, by decide +kernel, rfl, by decide +kernel, by decide +kernel⟩
abbrev s_total : Stmt := topS 16
abbrev N_total : List Str := ["some", "found", "one"]
theorem sc_total : FnScope N_total ["some"] (defScope s_total) := ⟨rfl, rfl, rfl, by decide +kernel, rfl, by decide +kernel, by decide +kernel⟩
abbrev s_squares_about_mean : Stmt := topS 17
abbrev N_squares_about_mean : List Str := ["some", "whole", "found", "one"]
theorem sc_squares_about_mean : FnScope N_squares_about_mean ["some"] (defScope s_squares_about_mean) := ⟨rfl, rfl, rfl, by decide +kernel, rfl, by decide +kernel, by decide +kernel⟩
abbrev s_lows : Stmt := topS 19
abbrev N_lows : List Str := ["bounds", "low", "high"]
theorem sc_lows : FnScope N_lows ["bounds"] (defScope s_lows) := ⟨rfl, rfl, rfl, by decide +kernel, rfl, by decide +kernel, by decide +kernel⟩
abbrev s_highs : Stmt := topS 20
abbrev N_highs : List Str := ["bounds", "low", "high"]
theorem sc_highs : FnScope N_highs ["bounds"] (defScope s_highs) := ⟨rfl, rfl, rfl, by decide +kernel, rfl, by decide +kernel, by decide +kernel⟩
abbrev s_corner_choices : Stmt := topS 22
abbrev N_corner_choices : List Str := ["bounds", "found", "low", "high", "one"]
theorem sc_corner_choices : FnScope N_corner_choices ["bounds"] (defScope s_corner_choices) := ⟨rfl, rfl, rfl, by decide +kernel, rfl, by decide +kernel, by decide +kernel⟩
abbrev s_widest : Stmt := topS 24
abbrev N_widest : List Str := ["bounds", "best", "most", "one", "own", "value"]
theorem sc_widest : FnScope N_widest ["bounds"] (defScope s_widest) := ⟨rfl, rfl, rfl, by decide +kernel, rfl, by decide +kernel, by decide +kernel⟩
abbrev s_greatest_squares : Stmt := topS 23
abbrev N_greatest_squares : List Str := ["bounds", "value"]
theorem sc_greatest_squares : FnScope N_greatest_squares ["bounds"] (defScope s_greatest_squares) := ⟨rfl, rfl, rfl, by decide +kernel, rfl, by decide +kernel, by decide +kernel⟩
abbrev s_widest_squares_choice : Stmt := topS 25
abbrev N_widest_squares_choice : List Str := ["bounds"]
theorem sc_widest_squares_choice : FnScope N_widest_squares_choice ["bounds"] (defScope s_widest_squares_choice) := ⟨rfl, rfl, rfl, by decide +kernel, rfl, by decide +kernel, by decide +kernel⟩
abbrev s_clipped : Stmt := topS 26
abbrev N_clipped : List Str := ["bounds", "number", "found", "low", "high"]
theorem sc_clipped : FnScope N_clipped ["bounds", "number"] (defScope s_clipped) := ⟨rfl, rfl, rfl, by decide +kernel, rfl, by decide +kernel, by decide +kernel⟩
abbrev s_centre_of : Stmt := topS 27
abbrev N_centre_of : List Str := ["bounds", "low", "high", "marks", "one", "other", "fixed", "number", "a", "b"]
theorem sc_centre_of : FnScope N_centre_of ["bounds"] (defScope s_centre_of) := ⟨rfl, rfl, rfl, by decide +kernel, rfl, by decide +kernel, by decide +kernel⟩
abbrev s_centre : Stmt := topS 28
abbrev N_centre : List Str := ["bounds"]
theorem sc_centre : FnScope N_centre ["bounds"] (defScope s_centre) := ⟨rfl, rfl, rfl, by decide +kernel, rfl, by decide +kernel, by decide +kernel⟩
abbrev s_nearest_choice : Stmt := topS 29
abbrev N_nearest_choice : List Str := ["bounds"]
theorem sc_nearest_choice : FnScope N_nearest_choice ["bounds"] (defScope s_nearest_choice) := ⟨rfl, rfl, rfl, by decide +kernel, rfl, by decide +kernel, by decide +kernel⟩
abbrev s_least_squares : Stmt := topS 30
abbrev N_least_squares : List Str := ["bounds"]
theorem sc_least_squares : FnScope N_least_squares ["bounds"] (defScope s_least_squares) := ⟨rfl, rfl, rfl, by decide +kernel, rfl, by decide +kernel, by decide +kernel⟩
abbrev s__law_start : Stmt := topS 32
abbrev N__law_start : List Str := ["_law_script"]
theorem sc__law_start : FnScope N__law_start ["_law_script"] (defScope s__law_start) := ⟨rfl, rfl, rfl, by decide +kernel, rfl, by decide +kernel, by decide +kernel⟩
abbrev s__law_draw : Stmt := topS 33
abbrev N__law_draw : List Str := ["_law_draws", "_law_limit", "_law_numbers", "_law_at", "_law_cell", "_law_mixed"]
theorem sc__law_draw : FnScope N__law_draw ["_law_draws", "_law_limit"] (defScope s__law_draw) := ⟨rfl, rfl, rfl, by decide +kernel, rfl, by decide +kernel, by decide +kernel⟩
abbrev s__law_pick : Stmt := topS 34
abbrev N__law_pick : List Str := ["_law_draws", "_law_choices"]
theorem sc__law_pick : FnScope N__law_pick ["_law_draws", "_law_choices"] (defScope s__law_pick) := ⟨rfl, rfl, rfl, by decide +kernel, rfl, by decide +kernel, by decide +kernel⟩
abbrev s__law_bounds : Stmt := topS 35
abbrev N__law_bounds : List Str := ["_law_draws", "_law_most", "_law_far", "_law_wide", "_law_found", "_law_k", "_law_low_here"]
theorem sc__law_bounds : FnScope N__law_bounds ["_law_draws", "_law_most"] (defScope s__law_bounds) := ⟨rfl, rfl, rfl, by decide +kernel, rfl, by decide +kernel, by decide +kernel⟩
abbrev s__law_small : Stmt := topS 36
abbrev N__law_small : List Str := ["_law_draws", "_law_most", "_law_found", "_law_k", "_law_low_here"]
theorem sc__law_small : FnScope N__law_small ["_law_draws", "_law_most"] (defScope s__law_small) := ⟨rfl, rfl, rfl, by decide +kernel, rfl, by decide +kernel, by decide +kernel⟩
abbrev s__law_low : Stmt := topS 37
abbrev N__law_low : List Str := ["_law_top", "_law_under", "_law_one", "_law_other"]
theorem sc__law_low : FnScope N__law_low ["_law_top", "_law_under"] (defScope s__law_low) := ⟨rfl, rfl, rfl, by decide +kernel, rfl, by decide +kernel, by decide +kernel⟩
abbrev s__law_add : Stmt := topS 38
abbrev N__law_add : List Str := ["_law_one", "_law_other"]
theorem sc__law_add : FnScope N__law_add ["_law_one", "_law_other"] (defScope s__law_add) := ⟨rfl, rfl, rfl, by decide +kernel, rfl, by decide +kernel, by decide +kernel⟩
abbrev s__law_below : Stmt := topS 39
abbrev N__law_below : List Str := ["_law_one", "_law_other"]
theorem sc__law_below : FnScope N__law_below ["_law_one", "_law_other"] (defScope s__law_below) := ⟨rfl, rfl, rfl, by decide +kernel, rfl, by decide +kernel, by decide +kernel⟩
abbrev s__law_squares : Stmt := topS 40
abbrev N__law_squares : List Str := ["_law_some", "_law_whole", "_law_found", "_law_one", "_law_mean", "_law_gap"]
theorem sc__law_squares : FnScope N__law_squares ["_law_some"] (defScope s__law_squares) := ⟨rfl, rfl, rfl, by decide +kernel, rfl, by decide +kernel, by decide +kernel⟩
abbrev s__law_least : Stmt := topS 41
abbrev N__law_least : List Str := ["_law_draws", "_law_bounds_here", "_law_size", "_law_best", "_law_number", "_law_near", "_law_low_here", "_law_high", "_law_whole", "_law_one", "_law_least_here", "_law_turn", "_law_row", "_law_own", "_law_top", "_law_under"]
theorem sc__law_least : FnScope N__law_least ["_law_draws", "_law_bounds_here", "_law_size", "_law_best"] (defScope s__law_least) := ⟨rfl, rfl, rfl, by decide +kernel, rfl, by decide +kernel, by decide +kernel⟩
abbrev s_law : Stmt := topS 42
abbrev N_law : List Str := ["_law_script", "_law_draws", "_law_bounds_here", "_law_size", "_law_corners", "_law_low_here", "_law_high", "_law_row", "_law_best", "_law_own", "_law_value", "_law_wide", "_law_k"]
theorem sc_law : FnScope N_law ["_law_script"] (defScope s_law) := ⟨rfl, rfl, rfl, by decide +kernel, rfl, by decide +kernel, by decide +kernel⟩
structure Txt (K : Fg) (mg : Str → Option Value) : Prop where
  d_is_int : Fd K mg "is_int" s_is_int
  d_is_bound : Fd K mg "is_bound" s_is_bound
  d_is_bounds : Fd K mg "is_bounds" s_is_bounds
  d_check_bounds : Fd K mg "check_bounds" s_check_bounds
  d_common_divisor : Fd K mg "common_divisor" s_common_divisor
  d_lowest : Fd K mg "lowest" s_lowest
  d_plus : Fd K mg "plus" s_plus
  d_minus : Fd K mg "minus" s_minus
  d_times : Fd K mg "times" s_times
  d_less : Fd K mg "less" s_less
  d_total : Fd K mg "total" s_total
  d_squares_about_mean : Fd K mg "squares_about_mean" s_squares_about_mean
  d_lows : Fd K mg "lows" s_lows
  d_highs : Fd K mg "highs" s_highs
  d_corner_choices : Fd K mg "corner_choices" s_corner_choices
  d_widest : Fd K mg "widest" s_widest
  d_greatest_squares : Fd K mg "greatest_squares" s_greatest_squares
  d_widest_squares_choice : Fd K mg "widest_squares_choice" s_widest_squares_choice
  d_clipped : Fd K mg "clipped" s_clipped
  d_centre_of : Fd K mg "centre_of" s_centre_of
  d_centre : Fd K mg "centre" s_centre
  d_nearest_choice : Fd K mg "nearest_choice" s_nearest_choice
  d_least_squares : Fd K mg "least_squares" s_least_squares
  d__law_start : Fd K mg "_law_start" s__law_start
  d__law_draw : Fd K mg "_law_draw" s__law_draw
  d__law_pick : Fd K mg "_law_pick" s__law_pick
  d__law_bounds : Fd K mg "_law_bounds" s__law_bounds
  d__law_small : Fd K mg "_law_small" s__law_small
  d__law_low : Fd K mg "_law_low" s__law_low
  d__law_add : Fd K mg "_law_add" s__law_add
  d__law_below : Fd K mg "_law_below" s__law_below
  d__law_squares : Fd K mg "_law_squares" s__law_squares
  d__law_least : Fd K mg "_law_least" s__law_least
  d_law : Fd K mg "law" s_law
  n_abs : mg "abs" = none
  n_all : mg "all" = none
  n_bool : mg "bool" = none
  n_int : mg "int" = none
  n_isinstance : mg "isinstance" = none
  n_len : mg "len" = none
  n_list : mg "list" = none
  n_max : mg "max" = none
  n_min : mg "min" = none
  n_range : mg "range" = none
  n_sorted : mg "sorted" = none
  n_sum : mg "sum" = none
  n_tuple : mg "tuple" = none
  n_zip : mg "zip" = none
  c_MOST_BOUND : ∃ t, mg "MOST_BOUND" = some (.int 50 t)
  c_MOST_VALUES : ∃ t, mg "MOST_VALUES" = some (.int 7 t)
section
variable {P : Program} {w : World} {K : Fg} {mg : Str → Option Value} {base : Heap}
def m_is_int (x0 : Int) (x1 : Int) (x2 : Int) : Bool := (true && ((!false) && ((decide (x1 ≤ x0)) && (decide (x0 ≤ x2)))))
theorem ok_is_int (T : Txt K mg) : Ok P w K mg base CX0 1 "is_int" ["value", "low", "high"] (sp3 K ((fun _ _ _ => True) : Int → Int → Int → Prop) m_is_int) := by
  refine ok_of T.d_is_int sc_is_int (bi3 fun _ _ _ _ _ _ _ _ _ => rfl) len_sp3 (fun f cdv A outer s H vs Q E hr h => ?_)
  have nd := sc_is_int.nd
  obtain ⟨v0, v1, v2, x0, x1, x2, rfl, r0, r1, r2, hp, q⟩ := h
  refine ⟨_, (pss_one (ps_ret (pe_and (pe_callB (k_isi K rfl) (by rfl) T.n_isinstance (by decide +kernel) (pa_cons (pv 0) (pa_cons (pe_bltn (v := .ty "int") (by rfl) T.n_int (by decide +kernel) rfl) pa_nil))) (pe_and (pe_not (pe_callB (k_isi K rfl) (by rfl) T.n_isinstance (by decide +kernel) (pa_cons (pv 0) (pa_cons (pe_bltn (v := .ty "bool") (by rfl) T.n_bool (by decide +kernel) rfl) pa_nil)))) (pe_one (pe_chain op_le op_le (pv 1) (pv 0) (pv 2))))))), ?_⟩
  exact s_ret (K := K) (er_andV (er_isi (b := true) (er_var rfl r0) (show kitB "int" "int" = some true from by decide)) (fun hsc => (er_andV (er_notV (er_isi (b := false) (er_var rfl r0) (show kitB "int" "bool" = some false from by decide))) (fun hsc => (er_chain (er_var rfl r1) (er_var rfl r0) (er_var rfl r2) rr_le rr_le))))) (fun u _ e540 rr => q u _ e540 rr)
def m_is_bound (x0 : (Int × Int)) : Bool := (if ((!true) || (!(decide ((2 : Int) = (2 : Int))))) = true then false else ((m_is_int x0.1 (-(50 : Int)) (50 : Int)) && (m_is_int x0.2 x0.1 (50 : Int))))
theorem ok_is_bound (T : Txt K mg) : Ok P w K mg base CX0 2 "is_bound" ["value"] (sp1 K ((fun _ => True) : (Int × Int) → Prop) m_is_bound) := by
  refine ok_of T.d_is_bound sc_is_bound (bi1 fun _ _ _ _ _ _ _ => rfl) len_sp1 (fun f cdv A outer s H vs Q E hr h => ?_)
  have nd := sc_is_bound.nd
  obtain ⟨v0, x0, rfl, r0, hp, q⟩ := h
  refine ⟨_, (pss_cons (ps_if (PW.pt (pw_or (pt_not (pt_val (pe_callB (k_isi K rfl) (by rfl) T.n_isinstance (by decide +kernel) (pa_cons (pv 0) (pa_cons (pe_bltn (v := .ty "tuple") (by rfl) T.n_tuple (by decide +kernel) rfl) pa_nil))))) (pw_or1 (pt_cmpR op_ne (pe_callB (k_len K rfl) (by rfl) T.n_len PySem.boot_len (pa_cons (pv 0) pa_nil)) pe_int (nomark _))))) (pss_one (ps_ret pe_bl)) pss_nil)
      (pss_one (ps_ret (pe_and (pe_fn (ok_is_int T) (hr.mono (by decide)) pass0 (pa_cons (pe_ix (k_ixt K rfl) (pv 0) pe_int (fun _ _ => rfl)) (pa_cons (pe_un un_neg (pe_gint T.c_MOST_BOUND)) (pa_cons (pe_gint T.c_MOST_BOUND) pa_nil)))) (pe_one (pe_fn (ok_is_int T) (hr.mono (by decide)) pass0 (pa_cons (pe_ix (k_ixt K rfl) (pv 0) pe_int (fun _ _ => rfl)) (pa_cons (pe_ix (k_ixt K rfl) (pv 0) pe_int (fun _ _ => rfl)) (pa_cons (pe_gint T.c_MOST_BOUND) pa_nil))))))))), ?_⟩
  refine q_when (K := K) (et_or (et_not (et_B (er_isi (b := true) (er_var rfl r0) (show kitB "tuple" "tuple" = some true from by decide)))) (fun hsc => (et_test (er_op (er_lenP (er_var rfl r0)) er_int rr_neI)))) (fun hc542 _ e541 => ?_) (fun hc542 _ e541 => ?_)
  ·
    exact s_ret (K := K) er_bl (fun u _ e543 rr => q u _ (e541.trans e543) (by rw [(show m_is_bound x0 = false from by unfold m_is_bound; rw [if_pos hc542])]; exact rr))
  ·
    exact s_ret (K := K) (er_andV (er_call3 (er_op (er_var rfl (Rp.mono (SF.of e541) r0)) er_int rr_ixP0) (er_neg er_int) er_int trivial) (fun hsc => (er_call3 (er_op (er_var rfl (Rp.mono (SF.of e541) r0)) er_int rr_ixP1) (er_op (er_var rfl (Rp.mono (SF.of e541) r0)) er_int rr_ixP0) er_int trivial))) (fun u _ e544 rr => q u _ (e541.trans e544) (by rw [(show m_is_bound x0 = ((m_is_int x0.1 (-(50 : Int)) (50 : Int)) && (m_is_int x0.2 x0.1 (50 : Int))) from by unfold m_is_bound; rw [if_neg (by rw [hc542]; exact Bool.false_ne_true)])]; exact rr))
def m_is_bounds (x0 : (List (Int × Int))) : Bool := (if ((!true) || (!((decide ((1 : Int) ≤ ((x0.length : Nat) : Int))) && (decide (((x0.length : Nat) : Int) ≤ (7 : Int)))))) = true then false else ((x0.map (fun (x554 : (Int × Int)) => (m_is_bound x554))).all id))
theorem ok_is_bounds (T : Txt K mg) : Ok P w K mg base CX0 3 "is_bounds" ["value"] (sp1 K ((fun b => b.length ≤ 100000) : (List (Int × Int)) → Prop) m_is_bounds) := by
  refine ok_of T.d_is_bounds sc_is_bounds (bi1 fun _ _ _ _ _ _ _ => rfl) len_sp1 (fun f cdv A outer s H vs Q E hr h => ?_)
  have nd := sc_is_bounds.nd
  obtain ⟨v0, x0, rfl, r0, hp, q⟩ := h
  refine ⟨_, (pss_cons (ps_if (PW.pt (pw_or (pt_not (pt_val (pe_callB (k_isi K rfl) (by rfl) T.n_isinstance (by decide +kernel) (pa_cons (pv 0) (pa_cons (pe_bltn (v := .ty "list") (by rfl) T.n_list (by decide +kernel) rfl) pa_nil))))) (pw_or1 (pt_not (pt_chain op_le op_le pe_int (pe_callB (k_len K rfl) (by rfl) T.n_len PySem.boot_len (pa_cons (pv 0) pa_nil)) (pe_gint T.c_MOST_VALUES)))))) (pss_one (ps_ret pe_bl)) pss_nil)
      (pss_one (ps_ret (pe_callB (k_all K rfl rfl) (by rfl) T.n_all (by decide +kernel) (pa_cons (pe_frz (pe_lc (own := [("one", 1)]) rfl nd (k_pl K rfl (pv 0)) (blkOk_by (N := N_is_bounds) (sc := defScope s_is_bounds) (by decide +kernel)) (fun _ _ _ _ _ => (pg_name (i := 1) nd rfl (.inl rfl) (.inr rfl))) (fun _ _ _ _ _ => pts_nil) (fun _ _ _ _ _ => (pe_fn (ok_is_bound T) (hr.mono (by decide)) pass0 (pa_cons (pv 1) pa_nil))))) pa_nil))))), ?_⟩
  refine q_when (K := K) (et_or (et_not (et_B (er_isi (b := true) (er_var rfl r0) (show kitB "list" "list" = some true from by decide)))) (fun hsc => (et_not (et_test (er_chain er_int (er_up (er_len (er_var rfl r0))) er_int rr_le rr_le))))) (fun hc551 _ e550 => ?_) (fun hc551 _ e550 => ?_)
  ·
    exact s_ret (K := K) er_bl (fun u _ e552 rr => q u _ (e550.trans e552) (by rw [(show m_is_bounds x0 = false from by unfold m_is_bounds; rw [if_pos hc551])]; exact rr))
  ·
    exact s_ret (K := K) (er_all (er_frz (erl_lm1 (f := fun (x554 : (Int × Int)) => (m_is_bound x554)) (src_list (er_var rfl (Rp.mono (SF.of e550) r0))) (by first | omega | (have := hp.2.1; omega) | (have := hp.1.2.1; omega)) (by intros; rfl) (fun x554 hx555 v556 _ e553 r557 => (er_call1 (er_var rfl r557) trivial))))) (fun u _ e558 rr => q u _ (e550.trans e558) (by rw [(show m_is_bounds x0 = ((x0.map (fun (x554 : (Int × Int)) => (m_is_bound x554))).all id) from by unfold m_is_bounds; rw [if_neg (by rw [hc551]; exact Bool.false_ne_true)])]; exact rr))
theorem isBounds_ok {b : List (Int × Int)} (h : BOk b) : m_is_bounds b = true := by
  unfold m_is_bounds m_is_bound m_is_int
  simp only [Bool.not_true, Bool.false_or, Bool.not_false]
  rw [if_neg]
  · rw [List.all_map, List.all_eq_true]
    intro p hp
    have := h.2.2 p hp
    simp; omega
  · have := h.1; have := h.2.1
    simp; omega
theorem ok_check_bounds (T : Txt K mg) : Ok P w K mg base CX0 4 "check_bounds" ["value"] (sp1 K ((fun b => BOk b) : (List (Int × Int)) → Prop) (fun _ => ())) := by
  refine ok_of T.d_check_bounds sc_check_bounds (bi1 fun _ _ _ _ _ _ _ => rfl) len_sp1 (fun f cdv A outer s H vs Q E hr h => ?_)
  have nd := sc_check_bounds.nd
  obtain ⟨v0, x0, rfl, r0, hp, q⟩ := h
  refine ⟨_, (pss_one (ps_if (pt_not (pt_val (pe_fn (ok_is_bounds T) (hr.mono (by decide)) pass0 (pa_cons (pv 0) pa_nil)))) (pss_one ps_never) pss_nil)), ?_⟩
  refine s_if (K := K) (et_not (et_B (er_call1 (er_var rfl r0) (by have := hp.2.1; omega)))) (fun hc _ _ => ?_) (fun _ _ e => ?_)
  · rw [isBounds_ok hp] at hc; cases hc
  · exact q .non _ e rfl
theorem ok_common_divisor (T : Txt K mg) : Ok P w K mg base CX0 1 "common_divisor" ["one", "other"] (sp2 K ((fun _ _ => True) : Int → Int → Prop) gcdI) := by
  refine ok_of T.d_common_divisor sc_common_divisor (bi2 fun _ _ _ _ _ _ _ _ => rfl) len_sp2 (fun f cdv A outer s H vs Q E hr h => ?_)
  have nd := sc_common_divisor.nd
  obtain ⟨v0, v1, x0, x1, rfl, r0, r1, hp, q⟩ := h
  refine ⟨_, (pss_cons (ps_par (i := 0) (j := 1) (by rfl) nd rfl rfl (by decide) rfl rfl (pa_cons (pe_callB call_abs (by rfl) T.n_abs (by decide +kernel) (pa_cons (pv 0) pa_nil)) (pa_cons (pe_callB call_abs (by rfl) T.n_abs (by decide +kernel) (pa_cons (pv 1) pa_nil)) pa_nil)) (by rfl))
      (pss_cons (ps_while PassesOwn.never (pt_cmpR op_ne (pv 1) pe_int (nomark _)) (pss_one (ps_par (i := 0) (j := 1) (by rfl) nd rfl rfl (by decide) rfl rfl (pa_cons (pv 1) (pa_cons (pe_op op_mod (pv 0) (pv 1)) pa_nil)) (by rfl))))
      (pss_one (ps_ret (pv 0))))), ?_⟩
  refine q_par (K := K) (er_abs (er_var rfl r0)) (er_abs (er_var rfl r1)) (fun v u H1 e1 ra rb => ?_)
  cases (show v = .int (iabs x0) from ra); cases (show u = .int (iabs x1) from rb)
  refine q_while (K := K) (fun σ' H' => ∃ a b : Nat, σ' = [some (.int a), some (.int b)] ∧ Same H H' ∧ Nat.gcd a b = Int.gcd x0 x1) (fun σ' _ => match σ' with | [_, some (.int b)] => b.toNat | _ => 0) ⟨x0.natAbs, x1.natAbs, by rw [iabs_nat, iabs_nat]; rfl, e1, rfl⟩ (fun σ' H' hW => ?_)
  obtain ⟨a, b, rfl, e, hg⟩ := hW
  refine ⟨!decide ((b : Int) = 0), et_test (er_op (er_var (x := (b : Int)) rfl rfl) er_int rr_neI), fun hb H2 e2 => ?_, fun hb H2 e2 => ?_⟩
  · have hb0 : b ≠ 0 := by intro z; subst z; simp at hb
    refine s_par (K := K) (er_var (x := (b : Int)) rfl rfl) (er_op (er_var (x := (a : Int)) rfl rfl) (er_var (x := (b : Int)) rfl rfl) (rr_mod (by omega))) (fun v u H3 e3 r1 r2 => ?_)
    cases (show v = .int (b : Int) from r1); cases (show u = .int ((a : Int) % (b : Int)) from r2)
    refine ⟨⟨b, a % b, by rw [nat_mod_int]; rfl, e.trans (e2.trans e3), by rw [gcd_turn hb0]; exact hg⟩, ?_⟩
    show ((a : Int) % (b : Int)).toNat < (b : Int).toNat
    have := Nat.mod_lt a (Nat.pos_of_ne_zero hb0)
    rw [nat_mod_int]; omega
  · have hb0 : b = 0 := by have := of_decide_eq_true (show decide ((b : Int) = 0) = true by simpa using hb); omega
    subst hb0
    rw [Nat.gcd_zero_right] at hg
    exact s_ret (K := K) (er_var (x := (a : Int)) rfl rfl) (fun u H3 e3 rr => q u _ (e.trans (e2.trans e3)) (by rw [show gcdI x0 x1 = (a : Int) from by unfold gcdI; omega]; exact rr))
theorem ok_lowest (T : Txt K mg) : Ok P w K mg base CX0 2 "lowest" ["top", "below"] (sp2 K ((fun _ b => 0 < b ∧ b.natAbs < 2 ^ 4000) : Int → Int → Prop) frI) := by
  refine ok_of T.d_lowest sc_lowest (bi2 fun _ _ _ _ _ _ _ _ => rfl) len_sp2 (fun f cdv A outer s H vs Q E hr h => ?_)
  have nd := sc_lowest.nd
  obtain ⟨v0, v1, x0, x1, rfl, r0, r1, hp, q⟩ := h
  refine ⟨_, (pss_cons (ps_set (i := 2) nd rfl (.inl rfl) (pe_fn (ok_common_divisor T) (hr.mono (by decide)) pass0 (pa_cons (pv 0) (pa_cons (pv 1) pa_nil))))
      (pss_one (ps_ret (pe_tup (pa_cons (pe_op op_fdivW (pv 0) (pv 2)) (pa_cons (pe_op op_fdivW (pv 1) (pv 2)) pa_nil)))))), ?_⟩
  refine q_set (K := K) (er_call2 (er_var rfl r0) (er_var rfl r1) trivial) (fun v561 _ e559 r560 => ?_)
  exact s_ret (K := K) (er_pair (er_op (er_var rfl (Rp.mono (SF.of e559) r0)) (er_var rfl r560) (rr_divW (by exact gcd_div hp))) (er_op (er_var rfl (Rp.mono (SF.of e559) r1)) (er_var rfl r560) (rr_divW (by exact gcd_div hp)))) (fun u _ e562 rr => q u _ (e559.trans e562) rr)
theorem ok_plus (T : Txt K mg) : Ok P w K mg base CX0 3 "plus" ["one", "other"] (sp2 K ((fun p q => Sz 2000 p ∧ Sz 2000 q) : (Int × Int) → (Int × Int) → Prop) pls) := by
  refine ok_of T.d_plus sc_plus (bi2 fun _ _ _ _ _ _ _ _ => rfl) len_sp2 (fun f cdv A outer s H vs Q E hr h => ?_)
  have nd := sc_plus.nd
  obtain ⟨v0, v1, x0, x1, rfl, r0, r1, hp, q⟩ := h
  refine ⟨_, (pss_one (ps_ret (pe_fn (ok_lowest T) (hr.mono (by decide)) pass0 (pa_cons (pe_op op_add (pe_op op_mulW (pe_ix (k_ixt K rfl) (pv 0) pe_int (fun _ _ => rfl)) (pe_ix (k_ixt K rfl) (pv 1) pe_int (fun _ _ => rfl))) (pe_op op_mulW (pe_ix (k_ixt K rfl) (pv 1) pe_int (fun _ _ => rfl)) (pe_ix (k_ixt K rfl) (pv 0) pe_int (fun _ _ => rfl)))) (pa_cons (pe_op op_mulW (pe_ix (k_ixt K rfl) (pv 0) pe_int (fun _ _ => rfl)) (pe_ix (k_ixt K rfl) (pv 1) pe_int (fun _ _ => rfl))) pa_nil))))), ?_⟩
  exact s_ret (K := K) (er_call2 (er_op (er_op (er_op (er_var rfl r0) er_int rr_ixP0) (er_op (er_var rfl r1) er_int rr_ixP1) (rr_mulW (by first | exact cmulW hp.1.2.2 hp.2.2.1 (by decide) (by decide) | exact cmulW hp.2.2.2 hp.1.2.1 (by decide) (by decide) | exact cmulW hp.1.2.1 hp.2.2.1 (by decide) (by decide) | exact cmulW hp.1.2.2 hp.2.2.2 (by decide) (by decide)))) (er_op (er_op (er_var rfl r1) er_int rr_ixP0) (er_op (er_var rfl r0) er_int rr_ixP1) (rr_mulW (by first | exact cmulW hp.1.2.2 hp.2.2.1 (by decide) (by decide) | exact cmulW hp.2.2.2 hp.1.2.1 (by decide) (by decide) | exact cmulW hp.1.2.1 hp.2.2.1 (by decide) (by decide) | exact cmulW hp.1.2.2 hp.2.2.2 (by decide) (by decide)))) rr_add) (er_op (er_op (er_var rfl r0) er_int rr_ixP1) (er_op (er_var rfl r1) er_int rr_ixP1) (rr_mulW (by first | exact cmulW hp.1.2.2 hp.2.2.1 (by decide) (by decide) | exact cmulW hp.2.2.2 hp.1.2.1 (by decide) (by decide) | exact cmulW hp.1.2.1 hp.2.2.1 (by decide) (by decide) | exact cmulW hp.1.2.2 hp.2.2.2 (by decide) (by decide)))) (by exact sz_pre hp.1 hp.2 (by decide))) (fun u _ e563 rr => q u _ e563 rr)
def m_minus (x0 : (Int × Int)) (x1 : (Int × Int)) : (Int × Int) := (pls x0 ((-x1.1), x1.2))
theorem ok_minus (T : Txt K mg) : Ok P w K mg base CX0 4 "minus" ["one", "other"] (sp2 K ((fun p q => Sz 1900 p ∧ Sz 1900 q) : (Int × Int) → (Int × Int) → Prop) m_minus) := by
  refine ok_of T.d_minus sc_minus (bi2 fun _ _ _ _ _ _ _ _ => rfl) len_sp2 (fun f cdv A outer s H vs Q E hr h => ?_)
  have nd := sc_minus.nd
  obtain ⟨v0, v1, x0, x1, rfl, r0, r1, hp, q⟩ := h
  refine ⟨_, (pss_one (ps_ret (pe_fn (ok_plus T) (hr.mono (by decide)) pass0 (pa_cons (pv 0) (pa_cons (pe_tup (pa_cons (pe_un un_neg (pe_ix (k_ixt K rfl) (pv 1) pe_int (fun _ _ => rfl))) (pa_cons (pe_ix (k_ixt K rfl) (pv 1) pe_int (fun _ _ => rfl)) pa_nil))) pa_nil))))), ?_⟩
  exact s_ret (K := K) (er_call2 (er_var rfl r0) (er_pair (er_neg (er_op (er_var rfl r1) er_int rr_ixP0)) (er_op (er_var rfl r1) er_int rr_ixP1)) (by exact ⟨hp.1.le (by decide), sz_neg (hp.2.le (by decide))⟩)) (fun u _ e564 rr => q u _ e564 rr)
theorem ok_times (T : Txt K mg) : Ok P w K mg base CX0 3 "times" ["one", "other"] (sp2 K ((fun p q => Sz 2000 p ∧ Sz 2000 q) : (Int × Int) → (Int × Int) → Prop) tms) := by
  refine ok_of T.d_times sc_times (bi2 fun _ _ _ _ _ _ _ _ => rfl) len_sp2 (fun f cdv A outer s H vs Q E hr h => ?_)
  have nd := sc_times.nd
  obtain ⟨v0, v1, x0, x1, rfl, r0, r1, hp, q⟩ := h
  refine ⟨_, (pss_one (ps_ret (pe_fn (ok_lowest T) (hr.mono (by decide)) pass0 (pa_cons (pe_op op_mulW (pe_ix (k_ixt K rfl) (pv 0) pe_int (fun _ _ => rfl)) (pe_ix (k_ixt K rfl) (pv 1) pe_int (fun _ _ => rfl))) (pa_cons (pe_op op_mulW (pe_ix (k_ixt K rfl) (pv 0) pe_int (fun _ _ => rfl)) (pe_ix (k_ixt K rfl) (pv 1) pe_int (fun _ _ => rfl))) pa_nil))))), ?_⟩
  exact s_ret (K := K) (er_call2 (er_op (er_op (er_var rfl r0) er_int rr_ixP0) (er_op (er_var rfl r1) er_int rr_ixP0) (rr_mulW (by first | exact cmulW hp.1.2.2 hp.2.2.1 (by decide) (by decide) | exact cmulW hp.2.2.2 hp.1.2.1 (by decide) (by decide) | exact cmulW hp.1.2.1 hp.2.2.1 (by decide) (by decide) | exact cmulW hp.1.2.2 hp.2.2.2 (by decide) (by decide)))) (er_op (er_op (er_var rfl r0) er_int rr_ixP1) (er_op (er_var rfl r1) er_int rr_ixP1) (rr_mulW (by first | exact cmulW hp.1.2.2 hp.2.2.1 (by decide) (by decide) | exact cmulW hp.2.2.2 hp.1.2.1 (by decide) (by decide) | exact cmulW hp.1.2.1 hp.2.2.1 (by decide) (by decide) | exact cmulW hp.1.2.2 hp.2.2.2 (by decide) (by decide)))) (by exact sz_pre hp.1 hp.2 (by decide))) (fun u _ e565 rr => q u _ e565 rr)
def m_less (x0 : (Int × Int)) (x1 : (Int × Int)) : Bool := (decide ((x0.1 * x1.2) < (x1.1 * x0.2)))
theorem ok_less (T : Txt K mg) : Ok P w K mg base CX0 1 "less" ["one", "other"] (sp2 K ((fun p q => Sz 2000 p ∧ Sz 2000 q) : (Int × Int) → (Int × Int) → Prop) m_less) := by
  refine ok_of T.d_less sc_less (bi2 fun _ _ _ _ _ _ _ _ => rfl) len_sp2 (fun f cdv A outer s H vs Q E hr h => ?_)
  have nd := sc_less.nd
  obtain ⟨v0, v1, x0, x1, rfl, r0, r1, hp, q⟩ := h
  refine ⟨_, (pss_one (ps_ret (pe_cmpR op_lt (pe_op op_mulW (pe_ix (k_ixt K rfl) (pv 0) pe_int (fun _ _ => rfl)) (pe_ix (k_ixt K rfl) (pv 1) pe_int (fun _ _ => rfl))) (pe_op op_mulW (pe_ix (k_ixt K rfl) (pv 1) pe_int (fun _ _ => rfl)) (pe_ix (k_ixt K rfl) (pv 0) pe_int (fun _ _ => rfl))) (nomark _)))), ?_⟩
  exact s_ret (K := K) (er_op (er_op (er_op (er_var rfl r0) er_int rr_ixP0) (er_op (er_var rfl r1) er_int rr_ixP1) (rr_mulW (by first | exact cmulW hp.1.2.2 hp.2.2.1 (by decide) (by decide) | exact cmulW hp.2.2.2 hp.1.2.1 (by decide) (by decide)))) (er_op (er_op (er_var rfl r1) er_int rr_ixP0) (er_op (er_var rfl r0) er_int rr_ixP1) (rr_mulW (by first | exact cmulW hp.1.2.2 hp.2.2.1 (by decide) (by decide) | exact cmulW hp.2.2.2 hp.1.2.1 (by decide) (by decide)))) rr_lt) (fun u _ e566 rr => q u _ e566 rr)
theorem tot_sz {l : List (Int × Int)} (h : l.length ≤ 8) (hp : ∀ p ∈ l, Sz 10 p) : Sz 100 (l.foldl (fun s x => pls s x) (0, 1)) := (sz_fold (g := fun x => x) sz_zero hp).le (by omega)
theorem sqs_sz {l : List (Int × Int)} (h : l.length ≤ 8) (hp : ∀ p ∈ l, Sz 10 p) : Sz 900 (l.foldl (fun s x => pls s (tms x x)) (0, 1)) := (sz_fold (g := fun x => tms x x) sz_zero (fun x hx => sz_tms (hp x hx) (hp x hx))).le (by omega)
def m_total (x0 : (List (Int × Int))) : (Int × Int) := (List.foldl (fun (s_l1 : (Int × Int)) (one_l1 : (Int × Int)) => ((pls s_l1 one_l1) : (Int × Int))) ((0 : Int), (1 : Int)) x0)
theorem ok_total (T : Txt K mg) : Ok P w K mg base CX0 4 "total" ["some"] (sp1 K ((fun l => l.length ≤ 8 ∧ ∀ p ∈ l, Sz 10 p) : (List (Int × Int)) → Prop) m_total) := by
  refine ok_of T.d_total sc_total (bi1 fun _ _ _ _ _ _ _ => rfl) len_sp1 (fun f cdv A outer s H vs Q E hr h => ?_)
  have nd := sc_total.nd
  obtain ⟨v0, x0, rfl, r0, hp, q⟩ := h
  refine ⟨_, (pss_cons (ps_set (i := 1) nd rfl (.inl rfl) (pe_tup (pa_cons pe_int (pa_cons pe_int pa_nil))))
      (pss_cons (ps_for PassesOwn.never rfl (k_pl K rfl (pv 0)) (pg_name (i := 2) nd rfl (.inl rfl) (.inr rfl)) (pss_one (ps_set (i := 1) nd rfl (.inl rfl) (pe_fn (ok_plus T) (hr.mono (by decide)) pass0 (pa_cons (pv 1) (pa_cons (pv 2) pa_nil))))))
      (pss_one (ps_ret (pv 1))))), ?_⟩
  refine q_set (K := K) (er_pair er_int er_int) (fun v569 _ e567 r568 => ?_)
  -- for one in some
  refine q_for (K := K) (src_list (er_var rfl (Rp.mono (SF.of e567) r0))) (fun H1 k σ' H' => ∃ (s_l1 : (Int × Int)) (w571 : V) (y572 : Option V), σ' = [some v0, some w571, y572] ∧ s_l1 = (List.take k x0).foldl (fun (s_l1 : (Int × Int)) (one_l1 : (Int × Int)) => ((pls s_l1 one_l1) : (Int × Int))) ((0 : Int), (1 : Int)) ∧ Mus [] H1 H' ∧ Rp.rep K H' w571 s_l1) (fun H1 e => ⟨((0 : Int), (1 : Int)), _, _, rfl, rfl, Mus.refl _, (Rp.mono (SF.of e) r568)⟩) (fun _ _ _ _ h => by obtain ⟨_, _, _, _, _, m, _⟩ := h; exact m.sf) (fun H1 k579 one_l1 σ' H' vone_l1 _ e576 hx575 hP e577 rone_l1 => ?_) (fun H1 σ' H' e576 hP => ?_)
  ·
    obtain ⟨s_l1, w571, y572, rfl, hs573, m578, r580⟩ := hP
    refine s_gn ?_
    have hone_l1 := List.mem_of_getElem? hx575
    have hturn1 := hs573
    refine q_last ?_
    have r582 := (Rp.mono ((((SF.of e567).trans (SF.of e576)).trans m578.sf).trans (SF.of e577)) r0)
    refine q_set (K := K) (er_call2 (er_var rfl (Rp.mono (SF.of e577) r580)) (er_var rfl rone_l1) (by exact ⟨by rw [hturn1]; exact (sz_fold (g := fun x => x) sz_zero (fun x hx => hp.2 x (List.mem_of_mem_take hx))).le (by rw [List.length_take]; have := hp.1; omega), (hp.2 _ hone_l1).le (by decide)⟩)) (fun v585 _ e583 r584 => ?_)
    refine s_nx ?_
    exact ⟨(pls s_l1 one_l1), _, _, rfl, (fold_step hx575 hs573), (((Mus.baseS (Mus.refl _) m578 all0).trans (Mus.of e577)).trans (Mus.of e583)), r584⟩
  ·
    obtain ⟨s_l1, w571, y572, rfl, hs573, m578, r580⟩ := hP
    replace hs573 := fold_all hs573
    subst hs573
    exact s_ret (K := K) (er_var rfl r580) (fun u _ e586 rr => q u _ (Mus.same0 ((Mus.baseS (((Mus.refl _).trans (Mus.of e567)).trans (Mus.of e576)) m578 all0).trans (Mus.of e586))) rr)
theorem one_n8 {l : List (Int × Int)} (h0 : l ≠ []) (h : l.length ≤ 8) : Sz 8 ((1 : Int), (l.length : Int)) := ⟨by have := List.length_pos_iff.mpr h0; show (0 : Int) < (l.length : Int); omega, by show (l.length : Int).natAbs < 2 ^ 8; omega, (show (1 : Int).natAbs < 2 ^ 8 by decide)⟩
theorem one_n {l : List (Int × Int)} (h0 : l ≠ []) (h : l.length ≤ 8) : Sz 2000 ((1 : Int), (l.length : Int)) := (one_n8 h0 h).le (by decide)
def m_squares_about_mean (x0 : (List (Int × Int))) : (Int × Int) := (m_minus (List.foldl (fun (s_l1 : (Int × Int)) (one_l1 : (Int × Int)) => ((pls s_l1 (tms one_l1 one_l1)) : (Int × Int))) ((0 : Int), (1 : Int)) x0) (tms (tms (m_total x0) (m_total x0)) ((1 : Int), ((x0.length : Nat) : Int))))
theorem ok_squares_about_mean (T : Txt K mg) : Ok P w K mg base CX0 5 "squares_about_mean" ["some"] (sp1 K ((fun l => l ≠ [] ∧ l.length ≤ 8 ∧ ∀ p ∈ l, Sz 10 p) : (List (Int × Int)) → Prop) m_squares_about_mean) := by
  refine ok_of T.d_squares_about_mean sc_squares_about_mean (bi1 fun _ _ _ _ _ _ _ => rfl) len_sp1 (fun f cdv A outer s H vs Q E hr h => ?_)
  have nd := sc_squares_about_mean.nd
  obtain ⟨v0, x0, rfl, r0, hp, q⟩ := h
  refine ⟨_, (pss_cons (ps_set (i := 1) nd rfl (.inl rfl) (pe_fn (ok_total T) (hr.mono (by decide)) pass0 (pa_cons (pv 0) pa_nil)))
      (pss_cons (ps_set (i := 2) nd rfl (.inl rfl) (pe_tup (pa_cons pe_int (pa_cons pe_int pa_nil))))
      (pss_cons (ps_for PassesOwn.never rfl (k_pl K rfl (pv 0)) (pg_name (i := 3) nd rfl (.inl rfl) (.inr rfl)) (pss_one (ps_set (i := 2) nd rfl (.inl rfl) (pe_fn (ok_plus T) (hr.mono (by decide)) pass0 (pa_cons (pv 2) (pa_cons (pe_fn (ok_times T) (hr.mono (by decide)) pass0 (pa_cons (pv 3) (pa_cons (pv 3) pa_nil))) pa_nil))))))
      (pss_one (ps_ret (pe_fn (ok_minus T) (hr.mono (by decide)) pass0 (pa_cons (pv 2) (pa_cons (pe_fn (ok_times T) (hr.mono (by decide)) pass0 (pa_cons (pe_fn (ok_times T) (hr.mono (by decide)) pass0 (pa_cons (pv 1) (pa_cons (pv 1) pa_nil))) (pa_cons (pe_tup (pa_cons pe_int (pa_cons (pe_callB (k_len K rfl) (by rfl) T.n_len PySem.boot_len (pa_cons (pv 0) pa_nil)) pa_nil))) pa_nil))) pa_nil)))))))), ?_⟩
  refine q_set (K := K) (er_call1 (er_var rfl r0) (by exact hp.2)) (fun v589 _ e587 r588 => ?_)
  refine q_set (K := K) (er_pair er_int er_int) (fun v592 _ e590 r591 => ?_)
  -- for one in some
  refine q_for (K := K) (src_list (er_var rfl (Rp.mono ((SF.of e587).trans (SF.of e590)) r0))) (fun H1 k σ' H' => ∃ (s_l1 : (Int × Int)) (w594 : V) (y595 : Option V), σ' = [some v0, some v589, some w594, y595] ∧ s_l1 = (List.take k x0).foldl (fun (s_l1 : (Int × Int)) (one_l1 : (Int × Int)) => ((pls s_l1 (tms one_l1 one_l1)) : (Int × Int))) ((0 : Int), (1 : Int)) ∧ Mus [] H1 H' ∧ Rp.rep K H' w594 s_l1) (fun H1 e => ⟨((0 : Int), (1 : Int)), _, _, rfl, rfl, Mus.refl _, (Rp.mono (SF.of e) r591)⟩) (fun _ _ _ _ h => by obtain ⟨_, _, _, _, _, m, _⟩ := h; exact m.sf) (fun H1 k602 one_l1 σ' H' vone_l1 _ e599 hx598 hP e600 rone_l1 => ?_) (fun H1 σ' H' e599 hP => ?_)
  ·
    obtain ⟨s_l1, w594, y595, rfl, hs596, m601, r603⟩ := hP
    refine s_gn ?_
    have hone_l1 := List.mem_of_getElem? hx598
    have hturn1 := hs596
    refine q_last ?_
    have r605 := (Rp.mono (((((SF.of e587).trans (SF.of e590)).trans (SF.of e599)).trans m601.sf).trans (SF.of e600)) r0)
    have r606 := (Rp.mono ((((SF.of e590).trans (SF.of e599)).trans m601.sf).trans (SF.of e600)) r588)
    refine q_set (K := K) (er_call2 (er_var rfl (Rp.mono (SF.of e600) r603)) (er_call2 (er_var rfl rone_l1) (er_var rfl rone_l1) (by first | exact ⟨(hp.2.2 _ hone_l1).le (by decide), (hp.2.2 _ hone_l1).le (by decide)⟩ | exact ⟨(tot_sz hp.2.1 hp.2.2).le (by decide), (tot_sz hp.2.1 hp.2.2).le (by decide)⟩ | exact ⟨(sz_tms (tot_sz hp.2.1 hp.2.2) (tot_sz hp.2.1 hp.2.2)).le (by decide), one_n hp.1 hp.2.1⟩)) (by exact ⟨by rw [hturn1]; exact (sqs_sz (by rw [List.length_take]; have := hp.2.1; omega) (fun x hx => hp.2.2 x (List.mem_of_mem_take hx))).le (by decide), (sz_tms (hp.2.2 _ hone_l1) (hp.2.2 _ hone_l1)).le (by decide)⟩)) (fun v609 _ e607 r608 => ?_)
    refine s_nx ?_
    exact ⟨(pls s_l1 (tms one_l1 one_l1)), _, _, rfl, (fold_step hx598 hs596), (((Mus.baseS (Mus.refl _) m601 all0).trans (Mus.of e600)).trans (Mus.of e607)), r608⟩
  ·
    obtain ⟨s_l1, w594, y595, rfl, hs596, m601, r603⟩ := hP
    replace hs596 := fold_all hs596
    subst hs596
    have r610 := (Rp.mono ((((SF.of e587).trans (SF.of e590)).trans (SF.of e599)).trans m601.sf) r0)
    exact s_ret (K := K) (er_call2 (er_var rfl r603) (er_call2 (er_call2 (er_var rfl (Rp.mono (((SF.of e590).trans (SF.of e599)).trans m601.sf) r588)) (er_var rfl (Rp.mono (((SF.of e590).trans (SF.of e599)).trans m601.sf) r588)) (by first | exact ⟨(hp.2.2 _ hone_l1).le (by decide), (hp.2.2 _ hone_l1).le (by decide)⟩ | exact ⟨(tot_sz hp.2.1 hp.2.2).le (by decide), (tot_sz hp.2.1 hp.2.2).le (by decide)⟩ | exact ⟨(sz_tms (tot_sz hp.2.1 hp.2.2) (tot_sz hp.2.1 hp.2.2)).le (by decide), one_n hp.1 hp.2.1⟩)) (er_pair er_int (er_up (er_len (er_var rfl r610)))) (by first | exact ⟨(hp.2.2 _ hone_l1).le (by decide), (hp.2.2 _ hone_l1).le (by decide)⟩ | exact ⟨(tot_sz hp.2.1 hp.2.2).le (by decide), (tot_sz hp.2.1 hp.2.2).le (by decide)⟩ | exact ⟨(sz_tms (tot_sz hp.2.1 hp.2.2) (tot_sz hp.2.1 hp.2.2)).le (by decide), one_n hp.1 hp.2.1⟩)) (by exact ⟨(sqs_sz hp.2.1 hp.2.2).le (by decide), (sz_tms (sz_tms (tot_sz hp.2.1 hp.2.2) (tot_sz hp.2.1 hp.2.2)) (one_n8 hp.1 hp.2.1)).le (by decide)⟩)) (fun u _ e611 rr => q u _ (Mus.same0 ((Mus.baseS ((((Mus.refl _).trans (Mus.of e587)).trans (Mus.of e590)).trans (Mus.of e599)) m601 all0).trans (Mus.of e611))) rr)
theorem neg_fr (x : Rat) (p : Int × Int) (h : p = fr x) : (-p.1, p.2) = fr (-x) := by rw [h]; exact fr_neg x
/-- the squares about the mean, as a rational -/
theorem sam_fr (l : List Rat) (h : l ≠ []) : m_squares_about_mean (l.map fr) = fr (sq l) := by
  have hp := ln_pos h
  have hn : (0 : Int) < ((l.map fr).length : Int) := by rw [List.length_map]; have := List.length_pos_iff.mpr h; omega
  show pls ((l.map fr).foldl (fun s x => pls s (tms x x)) (fr 0)) (-(tms (tms ((l.map fr).foldl (fun s x => pls s x) (fr 0)) ((l.map fr).foldl (fun s x => pls s x) (fr 0))) (1, ((l.map fr).length : Int))).1, (tms (tms ((l.map fr).foldl (fun s x => pls s x) (fr 0)) ((l.map fr).foldl (fun s x => pls s x) (fr 0))) (1, ((l.map fr).length : Int))).2) = _
  rw [fr_one hn, fr_tot, fr_tms, fr_tms, fr_neg, fr_sqs, fr_pls]
  congr 1
  rw [List.length_map, ← ln_len]
  unfold sq vr
  generalize ln l = n at *
  grind
theorem row_fr (r : List Int) : (r.map fun x => (x, (1 : Int))) = (r.map fun x : Int => (x : Rat)).map fr := by rw [List.map_map]; rfl
theorem own_pos {r : List Int} (h : (r.map fun x => (x, (1 : Int))) ≠ [] ∧ (r.map fun x => (x, (1 : Int))).length ≤ 8 ∧ ∀ p ∈ r.map (fun x => (x, (1 : Int))), Sz 10 p) : m_less (-1, 1) (m_squares_about_mean (r.map fun x => (x, (1 : Int)))) = true := by
  have hne : (r.map fun x : Int => (x : Rat)) ≠ [] := fun c => h.1 (by rw [row_fr, c]; rfl)
  rw [row_fr, sam_fr _ hne]
  show decide ((fr ((-1 : Int) : Rat)).1 * (fr (sq _)).2 < (fr (sq _)).1 * (fr ((-1 : Int) : Rat)).2) = true
  rw [fr_lt]
  have := sq_nn' (r.map fun x : Int => (x : Rat))
  exact decide_eq_true (by
    have e : (((-1 : Int) : Int) : Rat) = -1 := rfl
    rw [e]; grind)
def m_lows (x0 : (List (Int × Int))) : (List Int) := (x0.map (fun (x620 : (Int × Int)) => x620.1))
theorem ok_lows (T : Txt K mg) : Ok P w K mg base CX0 1 "lows" ["bounds"] (sl1 K ((fun b => b.length ≤ 100000) : (List (Int × Int)) → Prop) m_lows) := by
  refine ok_of T.d_lows sc_lows (bi1 fun _ _ _ _ _ _ _ => rfl) len_sl1 (fun f cdv A outer s H vs Q E hr h => ?_)
  have nd := sc_lows.nd
  obtain ⟨v0, x0, rfl, r0, hp, q⟩ := h
  refine ⟨_, (pss_one (ps_ret (pe_lc (own := [("low", 1), ("high", 2)]) rfl nd (k_pl K rfl (pv 0)) (blkOk_by (N := N_lows) (sc := defScope s_lows) (by decide +kernel)) (fun _ _ _ _ _ => (k_gt K rfl 2 rfl (pgs_cons (pg_name (i := 1) nd rfl (.inl rfl) (.inr rfl)) (pgs_cons (pg_name (i := 2) nd rfl (.inl rfl) (.inr rfl)) pgs_nil)))) (fun _ _ _ _ _ => pts_nil) (fun _ _ _ _ _ => (pv 1))))), ?_⟩
  exact s_retL (K := K) (erl_lm2 (f := fun (x620 : (Int × Int)) => x620.1) (src_list (er_var rfl r0)) (by first | omega | (have := hp.2.1; omega) | (have := hp.1.2.1; omega)) (by intros; rfl) (fun x620 hx621 v622 v623 _ e619 r624 r625 => (er_var rfl r624))) (fun p us _ e626 hn h1 rr => q p us _ e626 ((Same.refl _).free hn) h1 rr)
def m_highs (x0 : (List (Int × Int))) : (List Int) := (x0.map (fun (x635 : (Int × Int)) => x635.2))
theorem ok_highs (T : Txt K mg) : Ok P w K mg base CX0 1 "highs" ["bounds"] (sl1 K ((fun b => b.length ≤ 100000) : (List (Int × Int)) → Prop) m_highs) := by
  refine ok_of T.d_highs sc_highs (bi1 fun _ _ _ _ _ _ _ => rfl) len_sl1 (fun f cdv A outer s H vs Q E hr h => ?_)
  have nd := sc_highs.nd
  obtain ⟨v0, x0, rfl, r0, hp, q⟩ := h
  refine ⟨_, (pss_one (ps_ret (pe_lc (own := [("low", 1), ("high", 2)]) rfl nd (k_pl K rfl (pv 0)) (blkOk_by (N := N_highs) (sc := defScope s_highs) (by decide +kernel)) (fun _ _ _ _ _ => (k_gt K rfl 2 rfl (pgs_cons (pg_name (i := 1) nd rfl (.inl rfl) (.inr rfl)) (pgs_cons (pg_name (i := 2) nd rfl (.inl rfl) (.inr rfl)) pgs_nil)))) (fun _ _ _ _ _ => pts_nil) (fun _ _ _ _ _ => (pv 2))))), ?_⟩
  exact s_retL (K := K) (erl_lm2 (f := fun (x635 : (Int × Int)) => x635.2) (src_list (er_var rfl r0)) (by first | omega | (have := hp.2.1; omega) | (have := hp.1.2.1; omega)) (by intros; rfl) (fun x635 hx636 v637 v638 _ e634 r639 r640 => (er_var rfl r640))) (fun p us _ e641 hn h1 rr => q p us _ e641 ((Same.refl _).free hn) h1 rr)
theorem ne_lows {b : List (Int × Int)} (h : BOk b) : m_lows b ≠ [] := by
  have := h.1
  cases b with
  | nil => simp at this
  | cons p r => simp [m_lows]
theorem ne_highs {b : List (Int × Int)} (h : BOk b) : m_highs b ≠ [] := by
  have := h.1
  cases b with
  | nil => simp at this
  | cons p r => simp [m_highs]
theorem len_lows (b : List (Int × Int)) : (m_lows b).length = b.length := by simp [m_lows]
theorem len_highs (b : List (Int × Int)) : (m_highs b).length = b.length := by simp [m_highs]
def m_corner_choices (x0 : (List (Int × Int))) : (List (List Int)) := (List.foldl (fun (s_l1 : (List (List Int))) (low_high_l1 : (Int × Int)) => (((s_l1.map (fun (x675 : (List Int)) => (x675 ++ ([low_high_l1.1] : (List Int))))) ++ (mapIf (fun (x680 : (List Int)) => (decide (low_high_l1.2 > low_high_l1.1))) (fun (x680 : (List Int)) => (x680 ++ ([low_high_l1.2] : (List Int)))) s_l1)) : (List (List Int)))) ([([] : (List Int))] : (List (List Int))) x0)
theorem ok_corner_choices (T : Txt K mg) : Ok P w K mg base CX0 1 "corner_choices" ["bounds"] (sp1 K ((fun b => BOk b) : (List (Int × Int)) → Prop) m_corner_choices) := by
  refine ok_of T.d_corner_choices sc_corner_choices (bi1 fun _ _ _ _ _ _ _ => rfl) len_sp1 (fun f cdv A outer s H vs Q E hr h => ?_)
  have nd := sc_corner_choices.nd
  obtain ⟨v0, x0, rfl, r0, hp, q⟩ := h
  refine ⟨_, (pss_cons (ps_set (i := 1) nd rfl (.inl rfl) (pe_frz (pe_lst (pa_cons (pe_frz (pe_lst pa_nil)) pa_nil))))
      (pss_cons (ps_for PassesOwn.never rfl (k_pl K rfl (pv 0)) (k_gt K rfl 2 rfl (pgs_cons (pg_name (i := 2) nd rfl (.inr rfl) (.inl rfl)) (pgs_cons (pg_name (i := 3) nd rfl (.inr rfl) (.inl rfl)) pgs_nil))) (pss_one (ps_set (i := 1) nd rfl (.inl rfl) (pe_frz (pe_op op_catR (pe_frz (pe_lc (own := [("one", 4)]) rfl nd (k_pl K rfl (pv 1)) (blkOk_by (N := N_corner_choices) (sc := defScope s_corner_choices) (by decide +kernel)) (fun _ _ _ _ _ => (pg_name (i := 4) nd rfl (.inl rfl) (.inr rfl))) (fun _ _ _ _ _ => pts_nil) (fun _ _ _ _ _ => (pe_frz (pe_op op_catR (pv 4) (pe_frz (pe_lst (pa_cons (pv 2) pa_nil)))))))) (pe_frz (pe_lc (own := [("one", 4)]) rfl nd (k_pl K rfl (pv 1)) (blkOk_by (N := N_corner_choices) (sc := defScope s_corner_choices) (by decide +kernel)) (fun _ _ _ _ _ => (pg_name (i := 4) nd rfl (.inl rfl) (.inr rfl))) (fun _ _ _ _ _ => (pts_one (pt_cmpR op_gt (pv 3) (pv 2) (nomark _)))) (fun _ _ _ _ _ => (pe_frz (pe_op op_catR (pv 4) (pe_frz (pe_lst (pa_cons (pv 3) pa_nil)))))))))))))
      (pss_one (ps_ret (pv 1))))), ?_⟩
  refine q_set (K := K) (er_frz (erl_lst (α := (List Int)) (ea_cons (er_frz (erl_lst (α := Int) ea_nil)) ea_nil))) (fun v654 _ e652 r653 => ?_)
  -- for (low, high) in bounds
  refine q_for (K := K) (src_list (er_var rfl (Rp.mono (SF.of e652) r0))) (fun H1 k σ' H' => ∃ (s_l1 : (List (List Int))) (w656 : V) (y657 : Option V) (y658 : Option V), σ' = [some v0, some w656, y657, y658, none] ∧ s_l1 = (List.take k x0).foldl (fun (s_l1 : (List (List Int))) (low_high_l1 : (Int × Int)) => (((s_l1.map (fun (x675 : (List Int)) => (x675 ++ ([low_high_l1.1] : (List Int))))) ++ (mapIf (fun (x680 : (List Int)) => (decide (low_high_l1.2 > low_high_l1.1))) (fun (x680 : (List Int)) => (x680 ++ ([low_high_l1.2] : (List Int)))) s_l1)) : (List (List Int)))) ([([] : (List Int))] : (List (List Int))) ∧ Mus [] H1 H' ∧ Rp.rep K H' w656 s_l1) (fun H1 e => ⟨([([] : (List Int))] : (List (List Int))), _, _, _, rfl, rfl, Mus.refl _, (Rp.mono (SF.of e) r653)⟩) (fun _ _ _ _ h => by obtain ⟨_, _, _, _, _, _, m, _⟩ := h; exact m.sf) (fun H1 k665 low_high_l1 σ' H' vlow_high_l1 _ e662 hx661 hP e663 rlow_high_l1 => ?_) (fun H1 σ' H' e662 hP => ?_)
  ·
    obtain ⟨s_l1, w656, y657, y658, rfl, hs659, m664, r666⟩ := hP
    obtain ⟨v668, v669, r670, r671, tg672⟩ := tg_pair (k := 2) (m := 3) rlow_high_l1
    refine tg672 _ ?_
    have hlow_high_l1 := List.mem_of_getElem? hx661
    have hturn1 := hs659
    refine q_last ?_
    have r673 := (Rp.mono ((((SF.of e652).trans (SF.of e662)).trans m664.sf).trans (SF.of e663)) r0)
    refine q_set (K := K) (er_frz (erl_cat (er_frz (erl_lm1 (f := fun (x675 : (List Int)) => (x675 ++ ([low_high_l1.1] : (List Int)))) (src_list (er_var rfl (Rp.mono (SF.of e663) r666))) (by first | (have g := cor_lenE hturn1 (by rw [List.length_take]; have := hp.2.1; omega); omega) | (have g := cor_lenE hturn1 (by rw [List.length_take]; have := hp.2.1; omega); have g2 := mapIf_le (c := fun _ : List Int => decide (low_high_l1.2 > low_high_l1.1)) (f := fun r => r ++ [low_high_l1.2]) (l := s_l1); rw [List.length_map]; omega) | (have g := inB_len (cor_inE hturn1 (fun p hh => (hp.2.2 p (List.mem_of_mem_take hh)).2.1) _ (by assumption)); rw [List.length_take] at g; have := hp.2.1; simp; omega)) (by intros; rfl) (fun x675 hx676 v677 _ e674 r678 => (er_frz (erl_cat (er_var rfl r678) (er_frz (erl_lst (α := Int) (ea_cons (er_var rfl (Rp.mono (SF.of e674) r670)) ea_nil))) (by first | (have g := cor_lenE hturn1 (by rw [List.length_take]; have := hp.2.1; omega); omega) | (have g := cor_lenE hturn1 (by rw [List.length_take]; have := hp.2.1; omega); have g2 := mapIf_le (c := fun _ : List Int => decide (low_high_l1.2 > low_high_l1.1)) (f := fun r => r ++ [low_high_l1.2]) (l := s_l1); rw [List.length_map]; omega) | (have g := inB_len (cor_inE hturn1 (fun p hh => (hp.2.2 p (List.mem_of_mem_take hh)).2.1) _ (by assumption)); rw [List.length_take] at g; have := hp.2.1; simp; omega))))))) (er_frz (erl_lc1 (c := fun (x680 : (List Int)) => (decide (low_high_l1.2 > low_high_l1.1))) (f := fun (x680 : (List Int)) => (x680 ++ ([low_high_l1.2] : (List Int)))) (src_list (er_var rfl (Rp.mono (SF.of e663) r666))) (by first | (have g := cor_lenE hturn1 (by rw [List.length_take]; have := hp.2.1; omega); omega) | (have g := cor_lenE hturn1 (by rw [List.length_take]; have := hp.2.1; omega); have g2 := mapIf_le (c := fun _ : List Int => decide (low_high_l1.2 > low_high_l1.1)) (f := fun r => r ++ [low_high_l1.2]) (l := s_l1); rw [List.length_map]; omega) | (have g := inB_len (cor_inE hturn1 (fun p hh => (hp.2.2 p (List.mem_of_mem_take hh)).2.1) _ (by assumption)); rw [List.length_take] at g; have := hp.2.1; simp; omega)) (by intros; rfl) (fun x680 hx681 v682 _ e679 r683 => ⟨(et_test (er_op (er_var rfl (Rp.mono (SF.of e679) r671)) (er_var rfl (Rp.mono (SF.of e679) r670)) rr_gt)), fun _ => (er_frz (erl_cat (er_var rfl r683) (er_frz (erl_lst (α := Int) (ea_cons (er_var rfl (Rp.mono (SF.of e679) r671)) ea_nil))) (by first | (have g := cor_lenE hturn1 (by rw [List.length_take]; have := hp.2.1; omega); omega) | (have g := cor_lenE hturn1 (by rw [List.length_take]; have := hp.2.1; omega); have g2 := mapIf_le (c := fun _ : List Int => decide (low_high_l1.2 > low_high_l1.1)) (f := fun r => r ++ [low_high_l1.2]) (l := s_l1); rw [List.length_map]; omega) | (have g := inB_len (cor_inE hturn1 (fun p hh => (hp.2.2 p (List.mem_of_mem_take hh)).2.1) _ (by assumption)); rw [List.length_take] at g; have := hp.2.1; simp; omega))))⟩))) (by first | (have g := cor_lenE hturn1 (by rw [List.length_take]; have := hp.2.1; omega); omega) | (have g := cor_lenE hturn1 (by rw [List.length_take]; have := hp.2.1; omega); have g2 := mapIf_le (c := fun _ : List Int => decide (low_high_l1.2 > low_high_l1.1)) (f := fun r => r ++ [low_high_l1.2]) (l := s_l1); rw [List.length_map]; omega) | (have g := inB_len (cor_inE hturn1 (fun p hh => (hp.2.2 p (List.mem_of_mem_take hh)).2.1) _ (by assumption)); rw [List.length_take] at g; have := hp.2.1; simp; omega)))) (fun v686 _ e684 r685 => ?_)
    refine s_nx ?_
    exact ⟨((s_l1.map (fun (x675 : (List Int)) => (x675 ++ ([low_high_l1.1] : (List Int))))) ++ (mapIf (fun (x680 : (List Int)) => (decide (low_high_l1.2 > low_high_l1.1))) (fun (x680 : (List Int)) => (x680 ++ ([low_high_l1.2] : (List Int)))) s_l1)), _, _, _, rfl, (fold_step hx661 hs659), (((Mus.baseS (Mus.refl _) m664 all0).trans (Mus.of e663)).trans (Mus.of e684)), r685⟩
  ·
    obtain ⟨s_l1, w656, y657, y658, rfl, hs659, m664, r666⟩ := hP
    replace hs659 := fold_all hs659
    subst hs659
    exact s_ret (K := K) (er_var rfl r666) (fun u _ e687 rr => q u _ (Mus.same0 ((Mus.baseS (((Mus.refl _).trans (Mus.of e652)).trans (Mus.of e662)) m664 all0).trans (Mus.of e687))) rr)
theorem sam_sz {l : List (Int × Int)} (hp : l ≠ [] ∧ l.length ≤ 8 ∧ ∀ p ∈ l, Sz 10 p) : Sz 1900 (m_squares_about_mean l) := by
  have a := sqs_sz hp.2.1 hp.2.2
  have b := sz_neg (sz_tms (sz_tms (tot_sz hp.2.1 hp.2.2) (tot_sz hp.2.1 hp.2.2)) (one_n8 hp.1 hp.2.1))
  exact (sz_pls a b).le (by decide)
def own (r : List Int) : Int × Int := m_squares_about_mean (r.map fun x => (x, (1 : Int)))
def wstep (s : Option (List Int) × (Int × Int)) (r : List Int) : Option (List Int) × (Int × Int) := if m_less s.2 (own r) = true then (some r, own r) else (s.1, s.2)
def WInv (l : List (List Int)) (s : Option (List Int) × (Int × Int)) : Prop := s = (none, (-1, 1)) ∨ ∃ r ∈ l, s = (some r, own r)
theorem wid_inv (l : List (List Int)) : ∀ {m : List (List Int)} {s : Option (List Int) × (Int × Int)}, WInv l s → (∀ x ∈ m, x ∈ l) → WInv l (m.foldl wstep s)
  | [], _, h, _ => h
  | x :: m, s, h, hm => wid_inv l (m := m) (by
      unfold wstep
      split
      · exact .inr ⟨x, hm x (List.mem_cons_self ..), rfl⟩
      · exact h) fun y hy => hm y (List.mem_cons_of_mem _ hy)
theorem wid_sz {b : List (Int × Int)} (hB : BOk b) {m : List (List Int)} (hm : ∀ x ∈ m, x ∈ m_corner_choices b) : Sz 2000 (m.foldl wstep (none, (-1, 1))).2 := by
  rcases wid_inv (m_corner_choices b) (m := m) (.inl rfl) hm with h | ⟨r, hr, h⟩
  · rw [h]; exact (sz_one (x := -1) (by decide)).le (by decide)
  · rw [h]; exact (sam_sz (row_sz hB (cor_inE rfl (ord_of hB) _ hr))).le (by decide)
theorem own_nn {b : List (Int × Int)} (hB : BOk b) {r : List Int} (h : inB b r) : m_less (-1, 1) (own r) = true := own_pos (row_sz hB h)
theorem wid_go {l : List (List Int)} : ∀ {m : List (List Int)} {s : Option (List Int) × (Int × Int)}, (∃ r ∈ l, s = (some r, own r)) → (∀ x ∈ m, x ∈ l) → ∃ r ∈ l, m.foldl wstep s = (some r, own r)
  | [], _, h, _ => h
  | x :: m, s, h, hm => wid_go (m := m) (by
      unfold wstep
      split
      · exact ⟨x, hm x (List.mem_cons_self ..), rfl⟩
      · exact h) fun y hy => hm y (List.mem_cons_of_mem _ hy)
theorem wid_get {b : List (Int × Int)} (hB : BOk b) : ∃ r ∈ m_corner_choices b, (m_corner_choices b).foldl wstep (none, (-1, 1)) = (some r, own r) := by
  have hne : m_corner_choices b ≠ [] := cor_ne (by simp)
  have hin : ∀ r ∈ m_corner_choices b, inB b r := cor_inE rfl (ord_of hB)
  generalize m_corner_choices b = L at hne hin
  cases L with
  | nil => exact absurd rfl hne
  | cons x r =>
    rw [List.foldl_cons]
    refine wid_go (l := x :: r) ?_ fun y hy => List.mem_cons_of_mem _ hy
    refine ⟨x, List.mem_cons_self .., ?_⟩
    unfold wstep
    rw [if_pos (own_nn hB (hin x (List.mem_cons_self ..)))]
theorem wid_some {b : List (Int × Int)} (hB : BOk b) : ((m_corner_choices b).foldl wstep (none, (-1, 1))).1 = some (((m_corner_choices b).foldl wstep (none, (-1, 1))).1.getD []) := by
  obtain ⟨r, _, e⟩ := wid_get hB
  rw [e]; rfl
def m_widest (x0 : (List (Int × Int))) : (List Int) := (((List.foldl (fun (s_l1 : ((Option (List Int)) × (Int × Int))) (one_l1 : (List Int)) => ((if (m_less s_l1.2 (m_squares_about_mean (one_l1.map (fun (x715 : Int) => (x715, (1 : Int)))))) = true then ((some one_l1), (m_squares_about_mean (one_l1.map (fun (x715 : Int) => (x715, (1 : Int)))))) else (s_l1.1, s_l1.2)) : ((Option (List Int)) × (Int × Int)))) ((none : (Option (List Int))), ((-(1 : Int)), (1 : Int))) (m_corner_choices x0)).1).getD [])
theorem ok_widest (T : Txt K mg) : Ok P w K mg base CX0 6 "widest" ["bounds"] (sp1 K ((fun b => BOk b) : (List (Int × Int)) → Prop) m_widest) := by
  refine ok_of T.d_widest sc_widest (bi1 fun _ _ _ _ _ _ _ => rfl) len_sp1 (fun f cdv A outer s H vs Q E hr h => ?_)
  have nd := sc_widest.nd
  obtain ⟨v0, x0, rfl, r0, hp, q⟩ := h
  refine ⟨_, (pss_cons (ps_asg (pe_tup (pa_cons pe_non (pa_cons (pe_tup (pa_cons (pe_un un_neg pe_int) (pa_cons pe_int pa_nil))) pa_nil))) (k_gt K rfl 2 rfl (pgs_cons (pg_name (i := 1) nd rfl (.inl rfl) (.inr rfl)) (pgs_cons (pg_name (i := 2) nd rfl (.inl rfl) (.inr rfl)) pgs_nil))))
      (pss_cons (ps_for PassesOwn.never rfl (k_pl K rfl (pe_fn (ok_corner_choices T) (hr.mono (by decide)) pass0 (pa_cons (pv 0) pa_nil))) (pg_name (i := 3) nd rfl (.inl rfl) (.inr rfl)) (pss_cons (ps_set (i := 4) nd rfl (.inl rfl) (pe_fn (ok_squares_about_mean T) (hr.mono (by decide)) pass0 (pa_cons (pe_frz (pe_lc (own := [("value", 5)]) rfl nd (k_pl K rfl (pv 3)) (blkOk_by (N := N_widest) (sc := defScope s_widest) (by decide +kernel)) (fun _ _ _ _ _ => (pg_name (i := 5) nd rfl (.inl rfl) (.inr rfl))) (fun _ _ _ _ _ => pts_nil) (fun _ _ _ _ _ => (pe_tup (pa_cons (pv 5) (pa_cons pe_int pa_nil)))))) pa_nil)))
      (pss_one (ps_if (pt_val (pe_fn (ok_less T) (hr.mono (by decide)) pass0 (pa_cons (pv 2) (pa_cons (pv 4) pa_nil)))) (pss_one (ps_par (i := 1) (j := 2) (by rfl) nd rfl rfl (by decide) rfl rfl (pa_cons (pv 3) (pa_cons (pv 4) pa_nil)) (by rfl))) pss_nil))))
      (pss_one (ps_ret (pv 1))))), ?_⟩
  refine q_unp (K := K) (er_pair (er_O0 (α := (List Int))) (er_pair (er_neg er_int) er_int)) (fun v696 v697 _ e693 r694 r695 => ?_)
  -- for one in corner_choices(bounds)
  refine q_for (K := K) (src_list (er_call1 (er_var rfl (Rp.mono (SF.of e693) r0)) (by exact hp))) (fun H1 k σ' H' => ∃ (s_l1 : ((Option (List Int)) × (Int × Int))) (w699 : V) (w700 : V) (y701 : Option V) (y702 : Option V), σ' = [some v0, some w699, some w700, y701, y702, none] ∧ s_l1 = (List.take k (m_corner_choices x0)).foldl (fun (s_l1 : ((Option (List Int)) × (Int × Int))) (one_l1 : (List Int)) => ((if (m_less s_l1.2 (m_squares_about_mean (one_l1.map (fun (x715 : Int) => (x715, (1 : Int)))))) = true then ((some one_l1), (m_squares_about_mean (one_l1.map (fun (x715 : Int) => (x715, (1 : Int)))))) else (s_l1.1, s_l1.2)) : ((Option (List Int)) × (Int × Int)))) ((none : (Option (List Int))), ((-(1 : Int)), (1 : Int))) ∧ Mus [] H1 H' ∧ Rp.rep K H' w699 s_l1.1 ∧ Rp.rep K H' w700 s_l1.2) (fun H1 e => ⟨((none : (Option (List Int))), ((-(1 : Int)), (1 : Int))), _, _, _, _, rfl, rfl, Mus.refl _, (Rp.mono (SF.of e) r694), (Rp.mono (SF.of e) r695)⟩) (fun _ _ _ _ h => by obtain ⟨_, _, _, _, _, _, _, m, _, _⟩ := h; exact m.sf) (fun H1 k709 one_l1 σ' H' vone_l1 _ e706 hx705 hP e707 rone_l1 => ?_) (fun H1 σ' H' e706 hP => ?_)
  ·
    obtain ⟨s_l1, w699, w700, y701, y702, rfl, hs703, m708, r710, r711⟩ := hP
    refine s_gn ?_
    have hone_l1 := List.mem_of_getElem? hx705
    have hturn1 := hs703
    have r713 := (Rp.mono ((((SF.of e693).trans (SF.of e706)).trans m708.sf).trans (SF.of e707)) r0)
    refine q_set (K := K) (er_call1 (er_frz (erl_lm1 (f := fun (x715 : Int) => (x715, (1 : Int))) (src_list (er_var rfl rone_l1)) (by have := inB_len (cor_inE rfl (ord_of hp) _ hone_l1); have := hp.2.1; omega) (by intros; rfl) (fun x715 hx716 v717 _ e714 r718 => (er_pair (er_var rfl r718) er_int)))) (by exact row_sz hp (cor_inE rfl (ord_of hp) _ hone_l1))) (fun v721 _ e719 r720 => ?_)
    refine q_last ?_
    refine q_if (K := K) (et_B (er_call2 (er_var rfl (Rp.mono ((SF.of e707).trans (SF.of e719)) r711)) (er_var rfl r720) (by exact ⟨by rw [hturn1]; exact wid_sz hp (fun x hx => List.mem_of_mem_take hx), (sam_sz (row_sz hp (cor_inE rfl (ord_of hp) _ hone_l1))).le (by decide)⟩))) (fun hc723 _ e722 => ?_) (fun hc723 _ e722 => ?_)
    ·
      refine q_last ?_
      refine q_par (K := K) (er_O1 (er_var rfl (Rp.mono ((SF.of e719).trans (SF.of e722)) rone_l1))) (er_var rfl (Rp.mono (SF.of e722) r720)) (fun v727 v728 _ e724 r725 r726 => ?_)
      refine s_nxz ?_
      refine s_nx ?_
      exact ⟨((some one_l1), (m_squares_about_mean (one_l1.map (fun (x715 : Int) => (x715, (1 : Int)))))), _, _, _, _, rfl, (Eq.trans (show ((some one_l1), (m_squares_about_mean (one_l1.map (fun (x715 : Int) => (x715, (1 : Int)))))) = (if (m_less s_l1.2 (m_squares_about_mean (one_l1.map (fun (x715 : Int) => (x715, (1 : Int)))))) = true then ((some one_l1), (m_squares_about_mean (one_l1.map (fun (x715 : Int) => (x715, (1 : Int)))))) else (s_l1.1, s_l1.2)) from by rw [if_pos hc723]) (fold_step hx705 hs703)), (((((Mus.baseS (Mus.refl _) m708 all0).trans (Mus.of e707)).trans (Mus.of e719)).trans (Mus.of e722)).trans (Mus.of e724)), r725, r726⟩
    ·
      refine s_nxz ?_
      refine s_nx ?_
      exact ⟨(s_l1.1, s_l1.2), _, _, _, _, rfl, (Eq.trans (show (s_l1.1, s_l1.2) = (if (m_less s_l1.2 (m_squares_about_mean (one_l1.map (fun (x715 : Int) => (x715, (1 : Int)))))) = true then ((some one_l1), (m_squares_about_mean (one_l1.map (fun (x715 : Int) => (x715, (1 : Int)))))) else (s_l1.1, s_l1.2)) from by rw [if_neg (nff hc723)]) (fold_step hx705 hs703)), ((((Mus.baseS (Mus.refl _) m708 all0).trans (Mus.of e707)).trans (Mus.of e719)).trans (Mus.of e722)), (Rp.mono (((SF.of e707).trans (SF.of e719)).trans (SF.of e722)) r710), (Rp.mono (((SF.of e707).trans (SF.of e719)).trans (SF.of e722)) r711)⟩
  ·
    obtain ⟨s_l1, w699, w700, y701, y702, rfl, hs703, m708, r710, r711⟩ := hP
    replace hs703 := fold_all hs703
    subst hs703
    exact s_ret (K := K) (er_Oget (er_var rfl r710) (by exact wid_some hp)) (fun u _ e729 rr => q u _ (Mus.same0 ((Mus.baseS (((Mus.refl _).trans (Mus.of e693)).trans (Mus.of e706)) m708 all0).trans (Mus.of e729))) rr)
theorem wid_in {b : List (Int × Int)} (hB : BOk b) : inB b (m_widest b) := by
  obtain ⟨r, hr, e⟩ := wid_get hB
  have : m_widest b = r := by
    show ((m_corner_choices b).foldl wstep (none, (-1, 1))).1.getD [] = r
    rw [e]; rfl
  rw [this]
  exact cor_inE rfl (ord_of hB) _ hr
def m_greatest_squares (x0 : (List (Int × Int))) : (Int × Int) := (m_squares_about_mean ((m_widest x0).map (fun (x737 : Int) => (x737, (1 : Int)))))
theorem ok_greatest_squares (T : Txt K mg) : Ok P w K mg base CX0 7 "greatest_squares" ["bounds"] (sp1 K ((fun b => BOk b) : (List (Int × Int)) → Prop) m_greatest_squares) := by
  refine ok_of T.d_greatest_squares sc_greatest_squares (bi1 fun _ _ _ _ _ _ _ => rfl) len_sp1 (fun f cdv A outer s H vs Q E hr h => ?_)
  have nd := sc_greatest_squares.nd
  obtain ⟨v0, x0, rfl, r0, hp, q⟩ := h
  refine ⟨_, (pss_cons (ps_expr (pe_fn (ok_check_bounds T) (hr.mono (by decide)) pass0 (pa_cons (pv 0) pa_nil)))
      (pss_one (ps_ret (pe_fn (ok_squares_about_mean T) (hr.mono (by decide)) pass0 (pa_cons (pe_frz (pe_lc (own := [("value", 1)]) rfl nd (k_pl K rfl (pe_fn (ok_widest T) (hr.mono (by decide)) pass0 (pa_cons (pv 0) pa_nil))) (blkOk_by (N := N_greatest_squares) (sc := defScope s_greatest_squares) (by decide +kernel)) (fun _ _ _ _ _ => (pg_name (i := 1) nd rfl (.inl rfl) (.inr rfl))) (fun _ _ _ _ _ => pts_nil) (fun _ _ _ _ _ => (pe_tup (pa_cons (pv 1) (pa_cons pe_int pa_nil)))))) pa_nil))))), ?_⟩
  refine q_drop (K := K) (er_call1 (er_var rfl r0) (by exact hp)) (fun _ e735 => ?_)
  exact s_ret (K := K) (er_call1 (er_frz (erl_lm1 (f := fun (x737 : Int) => (x737, (1 : Int))) (src_list (er_call1 (er_var rfl (Rp.mono (SF.of e735) r0)) (by exact hp))) (by have := inB_len (wid_in hp); have := hp.2.1; omega) (by intros; rfl) (fun x737 hx738 v739 _ e736 r740 => (er_pair (er_var rfl r740) er_int)))) (by exact row_sz hp (wid_in hp))) (fun u _ e741 rr => q u _ (e735.trans e741) rr)
def m_widest_squares_choice (x0 : (List (Int × Int))) : (List Int) := (m_widest x0)
theorem ok_widest_squares_choice (T : Txt K mg) : Ok P w K mg base CX0 7 "widest_squares_choice" ["bounds"] (sp1 K ((fun b => BOk b) : (List (Int × Int)) → Prop) m_widest_squares_choice) := by
  refine ok_of T.d_widest_squares_choice sc_widest_squares_choice (bi1 fun _ _ _ _ _ _ _ => rfl) len_sp1 (fun f cdv A outer s H vs Q E hr h => ?_)
  have nd := sc_widest_squares_choice.nd
  obtain ⟨v0, x0, rfl, r0, hp, q⟩ := h
  refine ⟨_, (pss_cons (ps_expr (pe_fn (ok_check_bounds T) (hr.mono (by decide)) pass0 (pa_cons (pv 0) pa_nil)))
      (pss_one (ps_ret (pe_fn (ok_widest T) (hr.mono (by decide)) pass0 (pa_cons (pv 0) pa_nil))))), ?_⟩
  refine q_drop (K := K) (er_call1 (er_var rfl r0) (by exact hp)) (fun _ e742 => ?_)
  exact s_ret (K := K) (er_call1 (er_var rfl (Rp.mono (SF.of e742) r0)) (by exact hp)) (fun u _ e743 rr => q u _ (e742.trans e743) rr)
def m_clipped (x0 : (List (Int × Int))) (x1 : (Int × Int)) : (List (Int × Int)) := (List.foldl (fun (s_l1 : (List (Int × Int))) (low_high_l1 : (Int × Int)) => ((if (m_less x1 (low_high_l1.1, (1 : Int))) = true then (s_l1 ++ [(low_high_l1.1, (1 : Int))]) else (s_l1 ++ [(if (m_less (low_high_l1.2, (1 : Int)) x1) = true then (low_high_l1.2, (1 : Int)) else x1)])) : (List (Int × Int)))) ([] : (List (Int × Int))) x0)
theorem ok_clipped (T : Txt K mg) : Ok P w K mg base CX0 2 "clipped" ["bounds", "number"] (sl2 K ((fun b p => b.length ≤ 8 ∧ (∀ t ∈ b, -50 ≤ t.1 ∧ t.1 ≤ 50 ∧ -50 ≤ t.2 ∧ t.2 ≤ 50) ∧ Sz 2000 p) : (List (Int × Int)) → (Int × Int) → Prop) m_clipped) := by
  refine ok_of T.d_clipped sc_clipped (bi2 fun _ _ _ _ _ _ _ _ => rfl) len_sl2 (fun f cdv A outer s H vs Q E hr h => ?_)
  have nd := sc_clipped.nd
  obtain ⟨v0, v1, x0, x1, rfl, r0, r1, hp, q⟩ := h
  refine ⟨_, (pss_cons (ps_set (i := 2) nd rfl (.inl rfl) (pe_lst pa_nil))
      (pss_cons (ps_for PassesOwn.never rfl (k_pl K rfl (pv 0)) (k_gt K rfl 2 rfl (pgs_cons (pg_name (i := 3) nd rfl (.inl rfl) (.inr rfl)) (pgs_cons (pg_name (i := 4) nd rfl (.inl rfl) (.inr rfl)) pgs_nil))) (pss_one (ps_if (pt_val (pe_fn (ok_less T) (hr.mono (by decide)) pass0 (pa_cons (pv 1) (pa_cons (pe_tup (pa_cons (pv 3) (pa_cons pe_int pa_nil))) pa_nil)))) (pss_one (ps_expr (k_app K rfl (pv 2) (pe_tup (pa_cons (pv 3) (pa_cons pe_int pa_nil)))))) (pss_one (ps_expr (k_app K rfl (pv 2) (pe_ifExp (pt_val (pe_fn (ok_less T) (hr.mono (by decide)) pass0 (pa_cons (pe_tup (pa_cons (pv 4) (pa_cons pe_int pa_nil))) (pa_cons (pv 1) pa_nil)))) (pe_tup (pa_cons (pv 4) (pa_cons pe_int pa_nil))) (pv 1))))))))
      (pss_one (ps_ret (pv 2))))), ?_⟩
  refine q_setL (K := K) (erl_lst (α := (Int × Int)) ea_nil) (fun p744 _ _ e745 hn746 h747 rl748 => ?_)
  have f750 := Mus.fresh (Mus.refl _) nin0 hn746
  have u749 := Un.of h747 rl748
  -- for (low, high) in bounds
  refine q_for (K := K) (src_list (er_var rfl (Rp.mono (SF.of e745) r0))) (fun H1 k σ' H' => ∃ (s_l1 : (List (Int × Int))) (y752 : Option V) (y753 : Option V), σ' = [some v0, some v1, some (.ref p744), y752, y753] ∧ s_l1 = (List.take k x0).foldl (fun (s_l1 : (List (Int × Int))) (low_high_l1 : (Int × Int)) => ((if (m_less x1 (low_high_l1.1, (1 : Int))) = true then (s_l1 ++ [(low_high_l1.1, (1 : Int))]) else (s_l1 ++ [(if (m_less (low_high_l1.2, (1 : Int)) x1) = true then (low_high_l1.2, (1 : Int)) else x1)])) : (List (Int × Int)))) ([] : (List (Int × Int))) ∧ Mus [p744] H1 H' ∧ Un K H' p744 s_l1) (fun H1 e => ⟨([] : (List (Int × Int))), _, _, rfl, rfl, Mus.refl _, (Un.mono e u749)⟩) (fun _ _ _ _ h => by obtain ⟨_, _, _, _, _, m, _⟩ := h; exact m.sf) (fun H1 k760 low_high_l1 σ' H' vlow_high_l1 _ e757 hx756 hP e758 rlow_high_l1 => ?_) (fun H1 σ' H' e757 hP => ?_)
  ·
    obtain ⟨s_l1, y752, y753, rfl, hs754, m759, u761⟩ := hP
    obtain ⟨v763, v764, r765, r766, tg767⟩ := tg_pair (k := 3) (m := 4) rlow_high_l1
    refine tg767 _ ?_
    have hlow_high_l1 := List.mem_of_getElem? hx756
    have hturn1 := hs754
    refine q_last ?_
    have r768 := (Rp.mono ((((SF.of e745).trans (SF.of e757)).trans m759.sf).trans (SF.of e758)) r0)
    have r769 := (Rp.mono ((((SF.of e745).trans (SF.of e757)).trans m759.sf).trans (SF.of e758)) r1)
    refine q_if (K := K) (et_B (er_call2 (er_var rfl r769) (er_pair (er_var rfl r765) er_int) (by first | exact ⟨hp.2.2, (sz_one (by have := hp.2.1 _ hlow_high_l1; omega)).le (by decide)⟩ | exact ⟨(sz_one (by have := hp.2.1 _ hlow_high_l1; omega)).le (by decide), hp.2.2⟩))) (fun hc771 _ e770 => ?_) (fun hc771 _ e770 => ?_)
    ·
      refine q_last ?_
      refine q_app (K := K) rfl (Un.mono e770 (Un.mono e758 u761)) (er_pair (er_var rfl (Rp.mono (SF.of e770) r765)) er_int) (by have g1 := fold_growE 1 hturn1 (fun s x _ => by split <;> simp); simp only [List.length_take, List.length_nil] at g1; have := hp.1; omega) (fun _ m772 u773 => ?_)
      refine s_nxz ?_
      refine s_nx ?_
      exact ⟨(s_l1 ++ [(low_high_l1.1, (1 : Int))]), _, _, rfl, (Eq.trans (show (s_l1 ++ [(low_high_l1.1, (1 : Int))]) = (if (m_less x1 (low_high_l1.1, (1 : Int))) = true then (s_l1 ++ [(low_high_l1.1, (1 : Int))]) else (s_l1 ++ [(if (m_less (low_high_l1.2, (1 : Int)) x1) = true then (low_high_l1.2, (1 : Int)) else x1)])) from by rw [if_pos hc771]) (fold_step hx756 hs754)), ((((Mus.baseS (Mus.refl _) m759 (allC (.inr (.head _)) all0)).trans (Mus.of e758)).trans (Mus.of e770)).trans (Mus.mu m772 (.head _))), u773⟩
    ·
      refine q_last ?_
      refine q_app (K := K) rfl (Un.mono e770 (Un.mono e758 u761)) (er_if (et_B (er_call2 (er_pair (er_var rfl (Rp.mono (SF.of e770) r766)) er_int) (er_var rfl (Rp.mono (SF.of e770) r769)) (by first | exact ⟨hp.2.2, (sz_one (by have := hp.2.1 _ hlow_high_l1; omega)).le (by decide)⟩ | exact ⟨(sz_one (by have := hp.2.1 _ hlow_high_l1; omega)).le (by decide), hp.2.2⟩))) (fun _ => (er_pair (er_var rfl (Rp.mono (SF.of e770) r766)) er_int)) (fun _ => (er_var rfl (Rp.mono (SF.of e770) r769)))) (by have g1 := fold_growE 1 hturn1 (fun s x _ => by split <;> simp); simp only [List.length_take, List.length_nil] at g1; have := hp.1; omega) (fun _ m774 u775 => ?_)
      refine s_nxz ?_
      refine s_nx ?_
      exact ⟨(s_l1 ++ [(if (m_less (low_high_l1.2, (1 : Int)) x1) = true then (low_high_l1.2, (1 : Int)) else x1)]), _, _, rfl, (Eq.trans (show (s_l1 ++ [(if (m_less (low_high_l1.2, (1 : Int)) x1) = true then (low_high_l1.2, (1 : Int)) else x1)]) = (if (m_less x1 (low_high_l1.1, (1 : Int))) = true then (s_l1 ++ [(low_high_l1.1, (1 : Int))]) else (s_l1 ++ [(if (m_less (low_high_l1.2, (1 : Int)) x1) = true then (low_high_l1.2, (1 : Int)) else x1)])) from by rw [if_neg (nff hc771)]) (fold_step hx756 hs754)), ((((Mus.baseS (Mus.refl _) m759 (allC (.inr (.head _)) all0)).trans (Mus.of e758)).trans (Mus.of e770)).trans (Mus.mu m774 (.head _))), u775⟩
  ·
    obtain ⟨s_l1, y752, y753, rfl, hs754, m759, u761⟩ := hP
    replace hs754 := fold_all hs754
    subst hs754
    obtain ⟨us, h1, rr⟩ := u761
    exact ⟨.ref p744, rfl, q p744 us _ (Mus.same0 (Mus.baseS (((Mus.refl _).trans (Mus.of e745)).trans (Mus.of e757)) m759 (allC (.inl f750) all0))) f750 h1 rr⟩
def clpF (p : Int × Int) (t : Int × Int) : Int × Int := if m_less p (t.1, 1) = true then (t.1, 1) else if m_less (t.2, 1) p = true then (t.2, 1) else p
theorem clipped_map (b : List (Int × Int)) (p : Int × Int) : m_clipped b p = b.map (clpF p) := by
  unfold m_clipped
  have e : (fun (s : List (Int × Int)) (t : Int × Int) => if m_less p (t.1, 1) = true then s ++ [(t.1, (1 : Int))] else s ++ [if m_less (t.2, 1) p = true then (t.2, (1 : Int)) else p]) = fun s t => s ++ [clpF p t] := by
    funext s t
    unfold clpF
    split <;> rfl
  refine Eq.trans (congrArg (fun f => List.foldl f [] b) e) ?_
  rw [fold_app1]; rfl
theorem clip_sz {b : List (Int × Int)} (hB : BOk b) {p : Int × Int} (hp : Sz 10 p) : m_clipped b p ≠ [] ∧ (m_clipped b p).length ≤ 8 ∧ ∀ q ∈ m_clipped b p, Sz 10 q := by
  rw [clipped_map]
  have := hB.1; have := hB.2.1
  refine ⟨fun e => ?_, by rw [List.length_map]; omega, fun q hq => ?_⟩
  · have := congrArg List.length e; rw [List.length_map] at this; simp at this; subst this; simp at *
  · obtain ⟨t, ht, rfl⟩ := List.mem_map.mp hq
    have := hB.2.2 t ht
    unfold clpF
    split
    · exact (sz_one (by omega)).le (by decide)
    · split
      · exact (sz_one (by omega)).le (by decide)
      · exact hp
theorem zm {b : List (Int × Int)} {t : Int × Int} (h : t ∈ (srt (m_lows b ++ m_highs b)).zip (cutL (srt (m_lows b ++ m_highs b)) (some (1 : Int)) none)) : (t.1, t.2) ∈ (marks b).zip ((marks b).drop 1) := by
  rw [show (1 : Int) = ((1 : Nat) : Int) from rfl, cutL_from] at h
  exact h
def m_centre_of (x0 : (List (Int × Int))) : (Int × Int) := (if (decide ((mxl (m_lows x0)) ≤ (mnl (m_highs x0)))) = true then ((mxl (m_lows x0)), (1 : Int)) else (match List.findSome? (fun (one_other_l1 : (Int × Int)) => ((if ((!(m_less (frI (((mapIf (fun (x823 : (Int × Int)) => (decide (x823.1 ≥ one_other_l1.2))) (fun (x823 : (Int × Int)) => x823.1) x0) ++ (mapIf (fun (x830 : (Int × Int)) => (decide (x830.2 ≤ one_other_l1.1))) (fun (x830 : (Int × Int)) => x830.2) x0)).sum) ((((mapIf (fun (x823 : (Int × Int)) => (decide (x823.1 ≥ one_other_l1.2))) (fun (x823 : (Int × Int)) => x823.1) x0) ++ (mapIf (fun (x830 : (Int × Int)) => (decide (x830.2 ≤ one_other_l1.1))) (fun (x830 : (Int × Int)) => x830.2) x0)).length : Nat) : Int)) (one_other_l1.1, (1 : Int)))) && (!(m_less (one_other_l1.2, (1 : Int)) (frI (((mapIf (fun (x823 : (Int × Int)) => (decide (x823.1 ≥ one_other_l1.2))) (fun (x823 : (Int × Int)) => x823.1) x0) ++ (mapIf (fun (x830 : (Int × Int)) => (decide (x830.2 ≤ one_other_l1.1))) (fun (x830 : (Int × Int)) => x830.2) x0)).sum) ((((mapIf (fun (x823 : (Int × Int)) => (decide (x823.1 ≥ one_other_l1.2))) (fun (x823 : (Int × Int)) => x823.1) x0) ++ (mapIf (fun (x830 : (Int × Int)) => (decide (x830.2 ≤ one_other_l1.1))) (fun (x830 : (Int × Int)) => x830.2) x0)).length : Nat) : Int))))) = true then (some (frI (((mapIf (fun (x823 : (Int × Int)) => (decide (x823.1 ≥ one_other_l1.2))) (fun (x823 : (Int × Int)) => x823.1) x0) ++ (mapIf (fun (x830 : (Int × Int)) => (decide (x830.2 ≤ one_other_l1.1))) (fun (x830 : (Int × Int)) => x830.2) x0)).sum) ((((mapIf (fun (x823 : (Int × Int)) => (decide (x823.1 ≥ one_other_l1.2))) (fun (x823 : (Int × Int)) => x823.1) x0) ++ (mapIf (fun (x830 : (Int × Int)) => (decide (x830.2 ≤ one_other_l1.1))) (fun (x830 : (Int × Int)) => x830.2) x0)).length : Nat) : Int))) else none) : Option (Int × Int))) ((srt ((m_lows x0) ++ (m_highs x0))).zip (cutL (srt ((m_lows x0) ++ (m_highs x0))) (some (1 : Int)) none)) with | some r => r | none => ((mxl (m_lows x0)), (1 : Int))))
theorem ok_centre_of (T : Txt K mg) : Ok P w K mg base CX0 3 "centre_of" ["bounds"] (sp1 K ((fun b => BOk b) : (List (Int × Int)) → Prop) m_centre_of) := by
  refine ok_of T.d_centre_of sc_centre_of (bi1 fun _ _ _ _ _ _ _ => rfl) len_sp1 (fun f cdv A outer s H vs Q E hr h => ?_)
  have nd := sc_centre_of.nd
  obtain ⟨v0, x0, rfl, r0, hp, q⟩ := h
  refine ⟨_, (pss_cons (ps_par (i := 1) (j := 2) (by rfl) nd rfl rfl (by decide) rfl rfl (pa_cons (pe_callB (k_max K rfl rfl) (by rfl) T.n_max (by decide +kernel) (pa_cons (pe_frz (pe_fn (ok_lows T) (hr.mono (by decide)) pass0 (pa_cons (pv 0) pa_nil))) pa_nil)) (pa_cons (pe_callB (k_min K rfl rfl) (by rfl) T.n_min (by decide +kernel) (pa_cons (pe_frz (pe_fn (ok_highs T) (hr.mono (by decide)) pass0 (pa_cons (pv 0) pa_nil))) pa_nil)) pa_nil)) (by rfl))
      (pss_cons (ps_if (pt_cmpR op_le (pv 1) (pv 2) (nomark _)) (pss_one (ps_ret (pe_tup (pa_cons (pv 1) (pa_cons pe_int pa_nil))))) pss_nil)
      (pss_cons (ps_set (i := 3) nd rfl (.inl rfl) (pe_frz (pe_callB (k_sorted K rfl) (by rfl) T.n_sorted (by decide +kernel) (pa_cons (pe_frz (pe_op op_catR (pe_frz (pe_fn (ok_lows T) (hr.mono (by decide)) pass0 (pa_cons (pv 0) pa_nil))) (pe_frz (pe_fn (ok_highs T) (hr.mono (by decide)) pass0 (pa_cons (pv 0) pa_nil))))) pa_nil))))
      (pss_cons (ps_for PassesOwn.never rfl (k_pz K rfl (by rfl) T.n_zip (pa_cons (pv 3) (pa_cons (pe_frz (pe_slice (k_sl K rfl) (pv 3) (po_some pe_int) po_none)) pa_nil))) (k_gt K rfl 2 rfl (pgs_cons (pg_name (i := 4) nd rfl (.inr rfl) (.inl rfl)) (pgs_cons (pg_name (i := 5) nd rfl (.inr rfl) (.inl rfl)) pgs_nil))) (pss_cons (ps_set (i := 6) nd rfl (.inl rfl) (pe_frz (pe_op op_catR (pe_frz (pe_lc (own := [("a", 8), ("b", 9)]) rfl nd (k_pl K rfl (pv 0)) (blkOk_by (N := N_centre_of) (sc := defScope s_centre_of) (by decide +kernel)) (fun _ _ _ _ _ => (k_gt K rfl 2 rfl (pgs_cons (pg_name (i := 8) nd rfl (.inl rfl) (.inr rfl)) (pgs_cons (pg_name (i := 9) nd rfl (.inl rfl) (.inr rfl)) pgs_nil)))) (fun _ _ _ _ _ => (pts_one (pt_cmpR op_ge (pv 8) (pv 5) (nomark _)))) (fun _ _ _ _ _ => (pv 8)))) (pe_frz (pe_lc (own := [("a", 8), ("b", 9)]) rfl nd (k_pl K rfl (pv 0)) (blkOk_by (N := N_centre_of) (sc := defScope s_centre_of) (by decide +kernel)) (fun _ _ _ _ _ => (k_gt K rfl 2 rfl (pgs_cons (pg_name (i := 8) nd rfl (.inl rfl) (.inr rfl)) (pgs_cons (pg_name (i := 9) nd rfl (.inl rfl) (.inr rfl)) pgs_nil)))) (fun _ _ _ _ _ => (pts_one (pt_cmpR op_le (pv 9) (pv 4) (nomark _)))) (fun _ _ _ _ _ => (pv 9)))))))
      (pss_cons (ps_set (i := 7) nd rfl (.inl rfl) (pe_fn (ok_lowest T) (hr.mono (by decide)) pass0 (pa_cons (pe_callB (k_sum K rfl rfl) (by rfl) T.n_sum (by decide +kernel) (pa_cons (pv 6) pa_nil)) (pa_cons (pe_callB (k_len K rfl) (by rfl) T.n_len PySem.boot_len (pa_cons (pv 6) pa_nil)) pa_nil))))
      (pss_one (ps_if (PW.pt (pw_and (pt_not (pt_val (pe_fn (ok_less T) (hr.mono (by decide)) pass0 (pa_cons (pv 7) (pa_cons (pe_tup (pa_cons (pv 4) (pa_cons pe_int pa_nil))) pa_nil))))) (pw_and1 (pt_not (pt_val (pe_fn (ok_less T) (hr.mono (by decide)) pass0 (pa_cons (pe_tup (pa_cons (pv 5) (pa_cons pe_int pa_nil))) (pa_cons (pv 7) pa_nil)))))))) (pss_one (ps_ret (pv 7))) pss_nil)))))
      (pss_one (ps_ret (pe_tup (pa_cons (pv 1) (pa_cons pe_int pa_nil))))))))), ?_⟩
  refine q_par (K := K) (er_max (er_frz (erl_call1 (er_var rfl r0) (by first | omega | (have := hp.2.1; omega) | (have := hp.1.2.1; omega)))) (by first | exact ne_lows hp | exact ne_highs hp)) (er_min (er_frz (erl_call1 (er_var rfl r0) (by first | omega | (have := hp.2.1; omega) | (have := hp.1.2.1; omega)))) (by first | exact ne_lows hp | exact ne_highs hp)) (fun v793 v794 _ e790 r791 r792 => ?_)
  refine q_if (K := K) (et_test (er_op (er_var rfl r791) (er_var rfl r792) rr_le)) (fun hc796 _ e795 => ?_) (fun hc796 _ e795 => ?_)
  ·
    exact s_ret (K := K) (er_pair (er_var rfl (Rp.mono (SF.of e795) r791)) er_int) (fun u _ e797 rr => q u _ ((e790.trans e795).trans e797) (by rw [(show m_centre_of x0 = ((mxl (m_lows x0)), (1 : Int)) from by unfold m_centre_of; rw [if_pos hc796])]; exact rr))
  ·
    refine s_nxz ?_
    refine q_set (K := K) (er_frz (erl_sorted (er_frz (erl_cat (er_frz (erl_call1 (er_var rfl (Rp.mono ((SF.of e790).trans (SF.of e795)) r0)) (by first | omega | (have := hp.2.1; omega) | (have := hp.1.2.1; omega)))) (er_frz (erl_call1 (er_var rfl (Rp.mono ((SF.of e790).trans (SF.of e795)) r0)) (by first | omega | (have := hp.2.1; omega) | (have := hp.1.2.1; omega)))) (by first | (have := hp.2.1; omega) | (have := hp.2.1; rw [len_lows, len_highs]; omega) | (have := hp.2.1; have := mapIf_le (c := fun t : Int × Int => decide (t.1 ≥ one_other_l1.2)) (f := fun t => t.1) (l := x0); have := mapIf_le (c := fun t : Int × Int => decide (t.2 ≤ one_other_l1.1)) (f := fun t => t.2) (l := x0); omega)))))) (fun v800 _ e798 r799 => ?_)
    -- for (one, other) in zip(marks, marks[1:])
    refine q_for (K := K) (src_zip (er_var rfl r799) (er_frz (erl_sl (er_var rfl r799) (eo_some er_int) eo_none))) (fun H1 k σ' H' => ∃ (y802 : Option V) (y803 : Option V) (y804 : Option V) (y805 : Option V), σ' = [some v0, some v793, some v794, some v800, y802, y803, y804, y805, none, none] ∧ (List.take k ((srt ((m_lows x0) ++ (m_highs x0))).zip (cutL (srt ((m_lows x0) ++ (m_highs x0))) (some (1 : Int)) none))).findSome? (fun (one_other_l1 : (Int × Int)) => ((if ((!(m_less (frI (((mapIf (fun (x823 : (Int × Int)) => (decide (x823.1 ≥ one_other_l1.2))) (fun (x823 : (Int × Int)) => x823.1) x0) ++ (mapIf (fun (x830 : (Int × Int)) => (decide (x830.2 ≤ one_other_l1.1))) (fun (x830 : (Int × Int)) => x830.2) x0)).sum) ((((mapIf (fun (x823 : (Int × Int)) => (decide (x823.1 ≥ one_other_l1.2))) (fun (x823 : (Int × Int)) => x823.1) x0) ++ (mapIf (fun (x830 : (Int × Int)) => (decide (x830.2 ≤ one_other_l1.1))) (fun (x830 : (Int × Int)) => x830.2) x0)).length : Nat) : Int)) (one_other_l1.1, (1 : Int)))) && (!(m_less (one_other_l1.2, (1 : Int)) (frI (((mapIf (fun (x823 : (Int × Int)) => (decide (x823.1 ≥ one_other_l1.2))) (fun (x823 : (Int × Int)) => x823.1) x0) ++ (mapIf (fun (x830 : (Int × Int)) => (decide (x830.2 ≤ one_other_l1.1))) (fun (x830 : (Int × Int)) => x830.2) x0)).sum) ((((mapIf (fun (x823 : (Int × Int)) => (decide (x823.1 ≥ one_other_l1.2))) (fun (x823 : (Int × Int)) => x823.1) x0) ++ (mapIf (fun (x830 : (Int × Int)) => (decide (x830.2 ≤ one_other_l1.1))) (fun (x830 : (Int × Int)) => x830.2) x0)).length : Nat) : Int))))) = true then (some (frI (((mapIf (fun (x823 : (Int × Int)) => (decide (x823.1 ≥ one_other_l1.2))) (fun (x823 : (Int × Int)) => x823.1) x0) ++ (mapIf (fun (x830 : (Int × Int)) => (decide (x830.2 ≤ one_other_l1.1))) (fun (x830 : (Int × Int)) => x830.2) x0)).sum) ((((mapIf (fun (x823 : (Int × Int)) => (decide (x823.1 ≥ one_other_l1.2))) (fun (x823 : (Int × Int)) => x823.1) x0) ++ (mapIf (fun (x830 : (Int × Int)) => (decide (x830.2 ≤ one_other_l1.1))) (fun (x830 : (Int × Int)) => x830.2) x0)).length : Nat) : Int))) else none) : Option (Int × Int))) = none ∧ Mus [] H1 H') (fun H1 e => ⟨_, _, _, _, rfl, rfl, Mus.refl _⟩) (fun _ _ _ _ h => by obtain ⟨_, _, _, _, _, _, m⟩ := h; exact m.sf) (fun H1 k812 one_other_l1 σ' H' vone_other_l1 _ e809 hx808 hP e810 rone_other_l1 => ?_) (fun H1 σ' H' e809 hP => ?_)
    ·
      obtain ⟨y802, y803, y804, y805, rfl, hn807, m811⟩ := hP
      obtain ⟨v814, v815, r816, r817, tg818⟩ := tg_pair (k := 4) (m := 5) rone_other_l1
      refine tg818 _ ?_
      have hone_other_l1 := List.mem_of_getElem? hx808
      have r819 := (Rp.mono ((((((SF.of e790).trans (SF.of e795)).trans (SF.of e798)).trans (SF.of e809)).trans m811.sf).trans (SF.of e810)) r0)
      have r820 := (Rp.mono (((((SF.of e795).trans (SF.of e798)).trans (SF.of e809)).trans m811.sf).trans (SF.of e810)) r791)
      have r821 := (Rp.mono (((((SF.of e795).trans (SF.of e798)).trans (SF.of e809)).trans m811.sf).trans (SF.of e810)) r792)
      refine q_set (K := K) (er_frz (erl_cat (er_frz (erl_lc2 (c := fun (x823 : (Int × Int)) => (decide (x823.1 ≥ one_other_l1.2))) (f := fun (x823 : (Int × Int)) => x823.1) (src_list (er_var rfl r819)) (by first | (have := hp.2.1; omega) | (have := hp.2.1; rw [len_lows, len_highs]; omega) | (have := hp.2.1; have := mapIf_le (c := fun t : Int × Int => decide (t.1 ≥ one_other_l1.2)) (f := fun t => t.1) (l := x0); have := mapIf_le (c := fun t : Int × Int => decide (t.2 ≤ one_other_l1.1)) (f := fun t => t.2) (l := x0); omega)) (by intros; rfl) (fun x823 hx824 v825 v826 _ e822 r827 r828 => ⟨(et_test (er_op (er_var rfl r827) (er_var rfl (Rp.mono (SF.of e822) r817)) rr_ge)), fun _ => (er_var rfl r827)⟩))) (er_frz (erl_lc2 (c := fun (x830 : (Int × Int)) => (decide (x830.2 ≤ one_other_l1.1))) (f := fun (x830 : (Int × Int)) => x830.2) (src_list (er_var rfl r819)) (by first | (have := hp.2.1; omega) | (have := hp.2.1; rw [len_lows, len_highs]; omega) | (have := hp.2.1; have := mapIf_le (c := fun t : Int × Int => decide (t.1 ≥ one_other_l1.2)) (f := fun t => t.1) (l := x0); have := mapIf_le (c := fun t : Int × Int => decide (t.2 ≤ one_other_l1.1)) (f := fun t => t.2) (l := x0); omega)) (by intros; rfl) (fun x830 hx831 v832 v833 _ e829 r834 r835 => ⟨(et_test (er_op (er_var rfl r835) (er_var rfl (Rp.mono (SF.of e829) r816)) rr_le)), fun _ => (er_var rfl r835)⟩))) (by first | (have := hp.2.1; omega) | (have := hp.2.1; rw [len_lows, len_highs]; omega) | (have := hp.2.1; have := mapIf_le (c := fun t : Int × Int => decide (t.1 ≥ one_other_l1.2)) (f := fun t => t.1) (l := x0); have := mapIf_le (c := fun t : Int × Int => decide (t.2 ≤ one_other_l1.1)) (f := fun t => t.2) (l := x0); omega)))) (fun v838 _ e836 r837 => ?_)
      have r839 := (Rp.mono ((((SF.of e809).trans m811.sf).trans (SF.of e810)).trans (SF.of e836)) r799)
      refine q_set (K := K) (er_call2 (er_sum (er_var rfl r837)) (er_up (er_len (er_var rfl r837))) (by have h := num_sz hp (of_decide_eq_false (by assumption)) (zm hone_other_l1); exact small_pre h.1 (by have := fixed_len x0 one_other_l1.1 one_other_l1.2; have := hp.2.1; show ((fixed x0 one_other_l1.1 one_other_l1.2).length : Int) ≤ 100; omega))) (fun v842 _ e840 r841 => ?_)
      refine q_last ?_
      refine q_if (K := K) (et_and (et_not (et_B (er_call2 (er_var rfl r841) (er_pair (er_var rfl (Rp.mono ((SF.of e836).trans (SF.of e840)) r816)) er_int) (by have h := num_sz hp (of_decide_eq_false (by assumption)) (zm hone_other_l1); obtain ⟨_, c1, c2, _⟩ := consec (srt_sorted _) (zm hone_other_l1); have d1 := mark_in hp c1; have d2 := mark_in hp c2; first | exact ⟨h.2.le (by decide), (sz_one (by omega)).le (by decide)⟩ | exact ⟨(sz_one (by omega)).le (by decide), h.2.le (by decide)⟩)))) (fun hsc => (et_not (et_B (er_call2 (er_pair (er_var rfl (Rp.mono ((SF.of e836).trans (SF.of e840)) r817)) er_int) (er_var rfl r841) (by have h := num_sz hp (of_decide_eq_false (by assumption)) (zm hone_other_l1); obtain ⟨_, c1, c2, _⟩ := consec (srt_sorted _) (zm hone_other_l1); have d1 := mark_in hp c1; have d2 := mark_in hp c2; first | exact ⟨h.2.le (by decide), (sz_one (by omega)).le (by decide)⟩ | exact ⟨(sz_one (by omega)).le (by decide), h.2.le (by decide)⟩)))))) (fun hc844 _ e843 => ?_) (fun hc844 _ e843 => ?_)
      ·
        have fd846 := find_at hx808 hn807 (show (if ((!(m_less (frI (((mapIf (fun (x823 : (Int × Int)) => (decide (x823.1 ≥ one_other_l1.2))) (fun (x823 : (Int × Int)) => x823.1) x0) ++ (mapIf (fun (x830 : (Int × Int)) => (decide (x830.2 ≤ one_other_l1.1))) (fun (x830 : (Int × Int)) => x830.2) x0)).sum) ((((mapIf (fun (x823 : (Int × Int)) => (decide (x823.1 ≥ one_other_l1.2))) (fun (x823 : (Int × Int)) => x823.1) x0) ++ (mapIf (fun (x830 : (Int × Int)) => (decide (x830.2 ≤ one_other_l1.1))) (fun (x830 : (Int × Int)) => x830.2) x0)).length : Nat) : Int)) (one_other_l1.1, (1 : Int)))) && (!(m_less (one_other_l1.2, (1 : Int)) (frI (((mapIf (fun (x823 : (Int × Int)) => (decide (x823.1 ≥ one_other_l1.2))) (fun (x823 : (Int × Int)) => x823.1) x0) ++ (mapIf (fun (x830 : (Int × Int)) => (decide (x830.2 ≤ one_other_l1.1))) (fun (x830 : (Int × Int)) => x830.2) x0)).sum) ((((mapIf (fun (x823 : (Int × Int)) => (decide (x823.1 ≥ one_other_l1.2))) (fun (x823 : (Int × Int)) => x823.1) x0) ++ (mapIf (fun (x830 : (Int × Int)) => (decide (x830.2 ≤ one_other_l1.1))) (fun (x830 : (Int × Int)) => x830.2) x0)).length : Nat) : Int))))) = true then (some (frI (((mapIf (fun (x823 : (Int × Int)) => (decide (x823.1 ≥ one_other_l1.2))) (fun (x823 : (Int × Int)) => x823.1) x0) ++ (mapIf (fun (x830 : (Int × Int)) => (decide (x830.2 ≤ one_other_l1.1))) (fun (x830 : (Int × Int)) => x830.2) x0)).sum) ((((mapIf (fun (x823 : (Int × Int)) => (decide (x823.1 ≥ one_other_l1.2))) (fun (x823 : (Int × Int)) => x823.1) x0) ++ (mapIf (fun (x830 : (Int × Int)) => (decide (x830.2 ≤ one_other_l1.1))) (fun (x830 : (Int × Int)) => x830.2) x0)).length : Nat) : Int))) else none) = some (frI (((mapIf (fun (x823 : (Int × Int)) => (decide (x823.1 ≥ one_other_l1.2))) (fun (x823 : (Int × Int)) => x823.1) x0) ++ (mapIf (fun (x830 : (Int × Int)) => (decide (x830.2 ≤ one_other_l1.1))) (fun (x830 : (Int × Int)) => x830.2) x0)).sum) ((((mapIf (fun (x823 : (Int × Int)) => (decide (x823.1 ≥ one_other_l1.2))) (fun (x823 : (Int × Int)) => x823.1) x0) ++ (mapIf (fun (x830 : (Int × Int)) => (decide (x830.2 ≤ one_other_l1.1))) (fun (x830 : (Int × Int)) => x830.2) x0)).length : Nat) : Int)) from by rw [if_pos hc844])
        exact s_ret (K := K) (er_var rfl (Rp.mono (SF.of e843) r841)) (fun u _ e845 rr => q u _ (Mus.same0 ((((((Mus.baseS (((((Mus.refl _).trans (Mus.of e790)).trans (Mus.of e795)).trans (Mus.of e798)).trans (Mus.of e809)) m811 all0).trans (Mus.of e810)).trans (Mus.of e836)).trans (Mus.of e840)).trans (Mus.of e843)).trans (Mus.of e845))) (by rw [(show m_centre_of x0 = (frI (((mapIf (fun (x823 : (Int × Int)) => (decide (x823.1 ≥ one_other_l1.2))) (fun (x823 : (Int × Int)) => x823.1) x0) ++ (mapIf (fun (x830 : (Int × Int)) => (decide (x830.2 ≤ one_other_l1.1))) (fun (x830 : (Int × Int)) => x830.2) x0)).sum) ((((mapIf (fun (x823 : (Int × Int)) => (decide (x823.1 ≥ one_other_l1.2))) (fun (x823 : (Int × Int)) => x823.1) x0) ++ (mapIf (fun (x830 : (Int × Int)) => (decide (x830.2 ≤ one_other_l1.1))) (fun (x830 : (Int × Int)) => x830.2) x0)).length : Nat) : Int)) from by unfold m_centre_of; rw [if_neg (nff hc796)]; rw [fd846])]; exact rr))
      ·
        refine s_nxz ?_
        refine s_nx ?_
        exact ⟨_, _, _, _, rfl, (find_none hx808 hn807 (show (if ((!(m_less (frI (((mapIf (fun (x823 : (Int × Int)) => (decide (x823.1 ≥ one_other_l1.2))) (fun (x823 : (Int × Int)) => x823.1) x0) ++ (mapIf (fun (x830 : (Int × Int)) => (decide (x830.2 ≤ one_other_l1.1))) (fun (x830 : (Int × Int)) => x830.2) x0)).sum) ((((mapIf (fun (x823 : (Int × Int)) => (decide (x823.1 ≥ one_other_l1.2))) (fun (x823 : (Int × Int)) => x823.1) x0) ++ (mapIf (fun (x830 : (Int × Int)) => (decide (x830.2 ≤ one_other_l1.1))) (fun (x830 : (Int × Int)) => x830.2) x0)).length : Nat) : Int)) (one_other_l1.1, (1 : Int)))) && (!(m_less (one_other_l1.2, (1 : Int)) (frI (((mapIf (fun (x823 : (Int × Int)) => (decide (x823.1 ≥ one_other_l1.2))) (fun (x823 : (Int × Int)) => x823.1) x0) ++ (mapIf (fun (x830 : (Int × Int)) => (decide (x830.2 ≤ one_other_l1.1))) (fun (x830 : (Int × Int)) => x830.2) x0)).sum) ((((mapIf (fun (x823 : (Int × Int)) => (decide (x823.1 ≥ one_other_l1.2))) (fun (x823 : (Int × Int)) => x823.1) x0) ++ (mapIf (fun (x830 : (Int × Int)) => (decide (x830.2 ≤ one_other_l1.1))) (fun (x830 : (Int × Int)) => x830.2) x0)).length : Nat) : Int))))) = true then (some (frI (((mapIf (fun (x823 : (Int × Int)) => (decide (x823.1 ≥ one_other_l1.2))) (fun (x823 : (Int × Int)) => x823.1) x0) ++ (mapIf (fun (x830 : (Int × Int)) => (decide (x830.2 ≤ one_other_l1.1))) (fun (x830 : (Int × Int)) => x830.2) x0)).sum) ((((mapIf (fun (x823 : (Int × Int)) => (decide (x823.1 ≥ one_other_l1.2))) (fun (x823 : (Int × Int)) => x823.1) x0) ++ (mapIf (fun (x830 : (Int × Int)) => (decide (x830.2 ≤ one_other_l1.1))) (fun (x830 : (Int × Int)) => x830.2) x0)).length : Nat) : Int))) else none) = none from by rw [if_neg (nff hc844)])), (((((Mus.baseS (Mus.refl _) m811 all0).trans (Mus.of e810)).trans (Mus.of e836)).trans (Mus.of e840)).trans (Mus.of e843))⟩
    ·
      obtain ⟨y802, y803, y804, y805, rfl, hn807, m811⟩ := hP
      replace hn807 := find_all hn807
      have r847 := (Rp.mono (((((SF.of e790).trans (SF.of e795)).trans (SF.of e798)).trans (SF.of e809)).trans m811.sf) r0)
      have r848 := (Rp.mono ((((SF.of e795).trans (SF.of e798)).trans (SF.of e809)).trans m811.sf) r791)
      have r849 := (Rp.mono ((((SF.of e795).trans (SF.of e798)).trans (SF.of e809)).trans m811.sf) r792)
      exact s_ret (K := K) (er_pair (er_var rfl r848) er_int) (fun u _ e850 rr => q u _ (Mus.same0 ((Mus.baseS (((((Mus.refl _).trans (Mus.of e790)).trans (Mus.of e795)).trans (Mus.of e798)).trans (Mus.of e809)) m811 all0).trans (Mus.of e850))) (by rw [(show m_centre_of x0 = ((mxl (m_lows x0)), (1 : Int)) from by unfold m_centre_of; rw [if_neg (nff hc796)]; rw [hn807])]; exact rr))
theorem cen_sz {b : List (Int × Int)} (hp : BOk b) : Sz 10 (m_centre_of b) := by
  have hl : -50 ≤ mxl (m_lows b) ∧ mxl (m_lows b) ≤ 50 := by
    obtain ⟨p, h, e⟩ := List.mem_map.mp (mxl_mem (ne_lows hp))
    have := hp.2.2 p h
    have e : p.1 = mxl (m_lows b) := e
    rw [← e]; omega
  unfold m_centre_of
  split
  · exact (sz_one (by omega)).le (by decide)
  · rename_i hc
    have hc := of_decide_eq_false (Bool.eq_false_iff.mpr hc)
    split
    · rename_i r h
      obtain ⟨t, ht, e⟩ := List.exists_of_findSome?_eq_some h
      split at e
      · cases e; exact (num_sz hp hc (zm ht)).2
      · cases e
    · exact (sz_one (by omega)).le (by decide)
def m_centre (x0 : (List (Int × Int))) : (Int × Int) := (m_centre_of x0)
theorem ok_centre (T : Txt K mg) : Ok P w K mg base CX0 5 "centre" ["bounds"] (sp1 K ((fun b => BOk b) : (List (Int × Int)) → Prop) m_centre) := by
  refine ok_of T.d_centre sc_centre (bi1 fun _ _ _ _ _ _ _ => rfl) len_sp1 (fun f cdv A outer s H vs Q E hr h => ?_)
  have nd := sc_centre.nd
  obtain ⟨v0, x0, rfl, r0, hp, q⟩ := h
  refine ⟨_, (pss_cons (ps_expr (pe_fn (ok_check_bounds T) (hr.mono (by decide)) pass0 (pa_cons (pv 0) pa_nil)))
      (pss_one (ps_ret (pe_fn (ok_centre_of T) (hr.mono (by decide)) pass0 (pa_cons (pv 0) pa_nil))))), ?_⟩
  refine q_drop (K := K) (er_call1 (er_var rfl r0) (by exact hp)) (fun _ e851 => ?_)
  exact s_ret (K := K) (er_call1 (er_var rfl (Rp.mono (SF.of e851) r0)) (by exact hp)) (fun u _ e852 rr => q u _ (e851.trans e852) rr)
def m_nearest_choice (x0 : (List (Int × Int))) : (List (Int × Int)) := (m_clipped x0 (m_centre_of x0))
theorem ok_nearest_choice (T : Txt K mg) : Ok P w K mg base CX0 5 "nearest_choice" ["bounds"] (sl1 K ((fun b => BOk b) : (List (Int × Int)) → Prop) m_nearest_choice) := by
  refine ok_of T.d_nearest_choice sc_nearest_choice (bi1 fun _ _ _ _ _ _ _ => rfl) len_sl1 (fun f cdv A outer s H vs Q E hr h => ?_)
  have nd := sc_nearest_choice.nd
  obtain ⟨v0, x0, rfl, r0, hp, q⟩ := h
  refine ⟨_, (pss_cons (ps_expr (pe_fn (ok_check_bounds T) (hr.mono (by decide)) pass0 (pa_cons (pv 0) pa_nil)))
      (pss_one (ps_ret (pe_fn (ok_clipped T) (hr.mono (by decide)) pass0 (pa_cons (pv 0) (pa_cons (pe_fn (ok_centre_of T) (hr.mono (by decide)) pass0 (pa_cons (pv 0) pa_nil)) pa_nil)))))), ?_⟩
  refine q_drop (K := K) (er_call1 (er_var rfl r0) (by exact hp)) (fun _ e853 => ?_)
  exact s_retL (K := K) (erl_call2 (er_var rfl (Rp.mono (SF.of e853) r0)) (er_call1 (er_var rfl (Rp.mono (SF.of e853) r0)) (by exact hp)) (by exact ⟨by have := hp.2.1; omega, fun t ht => by have := hp.2.2 t ht; omega, (cen_sz hp).le (by decide)⟩)) (fun p us _ e854 hn h1 rr => q p us _ (e853.trans e854) (e853.free hn) h1 rr)
def m_least_squares (x0 : (List (Int × Int))) : (Int × Int) := (m_squares_about_mean (m_clipped x0 (m_centre_of x0)))
theorem ok_least_squares (T : Txt K mg) : Ok P w K mg base CX0 6 "least_squares" ["bounds"] (sp1 K ((fun b => BOk b) : (List (Int × Int)) → Prop) m_least_squares) := by
  refine ok_of T.d_least_squares sc_least_squares (bi1 fun _ _ _ _ _ _ _ => rfl) len_sp1 (fun f cdv A outer s H vs Q E hr h => ?_)
  have nd := sc_least_squares.nd
  obtain ⟨v0, x0, rfl, r0, hp, q⟩ := h
  refine ⟨_, (pss_cons (ps_expr (pe_fn (ok_check_bounds T) (hr.mono (by decide)) pass0 (pa_cons (pv 0) pa_nil)))
      (pss_one (ps_ret (pe_fn (ok_squares_about_mean T) (hr.mono (by decide)) pass0 (pa_cons (pe_frz (pe_fn (ok_clipped T) (hr.mono (by decide)) pass0 (pa_cons (pv 0) (pa_cons (pe_fn (ok_centre_of T) (hr.mono (by decide)) pass0 (pa_cons (pv 0) pa_nil)) pa_nil)))) pa_nil))))), ?_⟩
  refine q_drop (K := K) (er_call1 (er_var rfl r0) (by exact hp)) (fun _ e855 => ?_)
  exact s_ret (K := K) (er_call1 (er_frz (erl_call2 (er_var rfl (Rp.mono (SF.of e855) r0)) (er_call1 (er_var rfl (Rp.mono (SF.of e855) r0)) (by exact hp)) (by exact ⟨by have := hp.2.1; omega, fun t ht => by have := hp.2.2 t ht; omega, (cen_sz hp).le (by decide)⟩))) (by exact clip_sz hp ((cen_sz hp).le (by decide)))) (fun u _ e856 rr => q u _ (e855.trans e856) rr)
theorem ok__law_start (T : Txt K mg) : Ok P w K mg base CX0 1 "_law_start" ["_law_script"] (spStart K) := by
  refine ok_of T.d__law_start sc__law_start (bi1 fun _ _ _ _ _ _ _ => rfl) (fun vs H Q E h => by obtain ⟨_, _, rfl, _⟩ := h; rfl) (fun f cdv A outer s H vs Q E hr h => ?_)
  have nd := sc__law_start.nd
  obtain ⟨a, ns, rfl, hs, hz, q⟩ := h
  refine ⟨_, (pss_one (ps_ret (pe_lst (pa_cons (pe_ifExp (pt_cmpR (k_neD K rfl hr.units) (pv 0) (pe_lst pa_nil) (nomark _)) (pe_callTy (k_list K rfl) (by rfl) T.n_list (by decide +kernel) (pa_cons (pv 0) pa_nil)) (pe_lst (pa_cons pe_int pa_nil))) (pa_cons pe_int pa_nil))))), ?_⟩
  refine ⟨.ref a, rfl, Nat.zero_le _, fun e he => ?_⟩
  have hs1 : SqL K (upd H e (.lst [])) a (ns.map V.int) := (same_new he : L2.Same _ _).seq hs
  refine ⟨_, _, .lst hs1 (dp_all (rl_of_ints ns)), .lst (sq_lst upd_same) .nil, shaped_of (α := List Int) (Rt.all ns) (by decide), shaped_of (α := List Int) (x := []) (Rt.all _) (by decide), _, rfl, ite2 (fun c => ?_) (fun c => ?_)⟩
  · refine ⟨.ref a, rfl, a, _, rfl, .inl hs1, fun pn hn => ?_⟩
    have s2 : L2.Same H (upd (upd H e (.lst [])) pn (.lst (ns.map V.int))) := (same_new he).trans (same_new hn)
    refine ⟨by show 2 ≤ sizeLine; decide, fun pd hd => ?_⟩
    refine q pd pn _ (s2.trans (same_new hd)) (s2.free hd) ((same_new he : L2.Same _ _).free hn) ⟨ns, 0, upd_same, upd_get upd_same (ne_of_none upd_same hd), ?_, by omega, by omega, (ne_of_none upd_same hd).symm⟩
    cases ns with
    | nil => exact absurd c (by decide)
    | cons x r => exact Nat.succ_pos _
  · refine ⟨by show 1 ≤ sizeLine; decide, fun pn hn => ?_⟩
    have s2 : L2.Same H (upd (upd H e (.lst [])) pn (.lst [.int 0])) := (same_new he).trans (same_new hn)
    refine ⟨by show 2 ≤ sizeLine; decide, fun pd hd => ?_⟩
    exact q pd pn _ (s2.trans (same_new hd)) (s2.free hd) ((same_new he : L2.Same _ _).free hn) ⟨[0], 0, upd_same, upd_get upd_same (ne_of_none upd_same hd), by decide, by decide, by omega, (ne_of_none upd_same hd).symm⟩
theorem ok__law_draw (T : Txt K mg) : Ok P w K mg base CX0 1 "_law_draw" ["_law_draws", "_law_limit"] spDraw := by
  refine ok_of T.d__law_draw sc__law_draw (bi2 fun _ _ _ _ _ _ _ _ => rfl) (fun vs H Q E h => by obtain ⟨_, _, _, rfl, _⟩ := h; rfl) (fun f cdv A outer s H vs Q E hr h => ?_)
  have nd := sc__law_draw.nd
  obtain ⟨pd, pn, lim, rfl, ⟨ns, k, h1, h2, hl, hl2, hk, hne⟩, l0, l1, q⟩ := h
  refine ⟨_, (pss_cons (ps_set (i := 2) nd rfl (.inl rfl) (pe_ix (k_ixl K rfl) (pv 0) pe_int (fun _ _ => rfl)))
      (pss_cons (ps_asg (pe_op op_add (pe_ix (k_ixl K rfl) (pv 0) pe_int (fun _ _ => rfl)) pe_int) (pg_sub (pv 0) pe_int set_list))
      (pss_cons (ps_set (i := 3) nd rfl (.inl rfl) (pe_op op_mod (pe_ix (k_ixl K rfl) (pv 0) pe_int (fun _ _ => rfl)) (pe_callB (k_len K rfl) (by rfl) T.n_len PySem.boot_len (pa_cons (pv 2) pa_nil))))
      (pss_cons (ps_set (i := 4) nd rfl (.inl rfl) (pe_ix (k_ixl K rfl) (pv 2) (pv 3) (fun _ _ => rfl)))
      (pss_cons (ps_if (pt_cmpR op_ge (pv 4) pe_int (nomark _)) (pss_cons (ps_asg (pe_op op_fdiv (pv 4) (pv 1)) (pg_sub (pv 2) (pv 3) set_list)) (pss_one (ps_ret (pe_op op_mod (pv 4) (pv 1))))) pss_nil)
      (pss_cons (ps_set (i := 5) nd rfl (.inl rfl) (pe_op op_mod (pe_op op_add (pv 4) (pe_op op_mul pe_int (pe_ix (k_ixl K rfl) (pv 0) pe_int (fun _ _ => rfl)))) pe_int))
      (pss_cons (ps_set (i := 5) nd rfl (.inl rfl) (pe_op op_mod (pe_op op_pow (pv 5) pe_int) pe_int))
      (pss_one (ps_ret (pe_op op_mod (pe_op op_fdiv (pe_op op_mod (pe_op op_add (pe_op op_mul (pe_op op_fdiv (pv 5) pe_int) pe_int) (pv 5)) pe_int) pe_int) (pv 1))))))))))), ?_⟩
  refine ⟨.ref pd, rfl, pd, _, 0, .ref pn, rfl, rfl, sq_lst h1, atI_nat (j := 0) rfl, ?_⟩
  refine ⟨.ref pd, rfl, pd, _, 1, .int k, rfl, rfl, sq_lst h1, atI_nat (j := 1) rfl, k, 1, rfl, rfl, .ref pd, rfl, pd, _, 1, 1, rfl, rfl, h1, rfl, ?_⟩
  have g1 : (upd H pd (.lst [.ref pn, .int (k + 1)])) pd = some (.lst [.ref pn, .int (k + 1)]) := upd_same
  have g2 : (upd H pd (.lst [.ref pn, .int (k + 1)])) pn = some (.lst (ns.map V.int)) := upd_get h2 hne.symm
  have m1 : DM pd pn H (upd H pd (.lst [.ref pn, .int (k + 1)])) := ⟨SF.lst h1, fun q o n _ e => upd_get e n⟩
  have d1 : Dr (upd H pd (.lst [.ref pn, .int (k + 1)])) pd pn := ⟨ns, k + 1, g1, g2, hl, hl2, by omega, hne⟩
  show tSeq _ _ _ _ (upd H pd (.lst [.ref pn, .int (k + 1)]))
  generalize upd H pd (.lst [.ref pn, .int (k + 1)]) = H1 at g1 g2 m1 d1
  have hlen : (ns.map V.int).length = ns.length := List.length_map ..
  refine ⟨.ref pd, rfl, pd, _, 1, .int (k + 1), rfl, rfl, sq_lst g1, atI_nat (j := 1) rfl, .ref pn, rfl, pn, _, rfl, .inl (sq_lst g2), k + 1, _, rfl, rfl, (by rw [hlen]; omega), ?_⟩
  obtain ⟨m, hm, hm2⟩ : ∃ m : Nat, (k + 1) % ((ns.map V.int).length : Int) = (m : Int) ∧ m < ns.length := by
    have a := Int.emod_nonneg (k + 1) (show ((ns.map V.int).length : Int) ≠ 0 by rw [hlen]; omega)
    have b := Int.emod_lt_of_pos (k + 1) (show (0 : Int) < ((ns.map V.int).length : Int) by rw [hlen]; omega)
    exact ⟨((k + 1) % ((ns.map V.int).length : Int)).toNat, by omega, by rw [hlen] at b ⊢; omega⟩
  have hc : (ns.map V.int)[m]? = some (.int ns[m]) := by rw [List.getElem?_map, List.getElem?_eq_getElem hm2]; rfl
  refine ⟨.ref pn, rfl, .int ((k + 1) % ((ns.map V.int).length : Int)), rfl, pn, _, _, _, rfl, rfl, sq_lst g2, at_of hm hc, ?_⟩
  refine ⟨.int ns[m], rfl, ns[m], 1000000000000000000, rfl, rfl, _, rfl, ite2 (fun _ => ?_) (fun _ => ?_)⟩
  · refine ⟨.int ns[m], rfl, .int lim, rfl, ns[m], lim, rfl, rfl, ⟨l0, by omega⟩, .ref pn, rfl, .int ((k + 1) % ((ns.map V.int).length : Int)), rfl, pn, _, _, m, rfl, rfl, g2, ?_, ?_⟩
    · rw [hm, hlen]; unfold ixN; rw [if_pos (by omega), if_pos (by omega)]; simp
    · refine ⟨.int ns[m], rfl, .int lim, rfl, ns[m], lim, rfl, rfl, l0, ?_⟩
      have e : (ns.map V.int).set m (.int (ns[m] / lim)) = (ns.set m (ns[m] / lim)).map V.int := by rw [List.map_set]
      rw [e]
      refine q _ _ (Int.emod_nonneg _ (by omega)) (Int.emod_lt_of_pos _ l0) (m1.trans ⟨SF.lst g2, fun q o _ n e => upd_get e n⟩) ⟨_, k + 1, upd_get g1 hne, upd_same, by rw [List.length_set]; exact hl, by rw [List.length_set]; exact hl2, by omega, hne⟩
  · refine ⟨.int ns[m], rfl, .ref pd, rfl, pd, _, 1, .int (k + 1), rfl, rfl, sq_lst g1, atI_nat (j := 1) rfl, 104729, k + 1, rfl, rfl, .inl ⟨by decide, by decide⟩, ns[m], _, rfl, rfl, _, _, rfl, rfl, (show (0 : Int) < 4294967291 by decide), ?_⟩
    have x0 : 0 ≤ (ns[m] + 104729 * (k + 1)) % 4294967291 := Int.emod_nonneg _ (by decide)
    have x1 : (ns[m] + 104729 * (k + 1)) % 4294967291 < 4294967291 := Int.emod_lt_of_pos _ (by decide)
    refine ⟨_, rfl, (ns[m] + 104729 * (k + 1)) % 4294967291, 5, rfl, rfl, ⟨by decide, by decide, by omega⟩, _, _, rfl, rfl, (show (0 : Int) < 4294967279 by decide), ?_⟩
    refine ⟨_, rfl, _, 64, rfl, rfl, ⟨by decide, by decide⟩, _, 69621, rfl, rfl, .inr ⟨by decide, by decide⟩, _, rfl, _, _, rfl, rfl, _, _, rfl, rfl, (show (0 : Int) < 4294967231 by decide), _, 8, rfl, rfl, ⟨by decide, by decide⟩, .int lim, rfl, _, lim, rfl, rfl, l0, ?_⟩
    exact q _ _ (Int.emod_nonneg _ (by omega)) (Int.emod_lt_of_pos _ l0) m1 d1
theorem ok__law_pick {α : Type} [Rp α] (T : Txt K mg) : Ok P w K mg base CX0 2 "_law_pick" ["_law_draws", "_law_choices"] (spPick K (α := α)) := by
  refine ok_of T.d__law_pick sc__law_pick (bi2 fun _ _ _ _ _ _ _ _ => rfl) (fun vs H Q E h => by obtain ⟨_, _, _, _, rfl, _⟩ := h; rfl) (fun f cdv A outer s H vs Q E hr h => ?_)
  have nd := sc__law_pick.nd
  obtain ⟨pd, pn, v, l, rfl, dr, r1, h0, h1, q⟩ := h
  refine ⟨_, (pss_one (ps_ret (pe_ix (k_ixl K rfl) (pv 1) (pe_fn (ok__law_draw T) (hr.mono (by decide)) pass0 (pa_cons (pv 0) (pa_cons (pe_callB (k_len K rfl) (by rfl) T.n_len PySem.boot_len (pa_cons (pv 1) pa_nil)) pa_nil))) (fun _ _ => rfl)))), ?_⟩
  refine s_retP (K := K) (pd := pd) (pn := pn) dr (ep_op (P := fun (x : List α) => x = l) (P2 := fun _ (y : Int) => 0 ≤ y ∧ y < (l.length : Int)) (f := fun _ (y : Int) => if h : y.toNat < l.length then l[y.toNat] else l[0]) (ep_of fun _ m => er_var rfl (Rp.mono m.sf r1)) (fun _ _ => ep_draw (fun _ m => er_up (er_len (er_var rfl (Rp.mono m.sf r1)))) (sub_dr rfl) (by omega) (by omega)) (fun x y hx hy => by
      subst hx
      have hl : y.toNat < x.length := by omega
      rw [dif_pos hl]
      exact rr_ixI (n := y.toNat) (by omega) (List.getElem?_eq_getElem hl))) (fun v H1 z m d hz r => ?_)
  obtain ⟨x, y, hx, hy, rfl⟩ := hz
  have hl : y.toNat < l.length := by omega
  rw [dif_pos hl] at r
  exact q _ v H1 (List.getElem_mem hl) m d r
theorem ok__law_bounds (T : Txt K mg) : Ok P w K mg base CX0 3 "_law_bounds" ["_law_draws", "_law_most"] (spDraws K (fun n => 1 ≤ n ∧ n ≤ 100) BndP) := by
  refine ok_of T.d__law_bounds sc__law_bounds (bi2 fun _ _ _ _ _ _ _ _ => rfl) (fun vs H Q E h => by obtain ⟨_, _, _, rfl, _⟩ := h; rfl) (fun f cdv A outer s H vs Q E hr h => ?_)
  have nd := sc__law_bounds.nd
  obtain ⟨pd, pn, n, rfl, dr, hn, q⟩ := h
  refine ⟨_, (pss_cons (ps_par (i := 2) (j := 3) (by rfl) nd rfl rfl (by decide) rfl rfl (pa_cons (pe_fn (ok__law_pick (α := Int) T) (hr.mono (by decide)) pass0 (pa_cons (pv 0) (pa_cons (pe_frz (pe_lst (pa_cons pe_int (pa_cons pe_int (pa_cons pe_int pa_nil))))) pa_nil))) (pa_cons (pe_fn (ok__law_pick (α := Int) T) (hr.mono (by decide)) pass0 (pa_cons (pv 0) (pa_cons (pe_frz (pe_lst (pa_cons pe_int (pa_cons pe_int (pa_cons pe_int pa_nil))))) pa_nil))) pa_nil)) (by rfl))
      (pss_cons (ps_set (i := 4) nd rfl (.inl rfl) (pe_lst pa_nil))
      (pss_cons (ps_for PassesOwn.never rfl (pi_range1 (by rfl) T.n_range (pa_cons (pe_op op_add pe_int (pe_fn (ok__law_draw T) (hr.mono (by decide)) pass0 (pa_cons (pv 0) (pa_cons (pv 1) pa_nil)))) pa_nil)) (pg_name (i := 5) nd rfl (.inl rfl) (.inr rfl)) (pss_cons (ps_set (i := 6) nd rfl (.inl rfl) (pe_op op_sub (pe_fn (ok__law_draw T) (hr.mono (by decide)) pass0 (pa_cons (pv 0) (pa_cons (pe_op op_mul pe_int (pv 2)) pa_nil))) (pv 2)))
      (pss_one (ps_expr (k_app K rfl (pv 4) (pe_tup (pa_cons (pv 6) (pa_cons (pe_op op_add (pv 6) (pe_fn (ok__law_draw T) (hr.mono (by decide)) pass0 (pa_cons (pv 0) (pa_cons (pv 3) pa_nil)))) pa_nil))))))))
      (pss_one (ps_ret (pv 4)))))), ?_⟩
  refine q_parP (K := K) dr (ep_pick (l := [(3 : Int), 8, 30]) (fun _ _ => er_frz (erl_lst (ea_cons er_int (ea_cons er_int (ea_cons er_int ea_nil))))) (sub_dr rfl) (by decide) (by decide)) (fun _ _ => ep_pick (l := [(2 : Int), 4, 20]) (fun _ _ => er_frz (erl_lst (ea_cons er_int (ea_cons er_int (ea_cons er_int ea_nil))))) (sub_dr rfl) (by decide) (by decide)) (fun vf vw H0 far wide m0 d0 hf hw rf rw' => ?_)
  have hf : 3 ≤ far ∧ far ≤ 30 := by
    rcases List.mem_cons.mp hf with h | h
    · omega
    · rcases List.mem_cons.mp h with h | h
      · omega
      · have := List.mem_singleton.mp h; omega
  have hw : 2 ≤ wide ∧ wide ≤ 20 := by
    rcases List.mem_cons.mp hw with h | h
    · omega
    · rcases List.mem_cons.mp h with h | h
      · omega
      · have := List.mem_singleton.mp h; omega
  refine q_setL (K := K) (l := ([] : List (Int × Int))) (erl_lst ea_nil) (fun p vs H1 e1 hp h1 rl => ?_)
  have n1 : p ≠ pd := (d0.pd_ne hp).symm
  have n2 : p ≠ pn := (d0.pn_ne hp).symm
  cases (show vf = .int far from rf); cases (show vw = .int wide from rw')
  refine q_forR (K := K) (d0.mono e1) (ep_op (ep_of fun _ _ => er_int) (fun _ _ => ep_draw (fun _ _ => er_var (x := n) rfl rfl) (sub_dr rfl) (by omega) (by omega)) (fun _ _ _ _ => rr_add)) (fun x hx => by obtain ⟨_, y, rfl, hy, rfl⟩ := hx; omega)
    (fun x i σ' H' => ∃ (l : List (Int × Int)) (a b : Option V), σ' = [some (.ref pd), some (.int n), some (.int far), some (.int wide), some (.ref p), a, b] ∧ l.length = i ∧ (∀ t ∈ l, -30 ≤ t.1 ∧ t.1 < 30 ∧ t.1 ≤ t.2 ∧ t.2 < t.1 + 20) ∧ DM pd pn H0 H' ∧ Dr H' pd pn ∧ Un K H' p l)
    (fun x H2 m d _ => ⟨[], none, none, rfl, rfl, (fun _ h => by cases h), (DM.of e1).trans m, d, Un.dm m n1 n2 (Un.of h1 rl)⟩) (fun x i σ' H' hx hi hP => ?_) (fun x σ' H' hx hP => ?_)
  · obtain ⟨l, a, b, rfl, hl, hok, m, d, u⟩ := hP
    obtain ⟨_, y, rfl, hy, rfl⟩ := hx
    refine q_setP (K := K) d (ep_op (ep_draw (i := 2 * far) (fun _ _ => er_op er_int (er_var (x := far) rfl rfl) (rr_mul (.inl ⟨by decide, by decide⟩))) (sub_dr rfl) (by omega) (by omega)) (fun _ _ => ep_of (x := far) fun _ _ => er_var rfl rfl) (fun _ _ _ _ => rr_sub)) (fun v H2 x m2 d2 hx r => ?_)
    obtain ⟨z, _, hz, rfl, rfl⟩ := hx
    refine s_appP (K := K) d2 rfl (Un.dm m2 n1 n2 u) n1 n2 (ep_pair (ep_of fun _ m => er_var rfl (Rp.mono m.sf r)) (fun x hx => ep_op (ep_of fun _ m => er_var rfl (Rp.mono m.sf r)) (fun _ _ => ep_draw (i := wide) (fun _ _ => er_var rfl rfl) (sub_dr rfl) (by omega) (by omega)) (fun _ _ _ _ => rr_add))) (by omega) (fun H3 t hb d3 ht u3 => ?_)
    refine ⟨l ++ [t], _, _, rfl, by rw [List.length_append, hl]; rfl, fun s hs => ?_, hb _ (m.trans m2) hp, d3, u3⟩
    rcases List.mem_append.mp hs with hs | hs
    · exact hok s hs
    · rw [List.mem_singleton.mp hs]
      obtain ⟨h1, w, k, rfl, hk, h2⟩ := ht
      omega
  · obtain ⟨l, a, b, rfl, hl, hok, m, d, u⟩ := hP
    obtain ⟨_, y, rfl, hy, rfl⟩ := hx
    obtain ⟨us, hu, ru⟩ := u
    exact ⟨.ref p, rfl, q p us l H' ⟨by omega, by omega, hok⟩ (m0.trans m) d (m0.free dr hp d0) hu ru⟩
theorem ok__law_small (T : Txt K mg) : Ok P w K mg base CX0 2 "_law_small" ["_law_draws", "_law_most"] (spDraws K (fun n => 1 ≤ n ∧ n ≤ 100) SmallP) := by
  refine ok_of T.d__law_small sc__law_small (bi2 fun _ _ _ _ _ _ _ _ => rfl) (fun vs H Q E h => by obtain ⟨_, _, _, rfl, _⟩ := h; rfl) (fun f cdv A outer s H vs Q E hr h => ?_)
  have nd := sc__law_small.nd
  obtain ⟨pd, pn, n, rfl, dr, hn, q⟩ := h
  refine ⟨_, (pss_cons (ps_set (i := 2) nd rfl (.inl rfl) (pe_lst pa_nil))
      (pss_cons (ps_for PassesOwn.never rfl (pi_range1 (by rfl) T.n_range (pa_cons (pe_op op_add pe_int (pe_fn (ok__law_draw T) (hr.mono (by decide)) pass0 (pa_cons (pv 0) (pa_cons (pv 1) pa_nil)))) pa_nil)) (pg_name (i := 3) nd rfl (.inl rfl) (.inr rfl)) (pss_cons (ps_set (i := 4) nd rfl (.inl rfl) (pe_op op_sub (pe_fn (ok__law_draw T) (hr.mono (by decide)) pass0 (pa_cons (pv 0) (pa_cons pe_int pa_nil))) pe_int))
      (pss_one (ps_expr (k_app K rfl (pv 2) (pe_tup (pa_cons (pv 4) (pa_cons (pe_op op_add (pv 4) (pe_fn (ok__law_draw T) (hr.mono (by decide)) pass0 (pa_cons (pv 0) (pa_cons pe_int pa_nil)))) pa_nil))))))))
      (pss_one (ps_ret (pv 2))))), ?_⟩
  refine q_setL (K := K) (l := ([] : List (Int × Int))) (erl_lst ea_nil) (fun p vs H1 e1 hp h1 rl => ?_)
  have n1 : p ≠ pd := (dr.pd_ne hp).symm
  have n2 : p ≠ pn := (dr.pn_ne hp).symm
  refine q_forR (K := K) (dr.mono e1) (ep_op (ep_of fun _ _ => er_int) (fun _ _ => ep_draw (fun _ _ => er_var (x := n) rfl rfl) (sub_dr rfl) (by omega) (by omega)) (fun _ _ _ _ => rr_add)) (fun x hx => by obtain ⟨_, y, rfl, hy, rfl⟩ := hx; omega)
    (fun x i σ' H' => ∃ (l : List (Int × Int)) (a b : Option V), σ' = [some (.ref pd), some (.int n), some (.ref p), a, b] ∧ l.length = i ∧ (∀ t ∈ l, -4 ≤ t.1 ∧ t.1 < 4 ∧ t.1 ≤ t.2 ∧ t.2 < t.1 + 4) ∧ DM pd pn H H' ∧ Dr H' pd pn ∧ Un K H' p l)
    (fun x H2 m d _ => ⟨[], none, none, rfl, rfl, (fun _ h => by cases h), (DM.of e1).trans m, d, Un.dm m n1 n2 (Un.of h1 rl)⟩) (fun x i σ' H' hx hi hP => ?_) (fun x σ' H' hx hP => ?_)
  · obtain ⟨l, a, b, rfl, hl, hok, m, d, u⟩ := hP
    obtain ⟨_, y, rfl, hy, rfl⟩ := hx
    refine q_setP (K := K) d (ep_op (ep_draw (fun _ _ => er_int) (sub_dr rfl) (by decide) (by decide)) (fun _ _ => ep_of fun _ _ => er_int) (fun _ _ _ _ => rr_sub)) (fun v H2 x m2 d2 hx r => ?_)
    obtain ⟨z, _, hz, rfl, rfl⟩ := hx
    refine s_appP (K := K) d2 rfl (Un.dm m2 n1 n2 u) n1 n2 (ep_pair (ep_of fun _ m => er_var rfl (Rp.mono m.sf r)) (fun x hx => ep_op (ep_of fun _ m => er_var rfl (Rp.mono m.sf r)) (fun _ _ => ep_draw (fun _ _ => er_int) (sub_dr rfl) (by decide) (by decide)) (fun _ _ _ _ => rr_add))) (by omega) (fun H3 t hb d3 ht u3 => ?_)
    refine ⟨l ++ [t], _, _, rfl, by rw [List.length_append, hl]; rfl, fun s hs => ?_, hb _ (m.trans m2) hp, d3, u3⟩
    rcases List.mem_append.mp hs with hs | hs
    · exact hok s hs
    · rw [List.mem_singleton.mp hs]
      obtain ⟨h1, w, k, rfl, hk, h2⟩ := ht
      omega
  · obtain ⟨l, a, b, rfl, hl, hok, m, d, u⟩ := hP
    obtain ⟨_, y, rfl, hy, rfl⟩ := hx
    obtain ⟨us, hu, ru⟩ := u
    exact ⟨.ref p, rfl, q p us l H' ⟨by omega, by omega, hok⟩ m d hp hu ru⟩
theorem ok__law_low (T : Txt K mg) : Ok P w K mg base CX0 1 "_law_low" ["_law_top", "_law_under"] (sp2 K ((fun _ b => 0 < b ∧ b.natAbs < 2 ^ 4000) : Int → Int → Prop) frI) := by
  refine ok_of T.d__law_low sc__law_low (bi2 fun _ _ _ _ _ _ _ _ => rfl) len_sp2 (fun f cdv A outer s H vs Q E hr h => ?_)
  have nd := sc__law_low.nd
  obtain ⟨v0, v1, x0, x1, rfl, r0, r1, hp, q⟩ := h
  refine ⟨_, (pss_cons (ps_par (i := 2) (j := 3) (by rfl) nd rfl rfl (by decide) rfl rfl (pa_cons (pe_callB call_abs (by rfl) T.n_abs (by decide +kernel) (pa_cons (pv 0) pa_nil)) (pa_cons (pv 1) pa_nil)) (by rfl))
      (pss_cons (ps_while PassesOwn.never (pt_cmpR op_ne (pv 3) pe_int (nomark _)) (pss_one (ps_par (i := 2) (j := 3) (by rfl) nd rfl rfl (by decide) rfl rfl (pa_cons (pv 3) (pa_cons (pe_op op_mod (pv 2) (pv 3)) pa_nil)) (by rfl))))
      (pss_one (ps_ret (pe_tup (pa_cons (pe_op op_fdivW (pv 0) (pv 2)) (pa_cons (pe_op op_fdivW (pv 1) (pv 2)) pa_nil))))))), ?_⟩
  have hb := hp.1
  refine q_par (K := K) (er_abs (er_var rfl r0)) (er_var rfl r1) (fun v u H1 e1 ra rb => ?_)
  cases (show v = .int (iabs x0) from ra); cases (show u = .int x1 from rb)
  cases (show v0 = .int x0 from r0); cases (show v1 = .int x1 from r1)
  refine q_while (K := K) (fun σ' H' => ∃ a b : Nat, σ' = [some (.int x0), some (.int x1), some (.int a), some (.int b)] ∧ Same H H' ∧ Nat.gcd a b = Int.gcd x0 x1) (fun σ' _ => match σ' with | [_, _, _, some (.int b)] => b.toNat | _ => 0) ⟨x0.natAbs, x1.natAbs, by rw [iabs_nat, show ((x1.natAbs : Nat) : Int) = x1 from by omega]; rfl, e1, rfl⟩ (fun σ' H' hW => ?_)
  obtain ⟨a, b, rfl, e, hg⟩ := hW
  refine ⟨!decide ((b : Int) = 0), et_test (er_op (er_var (x := (b : Int)) rfl rfl) er_int rr_neI), fun hb H2 e2 => ?_, fun hb H2 e2 => ?_⟩
  · have hb0 : b ≠ 0 := by intro z; subst z; simp at hb
    refine s_par (K := K) (er_var (x := (b : Int)) rfl rfl) (er_op (er_var (x := (a : Int)) rfl rfl) (er_var (x := (b : Int)) rfl rfl) (rr_mod (by omega))) (fun v u H3 e3 r1 r2 => ?_)
    cases (show v = .int (b : Int) from r1); cases (show u = .int ((a : Int) % (b : Int)) from r2)
    refine ⟨⟨b, a % b, by rw [nat_mod_int]; rfl, e.trans (e2.trans e3), by rw [gcd_turn hb0]; exact hg⟩, ?_⟩
    show ((a : Int) % (b : Int)).toNat < (b : Int).toNat
    have := Nat.mod_lt a (Nat.pos_of_ne_zero hb0)
    rw [nat_mod_int]; omega
  · have hb0 : b = 0 := by have := of_decide_eq_true (show decide ((b : Int) = 0) = true by simpa using hb); omega
    subst hb0
    rw [Nat.gcd_zero_right] at hg
    have ea : gcdI x0 x1 = (a : Int) := by unfold gcdI; omega
    have hd : ∀ i, CDivW i (a : Int) := fun i => by rw [← ea]; exact gcd_div hp
    exact s_ret (K := K) (er_pair (er_op (er_var (x := x0) rfl rfl) (er_var (x := (a : Int)) rfl rfl) (rr_divW (hd _))) (er_op (er_var (x := x1) rfl rfl) (er_var (x := (a : Int)) rfl rfl) (rr_divW (hd _)))) (fun u H3 e3 rr => q u _ (e.trans (e2.trans e3)) (by unfold frI; rw [ea]; exact rr))
theorem ok__law_add (T : Txt K mg) : Ok P w K mg base CX0 2 "_law_add" ["_law_one", "_law_other"] (sp2 K ((fun p q => Sz 2000 p ∧ Sz 2000 q) : (Int × Int) → (Int × Int) → Prop) pls) := by
  refine ok_of T.d__law_add sc__law_add (bi2 fun _ _ _ _ _ _ _ _ => rfl) len_sp2 (fun f cdv A outer s H vs Q E hr h => ?_)
  have nd := sc__law_add.nd
  obtain ⟨v0, v1, x0, x1, rfl, r0, r1, hp, q⟩ := h
  refine ⟨_, (pss_one (ps_ret (pe_fn (ok__law_low T) (hr.mono (by decide)) pass0 (pa_cons (pe_op op_add (pe_op op_mulW (pe_ix (k_ixt K rfl) (pv 0) pe_int (fun _ _ => rfl)) (pe_ix (k_ixt K rfl) (pv 1) pe_int (fun _ _ => rfl))) (pe_op op_mulW (pe_ix (k_ixt K rfl) (pv 1) pe_int (fun _ _ => rfl)) (pe_ix (k_ixt K rfl) (pv 0) pe_int (fun _ _ => rfl)))) (pa_cons (pe_op op_mulW (pe_ix (k_ixt K rfl) (pv 0) pe_int (fun _ _ => rfl)) (pe_ix (k_ixt K rfl) (pv 1) pe_int (fun _ _ => rfl))) pa_nil))))), ?_⟩
  exact s_ret (K := K) (er_call2 (er_op (er_op (er_op (er_var rfl r0) er_int rr_ixP0) (er_op (er_var rfl r1) er_int rr_ixP1) (rr_mulW (by first | exact cmulW hp.1.2.2 hp.2.2.1 (by decide) (by decide) | exact cmulW hp.2.2.2 hp.1.2.1 (by decide) (by decide) | exact cmulW hp.1.2.1 hp.2.2.1 (by decide) (by decide) | exact cmulW hp.1.2.2 hp.2.2.2 (by decide) (by decide)))) (er_op (er_op (er_var rfl r1) er_int rr_ixP0) (er_op (er_var rfl r0) er_int rr_ixP1) (rr_mulW (by first | exact cmulW hp.1.2.2 hp.2.2.1 (by decide) (by decide) | exact cmulW hp.2.2.2 hp.1.2.1 (by decide) (by decide) | exact cmulW hp.1.2.1 hp.2.2.1 (by decide) (by decide) | exact cmulW hp.1.2.2 hp.2.2.2 (by decide) (by decide)))) rr_add) (er_op (er_op (er_var rfl r0) er_int rr_ixP1) (er_op (er_var rfl r1) er_int rr_ixP1) (rr_mulW (by first | exact cmulW hp.1.2.2 hp.2.2.1 (by decide) (by decide) | exact cmulW hp.2.2.2 hp.1.2.1 (by decide) (by decide) | exact cmulW hp.1.2.1 hp.2.2.1 (by decide) (by decide) | exact cmulW hp.1.2.2 hp.2.2.2 (by decide) (by decide)))) (by exact sz_pre hp.1 hp.2 (by decide))) (fun u _ e857 rr => q u _ e857 rr)
def m__law_below (x0 : (Int × Int)) (x1 : (Int × Int)) : Bool := (decide ((x0.1 * x1.2) < (x1.1 * x0.2)))
theorem ok__law_below (T : Txt K mg) : Ok P w K mg base CX0 1 "_law_below" ["_law_one", "_law_other"] (sp2 K ((fun p q => Sz 2000 p ∧ Sz 2000 q) : (Int × Int) → (Int × Int) → Prop) m__law_below) := by
  refine ok_of T.d__law_below sc__law_below (bi2 fun _ _ _ _ _ _ _ _ => rfl) len_sp2 (fun f cdv A outer s H vs Q E hr h => ?_)
  have nd := sc__law_below.nd
  obtain ⟨v0, v1, x0, x1, rfl, r0, r1, hp, q⟩ := h
  refine ⟨_, (pss_one (ps_ret (pe_cmpR op_lt (pe_op op_mulW (pe_ix (k_ixt K rfl) (pv 0) pe_int (fun _ _ => rfl)) (pe_ix (k_ixt K rfl) (pv 1) pe_int (fun _ _ => rfl))) (pe_op op_mulW (pe_ix (k_ixt K rfl) (pv 1) pe_int (fun _ _ => rfl)) (pe_ix (k_ixt K rfl) (pv 0) pe_int (fun _ _ => rfl))) (nomark _)))), ?_⟩
  exact s_ret (K := K) (er_op (er_op (er_op (er_var rfl r0) er_int rr_ixP0) (er_op (er_var rfl r1) er_int rr_ixP1) (rr_mulW (by first | exact cmulW hp.1.2.2 hp.2.2.1 (by decide) (by decide) | exact cmulW hp.2.2.2 hp.1.2.1 (by decide) (by decide)))) (er_op (er_op (er_var rfl r1) er_int rr_ixP0) (er_op (er_var rfl r0) er_int rr_ixP1) (rr_mulW (by first | exact cmulW hp.1.2.2 hp.2.2.1 (by decide) (by decide) | exact cmulW hp.2.2.2 hp.1.2.1 (by decide) (by decide)))) rr_lt) (fun u _ e858 rr => q u _ e858 rr)
theorem ltot_sz {l : List (Int × Int)} (h : l.length ≤ 8) (hp : ∀ p ∈ l, Sz 10 p) : Sz 89 (l.foldl (fun s x => pls s x) (0, 1)) := (sz_fold (g := fun x => x) sz_zero hp).le (by omega)
def lmean (l : List (Int × Int)) : Int × Int := frI (l.foldl (fun s x => pls s x) (0, 1)).1 ((l.foldl (fun s x => pls s x) (0, 1)).2 * (l.length : Int))
theorem lm_sz {l : List (Int × Int)} (h0 : l ≠ []) (h : l.length ≤ 8) (hp : ∀ p ∈ l, Sz 10 p) : Sz 97 (lmean l) := by
  have a := ltot_sz h hp
  have b := n_sz h0 h
  exact frI_sz (Int.mul_pos a.1 b.1) (Nat.lt_of_lt_of_le a.2.2 (pow_le2 (by decide))) (mul_sz a.2.1 b.2.1)
theorem gap_sz {l : List (Int × Int)} (hp : l ≠ [] ∧ l.length ≤ 8 ∧ ∀ p ∈ l, Sz 10 p) {x : Int × Int} (hx : Sz 10 x) : Sz 108 (pls x (0 - (lmean l).1, (lmean l).2)) := (sz_pls hx (sz_neg0 (lm_sz hp.1 hp.2.1 hp.2.2))).le (by decide)
theorem lfold_sz {l m : List (Int × Int)} (hp : l ≠ [] ∧ l.length ≤ 8 ∧ ∀ p ∈ l, Sz 10 p) (hm : ∀ x ∈ m, x ∈ l) (hl : m.length ≤ 8) : Sz 1900 (m.foldl (fun s x => pls s (tms (pls x (0 - (lmean l).1, (lmean l).2)) (pls x (0 - (lmean l).1, (lmean l).2)))) (0, 1)) :=
  (sz_fold (g := fun x => tms (pls x (0 - (lmean l).1, (lmean l).2)) (pls x (0 - (lmean l).1, (lmean l).2))) sz_zero (fun x hx => sz_tms (gap_sz hp (hp.2.2 x (hm x hx))) (gap_sz hp (hp.2.2 x (hm x hx))))).le (by omega)
def m__law_squares (x0 : (List (Int × Int))) : (Int × Int) := (List.foldl (fun (s_l2 : (Int × Int)) (one_l2 : (Int × Int)) => ((pls s_l2 (frI ((pls one_l2 (((0 : Int) - (frI ((List.foldl (fun (s_l1 : (Int × Int)) (one_l1 : (Int × Int)) => ((pls s_l1 one_l1) : (Int × Int))) ((0 : Int), (1 : Int)) x0).1) ((List.foldl (fun (s_l1 : (Int × Int)) (one_l1 : (Int × Int)) => ((pls s_l1 one_l1) : (Int × Int))) ((0 : Int), (1 : Int)) x0).2 * ((x0.length : Nat) : Int))).1), (frI ((List.foldl (fun (s_l1 : (Int × Int)) (one_l1 : (Int × Int)) => ((pls s_l1 one_l1) : (Int × Int))) ((0 : Int), (1 : Int)) x0).1) ((List.foldl (fun (s_l1 : (Int × Int)) (one_l1 : (Int × Int)) => ((pls s_l1 one_l1) : (Int × Int))) ((0 : Int), (1 : Int)) x0).2 * ((x0.length : Nat) : Int))).2)).1 * (pls one_l2 (((0 : Int) - (frI ((List.foldl (fun (s_l1 : (Int × Int)) (one_l1 : (Int × Int)) => ((pls s_l1 one_l1) : (Int × Int))) ((0 : Int), (1 : Int)) x0).1) ((List.foldl (fun (s_l1 : (Int × Int)) (one_l1 : (Int × Int)) => ((pls s_l1 one_l1) : (Int × Int))) ((0 : Int), (1 : Int)) x0).2 * ((x0.length : Nat) : Int))).1), (frI ((List.foldl (fun (s_l1 : (Int × Int)) (one_l1 : (Int × Int)) => ((pls s_l1 one_l1) : (Int × Int))) ((0 : Int), (1 : Int)) x0).1) ((List.foldl (fun (s_l1 : (Int × Int)) (one_l1 : (Int × Int)) => ((pls s_l1 one_l1) : (Int × Int))) ((0 : Int), (1 : Int)) x0).2 * ((x0.length : Nat) : Int))).2)).1) ((pls one_l2 (((0 : Int) - (frI ((List.foldl (fun (s_l1 : (Int × Int)) (one_l1 : (Int × Int)) => ((pls s_l1 one_l1) : (Int × Int))) ((0 : Int), (1 : Int)) x0).1) ((List.foldl (fun (s_l1 : (Int × Int)) (one_l1 : (Int × Int)) => ((pls s_l1 one_l1) : (Int × Int))) ((0 : Int), (1 : Int)) x0).2 * ((x0.length : Nat) : Int))).1), (frI ((List.foldl (fun (s_l1 : (Int × Int)) (one_l1 : (Int × Int)) => ((pls s_l1 one_l1) : (Int × Int))) ((0 : Int), (1 : Int)) x0).1) ((List.foldl (fun (s_l1 : (Int × Int)) (one_l1 : (Int × Int)) => ((pls s_l1 one_l1) : (Int × Int))) ((0 : Int), (1 : Int)) x0).2 * ((x0.length : Nat) : Int))).2)).2 * (pls one_l2 (((0 : Int) - (frI ((List.foldl (fun (s_l1 : (Int × Int)) (one_l1 : (Int × Int)) => ((pls s_l1 one_l1) : (Int × Int))) ((0 : Int), (1 : Int)) x0).1) ((List.foldl (fun (s_l1 : (Int × Int)) (one_l1 : (Int × Int)) => ((pls s_l1 one_l1) : (Int × Int))) ((0 : Int), (1 : Int)) x0).2 * ((x0.length : Nat) : Int))).1), (frI ((List.foldl (fun (s_l1 : (Int × Int)) (one_l1 : (Int × Int)) => ((pls s_l1 one_l1) : (Int × Int))) ((0 : Int), (1 : Int)) x0).1) ((List.foldl (fun (s_l1 : (Int × Int)) (one_l1 : (Int × Int)) => ((pls s_l1 one_l1) : (Int × Int))) ((0 : Int), (1 : Int)) x0).2 * ((x0.length : Nat) : Int))).2)).2))) : (Int × Int))) ((0 : Int), (1 : Int)) x0)
theorem ok__law_squares (T : Txt K mg) : Ok P w K mg base CX0 3 "_law_squares" ["_law_some"] (sp1 K ((fun l => l ≠ [] ∧ l.length ≤ 8 ∧ ∀ p ∈ l, Sz 10 p) : (List (Int × Int)) → Prop) m__law_squares) := by
  refine ok_of T.d__law_squares sc__law_squares (bi1 fun _ _ _ _ _ _ _ => rfl) len_sp1 (fun f cdv A outer s H vs Q E hr h => ?_)
  have nd := sc__law_squares.nd
  obtain ⟨v0, x0, rfl, r0, hp, q⟩ := h
  refine ⟨_, (pss_cons (ps_asg (pe_tup (pa_cons (pe_tup (pa_cons pe_int (pa_cons pe_int pa_nil))) (pa_cons (pe_tup (pa_cons pe_int (pa_cons pe_int pa_nil))) pa_nil))) (k_gt K rfl 2 rfl (pgs_cons (pg_name (i := 1) nd rfl (.inl rfl) (.inr rfl)) (pgs_cons (pg_name (i := 2) nd rfl (.inl rfl) (.inr rfl)) pgs_nil))))
      (pss_cons (ps_for PassesOwn.never rfl (k_pl K rfl (pv 0)) (pg_name (i := 3) nd rfl (.inl rfl) (.inr rfl)) (pss_one (ps_set (i := 1) nd rfl (.inl rfl) (pe_fn (ok__law_add T) (hr.mono (by decide)) pass0 (pa_cons (pv 1) (pa_cons (pv 3) pa_nil))))))
      (pss_cons (ps_set (i := 4) nd rfl (.inl rfl) (pe_fn (ok__law_low T) (hr.mono (by decide)) pass0 (pa_cons (pe_ix (k_ixt K rfl) (pv 1) pe_int (fun _ _ => rfl)) (pa_cons (pe_op op_mulW (pe_ix (k_ixt K rfl) (pv 1) pe_int (fun _ _ => rfl)) (pe_callB (k_len K rfl) (by rfl) T.n_len PySem.boot_len (pa_cons (pv 0) pa_nil))) pa_nil))))
      (pss_cons (ps_for PassesOwn.never rfl (k_pl K rfl (pv 0)) (pg_name (i := 3) nd rfl (.inl rfl) (.inr rfl)) (pss_cons (ps_set (i := 5) nd rfl (.inl rfl) (pe_fn (ok__law_add T) (hr.mono (by decide)) pass0 (pa_cons (pv 3) (pa_cons (pe_tup (pa_cons (pe_op op_sub pe_int (pe_ix (k_ixt K rfl) (pv 4) pe_int (fun _ _ => rfl))) (pa_cons (pe_ix (k_ixt K rfl) (pv 4) pe_int (fun _ _ => rfl)) pa_nil))) pa_nil))))
      (pss_one (ps_set (i := 2) nd rfl (.inl rfl) (pe_fn (ok__law_add T) (hr.mono (by decide)) pass0 (pa_cons (pv 2) (pa_cons (pe_fn (ok__law_low T) (hr.mono (by decide)) pass0 (pa_cons (pe_op op_mulW (pe_ix (k_ixt K rfl) (pv 5) pe_int (fun _ _ => rfl)) (pe_ix (k_ixt K rfl) (pv 5) pe_int (fun _ _ => rfl))) (pa_cons (pe_op op_mulW (pe_ix (k_ixt K rfl) (pv 5) pe_int (fun _ _ => rfl)) (pe_ix (k_ixt K rfl) (pv 5) pe_int (fun _ _ => rfl))) pa_nil))) pa_nil)))))))
      (pss_one (ps_ret (pv 2))))))), ?_⟩
  refine q_unp (K := K) (er_pair (er_pair er_int er_int) (er_pair er_int er_int)) (fun v862 v863 _ e859 r860 r861 => ?_)
  -- for _law_one in _law_some
  refine q_for (K := K) (src_list (er_var rfl (Rp.mono (SF.of e859) r0))) (fun H1 k σ' H' => ∃ (s_l1 : (Int × Int)) (w865 : V) (y866 : Option V), σ' = [some v0, some w865, some v863, y866, none, none] ∧ s_l1 = (List.take k x0).foldl (fun (s_l1 : (Int × Int)) (one_l1 : (Int × Int)) => ((pls s_l1 one_l1) : (Int × Int))) ((0 : Int), (1 : Int)) ∧ Mus [] H1 H' ∧ Rp.rep K H' w865 s_l1) (fun H1 e => ⟨((0 : Int), (1 : Int)), _, _, rfl, rfl, Mus.refl _, (Rp.mono (SF.of e) r860)⟩) (fun _ _ _ _ h => by obtain ⟨_, _, _, _, _, m, _⟩ := h; exact m.sf) (fun H1 k873 one_l1 σ' H' vone_l1 _ e870 hx869 hP e871 rone_l1 => ?_) (fun H1 σ' H' e870 hP => ?_)
  ·
    obtain ⟨s_l1, w865, y866, rfl, hs867, m872, r874⟩ := hP
    refine s_gn ?_
    have hone_l1 := List.mem_of_getElem? hx869
    have hturn1 := hs867
    refine q_last ?_
    have r876 := (Rp.mono ((((SF.of e859).trans (SF.of e870)).trans m872.sf).trans (SF.of e871)) r0)
    refine q_set (K := K) (er_call2 (er_var rfl (Rp.mono (SF.of e871) r874)) (er_var rfl rone_l1) (by first | exact ⟨by rw [hturn1]; exact (ltot_sz (by rw [List.length_take]; have := hp.2.1; omega) (fun x hx => hp.2.2 x (List.mem_of_mem_take hx))).le (by decide), (hp.2.2 _ hone_l1).le (by decide)⟩ | exact ⟨(hp.2.2 _ hone_l2).le (by decide), (sz_neg0 (lm_sz hp.1 hp.2.1 hp.2.2)).le (by decide)⟩ | exact ⟨by rw [hturn2]; exact (lfold_sz hp (fun x hx => List.mem_of_mem_take hx) (by rw [List.length_take]; have := hp.2.1; omega)).le (by decide), (sz_tms (gap_sz hp (hp.2.2 _ hone_l2)) (gap_sz hp (hp.2.2 _ hone_l2))).le (by decide)⟩)) (fun v879 _ e877 r878 => ?_)
    refine s_nx ?_
    exact ⟨(pls s_l1 one_l1), _, _, rfl, (fold_step hx869 hs867), (((Mus.baseS (Mus.refl _) m872 all0).trans (Mus.of e871)).trans (Mus.of e877)), r878⟩
  ·
    obtain ⟨s_l1, w865, y866, rfl, hs867, m872, r874⟩ := hP
    replace hs867 := fold_all hs867
    subst hs867
    refine q_set (K := K) (er_call2 (er_op (er_var rfl r874) er_int rr_ixP0) (er_op (er_op (er_var rfl r874) er_int rr_ixP1) (er_up (er_len (er_var rfl (Rp.mono (((SF.of e859).trans (SF.of e870)).trans m872.sf) r0)))) (rr_mulW (by first | exact cmulW (k := 89) (ltot_sz hp.2.1 hp.2.2).2.1 (Nat.lt_of_lt_of_le (n_sz hp.1 hp.2.1).2.1 (pow_le2 (by decide))) (by decide) (by decide) | exact cmulW (gap_sz hp (hp.2.2 _ hone_l2)).2.2 (gap_sz hp (hp.2.2 _ hone_l2)).2.2 (by decide) (by decide) | exact cmulW (gap_sz hp (hp.2.2 _ hone_l2)).2.1 (gap_sz hp (hp.2.2 _ hone_l2)).2.1 (by decide) (by decide)))) (by first | exact sz_pre (ltot_sz hp.2.1 hp.2.2) (n_sz hp.1 hp.2.1) (by decide) | exact sz_pre (gap_sz hp (hp.2.2 _ hone_l2)) (gap_sz hp (hp.2.2 _ hone_l2)) (by decide))) (fun v882 _ e880 r881 => ?_)
    have r883 := (Rp.mono ((((SF.of e859).trans (SF.of e870)).trans m872.sf).trans (SF.of e880)) r0)
    -- for _law_one in _law_some
    refine q_for (K := K) (src_list (er_var rfl r883)) (fun H1 k σ' H' => ∃ (s_l2 : (Int × Int)) (w885 : V) (y886 : Option V) (y887 : Option V), σ' = [some v0, some w865, some w885, y886, some v882, y887] ∧ s_l2 = (List.take k x0).foldl (fun (s_l2 : (Int × Int)) (one_l2 : (Int × Int)) => ((pls s_l2 (frI ((pls one_l2 (((0 : Int) - (frI ((List.foldl (fun (s_l1 : (Int × Int)) (one_l1 : (Int × Int)) => ((pls s_l1 one_l1) : (Int × Int))) ((0 : Int), (1 : Int)) x0).1) ((List.foldl (fun (s_l1 : (Int × Int)) (one_l1 : (Int × Int)) => ((pls s_l1 one_l1) : (Int × Int))) ((0 : Int), (1 : Int)) x0).2 * ((x0.length : Nat) : Int))).1), (frI ((List.foldl (fun (s_l1 : (Int × Int)) (one_l1 : (Int × Int)) => ((pls s_l1 one_l1) : (Int × Int))) ((0 : Int), (1 : Int)) x0).1) ((List.foldl (fun (s_l1 : (Int × Int)) (one_l1 : (Int × Int)) => ((pls s_l1 one_l1) : (Int × Int))) ((0 : Int), (1 : Int)) x0).2 * ((x0.length : Nat) : Int))).2)).1 * (pls one_l2 (((0 : Int) - (frI ((List.foldl (fun (s_l1 : (Int × Int)) (one_l1 : (Int × Int)) => ((pls s_l1 one_l1) : (Int × Int))) ((0 : Int), (1 : Int)) x0).1) ((List.foldl (fun (s_l1 : (Int × Int)) (one_l1 : (Int × Int)) => ((pls s_l1 one_l1) : (Int × Int))) ((0 : Int), (1 : Int)) x0).2 * ((x0.length : Nat) : Int))).1), (frI ((List.foldl (fun (s_l1 : (Int × Int)) (one_l1 : (Int × Int)) => ((pls s_l1 one_l1) : (Int × Int))) ((0 : Int), (1 : Int)) x0).1) ((List.foldl (fun (s_l1 : (Int × Int)) (one_l1 : (Int × Int)) => ((pls s_l1 one_l1) : (Int × Int))) ((0 : Int), (1 : Int)) x0).2 * ((x0.length : Nat) : Int))).2)).1) ((pls one_l2 (((0 : Int) - (frI ((List.foldl (fun (s_l1 : (Int × Int)) (one_l1 : (Int × Int)) => ((pls s_l1 one_l1) : (Int × Int))) ((0 : Int), (1 : Int)) x0).1) ((List.foldl (fun (s_l1 : (Int × Int)) (one_l1 : (Int × Int)) => ((pls s_l1 one_l1) : (Int × Int))) ((0 : Int), (1 : Int)) x0).2 * ((x0.length : Nat) : Int))).1), (frI ((List.foldl (fun (s_l1 : (Int × Int)) (one_l1 : (Int × Int)) => ((pls s_l1 one_l1) : (Int × Int))) ((0 : Int), (1 : Int)) x0).1) ((List.foldl (fun (s_l1 : (Int × Int)) (one_l1 : (Int × Int)) => ((pls s_l1 one_l1) : (Int × Int))) ((0 : Int), (1 : Int)) x0).2 * ((x0.length : Nat) : Int))).2)).2 * (pls one_l2 (((0 : Int) - (frI ((List.foldl (fun (s_l1 : (Int × Int)) (one_l1 : (Int × Int)) => ((pls s_l1 one_l1) : (Int × Int))) ((0 : Int), (1 : Int)) x0).1) ((List.foldl (fun (s_l1 : (Int × Int)) (one_l1 : (Int × Int)) => ((pls s_l1 one_l1) : (Int × Int))) ((0 : Int), (1 : Int)) x0).2 * ((x0.length : Nat) : Int))).1), (frI ((List.foldl (fun (s_l1 : (Int × Int)) (one_l1 : (Int × Int)) => ((pls s_l1 one_l1) : (Int × Int))) ((0 : Int), (1 : Int)) x0).1) ((List.foldl (fun (s_l1 : (Int × Int)) (one_l1 : (Int × Int)) => ((pls s_l1 one_l1) : (Int × Int))) ((0 : Int), (1 : Int)) x0).2 * ((x0.length : Nat) : Int))).2)).2))) : (Int × Int))) ((0 : Int), (1 : Int)) ∧ Mus [] H1 H' ∧ Rp.rep K H' w885 s_l2) (fun H1 e => ⟨((0 : Int), (1 : Int)), _, _, _, rfl, rfl, Mus.refl _, (Rp.mono ((((SF.of e870).trans m872.sf).trans (SF.of e880)).trans (SF.of e)) r861)⟩) (fun _ _ _ _ h => by obtain ⟨_, _, _, _, _, _, m, _⟩ := h; exact m.sf) (fun H1 k894 one_l2 σ' H' vone_l2 _ e891 hx890 hP e892 rone_l2 => ?_) (fun H1 σ' H' e891 hP => ?_)
    ·
      obtain ⟨s_l2, w885, y886, y887, rfl, hs888, m893, r895⟩ := hP
      refine s_gn ?_
      have hone_l2 := List.mem_of_getElem? hx890
      have hturn2 := hs888
      have r897 := (Rp.mono ((((SF.of e880).trans (SF.of e891)).trans m893.sf).trans (SF.of e892)) r874)
      refine q_set (K := K) (er_call2 (er_var rfl rone_l2) (er_pair (er_op er_int (er_op (er_var rfl (Rp.mono (((SF.of e891).trans m893.sf).trans (SF.of e892)) r881)) er_int rr_ixP0) rr_sub) (er_op (er_var rfl (Rp.mono (((SF.of e891).trans m893.sf).trans (SF.of e892)) r881)) er_int rr_ixP1)) (by first | exact ⟨by rw [hturn1]; exact (ltot_sz (by rw [List.length_take]; have := hp.2.1; omega) (fun x hx => hp.2.2 x (List.mem_of_mem_take hx))).le (by decide), (hp.2.2 _ hone_l1).le (by decide)⟩ | exact ⟨(hp.2.2 _ hone_l2).le (by decide), (sz_neg0 (lm_sz hp.1 hp.2.1 hp.2.2)).le (by decide)⟩ | exact ⟨by rw [hturn2]; exact (lfold_sz hp (fun x hx => List.mem_of_mem_take hx) (by rw [List.length_take]; have := hp.2.1; omega)).le (by decide), (sz_tms (gap_sz hp (hp.2.2 _ hone_l2)) (gap_sz hp (hp.2.2 _ hone_l2))).le (by decide)⟩)) (fun v900 _ e898 r899 => ?_)
      refine q_last ?_
      have r901 := (Rp.mono ((((SF.of e891).trans m893.sf).trans (SF.of e892)).trans (SF.of e898)) r883)
      have r902 := (Rp.mono ((((SF.of e891).trans m893.sf).trans (SF.of e892)).trans (SF.of e898)) r881)
      refine q_set (K := K) (er_call2 (er_var rfl (Rp.mono ((SF.of e892).trans (SF.of e898)) r895)) (er_call2 (er_op (er_op (er_var rfl r899) er_int rr_ixP0) (er_op (er_var rfl r899) er_int rr_ixP0) (rr_mulW (by first | exact cmulW (k := 89) (ltot_sz hp.2.1 hp.2.2).2.1 (Nat.lt_of_lt_of_le (n_sz hp.1 hp.2.1).2.1 (pow_le2 (by decide))) (by decide) (by decide) | exact cmulW (gap_sz hp (hp.2.2 _ hone_l2)).2.2 (gap_sz hp (hp.2.2 _ hone_l2)).2.2 (by decide) (by decide) | exact cmulW (gap_sz hp (hp.2.2 _ hone_l2)).2.1 (gap_sz hp (hp.2.2 _ hone_l2)).2.1 (by decide) (by decide)))) (er_op (er_op (er_var rfl r899) er_int rr_ixP1) (er_op (er_var rfl r899) er_int rr_ixP1) (rr_mulW (by first | exact cmulW (k := 89) (ltot_sz hp.2.1 hp.2.2).2.1 (Nat.lt_of_lt_of_le (n_sz hp.1 hp.2.1).2.1 (pow_le2 (by decide))) (by decide) (by decide) | exact cmulW (gap_sz hp (hp.2.2 _ hone_l2)).2.2 (gap_sz hp (hp.2.2 _ hone_l2)).2.2 (by decide) (by decide) | exact cmulW (gap_sz hp (hp.2.2 _ hone_l2)).2.1 (gap_sz hp (hp.2.2 _ hone_l2)).2.1 (by decide) (by decide)))) (by first | exact sz_pre (ltot_sz hp.2.1 hp.2.2) (n_sz hp.1 hp.2.1) (by decide) | exact sz_pre (gap_sz hp (hp.2.2 _ hone_l2)) (gap_sz hp (hp.2.2 _ hone_l2)) (by decide))) (by first | exact ⟨by rw [hturn1]; exact (ltot_sz (by rw [List.length_take]; have := hp.2.1; omega) (fun x hx => hp.2.2 x (List.mem_of_mem_take hx))).le (by decide), (hp.2.2 _ hone_l1).le (by decide)⟩ | exact ⟨(hp.2.2 _ hone_l2).le (by decide), (sz_neg0 (lm_sz hp.1 hp.2.1 hp.2.2)).le (by decide)⟩ | exact ⟨by rw [hturn2]; exact (lfold_sz hp (fun x hx => List.mem_of_mem_take hx) (by rw [List.length_take]; have := hp.2.1; omega)).le (by decide), (sz_tms (gap_sz hp (hp.2.2 _ hone_l2)) (gap_sz hp (hp.2.2 _ hone_l2))).le (by decide)⟩)) (fun v905 _ e903 r904 => ?_)
      refine s_nx ?_
      exact ⟨(pls s_l2 (frI ((pls one_l2 (((0 : Int) - (frI ((List.foldl (fun (s_l1 : (Int × Int)) (one_l1 : (Int × Int)) => ((pls s_l1 one_l1) : (Int × Int))) ((0 : Int), (1 : Int)) x0).1) ((List.foldl (fun (s_l1 : (Int × Int)) (one_l1 : (Int × Int)) => ((pls s_l1 one_l1) : (Int × Int))) ((0 : Int), (1 : Int)) x0).2 * ((x0.length : Nat) : Int))).1), (frI ((List.foldl (fun (s_l1 : (Int × Int)) (one_l1 : (Int × Int)) => ((pls s_l1 one_l1) : (Int × Int))) ((0 : Int), (1 : Int)) x0).1) ((List.foldl (fun (s_l1 : (Int × Int)) (one_l1 : (Int × Int)) => ((pls s_l1 one_l1) : (Int × Int))) ((0 : Int), (1 : Int)) x0).2 * ((x0.length : Nat) : Int))).2)).1 * (pls one_l2 (((0 : Int) - (frI ((List.foldl (fun (s_l1 : (Int × Int)) (one_l1 : (Int × Int)) => ((pls s_l1 one_l1) : (Int × Int))) ((0 : Int), (1 : Int)) x0).1) ((List.foldl (fun (s_l1 : (Int × Int)) (one_l1 : (Int × Int)) => ((pls s_l1 one_l1) : (Int × Int))) ((0 : Int), (1 : Int)) x0).2 * ((x0.length : Nat) : Int))).1), (frI ((List.foldl (fun (s_l1 : (Int × Int)) (one_l1 : (Int × Int)) => ((pls s_l1 one_l1) : (Int × Int))) ((0 : Int), (1 : Int)) x0).1) ((List.foldl (fun (s_l1 : (Int × Int)) (one_l1 : (Int × Int)) => ((pls s_l1 one_l1) : (Int × Int))) ((0 : Int), (1 : Int)) x0).2 * ((x0.length : Nat) : Int))).2)).1) ((pls one_l2 (((0 : Int) - (frI ((List.foldl (fun (s_l1 : (Int × Int)) (one_l1 : (Int × Int)) => ((pls s_l1 one_l1) : (Int × Int))) ((0 : Int), (1 : Int)) x0).1) ((List.foldl (fun (s_l1 : (Int × Int)) (one_l1 : (Int × Int)) => ((pls s_l1 one_l1) : (Int × Int))) ((0 : Int), (1 : Int)) x0).2 * ((x0.length : Nat) : Int))).1), (frI ((List.foldl (fun (s_l1 : (Int × Int)) (one_l1 : (Int × Int)) => ((pls s_l1 one_l1) : (Int × Int))) ((0 : Int), (1 : Int)) x0).1) ((List.foldl (fun (s_l1 : (Int × Int)) (one_l1 : (Int × Int)) => ((pls s_l1 one_l1) : (Int × Int))) ((0 : Int), (1 : Int)) x0).2 * ((x0.length : Nat) : Int))).2)).2 * (pls one_l2 (((0 : Int) - (frI ((List.foldl (fun (s_l1 : (Int × Int)) (one_l1 : (Int × Int)) => ((pls s_l1 one_l1) : (Int × Int))) ((0 : Int), (1 : Int)) x0).1) ((List.foldl (fun (s_l1 : (Int × Int)) (one_l1 : (Int × Int)) => ((pls s_l1 one_l1) : (Int × Int))) ((0 : Int), (1 : Int)) x0).2 * ((x0.length : Nat) : Int))).1), (frI ((List.foldl (fun (s_l1 : (Int × Int)) (one_l1 : (Int × Int)) => ((pls s_l1 one_l1) : (Int × Int))) ((0 : Int), (1 : Int)) x0).1) ((List.foldl (fun (s_l1 : (Int × Int)) (one_l1 : (Int × Int)) => ((pls s_l1 one_l1) : (Int × Int))) ((0 : Int), (1 : Int)) x0).2 * ((x0.length : Nat) : Int))).2)).2))), _, _, _, rfl, (fold_step hx890 hs888), ((((Mus.baseS (Mus.refl _) m893 all0).trans (Mus.of e892)).trans (Mus.of e898)).trans (Mus.of e903)), r904⟩
    ·
      obtain ⟨s_l2, w885, y886, y887, rfl, hs888, m893, r895⟩ := hP
      replace hs888 := fold_all hs888
      subst hs888
      exact s_ret (K := K) (er_var rfl r895) (fun u _ e906 rr => q u _ (Mus.same0 ((Mus.baseS (((Mus.baseS (((Mus.refl _).trans (Mus.of e859)).trans (Mus.of e870)) m872 all0).trans (Mus.of e880)).trans (Mus.of e891)) m893 all0).trans (Mus.of e906))) rr)
end
end BL

set_option Elab.async false
set_option linter.all false
set_option maxRecDepth 100000
set_option maxHeartbeats 2000000
namespace BL
open PySem PySem.Spec PyProof.Rows L2
/-! ### the centre -/
def bR (b : List (Int × Int)) : List (Rat × Rat) := b.map fun p => ((p.1 : Rat), (p.2 : Rat))
theorem cast_le {a b : Int} (h : a ≤ b) : (a : Rat) ≤ (b : Rat) := Rat.intCast_le_intCast.mpr h
theorem bR_ord {b : List (Int × Int)} (h : ∀ p ∈ b, p.1 ≤ p.2) : ∀ p ∈ bR b, p.1 ≤ p.2 := fun q hq => by
  obtain ⟨p, hp, rfl⟩ := List.mem_map.mp hq
  exact cast_le (h p hp)
theorem below_fr (x y : Rat) : m__law_below (fr x) (fr y) = decide (x < y) := fr_lt x y
theorem less_fr (x y : Rat) : m_less (fr x) (fr y) = decide (x < y) := fr_lt x y
theorem clpF_fr (t : Rat) (p : Int × Int) : clpF (fr t) p = fr (clp (p.1 : Rat) (p.2 : Rat) t) := by
  unfold clpF clp
  rw [fr_int, fr_int, less_fr, less_fr]
  simp only [decide_eq_true_eq]
  split
  · rfl
  · split <;> rfl
theorem clip_fr (b : List (Int × Int)) (t : Rat) : m_clipped b (fr t) = (clps (bR b) t).map fr := by
  rw [clipped_map]
  unfold clps bR
  rw [List.map_map, List.map_map]
  exact List.map_congr_left fun p _ => clpF_fr t p
theorem clps_ne {b : List (Int × Int)} (h : b ≠ []) (t : Rat) : clps (bR b) t ≠ [] := by
  unfold clps bR; simpa using h
theorem lmean_fr (l : List Rat) (h : l ≠ []) : lmean (l.map fr) = fr (s1 l / ln l) := by
  have hn : (0 : Int) < ((l.map fr).length : Int) := by rw [List.length_map]; have := List.length_pos_iff.mpr h; omega
  have hp := ln_pos h
  unfold lmean
  have e := fr_tot l 0
  rw [show ((0 : Int), (1 : Int)) = fr 0 from rfl, e, frI_fr (Int.mul_pos (fr_den _) hn)]
  congr 1
  rw [Rat.intCast_mul, List.length_map, ← ln_len]
  have a := fr_val (0 + s1 l)
  have p1 := cast_pos (fr_den (0 + s1 l))
  generalize ((fr (0 + s1 l)).1 : Rat) = u at *
  generalize ((fr (0 + s1 l)).2 : Rat) = v at *
  generalize ln l = n at *
  grind
theorem lsq_fr (l : List Rat) (h : l ≠ []) : m__law_squares (l.map fr) = fr (sq l) := by
  have hp := ln_pos h
  have e : (0 - (lmean (l.map fr)).1, (lmean (l.map fr)).2) = fr (-(s1 l / ln l)) := by rw [Int.zero_sub, lmean_fr l h]; exact fr_neg _
  show (l.map fr).foldl (fun s x => pls s (tms (pls x (0 - (lmean (l.map fr)).1, (lmean (l.map fr)).2)) (pls x (0 - (lmean (l.map fr)).1, (lmean (l.map fr)).2)))) (fr 0) = _
  rw [e, fr_gaps]
  congr 1
  unfold sq vr
  generalize ln l = n at *
  grind
/-! the fixed ones tell how far the sum is off -/
def fA (b : List (Int × Int)) (y : Int) : List Int := mapIf (fun t : Int × Int => decide (t.1 ≥ y)) (fun t => t.1) b
def fB (b : List (Int × Int)) (x : Int) : List Int := mapIf (fun t : Int × Int => decide (t.2 ≤ x)) (fun t => t.2) b
theorem fA_cons (p : Int × Int) (b : List (Int × Int)) (y : Int) : fA (p :: b) y = if p.1 ≥ y then p.1 :: fA b y else fA b y := by
  unfold fA mapIf
  rw [List.filter_cons]
  by_cases h : p.1 ≥ y
  · rw [if_pos (decide_eq_true h), if_pos h]; rfl
  · rw [if_neg (by simpa using h), if_neg h]
theorem fB_cons (p : Int × Int) (b : List (Int × Int)) (x : Int) : fB (p :: b) x = if p.2 ≤ x then p.2 :: fB b x else fB b x := by
  unfold fB mapIf
  rw [List.filter_cons]
  by_cases h : p.2 ≤ x
  · rw [if_pos (decide_eq_true h), if_pos h]; rfl
  · rw [if_neg (by simpa using h), if_neg h]
def off (l : List Int) (t : Rat) : Rat := (l.sum : Rat) - ((l.length : Int) : Rat) * t
theorem off_cons (v : Int) (l : List Int) (t : Rat) : off (v :: l) t = (v : Rat) - t + off l t := by
  unfold off
  rw [List.sum_cons, List.length_cons, Int.natCast_add, Rat.intCast_add, Rat.intCast_add]
  have : (((1 : Nat) : Int) : Rat) = 1 := rfl
  rw [this]; grind
theorem off_app (l r : List Int) (t : Rat) : off (l ++ r) t = off l t + off r t := by
  unfold off
  rw [List.sum_append, List.length_append, Int.natCast_add, Rat.intCast_add, Rat.intCast_add]; grind
theorem off_nil (t : Rat) : off [] t = 0 := by
  show ((0 : Int) : Rat) - ((0 : Int) : Rat) * t = 0
  have : ((0 : Int) : Rat) = 0 := rfl
  rw [this]; grind
theorem fixed_off {x y : Int} {t : Rat} (h1 : (x : Rat) ≤ t) (h2 : t ≤ (y : Rat)) : ∀ {b : List (Int × Int)}, (∀ p ∈ b, p.1 ≤ p.2 ∧ (p.1 ≤ x ∨ y ≤ p.1) ∧ (p.2 ≤ x ∨ y ≤ p.2)) →
    s1 (clps (bR b) t) - ln (clps (bR b) t) * t = off (fA b y) t + off (fB b x) t
  | [], _ => by
    show (0 : Rat) - 0 * t = off [] t + off [] t
    rw [off_nil]; grind
  | p :: b, h => by
    have ih := fixed_off h1 h2 (b := b) fun q hq => h q (List.mem_cons_of_mem _ hq)
    obtain ⟨a1, a2, a3⟩ := h p (List.mem_cons_self ..)
    show clp (p.1 : Rat) (p.2 : Rat) t + s1 (clps (bR b) t) - (ln (clps (bR b) t) + 1) * t = _
    have key : clp (p.1 : Rat) (p.2 : Rat) t - t = (if p.1 ≥ y then (p.1 : Rat) - t else 0) + (if p.2 ≤ x then (p.2 : Rat) - t else 0) := by
      have c1 := cast_le a1
      by_cases q1 : p.1 ≥ y
      · have d1 := cast_le q1
        rw [if_pos q1]
        by_cases q2 : p.2 ≤ x
        · have d2 := cast_le q2
          rw [if_pos q2]; unfold clp; grind
        · rw [if_neg q2]; unfold clp; grind
      · have d1 := cast_le (show p.1 ≤ x by omega)
        rw [if_neg q1]
        by_cases q2 : p.2 ≤ x
        · have d2 := cast_le q2
          rw [if_pos q2]; unfold clp; grind
        · have d2 := cast_le (show y ≤ p.2 by omega)
          rw [if_neg q2]; unfold clp; grind
    rw [fA_cons, fB_cons]
    have e1 : off (if p.1 ≥ y then p.1 :: fA b y else fA b y) t = (if p.1 ≥ y then (p.1 : Rat) - t else 0) + off (fA b y) t := by
      split
      · rw [off_cons]
      · grind
    have e2 : off (if p.2 ≤ x then p.2 :: fB b x else fB b x) t = (if p.2 ≤ x then (p.2 : Rat) - t else 0) + off (fB b x) t := by
      split
      · rw [off_cons]
      · grind
    rw [e1, e2]
    generalize (if p.1 ≥ y then (p.1 : Rat) - t else 0) = g1 at *
    generalize (if p.2 ≤ x then (p.2 : Rat) - t else 0) = g2 at *
    grind
theorem marks_ok {b : List (Int × Int)} (hB : BOk b) {x y : Int} (hm : (x, y) ∈ (marks b).zip ((marks b).drop 1)) : x ≤ y ∧ ∀ p ∈ b, p.1 ≤ p.2 ∧ (p.1 ≤ x ∨ y ≤ p.1) ∧ (p.2 ≤ x ∨ y ≤ p.2) := by
  obtain ⟨h1, _, _, h4⟩ := consec (srt_sorted _) hm
  exact ⟨h1, fun p hp => ⟨(hB.2.2 p hp).2.1, h4 _ (mem_marks hp).1, h4 _ (mem_marks hp).2⟩⟩
theorem fixed_at {b : List (Int × Int)} (hB : BOk b) {x y : Int} (hm : (x, y) ∈ (marks b).zip ((marks b).drop 1)) {t : Rat} (h1 : (x : Rat) ≤ t) (h2 : t ≤ (y : Rat)) : s1 (clps (bR b) t) - ln (clps (bR b) t) * t = off (fixed b x y) t := by
  rw [fixed_off h1 h2 (marks_ok hB hm).2]
  exact (off_app _ _ _).symm
theorem all_low {a : Rat} : ∀ {b : List (Rat × Rat)}, (∀ p ∈ b, p.1 ≤ p.2 ∧ a ≤ p.1) → 0 ≤ s1 (clps b a) - ln (clps b a) * a
  | [], _ => by show (0 : Rat) ≤ 0 - 0 * a; grind
  | p :: b, h => by
    have ih := all_low (b := b) fun q hq => h q (List.mem_cons_of_mem _ hq)
    have h1 := h p (List.mem_cons_self ..)
    have : a ≤ clp p.1 p.2 a := by unfold clp; grind
    show 0 ≤ clp p.1 p.2 a + s1 (clps b a) - (ln (clps b a) + 1) * a
    grind
theorem all_high {a : Rat} : ∀ {b : List (Rat × Rat)}, (∀ p ∈ b, p.1 ≤ p.2 ∧ p.2 ≤ a) → s1 (clps b a) - ln (clps b a) * a ≤ 0
  | [], _ => by show (0 : Rat) - 0 * a ≤ 0; grind
  | p :: b, h => by
    have ih := all_high (b := b) fun q hq => h q (List.mem_cons_of_mem _ hq)
    have h1 := h p (List.mem_cons_self ..)
    have : clp p.1 p.2 a ≤ a := by unfold clp; grind
    show clp p.1 p.2 a + s1 (clps b a) - (ln (clps b a) + 1) * a ≤ 0
    grind
theorem all_in {c : Rat} : ∀ {b : List (Rat × Rat)}, (∀ p ∈ b, p.1 ≤ c ∧ c ≤ p.2) → Cen b c
  | [], _ => by show (0 : Rat) = 0 * c; grind
  | p :: b, h => by
    have ih := all_in (b := b) fun q hq => h q (List.mem_cons_of_mem _ hq)
    have h1 := h p (List.mem_cons_self ..)
    have : clp p.1 p.2 c = c := by unfold clp; grind
    unfold Cen at *
    show clp p.1 p.2 c + s1 (clps b c) = (ln (clps b c) + 1) * c
    grind
/-- the number that is tried between two marks -/
theorem num_fr {b : List (Int × Int)} (hB : BOk b) (hc : ¬ mxl (m_lows b) ≤ mnl (m_highs b)) {x y : Int} (hm : (x, y) ∈ (marks b).zip ((marks b).drop 1)) :
    ∃ t : Rat, frI (fixed b x y).sum (fixed b x y).length = fr t ∧ off (fixed b x y) t = 0 ∧ 0 < (((fixed b x y).length : Int) : Rat) := by
  have h := (num_sz hB hc hm).1
  have hp := cast_pos h
  refine ⟨_, frI_fr h, ?_, hp⟩
  unfold off
  grind
theorem cross_marks {b : List (Int × Int)} (hB : BOk b) : ∃ x y, (x, y) ∈ (marks b).zip ((marks b).drop 1) ∧ 0 ≤ s1 (clps (bR b) (x : Rat)) - ln (clps (bR b) (x : Rat)) * (x : Rat) ∧ s1 (clps (bR b) (y : Rat)) - ln (clps (bR b) (y : Rat)) * (y : Rat) ≤ 0 := by
  have hs := srt_sorted (b.map (fun p => p.1) ++ b.map fun p => p.2)
  have hlen : (marks b).length ≥ 2 := by unfold marks; rw [srt_len, List.length_append, List.length_map, List.length_map]; have := hB.1; omega
  have hmem := fun (p : Int × Int) (hp : p ∈ b) => mem_marks hp
  have hs : (marks b).Pairwise (· ≤ ·) := hs
  generalize marks b = l at *
  cases l with
  | nil => simp at hlen
  | cons a r =>
    have hz : (a :: r).getLast? = some ((a :: r).getLastD 0) := last_atD (by simp)
    refine cross (f := fun m : Int => s1 (clps (bR b) (m : Rat)) - ln (clps (bR b) (m : Rat)) * (m : Rat)) (a := a) rfl hz hlen ?_ ?_
    · refine all_low fun q hq => ?_
      obtain ⟨p, hp, rfl⟩ := List.mem_map.mp hq
      refine ⟨cast_le (hB.2.2 p hp).2.1, cast_le ?_⟩
      rcases List.mem_cons.mp (hmem p hp).1 with e | e
      · omega
      · exact (List.pairwise_cons.mp hs).1 _ e
    · refine all_high fun q hq => ?_
      obtain ⟨p, hp, rfl⟩ := List.mem_map.mp hq
      refine ⟨cast_le (hB.2.2 p hp).2.1, cast_le ?_⟩
      have := sorted_last hs _ (hmem p hp).2
      rw [show (a :: r).getLastD 0 = (a :: r).getD ((a :: r).length - 1) 0 by rw [List.getLastD_eq_getLast?, List.getLast?_eq_getElem?, List.getD_eq_getElem?_getD]]
      exact this
theorem zm' {b : List (Int × Int)} {t : Int × Int} (h : t ∈ (marks b).zip ((marks b).drop 1)) : t ∈ (srt (m_lows b ++ m_highs b)).zip (cutL (srt (m_lows b ++ m_highs b)) (some (1 : Int)) none) := by
  rw [show (1 : Int) = ((1 : Nat) : Int) from rfl, cutL_from]
  exact h
theorem cen_fr {b : List (Int × Int)} (hB : BOk b) : ∃ c : Rat, m_centre_of b = fr c ∧ Cen (bR b) c := by
  unfold m_centre_of
  split
  · rename_i h
    have h := of_decide_eq_true h
    refine ⟨_, fr_int _, all_in fun q hq => ?_⟩
    obtain ⟨p, hp, rfl⟩ := List.mem_map.mp hq
    have h1 : p.1 ≤ mxl (m_lows b) := mxl_le (List.mem_map.mpr ⟨p, hp, rfl⟩)
    have h2 : mnl (m_highs b) ≤ p.2 := mnl_le (List.mem_map.mpr ⟨p, hp, rfl⟩)
    exact ⟨cast_le h1, cast_le (by omega)⟩
  · rename_i hc
    have hc := of_decide_eq_false (Bool.eq_false_iff.mpr hc)
    split
    · rename_i r h
      obtain ⟨u, hu, e⟩ := List.exists_of_findSome?_eq_some h
      obtain ⟨t, e1, e2, e3⟩ := num_fr hB hc (zm hu)
      have e1' : frI ((mapIf (fun (x : Int × Int) => decide (x.1 ≥ u.2)) (fun (x : Int × Int) => x.1) b ++ mapIf (fun (x : Int × Int) => decide (x.2 ≤ u.1)) (fun (x : Int × Int) => x.2) b)).sum ((mapIf (fun (x : Int × Int) => decide (x.1 ≥ u.2)) (fun (x : Int × Int) => x.1) b ++ mapIf (fun (x : Int × Int) => decide (x.2 ≤ u.1)) (fun (x : Int × Int) => x.2) b).length : Int) = fr t := e1
      rw [e1'] at e
      split at e
      · rename_i hcond
        cases e
        refine ⟨t, rfl, ?_⟩
        rw [fr_int, fr_int, less_fr, less_fr, Bool.and_eq_true, Bool.not_eq_true', Bool.not_eq_true'] at hcond
        have b1 := of_decide_eq_false hcond.1
        have b2 := of_decide_eq_false hcond.2
        have := fixed_at hB (zm hu) (t := t) (by grind) (by grind)
        rw [e2] at this
        unfold Cen; grind
      · cases e
    · rename_i h
      exfalso
      obtain ⟨x, y, hm, f1, f2⟩ := cross_marks hB
      have hn := List.findSome?_eq_none_iff.mp h _ (zm' hm)
      obtain ⟨t, e1, e2, e3⟩ := num_fr hB hc hm
      have hxy := cast_le (marks_ok hB hm).1
      rw [fixed_at hB hm (Rat.le_refl) hxy] at f1
      rw [fixed_at hB hm hxy (Rat.le_refl)] at f2
      have tx : (x : Rat) ≤ t := by
        unfold off at f1 e2
        have : 0 ≤ (((fixed b x y).length : Int) : Rat) * (t - x) := by grind
        by_cases q : (x : Rat) ≤ t
        · exact q
        · have := Rat.mul_pos e3 (show 0 < (x : Rat) - t by grind)
          grind
      have ty : t ≤ (y : Rat) := by
        unfold off at f2 e2
        have : 0 ≤ (((fixed b x y).length : Int) : Rat) * (y - t) := by grind
        by_cases q : t ≤ (y : Rat)
        · exact q
        · have := Rat.mul_pos e3 (show 0 < t - (y : Rat) by grind)
          grind
      have e1' : frI ((mapIf (fun (z : Int × Int) => decide (z.1 ≥ (x, y).2)) (fun (z : Int × Int) => z.1) b ++ mapIf (fun (z : Int × Int) => decide (z.2 ≤ (x, y).1)) (fun (z : Int × Int) => z.2) b)).sum ((mapIf (fun (z : Int × Int) => decide (z.1 ≥ (x, y).2)) (fun (z : Int × Int) => z.1) b ++ mapIf (fun (z : Int × Int) => decide (z.2 ≤ (x, y).1)) (fun (z : Int × Int) => z.2) b).length : Int) = fr t := e1
      rw [e1', if_pos] at hn
      · cases hn
      · rw [fr_int, fr_int, less_fr, less_fr, Bool.and_eq_true, Bool.not_eq_true', Bool.not_eq_true']
        exact ⟨decide_eq_false (by show ¬ t < (x : Rat); grind), decide_eq_false (by show ¬ (y : Rat) < t; grind)⟩
section
variable {b : List (Int × Int)}
theorem bne (hB : BOk b) : b ≠ [] := fun e => by have := hB.1; rw [e] at this; simp at this
theorem least_fr (hB : BOk b) : ∃ c : Rat, m_centre_of b = fr c ∧ Cen (bR b) c ∧ m_least_squares b = fr (sq (clps (bR b) c)) := by
  obtain ⟨c, e, hc⟩ := cen_fr hB
  refine ⟨c, e, hc, ?_⟩
  unfold m_least_squares
  rw [e, clip_fr, sam_fr _ (clps_ne (bne hB) c)]
theorem sq_cen (hB : BOk b) {c : Rat} (hc : Cen (bR b) c) (t : Rat) : sq (clps (bR b) c) ≤ sq (clps (bR b) t) :=
  sq_le (ln_clps _ _ _) (clps_ne (bne hB) t) (cen_least hc (bR_ord (ord_of hB)) (fun p => clp p.1 p.2 t) fun p hp => clp_in t (bR_ord (ord_of hB) p hp))
theorem cen_row {c : Rat} : ∀ (z : List ((Rat × Rat) × Rat)), Cen (z.map (·.1)) c → (∀ q ∈ z, q.1.1 ≤ q.1.2 ∧ q.1.1 ≤ q.2 ∧ q.2 ≤ q.1.2) → vr (clps (z.map (·.1)) c) ≤ vr (z.map (·.2)) := fun z hc hz => by
  have h := vr_key (z.map fun q => (q.2, clp q.1.1 q.1.2 c)) (fun r hr => by
    obtain ⟨q, hq, rfl⟩ := List.mem_map.mp hr
    rw [List.map_map]
    have e : (z.map ((fun x : Rat × Rat => x.2) ∘ fun q => (q.2, clp q.1.1 q.1.2 c))) = clps (z.map (·.1)) c := by unfold clps; rw [List.map_map]; rfl
    rw [e, hc]
    have hn := ln_nn (clps (z.map (·.1)) c)
    have h1 := hz q hq
    show 0 ≤ (q.2 - clp q.1.1 q.1.2 c) * (ln (clps (z.map (·.1)) c) * clp q.1.1 q.1.2 c - ln (clps (z.map (·.1)) c) * c)
    have : 0 ≤ (q.2 - clp q.1.1 q.1.2 c) * (clp q.1.1 q.1.2 c - c) := by
      refine mul_nn_of ?_
      unfold clp; grind
    have := Rat.mul_nonneg hn this
    grind)
  rw [List.map_map, List.map_map] at h
  have e : clps (z.map (·.1)) c = z.map ((fun x : Rat × Rat => x.2) ∘ fun q => (q.2, clp q.1.1 q.1.2 c)) := by unfold clps; rw [List.map_map]; rfl
  rw [e]; exact h
theorem zip_row : ∀ {b : List (Int × Int)} {r : List Int}, inB b r → (∀ p ∈ b, p.1 ≤ p.2) → ∃ z : List ((Rat × Rat) × Rat), z.map (·.1) = bR b ∧ z.map (·.2) = r.map (fun x : Int => (x : Rat)) ∧ ∀ q ∈ z, q.1.1 ≤ q.1.2 ∧ q.1.1 ≤ q.2 ∧ q.2 ≤ q.1.2
  | [], [], _, _ => ⟨[], rfl, rfl, fun _ h => by cases h⟩
  | p :: b, x :: r, h, hb => by
    obtain ⟨z, z1, z2, z3⟩ := zip_row h.2 fun q hq => hb q (List.mem_cons_of_mem _ hq)
    refine ⟨(((p.1 : Rat), (p.2 : Rat)), (x : Rat)) :: z, by rw [List.map_cons, z1]; rfl, by rw [List.map_cons, z2]; rfl, fun q hq => ?_⟩
    rcases List.mem_cons.mp hq with e | hq
    · subst e
      exact ⟨cast_le (hb p (List.mem_cons_self ..)), cast_le h.1.1, cast_le h.1.2⟩
    · exact z3 q hq
  | [], _ :: _, h, _ => h.elim
  | _ :: _, [], h, _ => h.elim
end
/-! ### the least squares: no choice on a fine grid has less, none more than the best -/
/-- no choice has more squares -/
def BestP (b : List (Int × Int)) (p : Int × Int) : Prop := Sz 1900 p ∧ ∃ B : Rat, p = fr B ∧ ∀ z : List ((Rat × Rat) × Rat), z.map (·.1) = bR b → (∀ q ∈ z, q.1.1 ≤ q.2 ∧ q.2 ≤ q.1.2) → sq (z.map (·.2)) ≤ B
theorem near_map (b : List (Int × Int)) (p : Int × Int) {s : List (Int × Int)} (h : s = List.foldl (fun s t => s ++ [if m__law_below p (t.1, 1) = true then (t.1, 1) else if m__law_below (t.2, 1) p = true then (t.2, 1) else p]) [] b) : s = m_clipped b p := by
  rw [clipped_map, h]; exact fold_app1 (clpF p) b []
section
variable {b : List (Int × Int)}
abbrev Row12 (b row : List (Int × Int)) : Prop := Paired (fun x z : Int × Int => x.1 * 12 ≤ z.1 ∧ z.1 ≤ x.2 * 12 ∧ z.2 = 12) b row
theorem row12_z : ∀ {b row : List (Int × Int)}, Row12 b row → (∀ p ∈ b, p.1 ≤ p.2) → ∃ z : List ((Rat × Rat) × Rat), z.map (·.1) = bR b ∧ (z.map (·.2)).map fr = row.map (fun x => frI x.1 x.2) ∧ ∀ q ∈ z, q.1.1 ≤ q.1.2 ∧ q.1.1 ≤ q.2 ∧ q.2 ≤ q.1.2
  | _, _, .nil, _ => ⟨[], rfl, rfl, fun _ h => absurd h List.not_mem_nil⟩
  | p :: b, z :: row, .cons h r, hb => by
    obtain ⟨l, l1, l2, l3⟩ := row12_z r fun q hq => hb q (List.mem_cons_of_mem _ hq)
    obtain ⟨h1, h2, h3⟩ := h
    refine ⟨(((p.1 : Rat), (p.2 : Rat)), (z.1 : Rat) / (z.2 : Rat)) :: l, by rw [List.map_cons, l1]; rfl, by rw [List.map_cons, List.map_cons, List.map_cons, l2, frI_fr (by omega)], fun q hq => ?_⟩
    rcases List.mem_cons.mp hq with e | hq
    · subst e
      rw [h3]
      have a1 := cast_le h1
      have a2 := cast_le h2
      have a3 := cast_le (hb p (List.mem_cons_self ..))
      rw [Rat.intCast_mul] at a1 a2
      have e12 : ((12 : Int) : Rat) = 12 := rfl
      rw [e12] at a1 a2
      show (p.1 : Rat) ≤ (p.2 : Rat) ∧ (p.1 : Rat) ≤ (z.1 : Rat) / ((12 : Int) : Rat) ∧ (z.1 : Rat) / ((12 : Int) : Rat) ≤ (p.2 : Rat)
      rw [e12]
      generalize (z.1 : Rat) = t at *
      generalize (p.1 : Rat) = u at *
      generalize (p.2 : Rat) = v at *
      grind
    · exact l3 q hq
theorem row12_at : ∀ {b row : List (Int × Int)}, Row12 b row → ∀ z ∈ row, z.2 = 12 ∧ ∃ x ∈ b, x.1 * 12 ≤ z.1 ∧ z.1 ≤ x.2 * 12
  | _, _, .nil, _, h => by cases h
  | p :: b, y :: row, .cons h r, z, hz => by
    rcases List.mem_cons.mp hz with e | hz
    · subst e; exact ⟨h.2.2, p, List.mem_cons_self .., h.1, h.2.1⟩
    · obtain ⟨h1, x, hx, h2⟩ := row12_at r z hz
      exact ⟨h1, x, List.mem_cons_of_mem _ hx, h2⟩
theorem row12_low {row : List (Int × Int)} (h : Row12 b row) {z : Int × Int} (hz : z ∈ row) : 0 < z.2 ∧ z.2.natAbs < 2 ^ 4000 := by
  have := (row12_at h z hz).1
  exact small_pre (by omega) (by omega)
theorem row12_sz (hB : BOk b) {row : List (Int × Int)} (h : Row12 b row) : (row.map fun x => frI x.1 x.2) ≠ [] ∧ (row.map fun x => frI x.1 x.2).length ≤ 8 ∧ ∀ p ∈ row.map (fun x => frI x.1 x.2), Sz 10 p := by
  have hl := paired_len h
  have h1 := hB.1; have h2 := hB.2.1
  refine ⟨fun e => ?_, by rw [List.length_map]; omega, fun p hp => ?_⟩
  · have := congrArg List.length e; rw [List.length_map, List.length_nil] at this; omega
  · obtain ⟨z, hz, rfl⟩ := List.mem_map.mp hp
    obtain ⟨e, x, hx, a1, a2⟩ := row12_at h z hz
    have := hB.2.2 x hx
    exact frI_sz (by omega) (by omega) (by omega)
theorem clips_size (hB : BOk b) : (m_clipped b (m_centre b)).length = b.length := by rw [clipped_map, List.length_map]
/-- its mean is the centre -/
theorem cen_mean (hB : BOk b) {w s : Int × Int} {n : Nat} (hn : n = b.length) (h : s = List.foldl (fun s x => pls s x) (0, 1) (m_clipped b (m_centre b))) : frI s.1 (s.2 * (n : Int)) = m_centre b := by
  obtain ⟨c, e, hc, _⟩ := least_fr hB
  have e' : m_centre b = fr c := e
  have hb : 0 < (n : Int) := by have := hB.1; omega
  rw [e', clip_fr, show ((0 : Int), (1 : Int)) = fr 0 from rfl, fr_tot] at h
  rw [h, e', frI_fr (Int.mul_pos (fr_den _) hb)]
  congr 1
  have hv := fr_val (0 + s1 (clps (bR b) c))
  unfold Cen at hc
  rw [ln_len] at hc
  have hl : (clps (bR b) c).length = n := by unfold clps bR; rw [List.length_map, List.length_map, hn]
  rw [hl] at hc
  have p1 := cast_pos (fr_den (0 + s1 (clps (bR b) c)))
  have p2 := cast_pos hb
  rw [Rat.intCast_mul]
  rw [hc] at hv p1 ⊢
  generalize ((fr (0 + ((n : Int) : Rat) * c)).1 : Rat) = u at *
  generalize ((fr (0 + ((n : Int) : Rat) * c)).2 : Rat) = v at *
  generalize ((n : Int) : Rat) = m at *
  grind
theorem sum_sz (hB : BOk b) {s : Int × Int} {n : Nat} (hn : n = b.length) (h : s = List.foldl (fun s x => pls s x) (0, 1) (m_clipped b (m_centre b))) : 0 < s.2 * (n : Int) ∧ (s.2 * (n : Int)).natAbs < 2 ^ 4000 := by
  have hc := clip_sz hB (cen_sz hB)
  have hs : Sz 89 s := by rw [h]; exact ltot_sz hc.2.1 hc.2.2
  have h1 := hB.1; have h2 := hB.2.1
  have hb : 0 < (n : Int) := by omega
  refine ⟨Int.mul_pos hs.1 hb, Nat.lt_of_lt_of_le (mul_sz hs.2.1 (show ((n : Int)).natAbs < 2 ^ 8 by omega)) (pow_le2 (by decide))⟩
theorem k04_1 (hB : BOk b) {s : Int × Int} {r : List (Int × Int)} {n : Nat} (hn : n = b.length) (hr : r = m_clipped b (m_centre b)) (h : s = List.foldl (fun s x => pls s x) (0, 1) r) : (!decide (m_nearest_choice b = r) || !decide (frI s.1 (s.2 * (n : Int)) = m_centre b)) = false := by
  subst hr
  rw [cen_mean (w := (0, 0)) hB hn h, decide_eq_true rfl, show m_nearest_choice b = m_clipped b (m_centre b) from rfl, decide_eq_true rfl]; rfl
/-! nothing about the mean: all are equal -/
theorem sqd_eq (x : Rat) : ∀ l : List Rat, ln l * (x * x) - 2 * x * s1 l + s2 l = 0 → ∀ y ∈ l, y = x
  | [], _, _, h => by cases h
  | y :: l, e, z, hz => by
    have h1 := sqd_nn x l
    have h2 := sq_nn (x - y)
    have e : (ln l + 1) * (x * x) - 2 * x * (y + s1 l) + (y * y + s2 l) = 0 := e
    have e1 : ln l * (x * x) - 2 * x * s1 l + s2 l = 0 := by grind
    rcases List.mem_cons.mp hz with q | hz
    · have e2 : (x - y) * (x - y) = 0 := by grind
      rcases Rat.mul_eq_zero.mp e2 with e3 | e3 <;> (subst q; grind)
    · exact sqd_eq x l e1 z hz
theorem vr_zero : ∀ l : List Rat, vr l = 0 → ∀ x ∈ l, ∀ y ∈ l, x = y
  | [], _, _, h, _, _ => by cases h
  | z :: l, e, x, hx, y, hy => by
    have h1 := sqd_nn z l
    have h2 := vr_nn l
    have e' : vr (z :: l) = vr l + (ln l * (z * z) - 2 * z * s1 l + s2 l) := by unfold vr; rw [s1c, s2c, lnc]; grind
    have e1 : vr l = 0 := by grind
    have e2 : ln l * (z * z) - 2 * z * s1 l + s2 l = 0 := by grind
    have hz := sqd_eq z l e2
    rcases List.mem_cons.mp hx with p | p <;> rcases List.mem_cons.mp hy with q | q
    · rw [p, q]
    · rw [p, hz y q]
    · rw [q, hz x p]
    · rw [hz x p, hz y q]
theorem vr_same (t : Rat) : ∀ l : List Rat, (∀ x ∈ l, x = t) → s1 l = ln l * t ∧ s2 l = ln l * (t * t)
  | [], _ => by refine ⟨?_, ?_⟩ <;> (show (0 : Rat) = 0 * _; grind)
  | x :: l, h => by
    obtain ⟨h1, h2⟩ := vr_same t l fun y hy => h y (List.mem_cons_of_mem _ hy)
    have := h x (List.mem_cons_self ..)
    rw [s1c, s2c, lnc]; subst this
    constructor <;> grind
theorem sq_zero {l : List Rat} (h : l ≠ []) : sq l = 0 ↔ vr l = 0 := by
  have hp := ln_pos h
  unfold sq
  constructor
  · intro e
    have : vr l / ln l * ln l = vr l := by
      generalize ln l = n at *; grind
    rw [e] at this; grind
  · intro e; rw [e]; grind
theorem lows_mem {x : Int} (hb : b ≠ []) : ∃ p ∈ b, p.1 = mxl (m_lows b) := List.mem_map.mp (mxl_mem (by simpa using hb))
theorem highs_mem (hb : b ≠ []) : ∃ p ∈ b, p.2 = mnl (m_highs b) := List.mem_map.mp (mnl_mem (by simpa using hb))
theorem clps_mem (t : Rat) {p : Int × Int} (h : p ∈ b) : clp (p.1 : Rat) (p.2 : Rat) t ∈ clps (bR b) t := by
  unfold clps bR
  rw [List.map_map]
  exact List.mem_map.mpr ⟨p, h, rfl⟩
theorem least_zero (hB : BOk b) {c : Rat} (hcen : m_centre_of b = fr c) : sq (clps (bR b) c) = 0 ↔ mxl (m_lows b) ≤ mnl (m_highs b) := by
  rw [sq_zero (clps_ne (bne hB) c)]
  constructor
  · intro e
    obtain ⟨p, hp, e1⟩ := lows_mem (x := 0) (bne hB)
    obtain ⟨q, hq, e2⟩ := highs_mem (bne hB)
    have := vr_zero _ e _ (clps_mem c hp) _ (clps_mem c hq)
    have a := (clp_in c (cast_le (ord_of hB p hp))).1
    have d := (clp_in c (cast_le (ord_of hB q hq))).2
    rw [← e1, ← e2]
    exact Rat.intCast_le_intCast.mp (by grind)
  · intro h
    have hc : c = (mxl (m_lows b) : Rat) := by
      refine fr_inj (hcen.symm.trans ?_)
      unfold m_centre_of
      rw [if_pos (decide_eq_true h)]; rfl
    have hall : ∀ x ∈ clps (bR b) c, x = c := by
      intro x hx
      unfold clps bR at hx
      rw [List.map_map] at hx
      obtain ⟨p, hp, rfl⟩ := List.mem_map.mp hx
      have h1 : p.1 ≤ mxl (m_lows b) := mxl_le (List.mem_map.mpr ⟨p, hp, rfl⟩)
      have h2 : mnl (m_highs b) ≤ p.2 := mnl_le (List.mem_map.mpr ⟨p, hp, rfl⟩)
      have a1 := cast_le h1
      have a2 := cast_le (Int.le_trans h h2)
      show clp (p.1 : Rat) (p.2 : Rat) c = c
      rw [← hc] at a1 a2
      unfold clp; grind
    obtain ⟨q1, q2⟩ := vr_same c _ hall
    unfold vr
    rw [q1, q2]; grind
theorem k04_2 (hB : BOk b) {r : List (Int × Int)} (hr : r = m_clipped b (m_centre b)) :
    (!decide (m_least_squares b = m__law_squares r) || (!decide (decide (m_least_squares b = (0, 1)) = decide (mxl (m_lows b) ≤ mnl (m_highs b))) || decide (mxl (m_lows b) ≤ mnl (m_highs b)) && !decide (m_centre b = (mxl (m_lows b), 1)))) = false := by
  obtain ⟨c, e, hc, e2⟩ := least_fr hB
  have e' : m_centre b = fr c := e
  have h1 : m__law_squares r = m_least_squares b := by rw [hr, e', clip_fr, lsq_fr _ (clps_ne (bne hB) c), e2]
  have h2 : decide (m_least_squares b = (0, 1)) = decide (mxl (m_lows b) ≤ mnl (m_highs b)) := by
    refine decide_eq_decide.mpr ?_
    rw [← least_zero hB e, e2]
    constructor
    · intro q; exact fr_inj (q.trans (show ((0 : Int), (1 : Int)) = fr 0 from rfl))
    · intro q; rw [q]; rfl
  rw [h1, h2, decide_eq_true rfl, decide_eq_true rfl]
  by_cases h : mxl (m_lows b) ≤ mnl (m_highs b)
  · have e3 : m_centre b = (mxl (m_lows b), 1) := by
      show m_centre_of b = _
      unfold m_centre_of
      rw [if_pos (decide_eq_true h)]
    rw [e3, decide_eq_true rfl, decide_eq_true h]; rfl
  · rw [decide_eq_false h]; rfl
theorem sq_row (hB : BOk b) {row : List (Int × Int)} (h : Row12 b row) {c : Rat} (hc : Cen (bR b) c) : ∃ z : List ((Rat × Rat) × Rat), z.map (·.1) = bR b ∧ (∀ q ∈ z, q.1.1 ≤ q.1.2 ∧ q.1.1 ≤ q.2 ∧ q.2 ≤ q.1.2) ∧ m__law_squares (row.map fun x => frI x.1 x.2) = fr (sq (z.map (·.2))) ∧ sq (clps (bR b) c) ≤ sq (z.map (·.2)) := by
  obtain ⟨z, z1, z2, z3⟩ := row12_z h (ord_of hB)
  have hne : z.map (·.2) ≠ [] := fun e => (row12_sz hB h).1 (by rw [← z2, e]; rfl)
  refine ⟨z, z1, z3, by rw [← z2, lsq_fr _ hne], ?_⟩
  have := cen_row (c := c) z (by rw [z1]; exact hc) z3
  rw [z1] at this
  refine sq_le ?_ hne this
  rw [← z1]; unfold clps; rw [List.map_map]; exact ln_map _ _ z
theorem k04_3 (hB : BOk b) {p own : Int × Int} (hp : BestP b p) {row : List (Int × Int)} (h : Row12 b row) (ho : own = m__law_squares (row.map fun x => frI x.1 x.2)) : (m__law_below own (m_least_squares b) || m__law_below p own) = false := by
  obtain ⟨c, e, hc, e2⟩ := least_fr hB
  obtain ⟨z, z1, z3, z4, z5⟩ := sq_row hB h hc
  obtain ⟨_, B, eB, hBB⟩ := hp
  have h2 := hBB z z1 fun q hq => (z3 q hq).2
  rw [ho, z4, e2, eB, below_fr, below_fr, decide_eq_false (by grind), decide_eq_false (by grind)]; rfl
end
section
variable {P : Program} {w : World} {K : Fg} {mg : Str → Option Value} {base : Heap}
theorem ok__law_least (T : Txt K mg) : Ok P w K mg base CX0 7 "_law_least" ["_law_draws", "_law_bounds_here", "_law_size", "_law_best"] (st3 K ((fun b n p => BOk b ∧ n = b.length ∧ BestP b p) : (List (Int × Int)) → Nat → (Int × Int) → Prop)) := by
  refine ok_of T.d__law_least sc__law_least (bi4 fun _ _ _ _ _ _ _ _ _ _ => rfl) len_st3 (fun f cdv A outer s H vs Q E hr h => ?_)
  have nd := sc__law_least.nd
  obtain ⟨pd, pn, v1, v2, v3, x1, x2, x3, rfl, dr0, r1, r2, r3, hp, q⟩ := h
  have hpdpn : pd ≠ pn := by obtain ⟨_, _, _, _, _, _, _, h⟩ := dr0; exact h
  refine ⟨_, (pss_cons (ps_set (i := 4) nd rfl (.inl rfl) (pe_fn (ok_centre T) (hr.mono (by decide)) pass0 (pa_cons (pv 1) pa_nil)))
      (pss_cons (ps_set (i := 5) nd rfl (.inl rfl) (pe_lst pa_nil))
      (pss_cons (ps_for PassesOwn.never rfl (k_pl K rfl (pv 1)) (k_gt K rfl 2 rfl (pgs_cons (pg_name (i := 6) nd rfl (.inl rfl) (.inr rfl)) (pgs_cons (pg_name (i := 7) nd rfl (.inl rfl) (.inr rfl)) pgs_nil))) (pss_one (ps_expr (k_app K rfl (pv 5) (pe_ifExp (pt_val (pe_fn (ok__law_below T) (hr.mono (by decide)) pass0 (pa_cons (pv 4) (pa_cons (pe_tup (pa_cons (pv 6) (pa_cons pe_int pa_nil))) pa_nil)))) (pe_tup (pa_cons (pv 6) (pa_cons pe_int pa_nil))) (pe_ifExp (pt_val (pe_fn (ok__law_below T) (hr.mono (by decide)) pass0 (pa_cons (pe_tup (pa_cons (pv 7) (pa_cons pe_int pa_nil))) (pa_cons (pv 4) pa_nil)))) (pe_tup (pa_cons (pv 7) (pa_cons pe_int pa_nil))) (pv 4)))))))
      (pss_frz 5 (pss_cons (ps_set (i := 8) nd rfl (.inl rfl) (pe_tup (pa_cons pe_int (pa_cons pe_int pa_nil))))
      (pss_cons (ps_for PassesOwn.never rfl (k_pl K rfl (pv 5)) (pg_name (i := 9) nd rfl (.inl rfl) (.inr rfl)) (pss_one (ps_set (i := 8) nd rfl (.inl rfl) (pe_fn (ok__law_add T) (hr.mono (by decide)) pass0 (pa_cons (pv 8) (pa_cons (pv 9) pa_nil))))))
      (pss_cons (ps_if (PW.pt (pw_or (pt_cmpR (k_neD K rfl hr.units) (pe_frz (pe_fn (ok_nearest_choice T) (hr.mono (by decide)) pass0 (pa_cons (pv 1) pa_nil))) (pv 5) (nomark _)) (pw_or1 (pt_cmpR (k_neD K rfl hr.units) (pe_fn (ok__law_low T) (hr.mono (by decide)) pass0 (pa_cons (pe_ix (k_ixt K rfl) (pv 8) pe_int (fun _ _ => rfl)) (pa_cons (pe_op op_mul (pe_ix (k_ixt K rfl) (pv 8) pe_int (fun _ _ => rfl)) (pv 2)) pa_nil))) (pv 4) (nomark _))))) (pss_one (ps_ret pe_bl)) pss_nil)
      (pss_cons (ps_par (i := 6) (j := 7) (by rfl) nd rfl rfl (by decide) rfl rfl (pa_cons (pe_callB (k_max K rfl rfl) (by rfl) T.n_max (by decide +kernel) (pa_cons (pe_frz (pe_lc (own := [("_law_one", 9)]) rfl nd (k_pl K rfl (pv 1)) (blkOk_by (N := N__law_least) (sc := defScope s__law_least) (by decide +kernel)) (fun _ _ _ _ _ => (pg_name (i := 9) nd rfl (.inl rfl) (.inr rfl))) (fun _ _ _ _ _ => pts_nil) (fun _ _ _ _ _ => (pe_ix (k_ixt K rfl) (pv 9) pe_int (fun _ _ => rfl))))) pa_nil)) (pa_cons (pe_callB (k_min K rfl rfl) (by rfl) T.n_min (by decide +kernel) (pa_cons (pe_frz (pe_lc (own := [("_law_one", 9)]) rfl nd (k_pl K rfl (pv 1)) (blkOk_by (N := N__law_least) (sc := defScope s__law_least) (by decide +kernel)) (fun _ _ _ _ _ => (pg_name (i := 9) nd rfl (.inl rfl) (.inr rfl))) (fun _ _ _ _ _ => pts_nil) (fun _ _ _ _ _ => (pe_ix (k_ixt K rfl) (pv 9) pe_int (fun _ _ => rfl))))) pa_nil)) pa_nil)) (by rfl))
      (pss_cons (ps_set (i := 10) nd rfl (.inl rfl) (pe_fn (ok_least_squares T) (hr.mono (by decide)) pass0 (pa_cons (pv 1) pa_nil)))
      (pss_cons (ps_if (PW.pt (pw_or (pt_cmpR (k_neD K rfl hr.units) (pv 10) (pe_fn (ok__law_squares T) (hr.mono (by decide)) pass0 (pa_cons (pv 5) pa_nil)) (nomark _)) (pw_or (pt_cmpR op_ne (pe_cmpR (k_eqD K rfl hr.units) (pv 10) (pe_tup (pa_cons pe_int (pa_cons pe_int pa_nil))) (nomark _)) (pe_cmpR op_le (pv 6) (pv 7) (nomark _)) (nomark _)) (pw_or1 (PW.pt (pw_and (pt_cmpR op_le (pv 6) (pv 7) (nomark _)) (pw_and1 (pt_cmpR (k_neD K rfl hr.units) (pv 4) (pe_tup (pa_cons (pv 6) (pa_cons pe_int pa_nil))) (nomark _))))))))) (pss_one (ps_ret pe_bl)) pss_nil)
      (pss_cons (ps_for PassesOwn.never rfl (pi_range1 (by rfl) T.n_range (pa_cons pe_int pa_nil)) (pg_name (i := 11) nd rfl (.inl rfl) (.inr rfl)) (pss_cons (ps_setLc (i := 12) (own := [("_law_one", 9)]) rfl nd rfl rfl (sw_true rfl rfl rfl (by decide +kernel)) (k_pl K rfl (pv 1)) (blkOk_by (N := N__law_least) (sc := defScope s__law_least) (by decide +kernel)) (fun _ _ _ _ _ => (pg_name (i := 9) nd rfl (.inl rfl) (.inr rfl))) (fun _ _ _ _ _ => pts_nil) (fun _ _ _ _ _ => (pe_tup (pa_cons (pe_op op_add (pe_op op_mul (pe_ix (k_ixt K rfl) (pv 9) pe_int (fun _ _ => rfl)) pe_int) (pe_fn (ok__law_draw T) (hr.mono (by decide)) pass0 (pa_cons (pv 0) (pa_cons (pe_op op_add (pe_op op_mul pe_int (pe_op op_sub (pe_ix (k_ixt K rfl) (pv 9) pe_int (fun _ _ => rfl)) (pe_ix (k_ixt K rfl) (pv 9) pe_int (fun _ _ => rfl)))) pe_int) pa_nil)))) (pa_cons pe_int pa_nil)))))
      (pss_frz 12 (pss_cons (ps_set (i := 13) nd rfl (.inl rfl) (pe_fn (ok__law_squares T) (hr.mono (by decide)) pass0 (pa_cons (pe_frz (pe_lc (own := [("_law_top", 14), ("_law_under", 15)]) rfl nd (k_pl K rfl (pv 12)) (blkOk_by (N := N__law_least) (sc := defScope s__law_least) (by decide +kernel)) (fun _ _ _ _ _ => (k_gt K rfl 2 rfl (pgs_cons (pg_name (i := 14) nd rfl (.inl rfl) (.inr rfl)) (pgs_cons (pg_name (i := 15) nd rfl (.inl rfl) (.inr rfl)) pgs_nil)))) (fun _ _ _ _ _ => pts_nil) (fun _ _ _ _ _ => (pe_fn (ok__law_low T) (hr.mono (by decide)) pass0 (pa_cons (pv 14) (pa_cons (pv 15) pa_nil)))))) pa_nil)))
      (pss_one (ps_if (PW.pt (pw_or (pt_val (pe_fn (ok__law_below T) (hr.mono (by decide)) pass0 (pa_cons (pv 13) (pa_cons (pv 10) pa_nil)))) (pw_or1 (pt_val (pe_fn (ok__law_below T) (hr.mono (by decide)) pass0 (pa_cons (pv 3) (pa_cons (pv 13) pa_nil))))))) (pss_one (ps_ret pe_bl)) pss_nil))))))
      (pss_one (ps_ret pe_bl))))))))))))), ?_⟩
  refine q_set (K := K) (er_call1 (er_var rfl r1) (by exact hp.1)) (fun v931 _ e929 r930 => ?_)
  refine q_setL (K := K) (erl_lst (α := (Int × Int)) ea_nil) (fun p932 _ _ e933 hn934 h935 rl936 => ?_)
  have n938 := Dr.pd_ne (Dr.mono e929 dr0) hn934
  have n939 := Dr.pn_ne (Dr.mono e929 dr0) hn934
  have f940 := Mus.fresh ((Mus.refl _).trans (Mus.of e929)) (nin n938.symm (nin n939.symm nin0)) hn934
  have u937 := Un.of h935 rl936
  -- for (_law_low_here, _law_high) in _law_bounds_here
  refine q_for (K := K) (src_list (er_var rfl (Rp.mono ((SF.of e929).trans (SF.of e933)) r1))) (fun H1 k σ' H' => ∃ (s_l1 : (List (Int × Int))) (y942 : Option V) (y943 : Option V), σ' = [some (.ref pd), some v1, some v2, some v3, some v931, some (.ref p932), y942, y943, none, none, none, none, none, none, none, none] ∧ s_l1 = (List.take k x1).foldl (fun (s_l1 : (List (Int × Int))) (low_here_high : (Int × Int)) => ((s_l1 ++ [(if (m__law_below (m_centre x1) (low_here_high.1, (1 : Int))) = true then (low_here_high.1, (1 : Int)) else (if (m__law_below (low_here_high.2, (1 : Int)) (m_centre x1)) = true then (low_here_high.2, (1 : Int)) else (m_centre x1)))]) : (List (Int × Int)))) ([] : (List (Int × Int))) ∧ Mus [p932] H1 H' ∧ Un K H' p932 s_l1) (fun H1 e => ⟨([] : (List (Int × Int))), _, _, rfl, rfl, Mus.refl _, (Un.mono e u937)⟩) (fun _ _ _ _ h => by obtain ⟨_, _, _, _, _, m, _⟩ := h; exact m.sf) (fun H1 k950 low_here_high σ' H' vlow_here_high _ e947 hx946 hP e948 rlow_here_high => ?_) (fun H1 σ' H' e947 hP => ?_)
  ·
    obtain ⟨s_l1, y942, y943, rfl, hs944, m949, u951⟩ := hP
    obtain ⟨v953, v954, r955, r956, tg957⟩ := tg_pair (k := 6) (m := 7) rlow_here_high
    refine tg957 _ ?_
    have hlow_here_high := List.mem_of_getElem? hx946
    have hturn1 := hs944
    refine q_last ?_
    have r958 := (Rp.mono (((((SF.of e929).trans (SF.of e933)).trans (SF.of e947)).trans m949.sf).trans (SF.of e948)) r1)
    have r959 := (Rp.mono (((((SF.of e929).trans (SF.of e933)).trans (SF.of e947)).trans m949.sf).trans (SF.of e948)) r2)
    have r960 := (Rp.mono (((((SF.of e929).trans (SF.of e933)).trans (SF.of e947)).trans m949.sf).trans (SF.of e948)) r3)
    have r961 := (Rp.mono ((((SF.of e933).trans (SF.of e947)).trans m949.sf).trans (SF.of e948)) r930)
    have dr962 := (Dr.mono e948 (Dr.mus m949 (nin n938 nin0) (nin n939 nin0) (Dr.mono e947 (Dr.mono e933 (Dr.mono e929 dr0)))))
    refine q_app (K := K) rfl (Un.mono e948 u951) (er_if (et_B (er_call2 (er_var rfl r961) (er_pair (er_var rfl r955) er_int) (by first | exact ⟨(cen_sz hp.1).le (by decide), (sz_one (by have := hp.1.2.2 _ hlow_here_high; omega)).le (by decide)⟩ | exact ⟨(sz_one (by have := hp.1.2.2 _ hlow_here_high; omega)).le (by decide), (cen_sz hp.1).le (by decide)⟩ | exact ⟨by rw [hown]; exact (lfold_sz (row12_sz hp.1 (by assumption)) (fun _ h => h) (row12_sz hp.1 (by assumption)).2.1).le (by decide), (sam_sz (clip_sz hp.1 (cen_sz hp.1))).le (by decide)⟩ | exact ⟨hp.2.2.1.le (by decide), by rw [hown]; exact (lfold_sz (row12_sz hp.1 (by assumption)) (fun _ h => h) (row12_sz hp.1 (by assumption)).2.1).le (by decide)⟩))) (fun _ => (er_pair (er_var rfl r955) er_int)) (fun _ => (er_if (et_B (er_call2 (er_pair (er_var rfl r956) er_int) (er_var rfl r961) (by first | exact ⟨(cen_sz hp.1).le (by decide), (sz_one (by have := hp.1.2.2 _ hlow_here_high; omega)).le (by decide)⟩ | exact ⟨(sz_one (by have := hp.1.2.2 _ hlow_here_high; omega)).le (by decide), (cen_sz hp.1).le (by decide)⟩ | exact ⟨by rw [hown]; exact (lfold_sz (row12_sz hp.1 (by assumption)) (fun _ h => h) (row12_sz hp.1 (by assumption)).2.1).le (by decide), (sam_sz (clip_sz hp.1 (cen_sz hp.1))).le (by decide)⟩ | exact ⟨hp.2.2.1.le (by decide), by rw [hown]; exact (lfold_sz (row12_sz hp.1 (by assumption)) (fun _ h => h) (row12_sz hp.1 (by assumption)).2.1).le (by decide)⟩))) (fun _ => (er_pair (er_var rfl r956) er_int)) (fun _ => (er_var rfl r961))))) (by first | omega | (have := hp.1.2.1; omega) | (have := hp.1.2.1; rw [← paired_len (by assumption)]; omega) | (have g1 := fold_growE 1 hturn1 (fun s x _ => by simp); simp only [List.length_take, List.length_nil] at g1; have := hp.1.2.1; omega)) (fun _ m963 u964 => ?_)
    refine s_nx ?_
    exact ⟨(s_l1 ++ [(if (m__law_below (m_centre x1) (low_here_high.1, (1 : Int))) = true then (low_here_high.1, (1 : Int)) else (if (m__law_below (low_here_high.2, (1 : Int)) (m_centre x1)) = true then (low_here_high.2, (1 : Int)) else (m_centre x1)))]), _, _, rfl, (fold_step hx946 hs944), (((Mus.baseS (Mus.refl _) m949 (allC (.inr (.head _)) all0)).trans (Mus.of e948)).trans (Mus.mu m963 (.head _))), u964⟩
  ·
    obtain ⟨s_l1, y942, y943, rfl, hs944, m949, u951⟩ := hP
    replace hs944 := fold_all hs944
    have hfold1 := hs944
    refine q_frz (K := K) rfl u951 (fun _ m965 r966 => ?_)
    have hnear : s_l1 = m_clipped x1 (m_centre x1) := near_map x1 (m_centre x1) hfold1
    have hns : s_l1 ≠ [] ∧ s_l1.length ≤ 8 ∧ ∀ p ∈ s_l1, Sz 10 p := by rw [hnear]; exact clip_sz hp.1 (cen_sz hp.1)
    have hne : x1 ≠ [] := bne hp.1
    have r967 := (Rp.mono (((((SF.of e929).trans (SF.of e933)).trans (SF.of e947)).trans m949.sf).trans m965.sf) r1)
    have r968 := (Rp.mono (((((SF.of e929).trans (SF.of e933)).trans (SF.of e947)).trans m949.sf).trans m965.sf) r2)
    have r969 := (Rp.mono (((((SF.of e929).trans (SF.of e933)).trans (SF.of e947)).trans m949.sf).trans m965.sf) r3)
    have r970 := (Rp.mono ((((SF.of e933).trans (SF.of e947)).trans m949.sf).trans m965.sf) r930)
    have dr971 := (Dr.of_mu m965 n938 n939 (Dr.mus m949 (nin n938 nin0) (nin n939 nin0) (Dr.mono e947 (Dr.mono e933 (Dr.mono e929 dr0)))))
    refine q_set (K := K) (er_pair er_int er_int) (fun v974 _ e972 r973 => ?_)
    -- for _law_one in _law_near
    refine q_for (K := K) (src_list (er_var rfl (Rp.mono (SF.of e972) r966))) (fun H1 k σ' H' => ∃ (s_l2 : (Int × Int)) (w976 : V) (y977 : Option V), σ' = [some (.ref pd), some v1, some v2, some v3, some v931, some (.ref p932), y942, y943, some w976, y977, none, none, none, none, none, none] ∧ s_l2 = (List.take k s_l1).foldl (fun (s_l2 : (Int × Int)) (one : (Int × Int)) => ((pls s_l2 one) : (Int × Int))) ((0 : Int), (1 : Int)) ∧ Mus [] H1 H' ∧ Rp.rep K H' w976 s_l2) (fun H1 e => ⟨((0 : Int), (1 : Int)), _, _, rfl, rfl, Mus.refl _, (Rp.mono (SF.of e) r973)⟩) (fun _ _ _ _ h => by obtain ⟨_, _, _, _, _, m, _⟩ := h; exact m.sf) (fun H1 k984 one σ' H' vone _ e981 hx980 hP e982 rone => ?_) (fun H1 σ' H' e981 hP => ?_)
    ·
      obtain ⟨s_l2, w976, y977, rfl, hs978, m983, r985⟩ := hP
      refine s_gn ?_
      have hone := List.mem_of_getElem? hx980
      have hturn2 := hs978
      refine q_last ?_
      have r987 := (Rp.mono ((((SF.of e972).trans (SF.of e981)).trans m983.sf).trans (SF.of e982)) r967)
      have r988 := (Rp.mono ((((SF.of e972).trans (SF.of e981)).trans m983.sf).trans (SF.of e982)) r968)
      have r989 := (Rp.mono ((((SF.of e972).trans (SF.of e981)).trans m983.sf).trans (SF.of e982)) r969)
      have r990 := (Rp.mono ((((SF.of e972).trans (SF.of e981)).trans m983.sf).trans (SF.of e982)) r970)
      have r991 := (Rp.mono ((((SF.of e972).trans (SF.of e981)).trans m983.sf).trans (SF.of e982)) r966)
      have dr992 := (Dr.mono e982 (Dr.mus m983 nin0 nin0 (Dr.mono e981 (Dr.mono e972 dr971))))
      refine q_set (K := K) (er_call2 (er_var rfl (Rp.mono (SF.of e982) r985)) (er_var rfl rone) (by exact ⟨by rw [hturn2]; exact (ltot_sz (by rw [List.length_take]; have := hns.2.1; omega) (fun x hx => hns.2.2 x (List.mem_of_mem_take hx))).le (by decide), (hns.2.2 _ (by assumption)).le (by decide)⟩)) (fun v995 _ e993 r994 => ?_)
      refine s_nx ?_
      exact ⟨(pls s_l2 one), _, _, rfl, (fold_step hx980 hs978), (((Mus.baseS (Mus.refl _) m983 all0).trans (Mus.of e982)).trans (Mus.of e993)), r994⟩
    ·
      obtain ⟨s_l2, w976, y977, rfl, hs978, m983, r985⟩ := hP
      replace hs978 := fold_all hs978
      have hfold2 := hs978
      -- 1: nearest_choice(_law_bounds_here) != _law_near or _law_low(_law_whole[0], _law_whole[1] * _law_size) != _law_number
      refine q_not (K := K) (et_or (et_test (er_op (er_frz (erl_call1 (er_var rfl (Rp.mono (((SF.of e972).trans (SF.of e981)).trans m983.sf) r967)) (by exact hp.1))) (er_var rfl (Rp.mono (((SF.of e972).trans (SF.of e981)).trans m983.sf) r966)) rr_neT)) (fun hsc => (et_test (er_op (er_call2 (er_op (er_var rfl r985) er_int rr_ixP0) (er_op (er_op (er_var rfl r985) er_int rr_ixP1) (er_up (er_var rfl (Rp.mono (((SF.of e972).trans (SF.of e981)).trans m983.sf) r968))) (rr_mul (by first | exact .inl ⟨by decide, by decide⟩ | exact .inr ⟨by decide, by decide⟩ | exact .inr ⟨by have := hp.1.2.1; have := hp.2.1; omega, by have := hp.1.2.1; have := hp.2.1; omega⟩))) (by first | exact row12_low (by assumption) (by assumption) | exact sum_sz hp.1 hp.2.1 (hnear ▸ hfold2))) (er_var rfl (Rp.mono (((SF.of e972).trans (SF.of e981)).trans m983.sf) r970)) rr_neT)))) (by exact k04_1 hp.1 hp.2.1 hnear hfold2) (fun _ e996 => ?_)
      have r997 := (Rp.mono ((((SF.of e972).trans (SF.of e981)).trans m983.sf).trans (SF.of e996)) r967)
      have r998 := (Rp.mono ((((SF.of e972).trans (SF.of e981)).trans m983.sf).trans (SF.of e996)) r968)
      have r999 := (Rp.mono ((((SF.of e972).trans (SF.of e981)).trans m983.sf).trans (SF.of e996)) r969)
      have r1000 := (Rp.mono ((((SF.of e972).trans (SF.of e981)).trans m983.sf).trans (SF.of e996)) r970)
      have r1001 := (Rp.mono ((((SF.of e972).trans (SF.of e981)).trans m983.sf).trans (SF.of e996)) r966)
      have dr1002 := (Dr.mono e996 (Dr.mus m983 nin0 nin0 (Dr.mono e981 (Dr.mono e972 dr971))))
      refine q_par (K := K) (er_max (er_frz (erl_lm1 (f := fun (x1009 : (Int × Int)) => x1009.1) (src_list (er_var rfl r997)) (by first | omega | (have := hp.1.2.1; omega) | (have := hp.1.2.1; rw [← paired_len (by assumption)]; omega) | (have g1 := fold_growE 1 hturn1 (fun s x _ => by simp); simp only [List.length_take, List.length_nil] at g1; have := hp.1.2.1; omega)) (by intros; rfl) (fun x1009 hx1010 v1011 _ e1008 r1012 => (er_op (er_var rfl r1012) er_int rr_ixP0)))) (by first | exact ne_lows hp.1 | exact ne_highs hp.1)) (er_min (er_frz (erl_lm1 (f := fun (x1014 : (Int × Int)) => x1014.2) (src_list (er_var rfl r997)) (by first | omega | (have := hp.1.2.1; omega) | (have := hp.1.2.1; rw [← paired_len (by assumption)]; omega) | (have g1 := fold_growE 1 hturn1 (fun s x _ => by simp); simp only [List.length_take, List.length_nil] at g1; have := hp.1.2.1; omega)) (by intros; rfl) (fun x1014 hx1015 v1016 _ e1013 r1017 => (er_op (er_var rfl r1017) er_int rr_ixP1)))) (by first | exact ne_lows hp.1 | exact ne_highs hp.1)) (fun v1006 v1007 _ e1003 r1004 r1005 => ?_)
      refine q_set (K := K) (er_call1 (er_var rfl (Rp.mono (SF.of e1003) r997)) (by exact hp.1)) (fun v1020 _ e1018 r1019 => ?_)
      -- 2: _law_least_here != _law_squares(_law_near) or (_law_least_here == (0, 1)) != (_law_low_here <= _law_high) or (_law_low_here <= _law_high and
      refine q_not (K := K) (et_or (et_test (er_op (er_var rfl r1019) (er_call1 (er_var rfl (Rp.mono ((SF.of e1003).trans (SF.of e1018)) r1001)) (by first | exact hns | exact row12_sz hp.1 hrow_y3 | exact row12_sz hp.1 (by assumption))) rr_neT)) (fun hsc => (et_or (et_test (er_op (er_op (er_var rfl r1019) (er_pair er_int er_int) rr_eqT) (er_op (er_var rfl (Rp.mono (SF.of e1018) r1004)) (er_var rfl (Rp.mono (SF.of e1018) r1005)) rr_le) rr_neB)) (fun hsc => (et_and (et_test (er_op (er_var rfl (Rp.mono (SF.of e1018) r1004)) (er_var rfl (Rp.mono (SF.of e1018) r1005)) rr_le)) (fun hsc => (et_test (er_op (er_var rfl (Rp.mono ((SF.of e1003).trans (SF.of e1018)) r1000)) (er_pair (er_var rfl (Rp.mono (SF.of e1018) r1004)) er_int) rr_neT)))))))) (by exact k04_2 hp.1 hnear) (fun _ e1021 => ?_)
      have r1022 := (Rp.mono ((((SF.of e996).trans (SF.of e1003)).trans (SF.of e1018)).trans (SF.of e1021)) r985)
      -- for _law_turn in range(6)
      refine q_for (K := K) (src_range1 (er_c (x := (6 : Nat)) fun _ => rfl) (by first | omega | (have := hp.1.2.1; omega) | (have := hp.1.2.1; rw [← paired_len (by assumption)]; omega) | (have g1 := fold_growE 1 hturn1 (fun s x _ => by simp); simp only [List.length_take, List.length_nil] at g1; have := hp.1.2.1; omega))) (fun H1 k σ' H' => ∃ (y1024 : Option V) (y1025 : Option V) (y1026 : Option V), σ' = [some (.ref pd), some v1, some v2, some v3, some v931, some (.ref p932), some v1006, some v1007, some w976, y977, some v1020, y1024, y1025, y1026, none, none] ∧ Mus [pd, pn] H1 H' ∧ Dr H' pd pn) (fun H1 e => ⟨_, _, _, rfl, Mus.refl _, (Dr.mono e (Dr.mono e1021 (Dr.mono e1018 (Dr.mono e1003 dr1002))))⟩) (fun _ _ _ _ h => by obtain ⟨_, _, _, _, m, _⟩ := h; exact m.sf) (fun H1 k1033 turn σ' H' vturn _ e1030 hx1029 hP e1031 rturn => ?_) (fun H1 σ' H' e1030 hP => ?_)
      ·
        obtain ⟨y1024, y1025, y1026, rfl, m1032, dr1034⟩ := hP
        refine s_gn ?_
        have hturn := List.mem_of_getElem? hx1029
        have r1035 := (Rp.mono ((((((SF.of e1003).trans (SF.of e1018)).trans (SF.of e1021)).trans (SF.of e1030)).trans m1032.sf).trans (SF.of e1031)) r997)
        have r1036 := (Rp.mono ((((((SF.of e1003).trans (SF.of e1018)).trans (SF.of e1021)).trans (SF.of e1030)).trans m1032.sf).trans (SF.of e1031)) r998)
        have r1037 := (Rp.mono ((((((SF.of e1003).trans (SF.of e1018)).trans (SF.of e1021)).trans (SF.of e1030)).trans m1032.sf).trans (SF.of e1031)) r999)
        have r1038 := (Rp.mono ((((((SF.of e1003).trans (SF.of e1018)).trans (SF.of e1021)).trans (SF.of e1030)).trans m1032.sf).trans (SF.of e1031)) r1000)
        have r1039 := (Rp.mono ((((((SF.of e1003).trans (SF.of e1018)).trans (SF.of e1021)).trans (SF.of e1030)).trans m1032.sf).trans (SF.of e1031)) r1001)
        have r1040 := (Rp.mono (((((SF.of e1018).trans (SF.of e1021)).trans (SF.of e1030)).trans m1032.sf).trans (SF.of e1031)) r1004)
        have r1041 := (Rp.mono (((((SF.of e1018).trans (SF.of e1021)).trans (SF.of e1030)).trans m1032.sf).trans (SF.of e1031)) r1005)
        have r1042 := (Rp.mono ((((SF.of e1021).trans (SF.of e1030)).trans m1032.sf).trans (SF.of e1031)) r1019)
        refine q_setLP (K := K) (Dr.mono e1031 dr1034) (epl_lm1 (P := fun (x1045 : (Int × Int)) (z_ : (Int × Int)) => x1045.1 * 12 ≤ z_.1 ∧ z_.1 ≤ x1045.2 * 12 ∧ z_.2 = 12) (fun _ m1043 => (src_list (er_var rfl (Rp.mono m1043.sf r1035)))) (by first | omega | (have := hp.1.2.1; omega) | (have := hp.1.2.1; rw [← paired_len (by assumption)]; omega) | (have g1 := fold_growE 1 hturn1 (fun s x _ => by simp); simp only [List.length_take, List.length_nil] at g1; have := hp.1.2.1; omega)) (by intros; rfl) (fun x1045 hx1048 v1046 _ m1044 r1047 => (Ep.imp (ep_pair (ep_op (ep_of (fun _ m1049 => (er_op (er_op (er_var rfl (Rp.mono m1049.sf r1047)) er_int rr_ixP0) er_int (rr_mul (by first | exact .inl ⟨by decide, by decide⟩ | exact .inr ⟨by decide, by decide⟩ | exact .inr ⟨by have := hp.1.2.1; have := hp.2.1; omega, by have := hp.1.2.1; have := hp.2.1; omega⟩))))) (fun _ _ => (ep_draw (fun _ m1050 => (er_op (er_op er_int (er_op (er_op (er_var rfl (Rp.mono m1050.sf r1047)) er_int rr_ixP1) (er_op (er_var rfl (Rp.mono m1050.sf r1047)) er_int rr_ixP0) rr_sub) (rr_mul (by first | exact .inl ⟨by decide, by decide⟩ | exact .inr ⟨by decide, by decide⟩ | exact .inr ⟨by have := hp.1.2.1; have := hp.2.1; omega, by have := hp.1.2.1; have := hp.2.1; omega⟩))) er_int rr_add)) (sub_dr rfl) (by have := hp.1.2.2 _ (by assumption); omega) (by have := hp.1.2.2 _ (by assumption); omega))) (fun _ _ _ _ => rr_add)) (fun _ _ => (ep_of (fun _ m1051 => er_int)))) (fun z_ hz_ => (by obtain ⟨⟨_, d, rfl, hd, h1⟩, h2⟩ := hz_; exact ⟨by omega, by omega, h2⟩))))) (fun v1053 _ row_y3 m1055 dr1056 hrow_y3 r1054 => ?_)
        have r1058 := (Rp.mono ((((SF.of e1030).trans m1032.sf).trans (SF.of e1031)).trans m1055.sf) r1022)
        refine q_set (K := K) (er_call1 (er_frz (erl_lm2 (f := fun (x1060 : (Int × Int)) => (frI x1060.1 x1060.2)) (src_list (er_var rfl r1054)) (by first | omega | (have := hp.1.2.1; omega) | (have := hp.1.2.1; rw [← paired_len (by assumption)]; omega) | (have g1 := fold_growE 1 hturn1 (fun s x _ => by simp); simp only [List.length_take, List.length_nil] at g1; have := hp.1.2.1; omega)) (by intros; rfl) (fun x1060 hx1061 v1062 v1063 _ e1059 r1064 r1065 => (er_call2 (er_var rfl r1064) (er_var rfl r1065) (by first | exact row12_low (by assumption) (by assumption) | exact sum_sz hp.1 hp.2.1 (hnear ▸ hfold2)))))) (by first | exact hns | exact row12_sz hp.1 hrow_y3 | exact row12_sz hp.1 (by assumption))) (fun v1068 _ e1066 r1067 => ?_)
        obtain ⟨own_1069, hown_1069⟩ : ∃ z, z = (m__law_squares (row_y3.map (fun (x1060 : (Int × Int)) => (frI x1060.1 x1060.2)))) := ⟨_, rfl⟩
        replace r1067 := Rp.cong r1067 hown_1069
        have hown := hown_1069
        refine q_last ?_
        -- 3: _law_below(_law_own, _law_least_here) or _law_below(_law_best, _law_own)
        refine q_not (K := K) (et_or (et_B (er_call2 (er_var rfl r1067) (er_var rfl (Rp.mono (m1055.sf.trans (SF.of e1066)) r1042)) (by first | exact ⟨(cen_sz hp.1).le (by decide), (sz_one (by have := hp.1.2.2 _ hlow_here_high; omega)).le (by decide)⟩ | exact ⟨(sz_one (by have := hp.1.2.2 _ hlow_here_high; omega)).le (by decide), (cen_sz hp.1).le (by decide)⟩ | exact ⟨by rw [hown]; exact (lfold_sz (row12_sz hp.1 (by assumption)) (fun _ h => h) (row12_sz hp.1 (by assumption)).2.1).le (by decide), (sam_sz (clip_sz hp.1 (cen_sz hp.1))).le (by decide)⟩ | exact ⟨hp.2.2.1.le (by decide), by rw [hown]; exact (lfold_sz (row12_sz hp.1 (by assumption)) (fun _ h => h) (row12_sz hp.1 (by assumption)).2.1).le (by decide)⟩))) (fun hsc => (et_B (er_call2 (er_var rfl (Rp.mono (m1055.sf.trans (SF.of e1066)) r1037)) (er_var rfl r1067) (by first | exact ⟨(cen_sz hp.1).le (by decide), (sz_one (by have := hp.1.2.2 _ hlow_here_high; omega)).le (by decide)⟩ | exact ⟨(sz_one (by have := hp.1.2.2 _ hlow_here_high; omega)).le (by decide), (cen_sz hp.1).le (by decide)⟩ | exact ⟨by rw [hown]; exact (lfold_sz (row12_sz hp.1 (by assumption)) (fun _ h => h) (row12_sz hp.1 (by assumption)).2.1).le (by decide), (sam_sz (clip_sz hp.1 (cen_sz hp.1))).le (by decide)⟩ | exact ⟨hp.2.2.1.le (by decide), by rw [hown]; exact (lfold_sz (row12_sz hp.1 (by assumption)) (fun _ h => h) (row12_sz hp.1 (by assumption)).2.1).le (by decide)⟩))))) (by exact k04_3 hp.1 hp.2.2 (by assumption) hown) (fun _ e1070 => ?_)
        refine s_nx ?_
        exact ⟨_, _, _, rfl, (((((Mus.baseS (Mus.refl _) m1032 (allC (.inr (.head _)) (allC (.inr (.tail _ (.head _))) all0))).trans (Mus.of e1031)).trans (Mus.dm m1055 (.head _) (.tail _ (.head _)))).trans (Mus.of e1066)).trans (Mus.of e1070)), (Dr.mono e1070 (Dr.mono e1066 dr1056))⟩
      ·
        obtain ⟨y1024, y1025, y1026, rfl, m1032, dr1034⟩ := hP
        have r1071 := (Rp.mono (((((SF.of e1003).trans (SF.of e1018)).trans (SF.of e1021)).trans (SF.of e1030)).trans m1032.sf) r997)
        have r1072 := (Rp.mono (((((SF.of e1003).trans (SF.of e1018)).trans (SF.of e1021)).trans (SF.of e1030)).trans m1032.sf) r998)
        have r1073 := (Rp.mono (((((SF.of e1003).trans (SF.of e1018)).trans (SF.of e1021)).trans (SF.of e1030)).trans m1032.sf) r999)
        have r1074 := (Rp.mono (((((SF.of e1003).trans (SF.of e1018)).trans (SF.of e1021)).trans (SF.of e1030)).trans m1032.sf) r1000)
        have r1075 := (Rp.mono (((((SF.of e1003).trans (SF.of e1018)).trans (SF.of e1021)).trans (SF.of e1030)).trans m1032.sf) r1001)
        have r1076 := (Rp.mono ((((SF.of e1018).trans (SF.of e1021)).trans (SF.of e1030)).trans m1032.sf) r1004)
        have r1077 := (Rp.mono ((((SF.of e1018).trans (SF.of e1021)).trans (SF.of e1030)).trans m1032.sf) r1005)
        -- end: True
        refine s_trueD (K := K) er_bl (by rfl) (fun _ e1078 => ?_)
        exact q _ (Mus.to_dm ((Mus.baseS ((((((Mus.baseS (((Mus.mut (Mus.baseS ((((Mus.refl _).trans (Mus.of e929)).trans (Mus.of e933)).trans (Mus.of e947)) m949 (allC (.inl f940) all0)) f940 m965).trans (Mus.of e972)).trans (Mus.of e981)) m983 all0).trans (Mus.of e996)).trans (Mus.of e1003)).trans (Mus.of e1018)).trans (Mus.of e1021)).trans (Mus.of e1030)) m1032 (allC (.inr (.head _)) (allC (.inr (.tail _ (.head _))) all0))).trans (Mus.of e1078))) (Dr.mono e1078 dr1034)
end
end BL

set_option Elab.async false
set_option linter.all false
set_option maxRecDepth 100000
set_option maxHeartbeats 2000000
namespace BL
open PySem PySem.Spec PyProof.Rows L2
theorem pick_bok {n m : Int} {x y c : List (Int × Int)} (hx : SmallP n x) (hn : n ≤ 7) (hy : BndP m y) (hm : m ≤ 7) (hc : c ∈ [x, y]) : BOk c := by
  rcases List.mem_cons.mp hc with e | e
  · rw [e]; exact small_bok hx hn
  · rw [List.mem_singleton.mp e]; exact bnd_bok hy hm
/-- the law's corners -/
def lstep (s : List (List Int)) (p : Int × Int) : List (List Int) := s.map (fun r => r ++ [p.1]) ++ s.map (fun r => r ++ [p.2])
theorem lcor_len : ∀ {l : List (Int × Int)} {a : List (List Int)}, (l.foldl lstep a).length ≤ a.length * 2 ^ l.length
  | [], a => by simp
  | p :: l, a => by
    rw [List.foldl_cons, List.length_cons, Nat.pow_succ]
    refine Nat.le_trans (lcor_len (l := l)) ?_
    rw [Nat.mul_comm (2 ^ l.length) 2, ← Nat.mul_assoc]
    refine Nat.mul_le_mul_right _ ?_
    unfold lstep
    rw [List.length_append, List.length_map, List.length_map]
    omega
theorem lcor_lenE {l : List (Int × Int)} {a s : List (List Int)} (ha : a = [[]]) (hs : s = l.foldl lstep a) (h : l.length ≤ 7) : s.length ≤ 128 := by
  rw [hs, ha]
  refine Nat.le_trans lcor_len ?_
  have := pow_le2 h
  show 1 * _ ≤ _
  omega
theorem lstep_mem (s : List (List Int)) (p : Int × Int) (r : List Int) (_ : p.1 ≤ p.2) : r ∈ lstep s p ↔ ∃ r0 ∈ s, r = r0 ++ [p.1] ∨ r = r0 ++ [p.2] := by
  unfold lstep
  rw [List.mem_append, List.mem_map, List.mem_map]
  constructor
  · rintro (⟨r0, h, rfl⟩ | ⟨r0, h, rfl⟩)
    · exact ⟨r0, h, .inl rfl⟩
    · exact ⟨r0, h, .inr rfl⟩
  · rintro ⟨r0, h, rfl | rfl⟩
    · exact .inl ⟨r0, h, rfl⟩
    · exact .inr ⟨r0, h, rfl⟩
theorem cstep_mem (s : List (List Int)) (p : Int × Int) (r : List Int) (hp : p.1 ≤ p.2) : r ∈ cstep s p ↔ ∃ r0 ∈ s, r = r0 ++ [p.1] ∨ r = r0 ++ [p.2] := by
  unfold cstep mapIf
  rw [List.mem_append, List.mem_map, List.mem_map]
  constructor
  · rintro (⟨r0, h, rfl⟩ | ⟨r0, h, rfl⟩)
    · exact ⟨r0, h, .inl rfl⟩
    · exact ⟨r0, (List.mem_filter.mp h).1, .inr rfl⟩
  · rintro ⟨r0, h, rfl | rfl⟩
    · exact .inl ⟨r0, h, rfl⟩
    · by_cases c : p.2 > p.1
      · exact .inr ⟨r0, List.mem_filter.mpr ⟨h, decide_eq_true c⟩, rfl⟩
      · exact .inl ⟨r0, h, by rw [show p.1 = p.2 by omega]⟩
theorem lcor_mem {b : List (Int × Int)} (hb : ∀ p ∈ b, p.1 ≤ p.2) {a s : List (List Int)} (ha : a = [[]]) (hs : s = b.foldl lstep a) {r : List Int} : r ∈ s ↔ inC b r := by
  rw [hs, ha, inC_split lstep_mem hb]
  constructor
  · rintro ⟨r0, h, r1, rfl, h1⟩
    rw [List.mem_singleton.mp h]; exact h1
  · intro h; exact ⟨[], List.mem_singleton.mpr rfl, r, rfl, h⟩
theorem cor_mem {b : List (Int × Int)} (hb : ∀ p ∈ b, p.1 ≤ p.2) {r : List Int} : r ∈ m_corner_choices b ↔ inC b r := by
  show r ∈ b.foldl cstep [[]] ↔ _
  rw [inC_split cstep_mem hb]
  constructor
  · rintro ⟨r0, h, r1, rfl, h1⟩
    rw [List.mem_singleton.mp h]; exact h1
  · intro h; exact ⟨[], List.mem_singleton.mpr rfl, r, rfl, h⟩
section
variable {b : List (Int × Int)}
def rI (r : List Int) : List Rat := r.map fun x : Int => (x : Rat)
theorem rI_ne (hB : BOk b) {r : List Int} (h : inB b r) : rI r ≠ [] := fun e => (row_sz hB h).1 (by rw [row_fr, show r.map (fun x : Int => (x : Rat)) = [] from e]; rfl)
theorem lsq_row (hB : BOk b) {r : List Int} (h : inB b r) : m__law_squares (r.map fun x => (x, (1 : Int))) = fr (sq (rI r)) := by
  rw [row_fr]; exact lsq_fr _ (rI_ne hB h)
theorem own_fr (hB : BOk b) {r : List Int} (h : inB b r) : own r = fr (sq (rI r)) := by
  unfold own; rw [row_fr]; exact sam_fr _ (rI_ne hB h)
def lbest (s : Int × Int) (r : List Int) : Int × Int := if m__law_below s (m__law_squares (r.map fun x => (x, (1 : Int)))) = true then m__law_squares (r.map fun x => (x, (1 : Int))) else s
theorem lbest_fr (hB : BOk b) : ∀ {l : List (List Int)} {B : Rat}, (∀ r ∈ l, inB b r) → l.foldl lbest (fr B) = fr (bestR B (l.map fun r => sq (rI r)))
  | [], _, _ => rfl
  | r :: l, B, h => by
    have hr := h r (List.mem_cons_self ..)
    rw [List.foldl_cons, List.map_cons]
    have e : lbest (fr B) r = fr (if B < sq (rI r) then sq (rI r) else B) := by
      unfold lbest
      rw [lsq_row hB hr, below_fr]
      by_cases c : B < sq (rI r)
      · rw [if_pos (decide_eq_true c), if_pos c]
      · rw [if_neg (by rw [decide_eq_false c]; exact Bool.false_ne_true), if_neg c]
    rw [e, lbest_fr hB fun q hq => h q (List.mem_cons_of_mem _ hq)]; rfl
theorem best_sz (hB : BOk b) {l : List (List Int)} {s : Int × Int} (hs : s = l.foldl lbest (0, 1)) (h : ∀ r ∈ l, inB b r) : Sz 1900 s := by
  rw [hs]
  refine fold_inv (P := fun s => Sz 1900 s) (sz_zero.le (by decide)) fun s r hr ih => ?_
  unfold lbest
  split
  · exact lfold_sz (row_sz hB (h r hr)) (fun _ h => h) (row_sz hB (h r hr)).2.1
  · exact ih
/-- the program's greatest is that of all corners -/
def wR (s : Option (List Int) × (Int × Int)) (l : List (List Int)) : Prop := ∃ r ∈ l, s = (some r, own r)
theorem wid_most (hB : BOk b) : ∀ {m : List (List Int)} {s : Option (List Int) × (Int × Int)} {B : Rat}, s.2 = fr B → (∀ r ∈ m, inB b r) → (m.foldl wstep s).2 = fr (bestR B (m.map fun r => sq (rI r)))
  | [], _, _, h, _ => h
  | r :: m, s, B, hs, h => by
    have hr := h r (List.mem_cons_self ..)
    rw [List.foldl_cons, List.map_cons]
    refine (wid_most hB (m := m) (B := if B < sq (rI r) then sq (rI r) else B) ?_ fun q hq => h q (List.mem_cons_of_mem _ hq)).trans rfl
    unfold wstep
    rw [own_fr hB hr, hs, less_fr]
    by_cases c : B < sq (rI r)
    · rw [if_pos (decide_eq_true c), if_pos c]
    · rw [if_neg (by rw [decide_eq_false c]; exact Bool.false_ne_true), if_neg c]
theorem wid_best (hB : BOk b) : inC b (m_widest b) ∧ (∀ r, inC b r → sq (rI r) ≤ sq (rI (m_widest b))) := by
  obtain ⟨r, hr, e⟩ := wid_get hB
  have ew : m_widest b = r := by
    show ((m_corner_choices b).foldl wstep (none, (-1, 1))).1.getD [] = r
    rw [e]; rfl
  have hin : ∀ q ∈ m_corner_choices b, inB b q := cor_inE rfl (ord_of hB)
  have h := wid_most hB (m := m_corner_choices b) (s := (none, (-1, 1))) (B := -1) rfl hin
  rw [e] at h
  have h : own r = _ := h
  rw [own_fr hB (hin r hr)] at h
  have h := fr_inj h
  rw [ew]
  refine ⟨(cor_mem (ord_of hB)).mp hr, fun q hq => ?_⟩
  rw [h]
  exact (bestR_ge _ _).2 _ (List.mem_map.mpr ⟨q, (cor_mem (ord_of hB)).mpr hq, rfl⟩)
/-- the law's best -/
theorem lbest_eq (hB : BOk b) {a s : List (List Int)} (ha : a = [[]]) (hs : s = b.foldl lstep a) {p : Int × Int} (hp : p = s.foldl lbest (0, 1)) : p = fr (sq (rI (m_widest b))) := by
  obtain ⟨h1, h2⟩ := wid_best hB
  have hin : ∀ r ∈ s, inB b r := fun r hr => inC_inB (ord_of hB) ((lcor_mem (ord_of hB) ha hs).mp hr)
  rw [hp, show ((0 : Int), (1 : Int)) = fr 0 from rfl, lbest_fr hB hin]
  congr 1
  have hm : m_widest b ∈ s := (lcor_mem (ord_of hB) ha hs).mpr h1
  refine bestR_eq (fun e => ?_) (fun x hx => ?_) (List.mem_map.mpr ⟨_, hm, rfl⟩) fun x hx => ?_
  · have := List.map_eq_nil_iff.mp e; rw [this] at hm; cases hm
  · obtain ⟨r, _, rfl⟩ := List.mem_map.mp hx
    exact sq_nn' _
  · obtain ⟨r, hr, rfl⟩ := List.mem_map.mp hx
    exact h2 r ((lcor_mem (ord_of hB) ha hs).mp hr)
theorem k04_best (hB : BOk b) {a s : List (List Int)} (ha : a = [[]]) (hs : s = b.foldl lstep a) {p : Int × Int} (hp : p = s.foldl lbest (0, 1)) : BestP b p := by
  have hin : ∀ r ∈ s, inB b r := fun r hr => inC_inB (ord_of hB) ((lcor_mem (ord_of hB) ha hs).mp hr)
  refine ⟨best_sz hB hp hin, _, lbest_eq hB ha hs hp, fun z z1 z2 => ?_⟩
  obtain ⟨c, c1, c2, c3⟩ := cor_most0 z z2
  obtain ⟨r, r1, r2⟩ := cor_int (b := b) (c1.trans z1) c2
  have h := (wid_best hB).2 r r1
  have e : sq (c.map (·.2)) = sq (rI r) := by unfold rI; rw [r2]
  have hl : ln (z.map (·.2)) = ln (c.map (·.2)) := by
    rw [ln_map (·.2) (fun q => q.1.1) z, ln_map (·.2) (fun q => q.1.1) c]
    have e1 : z.map (fun q => q.1.1) = (z.map (·.1)).map (·.1) := by rw [List.map_map]; rfl
    have e2 : c.map (fun q => q.1.1) = (c.map (·.1)).map (·.1) := by rw [List.map_map]; rfl
    rw [e1, e2, c1]
  have hc : c.map (·.2) ≠ [] := by
    rw [← r2]; exact rI_ne hB (inC_inB (ord_of hB) r1)
  have := sq_le hl hc c3
  rw [e] at this
  exact Rat.le_trans this h
theorem k04_a (hB : BOk b) {a s : List (List Int)} (ha : a = [[]]) (hs : s = b.foldl lstep a) {p : Int × Int} (hp : p = s.foldl lbest (0, 1)) : (!decide (m_greatest_squares b = p)) = false := by
  refine dead_eq ?_
  rw [lbest_eq hB ha hs hp]
  exact own_fr hB (inC_inB (ord_of hB) (wid_best hB).1)
theorem k04_b (hB : BOk b) : (!decide (((m_widest_squares_choice b).length : Int) = (b.length : Int)) || !decide (mapIf (fun x : Nat => neg true (decide ((m_widest_squares_choice b).getD x 0 ∈ [(b.getD x (0, 0)).1, (b.getD x (0, 0)).2]))) (fun x => x) (List.range b.length) = [])) = false := by
  have h1 := (wid_best hB).1
  have e : (m_widest_squares_choice b).length = b.length := inB_len (inC_inB (ord_of hB) h1)
  rw [e, decide_eq_true rfl]
  have e2 : mapIf (fun x : Nat => neg true (decide ((m_widest_squares_choice b).getD x 0 ∈ [(b.getD x (0, 0)).1, (b.getD x (0, 0)).2]))) (fun x => x) (List.range b.length) = [] := by
    unfold mapIf
    rw [List.map_eq_nil_iff]
    refine List.filter_eq_nil_iff.mpr fun k hk => ?_
    have := inC_get h1 k (List.mem_range.mp hk)
    have hm : (m_widest b).getD k 0 ∈ [(b.getD k (0, 0)).1, (b.getD k (0, 0)).2] := by simpa using this
    have hm : decide ((m_widest_squares_choice b).getD k 0 ∈ [(b.getD k (0, 0)).1, (b.getD k (0, 0)).2]) = true := decide_eq_true hm
    rw [hm]; exact Bool.false_ne_true
  rw [e2]; rfl
theorem k04_c (hB : BOk b) {a s : List (List Int)} (ha : a = [[]]) (hs : s = b.foldl lstep a) {p : Int × Int} (hp : p = s.foldl lbest (0, 1)) : (!decide (m__law_squares ((m_widest_squares_choice b).map fun x => (x, (1 : Int))) = p)) = false := by
  refine dead_eq ?_
  rw [lbest_eq hB ha hs hp]
  exact lsq_row hB (inC_inB (ord_of hB) (wid_best hB).1)
end
section
variable {P : Program} {w : World} {K : Fg} {mg : Str → Option Value} {base : Heap}
theorem ok_law (T : Txt K mg) {f : Addr} {fd : FuncData} (F : FunD K "law" "law" (defArgs s_law) (defBody s_law) (defScope s_law) [] [] f fd) : FnOk P w K mg base CX0 8 f fd ["_law_script"] (spLaw K) := by
  refine fnok_of F sc_law len_law (fun cdv A outer s H vs Q E hr h => ?_)
  have nd := sc_law.nd
  obtain ⟨a, ns, rfl, hs, hz, q⟩ := h
  refine ⟨_, (pss_cons (ps_set (i := 1) nd rfl (.inl rfl) (pe_fn (ok__law_start T) (hr.mono (by decide)) pass0 (pa_cons (pv 0) pa_nil)))
      (pss_cons (ps_set (i := 2) nd rfl (.inr rfl) (pe_fn (ok__law_pick (α := (List (Int × Int))) T) (hr.mono (by decide)) pass0 (pa_cons (pv 1) (pa_cons (pe_frz (pe_lst (pa_cons (pe_frz (pe_fn (ok__law_small T) (hr.mono (by decide)) pass0 (pa_cons (pv 1) (pa_cons pe_int pa_nil)))) (pa_cons (pe_frz (pe_fn (ok__law_bounds T) (hr.mono (by decide)) pass0 (pa_cons (pv 1) (pa_cons pe_int pa_nil)))) pa_nil)))) pa_nil))))
      (pss_cons (ps_set (i := 3) nd rfl (.inl rfl) (pe_callB (k_len K rfl) (by rfl) T.n_len PySem.boot_len (pa_cons (pv 2) pa_nil)))
      (pss_cons (ps_set (i := 4) nd rfl (.inl rfl) (pe_frz (pe_lst (pa_cons (pe_frz (pe_lst pa_nil)) pa_nil))))
      (pss_cons (ps_for PassesOwn.never rfl (k_pl K rfl (pv 2)) (k_gt K rfl 2 rfl (pgs_cons (pg_name (i := 5) nd rfl (.inr rfl) (.inl rfl)) (pgs_cons (pg_name (i := 6) nd rfl (.inr rfl) (.inl rfl)) pgs_nil))) (pss_one (ps_set (i := 4) nd rfl (.inl rfl) (pe_frz (pe_op op_catR (pe_frz (pe_lc (own := [("_law_row", 7)]) rfl nd (k_pl K rfl (pv 4)) (blkOk_by (N := N_law) (sc := defScope s_law) (by decide +kernel)) (fun _ _ _ _ _ => (pg_name (i := 7) nd rfl (.inl rfl) (.inr rfl))) (fun _ _ _ _ _ => pts_nil) (fun _ _ _ _ _ => (pe_frz (pe_op op_catR (pv 7) (pe_frz (pe_lst (pa_cons (pv 5) pa_nil)))))))) (pe_frz (pe_lc (own := [("_law_row", 7)]) rfl nd (k_pl K rfl (pv 4)) (blkOk_by (N := N_law) (sc := defScope s_law) (by decide +kernel)) (fun _ _ _ _ _ => (pg_name (i := 7) nd rfl (.inl rfl) (.inr rfl))) (fun _ _ _ _ _ => pts_nil) (fun _ _ _ _ _ => (pe_frz (pe_op op_catR (pv 7) (pe_frz (pe_lst (pa_cons (pv 6) pa_nil)))))))))))))
      (pss_cons (ps_set (i := 8) nd rfl (.inl rfl) (pe_tup (pa_cons pe_int (pa_cons pe_int pa_nil))))
      (pss_cons (ps_for PassesOwn.never rfl (k_pl K rfl (pv 4)) (pg_name (i := 7) nd rfl (.inl rfl) (.inr rfl)) (pss_cons (ps_set (i := 9) nd rfl (.inl rfl) (pe_fn (ok__law_squares T) (hr.mono (by decide)) pass0 (pa_cons (pe_frz (pe_lc (own := [("_law_value", 10)]) rfl nd (k_pl K rfl (pv 7)) (blkOk_by (N := N_law) (sc := defScope s_law) (by decide +kernel)) (fun _ _ _ _ _ => (pg_name (i := 10) nd rfl (.inl rfl) (.inr rfl))) (fun _ _ _ _ _ => pts_nil) (fun _ _ _ _ _ => (pe_tup (pa_cons (pv 10) (pa_cons pe_int pa_nil)))))) pa_nil)))
      (pss_one (ps_set (i := 8) nd rfl (.inl rfl) (pe_ifExp (pt_val (pe_fn (ok__law_below T) (hr.mono (by decide)) pass0 (pa_cons (pv 8) (pa_cons (pv 9) pa_nil)))) (pv 9) (pv 8))))))
      (pss_cons (ps_if (pt_cmpR (k_neD K rfl hr.units) (pe_fn (ok_greatest_squares T) (hr.mono (by decide)) pass0 (pa_cons (pv 2) pa_nil)) (pv 8) (nomark _)) (pss_one (ps_ret pe_bl)) pss_nil)
      (pss_cons (ps_set (i := 11) nd rfl (.inr rfl) (pe_fn (ok_widest_squares_choice T) (hr.mono (by decide)) pass0 (pa_cons (pv 2) pa_nil)))
      (pss_cons (ps_if (PW.pt (pw_or (pt_cmpR op_ne (pe_callB (k_len K rfl) (by rfl) T.n_len PySem.boot_len (pa_cons (pv 11) pa_nil)) (pv 3) (nomark _)) (pw_or1 (pt_cmpR (k_neD K rfl hr.units) (pe_frz (pe_lc (own := [("_law_k", 12)]) rfl nd (pi_range1 (by rfl) T.n_range (pa_cons (pv 3) pa_nil)) (blkOk_by (N := N_law) (sc := defScope s_law) (by decide +kernel)) (fun _ _ _ _ _ => (pg_name (i := 12) nd rfl (.inl rfl) (.inr rfl))) (fun _ _ _ _ _ => (pts_one (pt_cmpR (k_notIn K rfl) (pe_ix (k_ixl K rfl) (pv 11) (pv 12) (fun _ _ => rfl)) (pe_ix (k_ixl K rfl) (pv 2) (pv 12) (fun _ _ => rfl)) (by rfl)))) (fun _ _ _ _ _ => (pv 12)))) (pe_frz (pe_lst pa_nil)) (nomark _))))) (pss_one (ps_ret pe_bl)) pss_nil)
      (pss_cons (ps_if (pt_cmpR (k_neD K rfl hr.units) (pe_fn (ok__law_squares T) (hr.mono (by decide)) pass0 (pa_cons (pe_frz (pe_lc (own := [("_law_value", 10)]) rfl nd (k_pl K rfl (pv 11)) (blkOk_by (N := N_law) (sc := defScope s_law) (by decide +kernel)) (fun _ _ _ _ _ => (pg_name (i := 10) nd rfl (.inl rfl) (.inr rfl))) (fun _ _ _ _ _ => pts_nil) (fun _ _ _ _ _ => (pe_tup (pa_cons (pv 10) (pa_cons pe_int pa_nil)))))) pa_nil)) (pv 8) (nomark _)) (pss_one (ps_ret pe_bl)) pss_nil)
      (pss_one (ps_ret (pe_fn (ok__law_least T) (hr.mono (by decide)) pass0 (pa_cons (pv 1) (pa_cons (pv 2) (pa_cons (pv 3) (pa_cons (pv 8) pa_nil)))))))))))))))))), ?_⟩
  refine q_start (K := K) rfl hs hz (fun pd pn _ e1104 dr0 => ?_)
  have hpdpn : pd ≠ pn := by obtain ⟨_, _, _, _, _, _, _, h⟩ := dr0; exact h
  refine q_setP (K := K) dr0 (ep_pickP (ep_frz (epl_lst2 (ep_frz (epl_draws (fun _ m1105 => er_int) (sub_dr rfl) (by decide))) (fun _ _ => (ep_frz (epl_draws (fun _ m1106 => er_int) (sub_dr rfl) (by decide)))))) (sub_dr rfl) (by rintro l ⟨_, _, _, _, rfl⟩; exact ⟨by simp, by simp⟩)) (fun v1108 _ bounds_here_c m1110 dr1111 h1112 r1109 => ?_)
  obtain ⟨_, ⟨bounds_here_b2, bounds_here_b3, hbounds_here_b2, hbounds_here_b3, rfl⟩, hbounds_here_c⟩ := h1112
  have hB := pick_bok hbounds_here_b2 (by decide) hbounds_here_b3 (by decide) hbounds_here_c
  refine q_set (K := K) (er_len (er_var rfl r1109)) (fun v1115 _ e1113 r1114 => ?_)
  refine q_set (K := K) (er_frz (erl_lst (α := (List Int)) (ea_cons (er_frz (erl_lst (α := Int) ea_nil)) ea_nil))) (fun v1118 _ e1116 r1117 => ?_)
  obtain ⟨corners_1119, hcorners_1119⟩ : ∃ z, z = ([([] : (List Int))] : (List (List Int))) := ⟨_, rfl⟩
  replace r1117 := Rp.cong r1117 hcorners_1119
  have hcor := hcorners_1119
  -- for (_law_low_here, _law_high) in _law_bounds_here
  refine q_for (K := K) (src_list (er_var rfl (Rp.mono ((SF.of e1113).trans (SF.of e1116)) r1109))) (fun H1 k σ' H' => ∃ (s_l1 : (List (List Int))) (w1121 : V) (y1122 : Option V) (y1123 : Option V), σ' = [some (.ref a), some (.ref pd), some v1108, some v1115, some w1121, y1122, y1123, none, none, none, none, none, none] ∧ s_l1 = (List.take k bounds_here_c).foldl (fun (s_l1 : (List (List Int))) (low_here_high : (Int × Int)) => (((s_l1.map (fun (x1142 : (List Int)) => (x1142 ++ ([low_here_high.1] : (List Int))))) ++ (s_l1.map (fun (x1147 : (List Int)) => (x1147 ++ ([low_here_high.2] : (List Int)))))) : (List (List Int)))) corners_1119 ∧ Mus [] H1 H' ∧ Rp.rep K H' w1121 s_l1) (fun H1 e => ⟨corners_1119, _, _, _, rfl, rfl, Mus.refl _, (Rp.mono (SF.of e) r1117)⟩) (fun _ _ _ _ h => by obtain ⟨_, _, _, _, _, _, m, _⟩ := h; exact m.sf) (fun H1 k1130 low_here_high σ' H' vlow_here_high _ e1127 hx1126 hP e1128 rlow_here_high => ?_) (fun H1 σ' H' e1127 hP => ?_)
  ·
    obtain ⟨s_l1, w1121, y1122, y1123, rfl, hs1124, m1129, r1131⟩ := hP
    obtain ⟨v1133, v1134, r1135, r1136, tg1137⟩ := tg_pair (k := 5) (m := 6) rlow_here_high
    refine tg1137 _ ?_
    have hlow_here_high := List.mem_of_getElem? hx1126
    have hturn1 := hs1124
    refine q_last ?_
    have r1138 := (Rp.mono (((((SF.of e1113).trans (SF.of e1116)).trans (SF.of e1127)).trans m1129.sf).trans (SF.of e1128)) r1109)
    have r1139 := (Rp.mono ((((SF.of e1116).trans (SF.of e1127)).trans m1129.sf).trans (SF.of e1128)) r1114)
    have dr1140 := (Dr.mono e1128 (Dr.mus m1129 nin0 nin0 (Dr.mono e1127 (Dr.mono e1116 (Dr.mono e1113 dr1111)))))
    refine q_set (K := K) (er_frz (erl_cat (er_frz (erl_lm1 (f := fun (x1142 : (List Int)) => (x1142 ++ ([low_here_high.1] : (List Int)))) (src_list (er_var rfl (Rp.mono (SF.of e1128) r1131))) (by first | omega | (have g := lcor_lenE hcor hturn1 (by rw [List.length_take]; have := hB.2.1; omega); first | omega | (rw [List.length_map, List.length_map]; omega)) | (have g := lcor_lenE hcor hfold1 (by have := hB.2.1; omega); omega) | (have g := inB_len (inC_inB (fun p hp => ord_of hB p (List.mem_of_mem_take hp)) ((lcor_mem (fun p hp => ord_of hB p (List.mem_of_mem_take hp)) hcor hturn1).mp (by assumption))); rw [List.length_take] at g; have := hB.2.1; simp; omega) | (have g := inB_len (inC_inB (ord_of hB) ((lcor_mem (ord_of hB) hcor hfold1).mp (by assumption))); have := hB.2.1; omega) | (have g := inB_len (wid_in hB); have := hB.2.1; show (m_widest bounds_here_c).length ≤ 1000000; omega) | (have := hB.2.1; rw [List.length_range]; omega) | (have := hB.2.1; omega)) (by intros; rfl) (fun x1142 hx1143 v1144 _ e1141 r1145 => (er_frz (erl_cat (er_var rfl r1145) (er_frz (erl_lst (α := Int) (ea_cons (er_var rfl (Rp.mono (SF.of e1141) r1135)) ea_nil))) (by first | omega | (have g := lcor_lenE hcor hturn1 (by rw [List.length_take]; have := hB.2.1; omega); first | omega | (rw [List.length_map, List.length_map]; omega)) | (have g := lcor_lenE hcor hfold1 (by have := hB.2.1; omega); omega) | (have g := inB_len (inC_inB (fun p hp => ord_of hB p (List.mem_of_mem_take hp)) ((lcor_mem (fun p hp => ord_of hB p (List.mem_of_mem_take hp)) hcor hturn1).mp (by assumption))); rw [List.length_take] at g; have := hB.2.1; simp; omega) | (have g := inB_len (inC_inB (ord_of hB) ((lcor_mem (ord_of hB) hcor hfold1).mp (by assumption))); have := hB.2.1; omega) | (have g := inB_len (wid_in hB); have := hB.2.1; show (m_widest bounds_here_c).length ≤ 1000000; omega) | (have := hB.2.1; rw [List.length_range]; omega) | (have := hB.2.1; omega))))))) (er_frz (erl_lm1 (f := fun (x1147 : (List Int)) => (x1147 ++ ([low_here_high.2] : (List Int)))) (src_list (er_var rfl (Rp.mono (SF.of e1128) r1131))) (by first | omega | (have g := lcor_lenE hcor hturn1 (by rw [List.length_take]; have := hB.2.1; omega); first | omega | (rw [List.length_map, List.length_map]; omega)) | (have g := lcor_lenE hcor hfold1 (by have := hB.2.1; omega); omega) | (have g := inB_len (inC_inB (fun p hp => ord_of hB p (List.mem_of_mem_take hp)) ((lcor_mem (fun p hp => ord_of hB p (List.mem_of_mem_take hp)) hcor hturn1).mp (by assumption))); rw [List.length_take] at g; have := hB.2.1; simp; omega) | (have g := inB_len (inC_inB (ord_of hB) ((lcor_mem (ord_of hB) hcor hfold1).mp (by assumption))); have := hB.2.1; omega) | (have g := inB_len (wid_in hB); have := hB.2.1; show (m_widest bounds_here_c).length ≤ 1000000; omega) | (have := hB.2.1; rw [List.length_range]; omega) | (have := hB.2.1; omega)) (by intros; rfl) (fun x1147 hx1148 v1149 _ e1146 r1150 => (er_frz (erl_cat (er_var rfl r1150) (er_frz (erl_lst (α := Int) (ea_cons (er_var rfl (Rp.mono (SF.of e1146) r1136)) ea_nil))) (by first | omega | (have g := lcor_lenE hcor hturn1 (by rw [List.length_take]; have := hB.2.1; omega); first | omega | (rw [List.length_map, List.length_map]; omega)) | (have g := lcor_lenE hcor hfold1 (by have := hB.2.1; omega); omega) | (have g := inB_len (inC_inB (fun p hp => ord_of hB p (List.mem_of_mem_take hp)) ((lcor_mem (fun p hp => ord_of hB p (List.mem_of_mem_take hp)) hcor hturn1).mp (by assumption))); rw [List.length_take] at g; have := hB.2.1; simp; omega) | (have g := inB_len (inC_inB (ord_of hB) ((lcor_mem (ord_of hB) hcor hfold1).mp (by assumption))); have := hB.2.1; omega) | (have g := inB_len (wid_in hB); have := hB.2.1; show (m_widest bounds_here_c).length ≤ 1000000; omega) | (have := hB.2.1; rw [List.length_range]; omega) | (have := hB.2.1; omega))))))) (by first | omega | (have g := lcor_lenE hcor hturn1 (by rw [List.length_take]; have := hB.2.1; omega); first | omega | (rw [List.length_map, List.length_map]; omega)) | (have g := lcor_lenE hcor hfold1 (by have := hB.2.1; omega); omega) | (have g := inB_len (inC_inB (fun p hp => ord_of hB p (List.mem_of_mem_take hp)) ((lcor_mem (fun p hp => ord_of hB p (List.mem_of_mem_take hp)) hcor hturn1).mp (by assumption))); rw [List.length_take] at g; have := hB.2.1; simp; omega) | (have g := inB_len (inC_inB (ord_of hB) ((lcor_mem (ord_of hB) hcor hfold1).mp (by assumption))); have := hB.2.1; omega) | (have g := inB_len (wid_in hB); have := hB.2.1; show (m_widest bounds_here_c).length ≤ 1000000; omega) | (have := hB.2.1; rw [List.length_range]; omega) | (have := hB.2.1; omega)))) (fun v1153 _ e1151 r1152 => ?_)
    have hcor := hcorners_1119
    refine s_nx ?_
    exact ⟨((s_l1.map (fun (x1142 : (List Int)) => (x1142 ++ ([low_here_high.1] : (List Int))))) ++ (s_l1.map (fun (x1147 : (List Int)) => (x1147 ++ ([low_here_high.2] : (List Int)))))), _, _, _, rfl, (fold_step hx1126 hs1124), (((Mus.baseS (Mus.refl _) m1129 all0).trans (Mus.of e1128)).trans (Mus.of e1151)), r1152⟩
  ·
    obtain ⟨s_l1, w1121, y1122, y1123, rfl, hs1124, m1129, r1131⟩ := hP
    replace hs1124 := fold_all hs1124
    have hfold1 := hs1124
    have r1154 := (Rp.mono ((((SF.of e1113).trans (SF.of e1116)).trans (SF.of e1127)).trans m1129.sf) r1109)
    have dr1155 := (Dr.mus m1129 nin0 nin0 (Dr.mono e1127 (Dr.mono e1116 (Dr.mono e1113 dr1111))))
    refine q_set (K := K) (er_pair er_int er_int) (fun v1158 _ e1156 r1157 => ?_)
    have r1159 := (Rp.mono ((((SF.of e1116).trans (SF.of e1127)).trans m1129.sf).trans (SF.of e1156)) r1114)
    -- for _law_row in _law_corners
    refine q_for (K := K) (src_list (er_var rfl (Rp.mono (SF.of e1156) r1131))) (fun H1 k σ' H' => ∃ (s_l2 : (Int × Int)) (w1161 : V) (y1162 : Option V) (y1163 : Option V), σ' = [some (.ref a), some (.ref pd), some v1108, some v1115, some w1121, y1122, y1123, y1162, some w1161, y1163, none, none, none] ∧ s_l2 = (List.take k s_l1).foldl (fun (s_l2 : (Int × Int)) (row : (List Int)) => ((if (m__law_below s_l2 (m__law_squares (row.map (fun (x1177 : Int) => (x1177, (1 : Int)))))) = true then (m__law_squares (row.map (fun (x1177 : Int) => (x1177, (1 : Int))))) else s_l2) : (Int × Int))) ((0 : Int), (1 : Int)) ∧ Mus [] H1 H' ∧ Rp.rep K H' w1161 s_l2) (fun H1 e => ⟨((0 : Int), (1 : Int)), _, _, _, rfl, rfl, Mus.refl _, (Rp.mono (SF.of e) r1157)⟩) (fun _ _ _ _ h => by obtain ⟨_, _, _, _, _, _, m, _⟩ := h; exact m.sf) (fun H1 k1170 row σ' H' vrow _ e1167 hx1166 hP e1168 rrow => ?_) (fun H1 σ' H' e1167 hP => ?_)
    ·
      obtain ⟨s_l2, w1161, y1162, y1163, rfl, hs1164, m1169, r1171⟩ := hP
      refine s_gn ?_
      have hrow := List.mem_of_getElem? hx1166
      have hturn2 := hs1164
      have r1173 := (Rp.mono ((((SF.of e1156).trans (SF.of e1167)).trans m1169.sf).trans (SF.of e1168)) r1154)
      have r1174 := (Rp.mono ((((SF.of e1156).trans (SF.of e1167)).trans m1169.sf).trans (SF.of e1168)) r1131)
      have dr1175 := (Dr.mono e1168 (Dr.mus m1169 nin0 nin0 (Dr.mono e1167 (Dr.mono e1156 dr1155))))
      refine q_set (K := K) (er_call1 (er_frz (erl_lm1 (f := fun (x1177 : Int) => (x1177, (1 : Int))) (src_list (er_var rfl rrow)) (by first | omega | (have g := lcor_lenE hcor hturn1 (by rw [List.length_take]; have := hB.2.1; omega); first | omega | (rw [List.length_map, List.length_map]; omega)) | (have g := lcor_lenE hcor hfold1 (by have := hB.2.1; omega); omega) | (have g := inB_len (inC_inB (fun p hp => ord_of hB p (List.mem_of_mem_take hp)) ((lcor_mem (fun p hp => ord_of hB p (List.mem_of_mem_take hp)) hcor hturn1).mp (by assumption))); rw [List.length_take] at g; have := hB.2.1; simp; omega) | (have g := inB_len (inC_inB (ord_of hB) ((lcor_mem (ord_of hB) hcor hfold1).mp (by assumption))); have := hB.2.1; omega) | (have g := inB_len (wid_in hB); have := hB.2.1; show (m_widest bounds_here_c).length ≤ 1000000; omega) | (have := hB.2.1; rw [List.length_range]; omega) | (have := hB.2.1; omega)) (by intros; rfl) (fun x1177 hx1178 v1179 _ e1176 r1180 => (er_pair (er_var rfl r1180) er_int)))) (by first | exact row_sz hB (inC_inB (ord_of hB) ((lcor_mem (ord_of hB) hcor hfold1).mp hrow)) | exact row_sz hB (wid_in hB))) (fun v1183 _ e1181 r1182 => ?_)
      refine q_last ?_
      have r1184 := (Rp.mono ((((SF.of e1167).trans m1169.sf).trans (SF.of e1168)).trans (SF.of e1181)) r1159)
      refine q_set (K := K) (er_if (et_B (er_call2 (er_var rfl (Rp.mono ((SF.of e1168).trans (SF.of e1181)) r1171)) (er_var rfl r1182) (by exact ⟨(best_sz hB hturn2 (fun r hr => inC_inB (ord_of hB) ((lcor_mem (ord_of hB) hcor hfold1).mp (List.mem_of_mem_take hr)))).le (by decide), (lfold_sz (row_sz hB (inC_inB (ord_of hB) ((lcor_mem (ord_of hB) hcor hfold1).mp hrow))) (fun _ h => h) (row_sz hB (inC_inB (ord_of hB) ((lcor_mem (ord_of hB) hcor hfold1).mp hrow))).2.1).le (by decide)⟩))) (fun _ => (er_var rfl r1182)) (fun _ => (er_var rfl (Rp.mono ((SF.of e1168).trans (SF.of e1181)) r1171)))) (fun v1187 _ e1185 r1186 => ?_)
      refine s_nx ?_
      exact ⟨(if (m__law_below s_l2 (m__law_squares (row.map (fun (x1177 : Int) => (x1177, (1 : Int)))))) = true then (m__law_squares (row.map (fun (x1177 : Int) => (x1177, (1 : Int))))) else s_l2), _, _, _, rfl, (fold_step hx1166 hs1164), ((((Mus.baseS (Mus.refl _) m1169 all0).trans (Mus.of e1168)).trans (Mus.of e1181)).trans (Mus.of e1185)), r1186⟩
    ·
      obtain ⟨s_l2, w1161, y1162, y1163, rfl, hs1164, m1169, r1171⟩ := hP
      replace hs1164 := fold_all hs1164
      have hfold2 := hs1164
      -- 1: greatest_squares(_law_bounds_here) != _law_best
      refine q_not (K := K) (et_test (er_op (er_call1 (er_var rfl (Rp.mono (((SF.of e1156).trans (SF.of e1167)).trans m1169.sf) r1154)) (by exact hB)) (er_var rfl r1171) rr_neT)) (by exact k04_a hB hcor hfold1 hfold2) (fun _ e1188 => ?_)
      have r1189 := (Rp.mono ((((SF.of e1156).trans (SF.of e1167)).trans m1169.sf).trans (SF.of e1188)) r1154)
      have r1190 := (Rp.mono ((((SF.of e1156).trans (SF.of e1167)).trans m1169.sf).trans (SF.of e1188)) r1131)
      have dr1191 := (Dr.mono e1188 (Dr.mus m1169 nin0 nin0 (Dr.mono e1167 (Dr.mono e1156 dr1155))))
      refine q_set (K := K) (er_call1 (er_var rfl r1189) (by exact hB)) (fun v1194 _ e1192 r1193 => ?_)
      have r1195 := (Rp.mono ((((SF.of e1167).trans m1169.sf).trans (SF.of e1188)).trans (SF.of e1192)) r1159)
      -- 2: len(_law_wide) != _law_size or [_law_k for _law_k in range(_law_size) if _law_wide[_law_k] not in _law_bounds_here[_law_k]] != []
      refine q_not (K := K) (et_or (et_test (er_op (er_up (er_len (er_var rfl r1193))) (er_up (er_var rfl r1195)) rr_neI)) (fun hsc => (et_test (er_op (er_frz (erl_lc1 (c := fun (x1197 : Nat) => (neg true (decide ((((m_widest_squares_choice bounds_here_c)).getD (x1197) 0) ∈ [((bounds_here_c).getD (x1197) (0, 0)).1, ((bounds_here_c).getD (x1197) (0, 0)).2])))) (f := fun (x1197 : Nat) => x1197) (src_range1 (er_var rfl r1195) (by first | omega | (have g := lcor_lenE hcor hturn1 (by rw [List.length_take]; have := hB.2.1; omega); first | omega | (rw [List.length_map, List.length_map]; omega)) | (have g := lcor_lenE hcor hfold1 (by have := hB.2.1; omega); omega) | (have g := inB_len (inC_inB (fun p hp => ord_of hB p (List.mem_of_mem_take hp)) ((lcor_mem (fun p hp => ord_of hB p (List.mem_of_mem_take hp)) hcor hturn1).mp (by assumption))); rw [List.length_take] at g; have := hB.2.1; simp; omega) | (have g := inB_len (inC_inB (ord_of hB) ((lcor_mem (ord_of hB) hcor hfold1).mp (by assumption))); have := hB.2.1; omega) | (have g := inB_len (wid_in hB); have := hB.2.1; show (m_widest bounds_here_c).length ≤ 1000000; omega) | (have := hB.2.1; rw [List.length_range]; omega) | (have := hB.2.1; omega))) (by first | omega | (have g := lcor_lenE hcor hturn1 (by rw [List.length_take]; have := hB.2.1; omega); first | omega | (rw [List.length_map, List.length_map]; omega)) | (have g := lcor_lenE hcor hfold1 (by have := hB.2.1; omega); omega) | (have g := inB_len (inC_inB (fun p hp => ord_of hB p (List.mem_of_mem_take hp)) ((lcor_mem (fun p hp => ord_of hB p (List.mem_of_mem_take hp)) hcor hturn1).mp (by assumption))); rw [List.length_take] at g; have := hB.2.1; simp; omega) | (have g := inB_len (inC_inB (ord_of hB) ((lcor_mem (ord_of hB) hcor hfold1).mp (by assumption))); have := hB.2.1; omega) | (have g := inB_len (wid_in hB); have := hB.2.1; show (m_widest bounds_here_c).length ≤ 1000000; omega) | (have := hB.2.1; rw [List.length_range]; omega) | (have := hB.2.1; omega)) (by intros; rfl) (fun x1197 hx1198 v1199 _ e1196 r1200 => ⟨(et_test (er_op (er_op (er_var rfl (Rp.mono (SF.of e1196) r1193)) (er_up (er_var rfl r1200)) (rr_ixL (x := (((m_widest_squares_choice bounds_here_c)).getD (x1197) 0)) (by first | exact getD_at (by have := List.mem_range.mp (by assumption); have g := inB_len (wid_in hB); show _ < (m_widest bounds_here_c).length; omega) | exact getD_at (by have := List.mem_range.mp (by assumption); omega)))) (er_op (er_var rfl (Rp.mono (SF.of e1196) (Rp.mono (SF.of e1192) r1189))) (er_up (er_var rfl r1200)) (rr_ixL (x := ((bounds_here_c).getD (x1197) (0, 0))) (by first | exact getD_at (by have := List.mem_range.mp (by assumption); have g := inB_len (wid_in hB); show _ < (m_widest bounds_here_c).length; omega) | exact getD_at (by have := List.mem_range.mp (by assumption); omega)))) (rr_inP (n := true)))), fun _ => (er_var rfl r1200)⟩))) (er_frz (erl_lst (α := Nat) ea_nil)) rr_neT)))) (by exact k04_b hB) (fun _ e1201 => ?_)
      -- 3: _law_squares([(_law_value, 1) for _law_value in _law_wide]) != _law_best
      refine q_not (K := K) (et_test (er_op (er_call1 (er_frz (erl_lm1 (f := fun (x1203 : Int) => (x1203, (1 : Int))) (src_list (er_var rfl (Rp.mono (SF.of e1201) r1193))) (by first | omega | (have g := lcor_lenE hcor hturn1 (by rw [List.length_take]; have := hB.2.1; omega); first | omega | (rw [List.length_map, List.length_map]; omega)) | (have g := lcor_lenE hcor hfold1 (by have := hB.2.1; omega); omega) | (have g := inB_len (inC_inB (fun p hp => ord_of hB p (List.mem_of_mem_take hp)) ((lcor_mem (fun p hp => ord_of hB p (List.mem_of_mem_take hp)) hcor hturn1).mp (by assumption))); rw [List.length_take] at g; have := hB.2.1; simp; omega) | (have g := inB_len (inC_inB (ord_of hB) ((lcor_mem (ord_of hB) hcor hfold1).mp (by assumption))); have := hB.2.1; omega) | (have g := inB_len (wid_in hB); have := hB.2.1; show (m_widest bounds_here_c).length ≤ 1000000; omega) | (have := hB.2.1; rw [List.length_range]; omega) | (have := hB.2.1; omega)) (by intros; rfl) (fun x1203 hx1204 v1205 _ e1202 r1206 => (er_pair (er_var rfl r1206) er_int)))) (by first | exact row_sz hB (inC_inB (ord_of hB) ((lcor_mem (ord_of hB) hcor hfold1).mp hrow)) | exact row_sz hB (wid_in hB))) (er_var rfl (Rp.mono (((SF.of e1188).trans (SF.of e1192)).trans (SF.of e1201)) r1171)) rr_neT)) (by exact k04_c hB hcor hfold1 hfold2) (fun _ e1207 => ?_)
      have r1208 := (Rp.mono ((((SF.of e1188).trans (SF.of e1192)).trans (SF.of e1201)).trans (SF.of e1207)) r1171)
      exact s_ret_st3 (K := K) rfl (Dr.mono e1207 (Dr.mono e1201 (Dr.mono e1192 dr1191))) (er_var rfl (Rp.mono (((SF.of e1192).trans (SF.of e1201)).trans (SF.of e1207)) r1189)) (er_var rfl (Rp.mono ((SF.of e1201).trans (SF.of e1207)) r1195)) (er_var rfl r1208) (by exact ⟨hB, rfl, k04_best hB hcor hfold1 hfold2⟩) (fun _ _ _ => q _)
end
end BL

set_option Elab.async false
set_option linter.all false
set_option maxRecDepth 100000
set_option maxHeartbeats 0
namespace BL
open PySem PySem.Spec PyProof.Rows L2
def dd_is_int : He.DefD := ⟨("is_int", none), "is_int", "is_int", defArgs s_is_int, defBody s_is_int, defScope s_is_int, [], []⟩
def dd_is_bound : He.DefD := ⟨("is_bound", none), "is_bound", "is_bound", defArgs s_is_bound, defBody s_is_bound, defScope s_is_bound, [], []⟩
def dd_is_bounds : He.DefD := ⟨("is_bounds", none), "is_bounds", "is_bounds", defArgs s_is_bounds, defBody s_is_bounds, defScope s_is_bounds, [], []⟩
def dd_check_bounds : He.DefD := ⟨("check_bounds", none), "check_bounds", "check_bounds", defArgs s_check_bounds, defBody s_check_bounds, defScope s_check_bounds, [], []⟩
def dd_common_divisor : He.DefD := ⟨("common_divisor", none), "common_divisor", "common_divisor", defArgs s_common_divisor, defBody s_common_divisor, defScope s_common_divisor, [], []⟩
def dd_lowest : He.DefD := ⟨("lowest", none), "lowest", "lowest", defArgs s_lowest, defBody s_lowest, defScope s_lowest, [], []⟩
def dd_plus : He.DefD := ⟨("plus", none), "plus", "plus", defArgs s_plus, defBody s_plus, defScope s_plus, [], []⟩
def dd_minus : He.DefD := ⟨("minus", none), "minus", "minus", defArgs s_minus, defBody s_minus, defScope s_minus, [], []⟩
def dd_times : He.DefD := ⟨("times", none), "times", "times", defArgs s_times, defBody s_times, defScope s_times, [], []⟩
def dd_less : He.DefD := ⟨("less", none), "less", "less", defArgs s_less, defBody s_less, defScope s_less, [], []⟩
def dd_total : He.DefD := ⟨("total", none), "total", "total", defArgs s_total, defBody s_total, defScope s_total, [], []⟩
def dd_squares_about_mean : He.DefD := ⟨("squares_about_mean", none), "squares_about_mean", "squares_about_mean", defArgs s_squares_about_mean, defBody s_squares_about_mean, defScope s_squares_about_mean, [], []⟩
def dd_lows : He.DefD := ⟨("lows", none), "lows", "lows", defArgs s_lows, defBody s_lows, defScope s_lows, [], []⟩
def dd_highs : He.DefD := ⟨("highs", none), "highs", "highs", defArgs s_highs, defBody s_highs, defScope s_highs, [], []⟩
def dd_corner_choices : He.DefD := ⟨("corner_choices", none), "corner_choices", "corner_choices", defArgs s_corner_choices, defBody s_corner_choices, defScope s_corner_choices, [], []⟩
def dd_widest : He.DefD := ⟨("widest", none), "widest", "widest", defArgs s_widest, defBody s_widest, defScope s_widest, [], []⟩
def dd_greatest_squares : He.DefD := ⟨("greatest_squares", none), "greatest_squares", "greatest_squares", defArgs s_greatest_squares, defBody s_greatest_squares, defScope s_greatest_squares, [], []⟩
def dd_widest_squares_choice : He.DefD := ⟨("widest_squares_choice", none), "widest_squares_choice", "widest_squares_choice", defArgs s_widest_squares_choice, defBody s_widest_squares_choice, defScope s_widest_squares_choice, [], []⟩
def dd_clipped : He.DefD := ⟨("clipped", none), "clipped", "clipped", defArgs s_clipped, defBody s_clipped, defScope s_clipped, [], []⟩
def dd_centre_of : He.DefD := ⟨("centre_of", none), "centre_of", "centre_of", defArgs s_centre_of, defBody s_centre_of, defScope s_centre_of, [], []⟩
def dd_centre : He.DefD := ⟨("centre", none), "centre", "centre", defArgs s_centre, defBody s_centre, defScope s_centre, [], []⟩
def dd_nearest_choice : He.DefD := ⟨("nearest_choice", none), "nearest_choice", "nearest_choice", defArgs s_nearest_choice, defBody s_nearest_choice, defScope s_nearest_choice, [], []⟩
def dd_least_squares : He.DefD := ⟨("least_squares", none), "least_squares", "least_squares", defArgs s_least_squares, defBody s_least_squares, defScope s_least_squares, [], []⟩
def dd__law_start : He.DefD := ⟨("_law_start", none), "_law_start", "_law_start", defArgs s__law_start, defBody s__law_start, defScope s__law_start, [], []⟩
def dd__law_draw : He.DefD := ⟨("_law_draw", none), "_law_draw", "_law_draw", defArgs s__law_draw, defBody s__law_draw, defScope s__law_draw, [], []⟩
def dd__law_pick : He.DefD := ⟨("_law_pick", none), "_law_pick", "_law_pick", defArgs s__law_pick, defBody s__law_pick, defScope s__law_pick, [], []⟩
def dd__law_bounds : He.DefD := ⟨("_law_bounds", none), "_law_bounds", "_law_bounds", defArgs s__law_bounds, defBody s__law_bounds, defScope s__law_bounds, [], []⟩
def dd__law_small : He.DefD := ⟨("_law_small", none), "_law_small", "_law_small", defArgs s__law_small, defBody s__law_small, defScope s__law_small, [], []⟩
def dd__law_low : He.DefD := ⟨("_law_low", none), "_law_low", "_law_low", defArgs s__law_low, defBody s__law_low, defScope s__law_low, [], []⟩
def dd__law_add : He.DefD := ⟨("_law_add", none), "_law_add", "_law_add", defArgs s__law_add, defBody s__law_add, defScope s__law_add, [], []⟩
def dd__law_below : He.DefD := ⟨("_law_below", none), "_law_below", "_law_below", defArgs s__law_below, defBody s__law_below, defScope s__law_below, [], []⟩
def dd__law_squares : He.DefD := ⟨("_law_squares", none), "_law_squares", "_law_squares", defArgs s__law_squares, defBody s__law_squares, defScope s__law_squares, [], []⟩
def dd__law_least : He.DefD := ⟨("_law_least", none), "_law_least", "_law_least", defArgs s__law_least, defBody s__law_least, defScope s__law_least, [], []⟩
def dd_law : He.DefD := ⟨("law", none), "law", "law", defArgs s_law, defBody s_law, defScope s_law, [], []⟩
def fnD : List He.DefD := [dd_is_int, dd_is_bound, dd_is_bounds, dd_check_bounds, dd_common_divisor, dd_lowest, dd_plus, dd_minus, dd_times, dd_less, dd_total, dd_squares_about_mean, dd_lows, dd_highs, dd_corner_choices, dd_widest, dd_greatest_squares, dd_widest_squares_choice, dd_clipped, dd_centre_of, dd_centre, dd_nearest_choice, dd_least_squares, dd__law_start, dd__law_draw, dd__law_pick, dd__law_bounds, dd__law_small, dd__law_low, dd__law_add, dd__law_below, dd__law_squares, dd__law_least, dd_law]
def faD : List He.Fa := [.glo "is_int", .glo "is_bound", .glo "is_bounds", .glo "check_bounds", .glo "common_divisor", .glo "lowest", .glo "plus", .glo "minus", .glo "times", .glo "less", .glo "total", .glo "squares_about_mean", .glo "lows", .glo "highs", .glo "corner_choices", .glo "widest", .glo "greatest_squares", .glo "widest_squares_choice", .glo "clipped", .glo "centre_of", .glo "centre", .glo "nearest_choice", .glo "least_squares", .glo "_law_start", .glo "_law_draw", .glo "_law_pick", .glo "_law_bounds", .glo "_law_small", .glo "_law_low", .glo "_law_add", .glo "_law_below", .glo "_law_squares", .glo "_law_least", .glo "law", .free "abs", .free "all", .free "bool", .free "int", .free "isinstance", .free "len", .free "list", .free "max", .free "min", .free "range", .free "sorted", .free "sum", .free "tuple", .free "zip", .int "MOST_BOUND" 50, .int "MOST_VALUES" 7]
abbrev rowR : PySem.W.OpenRow := PySem.W.OpenLaw.row PySem.Challenge.rw_boundstats_k04_whole_squares
def exD (K : Fg) : Bool := true
abbrev hkD : PySem.W.Hook := hookB 4 faD fnD exD
def obD (s : PySem.W.SharedT) : He.AlD × Bool := (He.obsDG 4 faD fnD (HandSHeadRun.getT s), exD (He.frG (HandSHeadRun.getT s) (He.asD (HandSHeadRun.getT s) 4)))
theorem obD_eq (s : PySem.W.SharedT) : obD s = hkD.obs s.abs := hookB_eq (HandSHeadRun.getT_eq s)
def looseD0 : List Str := ["BoundError", "BadBounds", "MOST_VALUES", "MOST_BOUND", "is_int", "is_bound", "is_bounds", "check_bounds", "common_divisor", "lowest", "plus", "minus", "times", "less", "total", "squares_about_mean", "lows", "highs", "corner_choices", "greatest_squares"]
def looseD1 : List Str := ["widest", "widest_squares_choice", "clipped", "centre_of", "centre", "nearest_choice", "least_squares", "_law_start", "_law_draw", "_law_pick", "_law_bounds", "_law_small", "_law_low", "_law_add", "_law_below", "_law_squares", "_law_least"]
def looseD : List Str := looseD0 ++ looseD1
theorem runD (w : World) : HandSHeadRun.RunEq rowR (PySem.W.view rowR.prog [42]) hkD obD 3000 looseD w := by
  intro os
  kernel_rfl
theorem txt_of {K : Fg} {h : Heap} {mg : Str → Option Value} (X : K.In h) (G : h.Ns mainGlobals mg) (c : He.SaysD faD fnD K) (cx : exD K = true) : Txt K mg where
  d_is_int := by
    obtain ⟨fd, F⟩ := c.def_ 0 (d := dd_is_int) rfl
    exact ⟨_, fd, F, He.glo_ok X G (c.fact 0 (f := .glo "is_int") rfl)⟩
  d_is_bound := by
    obtain ⟨fd, F⟩ := c.def_ 1 (d := dd_is_bound) rfl
    exact ⟨_, fd, F, He.glo_ok X G (c.fact 1 (f := .glo "is_bound") rfl)⟩
  d_is_bounds := by
    obtain ⟨fd, F⟩ := c.def_ 2 (d := dd_is_bounds) rfl
    exact ⟨_, fd, F, He.glo_ok X G (c.fact 2 (f := .glo "is_bounds") rfl)⟩
  d_check_bounds := by
    obtain ⟨fd, F⟩ := c.def_ 3 (d := dd_check_bounds) rfl
    exact ⟨_, fd, F, He.glo_ok X G (c.fact 3 (f := .glo "check_bounds") rfl)⟩
  d_common_divisor := by
    obtain ⟨fd, F⟩ := c.def_ 4 (d := dd_common_divisor) rfl
    exact ⟨_, fd, F, He.glo_ok X G (c.fact 4 (f := .glo "common_divisor") rfl)⟩
  d_lowest := by
    obtain ⟨fd, F⟩ := c.def_ 5 (d := dd_lowest) rfl
    exact ⟨_, fd, F, He.glo_ok X G (c.fact 5 (f := .glo "lowest") rfl)⟩
  d_plus := by
    obtain ⟨fd, F⟩ := c.def_ 6 (d := dd_plus) rfl
    exact ⟨_, fd, F, He.glo_ok X G (c.fact 6 (f := .glo "plus") rfl)⟩
  d_minus := by
    obtain ⟨fd, F⟩ := c.def_ 7 (d := dd_minus) rfl
    exact ⟨_, fd, F, He.glo_ok X G (c.fact 7 (f := .glo "minus") rfl)⟩
  d_times := by
    obtain ⟨fd, F⟩ := c.def_ 8 (d := dd_times) rfl
    exact ⟨_, fd, F, He.glo_ok X G (c.fact 8 (f := .glo "times") rfl)⟩
  d_less := by
    obtain ⟨fd, F⟩ := c.def_ 9 (d := dd_less) rfl
    exact ⟨_, fd, F, He.glo_ok X G (c.fact 9 (f := .glo "less") rfl)⟩
  d_total := by
    obtain ⟨fd, F⟩ := c.def_ 10 (d := dd_total) rfl
    exact ⟨_, fd, F, He.glo_ok X G (c.fact 10 (f := .glo "total") rfl)⟩
  d_squares_about_mean := by
    obtain ⟨fd, F⟩ := c.def_ 11 (d := dd_squares_about_mean) rfl
    exact ⟨_, fd, F, He.glo_ok X G (c.fact 11 (f := .glo "squares_about_mean") rfl)⟩
  d_lows := by
    obtain ⟨fd, F⟩ := c.def_ 12 (d := dd_lows) rfl
    exact ⟨_, fd, F, He.glo_ok X G (c.fact 12 (f := .glo "lows") rfl)⟩
  d_highs := by
    obtain ⟨fd, F⟩ := c.def_ 13 (d := dd_highs) rfl
    exact ⟨_, fd, F, He.glo_ok X G (c.fact 13 (f := .glo "highs") rfl)⟩
  d_corner_choices := by
    obtain ⟨fd, F⟩ := c.def_ 14 (d := dd_corner_choices) rfl
    exact ⟨_, fd, F, He.glo_ok X G (c.fact 14 (f := .glo "corner_choices") rfl)⟩
  d_widest := by
    obtain ⟨fd, F⟩ := c.def_ 15 (d := dd_widest) rfl
    exact ⟨_, fd, F, He.glo_ok X G (c.fact 15 (f := .glo "widest") rfl)⟩
  d_greatest_squares := by
    obtain ⟨fd, F⟩ := c.def_ 16 (d := dd_greatest_squares) rfl
    exact ⟨_, fd, F, He.glo_ok X G (c.fact 16 (f := .glo "greatest_squares") rfl)⟩
  d_widest_squares_choice := by
    obtain ⟨fd, F⟩ := c.def_ 17 (d := dd_widest_squares_choice) rfl
    exact ⟨_, fd, F, He.glo_ok X G (c.fact 17 (f := .glo "widest_squares_choice") rfl)⟩
  d_clipped := by
    obtain ⟨fd, F⟩ := c.def_ 18 (d := dd_clipped) rfl
    exact ⟨_, fd, F, He.glo_ok X G (c.fact 18 (f := .glo "clipped") rfl)⟩
  d_centre_of := by
    obtain ⟨fd, F⟩ := c.def_ 19 (d := dd_centre_of) rfl
    exact ⟨_, fd, F, He.glo_ok X G (c.fact 19 (f := .glo "centre_of") rfl)⟩
  d_centre := by
    obtain ⟨fd, F⟩ := c.def_ 20 (d := dd_centre) rfl
    exact ⟨_, fd, F, He.glo_ok X G (c.fact 20 (f := .glo "centre") rfl)⟩
  d_nearest_choice := by
    obtain ⟨fd, F⟩ := c.def_ 21 (d := dd_nearest_choice) rfl
    exact ⟨_, fd, F, He.glo_ok X G (c.fact 21 (f := .glo "nearest_choice") rfl)⟩
  d_least_squares := by
    obtain ⟨fd, F⟩ := c.def_ 22 (d := dd_least_squares) rfl
    exact ⟨_, fd, F, He.glo_ok X G (c.fact 22 (f := .glo "least_squares") rfl)⟩
  d__law_start := by
    obtain ⟨fd, F⟩ := c.def_ 23 (d := dd__law_start) rfl
    exact ⟨_, fd, F, He.glo_ok X G (c.fact 23 (f := .glo "_law_start") rfl)⟩
  d__law_draw := by
    obtain ⟨fd, F⟩ := c.def_ 24 (d := dd__law_draw) rfl
    exact ⟨_, fd, F, He.glo_ok X G (c.fact 24 (f := .glo "_law_draw") rfl)⟩
  d__law_pick := by
    obtain ⟨fd, F⟩ := c.def_ 25 (d := dd__law_pick) rfl
    exact ⟨_, fd, F, He.glo_ok X G (c.fact 25 (f := .glo "_law_pick") rfl)⟩
  d__law_bounds := by
    obtain ⟨fd, F⟩ := c.def_ 26 (d := dd__law_bounds) rfl
    exact ⟨_, fd, F, He.glo_ok X G (c.fact 26 (f := .glo "_law_bounds") rfl)⟩
  d__law_small := by
    obtain ⟨fd, F⟩ := c.def_ 27 (d := dd__law_small) rfl
    exact ⟨_, fd, F, He.glo_ok X G (c.fact 27 (f := .glo "_law_small") rfl)⟩
  d__law_low := by
    obtain ⟨fd, F⟩ := c.def_ 28 (d := dd__law_low) rfl
    exact ⟨_, fd, F, He.glo_ok X G (c.fact 28 (f := .glo "_law_low") rfl)⟩
  d__law_add := by
    obtain ⟨fd, F⟩ := c.def_ 29 (d := dd__law_add) rfl
    exact ⟨_, fd, F, He.glo_ok X G (c.fact 29 (f := .glo "_law_add") rfl)⟩
  d__law_below := by
    obtain ⟨fd, F⟩ := c.def_ 30 (d := dd__law_below) rfl
    exact ⟨_, fd, F, He.glo_ok X G (c.fact 30 (f := .glo "_law_below") rfl)⟩
  d__law_squares := by
    obtain ⟨fd, F⟩ := c.def_ 31 (d := dd__law_squares) rfl
    exact ⟨_, fd, F, He.glo_ok X G (c.fact 31 (f := .glo "_law_squares") rfl)⟩
  d__law_least := by
    obtain ⟨fd, F⟩ := c.def_ 32 (d := dd__law_least) rfl
    exact ⟨_, fd, F, He.glo_ok X G (c.fact 32 (f := .glo "_law_least") rfl)⟩
  d_law := by
    obtain ⟨fd, F⟩ := c.def_ 33 (d := dd_law) rfl
    exact ⟨_, fd, F, He.glo_ok X G (c.fact 33 (f := .glo "law") rfl)⟩
  n_abs := He.free_ok X G (c.fact 34 (f := .free "abs") rfl)
  n_all := He.free_ok X G (c.fact 35 (f := .free "all") rfl)
  n_bool := He.free_ok X G (c.fact 36 (f := .free "bool") rfl)
  n_int := He.free_ok X G (c.fact 37 (f := .free "int") rfl)
  n_isinstance := He.free_ok X G (c.fact 38 (f := .free "isinstance") rfl)
  n_len := He.free_ok X G (c.fact 39 (f := .free "len") rfl)
  n_list := He.free_ok X G (c.fact 40 (f := .free "list") rfl)
  n_max := He.free_ok X G (c.fact 41 (f := .free "max") rfl)
  n_min := He.free_ok X G (c.fact 42 (f := .free "min") rfl)
  n_range := He.free_ok X G (c.fact 43 (f := .free "range") rfl)
  n_sorted := He.free_ok X G (c.fact 44 (f := .free "sorted") rfl)
  n_sum := He.free_ok X G (c.fact 45 (f := .free "sum") rfl)
  n_tuple := He.free_ok X G (c.fact 46 (f := .free "tuple") rfl)
  n_zip := He.free_ok X G (c.fact 47 (f := .free "zip") rfl)
  c_MOST_BOUND := He.int_ok X G (c.fact 48 (f := .int "MOST_BOUND" 50) rfl)
  c_MOST_VALUES := He.int_ok X G (c.fact 49 (f := .int "MOST_VALUES" 7) rfl)
theorem endD {P : Program} {w : World} {K : Fg} {h : Heap} {mg : Str → Option Value} {f : Addr} (X : K.In h) (G : h.Ns mainGlobals mg) (hfa : mg ("law" : Str) = some (.ref f)) (c : He.SaysD faD fnD K) (cx : exD K = true) :
    ∃ fd : FuncData, (∀ (s : Shared) (v : Value), BindsTo s fd ⟨[v], []⟩ [("_law_script", v)]) ∧ ∀ base : Heap, K.In base → base.Ns mainGlobals mg → FnOk P w K mg base CX0 8 f fd ["_law_script"] (spLaw K) := by
  have T := txt_of X G c cx
  obtain ⟨fd, F⟩ := c.def_ 33 (d := dd_law) rfl
  have e := hfa.symm.trans (He.glo_ok X G (c.fact 33 (f := .glo "law") rfl))
  cases e
  have b := FunD.bindsA (ps := ["_law_script"]) F fun _ _ _ _ _ _ us hl => match us, hl with | [_], _ => rfl
  exact ⟨fd, fun s v => b s [v] rfl, fun base _ _ => ok_law T F⟩
end BL
open PySem PySem.W PySem.Calls PyProof.Rows
set_option maxRecDepth 100000 in
set_option maxHeartbeats 0 in
theorem PySem.Challenge.cw_boundstats_k04_whole_squares_holds : PySem.Challenge.rw_boundstats_k04_whole_squares.Holds := by
  w_on; o_law
  refine HandSHeadRun.head_any (r := OpenLaw.row PySem.Challenge.rw_boundstats_k04_whole_squares) (q := view (OpenLaw.row PySem.Challenge.rw_boundstats_k04_whole_squares).prog [42]) (H := BL.hkD) (ob := BL.obD) (M := 3000) (loose := BL.looseD) (d := HandSHeadRun.topDef (OpenLaw.row PySem.Challenge.rw_boundstats_k04_whole_squares).prog 42) (kwd := []) BL.obD_eq
    (by kernel_rfl) (fun s => by kernel_rfl) BL.runD (by kernel_rfl) (by kernel_rfl) (by kernel_rfl) (by rfl) (by first | assumption | decide +kernel) (by decide +kernel) ⟨rfl, rfl, rfl, rfl, rfl, by decide +kernel⟩ ?hw ?hc
  case hw => w_witness2
  case hc =>
    refine L2.walk_ofE (l := PySem.Challenge.rw_boundstats_k04_whole_squares) (n := 63) (k := 8) (x := "_law_script") (CX := L2.CX0) rfl (by decide) (by kernel_rfl) ⟨rfl, by decide, by decide⟩ ?F (fun _ _ _ _ z => z)
    intro w mg fa h Y G hmg0
    obtain ⟨K, KX, c, cx⟩ := Y
    have hmg : mg ("law" : PySem.Str) = some (.ref fa) := by
      have e : (HandSHeadRun.topDef (OpenLaw.row PySem.Challenge.rw_boundstats_k04_whole_squares).prog 42).name = ("law" : PySem.Str) := by kernel_rfl
      rw [← e]
      exact hmg0
    obtain ⟨fd, hb, hF⟩ := BL.endD (P := (PySem.Challenge.rw_boundstats_k04_whole_squares).prog) (w := w) KX G hmg c cx
    exact ⟨K, fd, BL.spLaw K, KX, hb, fun H a ns hl _ hS => ⟨a, ns, rfl, hS, hl, fun _ => rfl⟩, hF⟩
#print axioms PySem.Challenge.cw_boundstats_k04_whole_squares_holds
