import PyProof.Rows.All
import Wide.All
import OpenK.AllK
import Wide.FinOn
import HandS.ForMost
import HandS.Evl
import HandS.Walk
import HandS.SortInts
import HandS.Wide
import HandS.IsInst
import HandS.Style
import HandS.Defaults
import HandS.Deep
import HandS.Conv
import HandS.NoneIn
import HandS.More
import HandS.Head0
import HandS.Head1
import HandS.Head2
import HandS.HeadEnd
import HandS.HeadHook1
import HandS.HeadHook2
import HandS.Steps
import HandS.SortRule
import HandS.SetFor
import HandS.TupSets
import KE.KStateDown
import Lean
import HandS.WordsExc
import PySem.Challenge.RW_boundstats_k20_whole_centres
set_option Elab.async false
set_option linter.all false
set_option maxRecDepth 100000
set_option maxHeartbeats 2000000
/-! typed readings: values as plain data, lists locked once made -/
namespace BL
open PySem PySem.Spec PyProof.Rows L2
abbrev Fg := PySem.W.Frag
/-! ### what stays: tuples, locked things -/
inductive Sta : HO → Prop
  | tup (xs : List V) : Sta (.tup xs)
  | frz (o : Obj) (u : HO) : Sta (.frz o u)
theorem sta_lst {xs : List V} : ¬ Sta (.lst xs) := fun h => nomatch h
def SF (H H' : Hp) : Prop := ∀ a o, Sta o → H a = some o → H' a = some o
section
variable {H H1 H2 H' : Hp} {p a : Addr} {o u : HO} {xs ys : List V} {K : Fg}
theorem SF.refl (H : Hp) : SF H H := fun _ _ _ h => h
theorem SF.trans (a : SF H H1) (b : SF H1 H2) : SF H H2 := fun x o s h => b x o s (a x o s h)
theorem SF.of (e : Same H H') : SF H H' := fun a o _ h => e a o h
theorem SF.new (h : H p = none) : SF H (upd H p o) := fun a u _ e => by
  rw [upd_ne (ne_of_none e h)]; exact e
theorem SF.chg (h : H p = some u) (n : ¬ Sta u) : SF H (upd H p o) := fun a w s e => by
  by_cases q : a = p
  · subst q; rw [h] at e; cases e; exact absurd s n
  · rw [upd_ne q]; exact e
theorem SF.lst (h : H p = some (.lst xs)) : SF H (upd H p o) := SF.chg h sta_lst
theorem same_new (h : H p = none) : Same H (upd H p o) := fun a u e => by
  rw [upd_ne (ne_of_none e h)]; exact e
/-- what H does not know may change -/
theorem same_mut (e : Same H H') (h : H p = none) : Same H (upd H' p o) := fun a u ha => by
  rw [upd_ne (ne_of_none ha h)]; exact e a u ha
theorem sf_mut (e : SF H H') (h : H p = none) : SF H (upd H' p o) := fun a u s ha => by
  rw [upd_ne (ne_of_none ha h)]; exact e a u s ha
theorem none_back (e : Same H H') (h : H' p = none) : H p = none := e.free h
theorem upd_get (h : H a = some u) (n : a ≠ p) : upd H p o a = some u := by rw [upd_ne n]; exact h
def Fz (H : Hp) (a : Addr) (xs : List V) : Prop := ∃ o, H a = some (.frz o (.lst xs))
theorem Fz.seq (h : Fz H a xs) : SqL K H a xs := by
  obtain ⟨o, h⟩ := h; exact .inl (.inr ⟨o, h⟩)
theorem Fz.sf (e : SF H H') (h : Fz H a xs) : Fz H' a xs := by
  obtain ⟨o, h⟩ := h; exact ⟨o, e _ _ (.frz _ _) h⟩
theorem sqt_sf (e : SF H H') (h : SqT K H a xs) : SqT K H' a xs := by
  rcases h with (h | ⟨o, h⟩) | h
  · exact .inl (.inl (e _ _ (.tup _) h))
  · exact .inl (.inr ⟨o, e _ _ (.frz _ _) h⟩)
  · exact .inr h
theorem sq_lst (h : H a = some (.lst xs)) : SqL K H a xs := .inl (.inl h)
theorem sq_tup (h : H a = some (.tup xs)) : SqT K H a xs := .inl (.inl h)
end
theorem paired_mono {α β : Type} {F G : α → β → Prop} (h : ∀ a b, F a b → G a b) : ∀ {l : List α} {r : List β}, Paired F l r → Paired G l r
  | _, _, .nil => .nil
  | _, _, .cons a b => .cons (h _ _ a) (paired_mono h b)
theorem paired_len {α β : Type} {F : α → β → Prop} {l : List α} {r : List β} (h : Paired F l r) : l.length = r.length := Paired.length h
theorem paired_app {α β : Type} {F : α → β → Prop} : ∀ {l l' : List α} {r r' : List β}, Paired F l r → Paired F l' r' → Paired F (l ++ l') (r ++ r')
  | _, _, _, _, .nil, h => h
  | _, _, _, _, .cons a b, h => .cons a (paired_app b h)
theorem paired_get {α β : Type} {F : α → β → Prop} : ∀ {l : List α} {r : List β} {i : Nat} {y : β}, Paired F l r → r[i]? = some y → ∃ x, l[i]? = some x ∧ F x y
  | _, _, i, _, .nil, e => by simp at e
  | _, _, 0, _, .cons a _, e => by simp at e; subst e; exact ⟨_, rfl, a⟩
  | _, _, i + 1, y, .cons _ b, e => by
    obtain ⟨x, h1, h2⟩ := paired_get (i := i) (y := y) b (by simpa using e)
    exact ⟨x, by simpa using h1, h2⟩
theorem paired_get2 {α β : Type} {F : α → β → Prop} : ∀ {l : List α} {r : List β} {i : Nat} {x : α}, Paired F l r → l[i]? = some x → ∃ y, r[i]? = some y ∧ F x y
  | _, _, i, _, .nil, e => by simp at e
  | _, _, 0, _, .cons a _, e => by simp at e; subst e; exact ⟨_, rfl, a⟩
  | _, _, i + 1, y, .cons _ b, e => by
    obtain ⟨x, h1, h2⟩ := paired_get2 (i := i) (x := y) b (by simpa using e)
    exact ⟨x, by simpa using h1, h2⟩
theorem paired_set {α β : Type} {F : α → β → Prop} {x : α} {y : β} (f : F x y) : ∀ {l : List α} {r : List β} (i : Nat), Paired F l r → Paired F (l.set i x) (r.set i y)
  | _, _, _, .nil => .nil
  | _, _, 0, .cons _ b => .cons f b
  | _, _, i + 1, .cons a b => .cons a (paired_set f i b)
theorem paired_take {α β : Type} {F : α → β → Prop} : ∀ {l : List α} {r : List β} (n : Nat), Paired F l r → Paired F (l.take n) (r.take n)
  | _, _, 0, _ => .nil
  | _, _, _ + 1, .nil => .nil
  | _, _, n + 1, .cons a b => .cons a (paired_take n b)
theorem paired_drop {α β : Type} {F : α → β → Prop} : ∀ {l : List α} {r : List β} (n : Nat), Paired F l r → Paired F (l.drop n) (r.drop n)
  | _, _, 0, h => h
  | _, _, _ + 1, .nil => .nil
  | _, _, n + 1, .cons a b => paired_drop n b

/-! ### data -/
class Rp (α : Type) where
  rep : Fg → Hp → V → α → Prop
  mono : ∀ {K : Fg} {H H' : Hp} {v : V} {x : α}, SF H H' → rep K H v x → rep K H' v x
/-- a triple -/
structure T3 (α β γ : Type) where
  a : α
  b : β
  c : γ
  deriving DecidableEq
instance : Rp Int := ⟨fun _ _ v i => v = .int i, fun _ h => h⟩
instance : Rp Nat := ⟨fun _ _ v i => v = .int (i : Int), fun _ h => h⟩
instance : Rp Bool := ⟨fun _ _ v b => v = .bl b, fun _ h => h⟩
instance : Rp Str := ⟨fun _ _ v b => v = .str b, fun _ h => h⟩
instance : Rp Unit := ⟨fun _ _ v _ => v = .non, fun _ h => h⟩
instance {α β : Type} [Rp α] [Rp β] : Rp (α × β) := ⟨fun K H v p => ∃ a v1 v2, v = .ref a ∧ SqT K H a [v1, v2] ∧ Rp.rep K H v1 p.1 ∧ Rp.rep K H v2 p.2,
  fun e h => by obtain ⟨a, v1, v2, h1, h2, h3, h4⟩ := h; exact ⟨a, v1, v2, h1, sqt_sf e h2, Rp.mono e h3, Rp.mono e h4⟩⟩
instance {α β γ : Type} [Rp α] [Rp β] [Rp γ] : Rp (T3 α β γ) := ⟨fun K H v p => ∃ a v1 v2 v3, v = .ref a ∧ SqT K H a [v1, v2, v3] ∧ Rp.rep K H v1 p.a ∧ Rp.rep K H v2 p.b ∧ Rp.rep K H v3 p.c,
  fun e h => by obtain ⟨a, v1, v2, v3, h1, h2, h3, h4, h5⟩ := h; exact ⟨a, v1, v2, v3, h1, sqt_sf e h2, Rp.mono e h3, Rp.mono e h4, Rp.mono e h5⟩⟩
abbrev RL {α : Type} [Rp α] (K : Fg) (H : Hp) (vs : List V) (l : List α) : Prop := Paired (Rp.rep K H) vs l
theorem RL.mono {α : Type} [Rp α] {K : Fg} {H H' : Hp} {vs : List V} {l : List α} (e : SF H H') (h : RL K H vs l) : RL K H' vs l := paired_mono (fun _ _ => Rp.mono e) h
instance {α : Type} [Rp α] : Rp (List α) := ⟨fun K H v l => ∃ a vs, v = .ref a ∧ Fz H a vs ∧ RL K H vs l,
  fun e h => by obtain ⟨a, vs, h1, h2, h3⟩ := h; exact ⟨a, vs, h1, h2.sf e, h3.mono e⟩⟩
/-- None, or a thing that is not None -/
instance {α : Type} [Rp α] : Rp (Option α) := ⟨fun K H v o => match o with
  | none => v = .non
  | some x => v ≠ .non ∧ Rp.rep K H v x, fun {K H H' v o} e h => by
    cases o with
    | none => exact h
    | some x => exact ⟨h.1, Rp.mono e h.2⟩⟩
instance {α β : Type} [Rp α] [Rp β] : Rp (Sum α β) := ⟨fun K H v o => match o with
  | .inl x => Rp.rep K H v x
  | .inr x => Rp.rep K H v x, fun {K H H' v o} e h => by
    cases o with
    | inl x => exact Rp.mono e h
    | inr x => exact Rp.mono e h⟩
/-- a tuple of any length -/
structure Tp (α : Type) where
  l : List α
  deriving DecidableEq
instance {α : Type} [Rp α] : Rp (Tp α) := ⟨fun K H v t => ∃ a vs, v = .ref a ∧ SqT K H a vs ∧ RL K H vs t.l,
  fun e h => by obtain ⟨a, vs, h1, h2, h3⟩ := h; exact ⟨a, vs, h1, sqt_sf e h2, h3.mono e⟩⟩
section
variable {K : Fg} {H H' : Hp}
theorem rep_int {v : V} {i : Int} : Rp.rep K H v i ↔ v = .int i := Iff.rfl
theorem rl_ints : ∀ {vs : List V} {l : List Int}, RL K H vs l → vs = l.map V.int
  | _, _, .nil => rfl
  | _, _, .cons a b => by rw [List.map_cons, ← rl_ints b, rep_int.mp a]
theorem rl_nats : ∀ {vs : List V} {l : List Nat}, RL K H vs l → vs = (l.map fun n : Nat => (n : Int)).map V.int
  | _, _, .nil => rfl
  | _, _, .cons a b => by
    have e : _ = V.int _ := a
    rw [List.map_cons, List.map_cons, ← rl_nats b, e]
theorem rl_bools : ∀ {vs : List V} {l : List Bool}, RL K H vs l → vs = l.map V.bl
  | _, _, .nil => rfl
  | _, _, .cons a b => by
    have e : _ = V.bl _ := a
    rw [List.map_cons, ← rl_bools b, e]
theorem rl_strs : ∀ {vs : List V} {l : List Str}, RL K H vs l → vs = l.map V.str
  | _, _, .nil => rfl
  | _, _, .cons a b => by
    have e : _ = V.str _ := a
    rw [List.map_cons, ← rl_strs b, e]
theorem rl_of_ints : ∀ (l : List Int), RL K H (l.map V.int) l
  | [] => .nil
  | _ :: r => .cons rfl (rl_of_ints r)
theorem rl_of_nats : ∀ (l : List Nat), RL K H ((l.map fun n : Nat => (n : Int)).map V.int) l
  | [] => .nil
  | _ :: r => .cons rfl (rl_of_nats r)
theorem rl_of_bools : ∀ (l : List Bool), RL K H (l.map V.bl) l
  | [] => .nil
  | _ :: r => .cons rfl (rl_of_bools r)
theorem rl_of_strs : ∀ (l : List Str), RL K H (l.map V.str) l
  | [] => .nil
  | _ :: r => .cons rfl (rl_of_strs r)
end

/-! ### data compared: == of any depth -/
class Rq (α : Type) [Rp α] where
  toD : α → PyData
  dp : ∀ {K : Fg} {H : Hp} {v : V} {x : α}, Rp.rep K H v x → Dp K H v (toD x)
  ok : α → Prop
  dep : Nat
  lay : ∀ x, ok x → (toD x).canLay0 = true
  deep : ∀ x, (toD x).depth ≤ dep
  eqv : ∀ x y : α, PyData.eqv (toD x) (toD y) = true ↔ x = y
class Rt (α : Type) [Rp α] [Rq α] where
  all : ∀ x : α, Rq.ok x
theorem dp_all {α : Type} [Rp α] [Rq α] {K : Fg} {H : Hp} : ∀ {vs : List V} {l : List α}, RL K H vs l → DpAll K H vs (l.map Rq.toD)
  | _, _, .nil => .nil
  | _, _, .cons a b => .cons (Rq.dp a) (dp_all b)
theorem lay_all {α : Type} [Rp α] [Rq α] : ∀ {l : List α}, (∀ x ∈ l, Rq.ok x) → PyData.canLayAll0 (l.map Rq.toD) = true
  | [], _ => rfl
  | x :: r, h => by
    show (PyData.canLay0 (Rq.toD x) && PyData.canLayAll0 (r.map Rq.toD)) = true
    rw [Rq.lay x (h x (List.mem_cons_self ..)), lay_all (l := r) fun y hy => h y (List.mem_cons_of_mem _ hy)]; rfl
theorem deep_all {α : Type} [Rp α] [Rq α] : ∀ {l : List α}, PyData.depthAll (l.map Rq.toD) ≤ Rq.dep α
  | [] => Nat.zero_le _
  | x :: r => by
    show max (PyData.depth (Rq.toD x)) (PyData.depthAll (r.map Rq.toD)) ≤ _
    exact Nat.max_le.mpr ⟨Rq.deep x, deep_all⟩
theorem eqv_all {α : Type} [Rp α] [Rq α] : ∀ {l r : List α}, PyData.eqvAll (l.map Rq.toD) (r.map Rq.toD) = true ↔ l = r
  | [], [] => by simp [PyData.eqvAll]
  | [], _ :: _ => by simp [PyData.eqvAll]
  | _ :: _, [] => by simp [PyData.eqvAll]
  | x :: l, y :: r => by
    show (PyData.eqv (Rq.toD x) (Rq.toD y) && PyData.eqvAll (l.map Rq.toD) (r.map Rq.toD)) = true ↔ _
    rw [Bool.and_eq_true, Rq.eqv, eqv_all, List.cons.injEq]
instance : Rq Int := ⟨.int, fun {K H v x} h => by cases (show v = .int x from h); exact .int _, fun _ => True, 1, fun _ _ => rfl, fun _ => by show PyData.depth _ ≤ 1; simp [PyData.depth], fun x y => by simp [PyData.eqv]⟩
instance : Rq Nat := ⟨fun n => .int (n : Int), fun {K H v x} h => by cases (show v = .int (x : Int) from h); exact .int _, fun _ => True, 1, fun _ _ => rfl, fun _ => by show PyData.depth _ ≤ 1; simp [PyData.depth], fun x y => by simp [PyData.eqv]; omega⟩
instance : Rq Bool := ⟨.bool, fun {K H v x} h => by cases (show v = .bl x from h); exact .bl _, fun _ => True, 1, fun _ _ => rfl, fun _ => by show PyData.depth _ ≤ 1; simp [PyData.depth], fun x y => by simp [PyData.eqv]⟩
instance : Rq Str := ⟨.str, fun {K H v x} h => by cases (show v = .str x from h); exact .str _, fun x => (PyData.str x).canLay0 = true, 1, fun _ h => h, fun _ => by show PyData.depth _ ≤ 1; simp [PyData.depth], fun x y => by simp [PyData.eqv]⟩
instance {α β : Type} [Rp α] [Rp β] [Rq α] [Rq β] : Rq (α × β) := ⟨fun p => .tuple [Rq.toD p.1, Rq.toD p.2], fun {K H v x} h => by
    obtain ⟨a, v1, v2, rfl, h2, h3, h4⟩ := h; exact .tup h2 (.cons (Rq.dp h3) (.cons (Rq.dp h4) .nil)), fun p => Rq.ok p.1 ∧ Rq.ok p.2, max (Rq.dep α) (Rq.dep β) + 1,
  fun p h => by simp [PyData.canLay0, PyData.canLayAll0, Rq.lay p.1 h.1, Rq.lay p.2 h.2],
  fun p => by have := Rq.deep p.1; have := Rq.deep p.2; simp only [PyData.depth, PyData.depthAll]; omega,
  fun p q => by obtain ⟨p1, p2⟩ := p; obtain ⟨q1, q2⟩ := q; simp [PyData.eqv, PyData.eqvAll, Rq.eqv]⟩
instance {α β γ : Type} [Rp α] [Rp β] [Rp γ] [Rq α] [Rq β] [Rq γ] : Rq (T3 α β γ) := ⟨fun p => .tuple [Rq.toD p.a, Rq.toD p.b, Rq.toD p.c], fun {K H v x} h => by
    obtain ⟨a, v1, v2, v3, rfl, h2, h3, h4, h5⟩ := h; exact .tup h2 (.cons (Rq.dp h3) (.cons (Rq.dp h4) (.cons (Rq.dp h5) .nil))), fun p => Rq.ok p.a ∧ Rq.ok p.b ∧ Rq.ok p.c, max (Rq.dep α) (max (Rq.dep β) (Rq.dep γ)) + 1,
  fun p h => by simp [PyData.canLay0, PyData.canLayAll0, Rq.lay p.a h.1, Rq.lay p.b h.2.1, Rq.lay p.c h.2.2],
  fun p => by have := Rq.deep p.a; have := Rq.deep p.b; have := Rq.deep p.c; simp only [PyData.depth, PyData.depthAll]; omega,
  fun p q => by obtain ⟨p1, p2, p3⟩ := p; obtain ⟨q1, q2, q3⟩ := q; simp [PyData.eqv, PyData.eqvAll, Rq.eqv]⟩
instance {α : Type} [Rp α] [Rq α] : Rq (List α) := ⟨fun l => .list (l.map Rq.toD), fun {K H v x} h => by
    obtain ⟨a, vs, rfl, h2, h3⟩ := h; exact .lst h2.seq (dp_all h3), fun l => ∀ x ∈ l, Rq.ok x, Rq.dep α + 1,
  fun p h => by simp only [PyData.canLay0]; exact lay_all h,
  fun p => by have := deep_all (l := p); simp only [PyData.depth]; omega,
  fun p q => by simp only [PyData.eqv]; exact eqv_all⟩
instance {α : Type} [Rp α] [Rq α] : Rq (Tp α) := ⟨fun l => .tuple (l.l.map Rq.toD), fun {K H v x} h => by
    obtain ⟨a, vs, rfl, h2, h3⟩ := h; exact .tup h2 (dp_all h3), fun l => ∀ x ∈ l.l, Rq.ok x, Rq.dep α + 1,
  fun p h => by simp only [PyData.canLay0]; exact lay_all h,
  fun p => by have := deep_all (l := p.l); simp only [PyData.depth]; omega,
  fun p q => by obtain ⟨p⟩ := p; obtain ⟨q⟩ := q; simp only [PyData.eqv, Tp.mk.injEq]; exact eqv_all⟩
instance : Rt Int := ⟨fun _ => trivial⟩
instance : Rt Nat := ⟨fun _ => trivial⟩
instance : Rt Bool := ⟨fun _ => trivial⟩
instance {α β : Type} [Rp α] [Rp β] [Rq α] [Rq β] [Rt α] [Rt β] : Rt (α × β) := ⟨fun p => ⟨Rt.all p.1, Rt.all p.2⟩⟩
instance {α β γ : Type} [Rp α] [Rp β] [Rp γ] [Rq α] [Rq β] [Rq γ] [Rt α] [Rt β] [Rt γ] : Rt (T3 α β γ) := ⟨fun p => ⟨Rt.all p.a, Rt.all p.b, Rt.all p.c⟩⟩
instance {α : Type} [Rp α] [Rq α] [Rt α] : Rt (List α) := ⟨fun _ x _ => Rt.all x⟩
instance {α : Type} [Rp α] [Rq α] [Rt α] : Rt (Tp α) := ⟨fun _ x _ => Rt.all x⟩
theorem shaped_of {α : Type} [Rp α] [Rq α] {x : α} (h : Rq.ok x) (hd : Rq.dep α ≤ 64) : SeqAt.shaped (Rq.toD x) = true := by
  show (PyData.canLay0 (Rq.toD x) && decide (PyData.depth (Rq.toD x) ≤ 64)) = true
  rw [Rq.lay x h, decide_eq_true (Nat.le_trans (Rq.deep x) hd)]; rfl
end BL

set_option Elab.async false
set_option linter.all false
set_option maxRecDepth 100000
set_option maxHeartbeats 2000000
namespace BL
open PySem PySem.Spec PyProof.Rows L2
/-! lists, locked or not, joined and repeated -/
def rCatR : R2 := fun x y H Q => ∃ l b xs zs, x = .ref l ∧ y = .ref b ∧ L2.Rd H l (.lst xs) ∧ L2.Rd H b (.lst zs) ∧ xs.length + zs.length ≤ sizeLine ∧ ∀ p, H p = none → Q (.ref p) (upd H p (.lst (xs ++ zs)))
theorem rd_lst {X : Cx} {pins : List (Addr × Obj)} {σ : L2.St} {H : Hp} {s : Shared} {a : Addr} {xs : List V} (I : Inv X pins σ H s) (h : L2.Rd H a (.lst xs)) :
    xs.length ≤ sizeLine ∧ ∃ (its : List Value) (n : Nat), Vals xs its ∧ xs.length = its.length ∧ s.heap.get? a = some { cls := .type "list", data := .seq its.toArray n } := by
  obtain ⟨z, its, n, r, e⟩ := h.ok I.hok
  exact ⟨z, its, n, r, r.length, e⟩
theorem op_catR {X : Cx} : OpR X (binaryOp .Add) rCatR := by
  intro pins s σ H x y v u Q I rx ry h
  obtain ⟨l, b, xs, zs, rfl, rfl, hH, hB, hz, q⟩ := h
  cases rx
  cases ry
  obtain ⟨z, its, n, r, hl, e⟩ := rd_lst I hH
  obtain ⟨z2, its2, n2, r2, hl2, e2⟩ := rd_lst I hB
  refine PySem.P.add_list e e2 ?_ (by rw [List.size_toArray, List.size_toArray]; omega)
  have ea : its.toArray ++ its2.toArray = (its ++ its2).toArray := by simp
  rw [ea]
  exact ⟨.ref _, _, I.lnew (t' := s.toks) (r.append r2) (by rw [List.length_append]; omega), rfl, q _ I.fresh⟩
/-! ### readings: what an expression gives, all that was tracked kept -/
def Er (K : Fg) (te : TE) (σ : L2.St) (H : Hp) {α : Type} [Rp α] (x : α) : Prop := ∀ H1, Same H H1 → ∀ Q : VK, (∀ v H2, Same H1 H2 → Rp.rep K H2 v x → Q v H2) → te σ H1 Q
/-- a new list, not yet locked -/
def ErL (K : Fg) (te : TE) (σ : L2.St) (H : Hp) {α : Type} [Rp α] (l : List α) : Prop := ∀ H1, Same H H1 → ∀ Q : VK, (∀ p vs H2, Same H1 H2 → H1 p = none → H2 p = some (.lst vs) → RL K H2 vs l → Q (.ref p) H2) → te σ H1 Q
def Et (K : Fg) (tt : TT) (σ : L2.St) (H : Hp) (b : Bool) : Prop := ∀ H1, Same H H1 → ∀ Q : Bool → Hp → Prop, (∀ H2, Same H1 H2 → Q b H2) → tt σ H1 Q
def Ea (K : Fg) (ta : TA) (σ : L2.St) (H : Hp) {α : Type} [Rp α] (l : List α) : Prop := ∀ H1, Same H H1 → ∀ Q : List V → Hp → Prop, (∀ vs H2, Same H1 H2 → RL K H2 vs l → Q vs H2) → ta σ H1 Q
def tFrz (t : TE) : TE := fun σ H Q => t σ H fun v H1 => ∃ a xs, v = .ref a ∧ H1 a = some (.lst xs) ∧ ∀ od, Q v (upd H1 a (.frz od (.lst xs)))
theorem pe_frz {X : Cx} {e : Expr} {t : TE} (h : PE X e t) : PE X e (tFrz t) := ⟨fun pins s σ H Q I q => thn (h.run pins s σ H _ I q) fun u s1 hh => by
  obtain ⟨v, H1, I1, r, a, xs, ev, ha, q⟩ := hh
  obtain ⟨od, I2⟩ := I1.lock ha trivial
  exact ⟨v, _, I2, r, q od⟩⟩
section
variable {K : Fg} {σ : L2.St} {H H' H1 : Hp} {ta tb tc te : TE} {tt uu : TT} {α β γ δ : Type} [Rp α] [Rp β] [Rp γ] [Rp δ] {x : α} {y : β} {z : γ} {v u : V} {r r' : R2} {b c : Bool} {i j : Int}
theorem Er.mono (e : Same H H') (h : Er K te σ H x) : Er K te σ H' x := fun H1 a Q q => h H1 (e.trans a) Q q
theorem Et.mono (e : Same H H') (h : Et K tt σ H b) : Et K tt σ H' b := fun H1 a Q q => h H1 (e.trans a) Q q
theorem Er.to {x' : α} (h : Er K te σ H x) (e : x = x') : Er K te σ H x' := e ▸ h
theorem ErL.to {l l' : List α} (h : ErL K te σ H l) (e : l = l') : ErL K te σ H l' := e ▸ h
theorem Et.to {b' : Bool} (h : Et K tt σ H b) (e : b = b') : Et K tt σ H b' := e ▸ h
theorem er_var {k : Nat} (hv : σ[k]? = some (some v)) (h : Rp.rep K H v x) : Er K (tVar k) σ H x := fun H1 e Q q => ⟨v, hv, q v H1 (Same.refl _) (Rp.mono (SF.of e) h)⟩
/-- a constant -/
theorem er_c (h : ∀ H, Rp.rep K H v x) : Er K (tC v) σ H x := fun H1 _ Q q => q v H1 (Same.refl _) (h H1)
theorem er_int : Er K (tC (.int i)) σ H i := er_c fun _ => rfl
theorem er_str {s : Str} : Er K (tC (.str s)) σ H s := er_c fun _ => rfl
theorem er_bl : Er K (tC (.bl b)) σ H b := er_c fun _ => rfl
theorem er_non : Er K (tC .non) σ H () := er_c fun _ => rfl
/-- a place as a number -/
theorem er_up {n : Nat} (h : Er K te σ H n) : Er K te σ H (n : Int) := h
theorem er_dn {n : Nat} (h : Er K te σ H i) (e : i = (n : Int)) : Er K te σ H n := by subst e; exact h
theorem er_frz {l : List α} (h : ErL K te σ H l) : Er K (tFrz te) σ H l := fun H1 e Q q => h H1 e _ fun p vs H2 e2 hp h2 r =>
  ⟨p, vs, rfl, h2, fun od => q (.ref p) _ (same_mut e2 hp) ⟨p, vs, rfl, ⟨od, upd_same⟩, r.mono (SF.lst h2)⟩⟩
/-! operators by values -/
def R2r (K : Fg) (r : R2) (x : α) (y : β) (z : γ) : Prop := ∀ H v u, Rp.rep K H v x → Rp.rep K H u y → ∀ Q : VK, (∀ w H', Same H H' → Rp.rep K H' w z → Q w H') → r v u H Q
theorem er_op (ha : Er K ta σ H x) (hb : Er K tb σ H y) (hr : R2r K r x y z) : Er K (tOp r ta tb) σ H z := fun H1 e Q q =>
  ha H1 e _ fun v H2 e2 r2 => hb H2 (e.trans e2) _ fun u H3 e3 r3 => hr H3 v u (Rp.mono (SF.of e3) r2) r3 Q fun w H4 e4 r4 => q w H4 ((e2.trans e3).trans e4) r4
theorem rr_add : R2r K (rI0 fun i j => .int (i + j)) i j (i + j) := fun H v u e1 e2 Q q => ⟨i, j, e1, e2, q _ H (Same.refl _) rfl⟩
theorem rr_sub : R2r K (rI0 fun i j => .int (i - j)) i j (i - j) := fun H v u e1 e2 Q q => ⟨i, j, e1, e2, q _ H (Same.refl _) rfl⟩
theorem rr_mul (h : CMul i j) : R2r K (rI CMul fun i j => .int (i * j)) i j (i * j) := fun H v u e1 e2 Q q => ⟨i, j, e1, e2, h, q _ H (Same.refl _) rfl⟩
theorem rr_mulW (h : CMulW i j) : R2r K (rI CMulW fun i j => .int (i * j)) i j (i * j) := fun H v u e1 e2 Q q => ⟨i, j, e1, e2, h, q _ H (Same.refl _) rfl⟩
theorem rr_mod (h : 0 < j) : R2r K (rI (fun _ j => 0 < j) fun i j => .int (i % j)) i j (i % j) := fun H v u e1 e2 Q q => ⟨i, j, e1, e2, h, q _ H (Same.refl _) rfl⟩
theorem rr_div (h : CDiv i j) : R2r K (rI CDiv fun i j => .int (i / j)) i j (i / j) := fun H v u e1 e2 Q q => ⟨i, j, e1, e2, h, q _ H (Same.refl _) rfl⟩
theorem rr_divW (h : CDivW i j) : R2r K (rI CDivW fun i j => .int (i / j)) i j (i / j) := fun H v u e1 e2 Q q => ⟨i, j, e1, e2, h, q _ H (Same.refl _) rfl⟩
theorem rr_pow (h : CPow i j) : R2r K (rI CPow fun i j => .int (i ^ j.toNat)) i j (i ^ j.toNat) := fun H v u e1 e2 Q q => ⟨i, j, e1, e2, h, q _ H (Same.refl _) rfl⟩
theorem rr_lt : R2r K (rI0 fun i j => .bl (decide (i < j))) i j (decide (i < j)) := fun H v u e1 e2 Q q => ⟨i, j, e1, e2, q _ H (Same.refl _) rfl⟩
theorem rr_le : R2r K (rI0 fun i j => .bl (decide (i ≤ j))) i j (decide (i ≤ j)) := fun H v u e1 e2 Q q => ⟨i, j, e1, e2, q _ H (Same.refl _) rfl⟩
theorem rr_gt : R2r K (rI0 fun i j => .bl (decide (j < i))) i j (decide (j < i)) := fun H v u e1 e2 Q q => ⟨i, j, e1, e2, q _ H (Same.refl _) rfl⟩
theorem rr_ge : R2r K (rI0 fun i j => .bl (decide (j ≤ i))) i j (decide (j ≤ i)) := fun H v u e1 e2 Q q => ⟨i, j, e1, e2, q _ H (Same.refl _) rfl⟩
theorem rr_eqI : R2r K rEq i j (decide (i = j)) := fun H v u e1 e2 Q q => by
  cases (show v = .int i from e1); cases (show u = .int j from e2)
  exact ⟨rfl, q _ H (Same.refl _) (by show V.bl _ = V.bl _; simp)⟩
theorem rr_neI : R2r K rNe i j (!decide (i = j)) := fun H v u e1 e2 Q q => by
  cases (show v = .int i from e1); cases (show u = .int j from e2)
  exact ⟨rfl, q _ H (Same.refl _) (by show V.bl _ = V.bl _; simp)⟩
theorem rr_eqB : R2r K rEq b c (decide (b = c)) := fun H v u e1 e2 Q q => by
  cases (show v = .bl b from e1); cases (show u = .bl c from e2)
  exact ⟨rfl, q _ H (Same.refl _) (by show V.bl _ = V.bl _; simp)⟩
theorem rr_neB : R2r K rNe b c (!decide (b = c)) := fun H v u e1 e2 Q q => by
  cases (show v = .bl b from e1); cases (show u = .bl c from e2)
  exact ⟨rfl, q _ H (Same.refl _) (by show V.bl _ = V.bl _; simp)⟩
theorem rr_eqS {s t : Str} : R2r K rEq s t (decide (s = t)) := fun H v u e1 e2 Q q => by
  cases (show v = .str s from e1); cases (show u = .str t from e2)
  exact ⟨rfl, q _ H (Same.refl _) (by show V.bl _ = V.bl _; simp)⟩
theorem rr_neS {s t : Str} : R2r K rNe s t (!decide (s = t)) := fun H v u e1 e2 Q q => by
  cases (show v = .str s from e1); cases (show u = .str t from e2)
  exact ⟨rfl, q _ H (Same.refl _) (by show V.bl _ = V.bl _; simp)⟩
theorem eqv_dec [Rq α] [DecidableEq α] (x y : α) : PyData.eqv (Rq.toD x) (Rq.toD y) = decide (x = y) := by
  by_cases h : x = y
  · rw [(Rq.eqv x y).mpr h, decide_eq_true h]
  · rw [decide_eq_false h]
    cases e : PyData.eqv (Rq.toD x) (Rq.toD y) with
    | false => rfl
    | true => exact absurd ((Rq.eqv x y).mp e) h
theorem rr_eqD [Rq α] [DecidableEq α] {x y : α} (hx : Rq.ok x) (hy : Rq.ok y) (hd : Rq.dep α ≤ 64 := by decide) : R2r K (rEqD K) x y (decide (x = y)) := fun H v u e1 e2 Q q =>
  ⟨_, _, Rq.dp e1, Rq.dp e2, shaped_of hx hd, shaped_of hy hd, by rw [eqv_dec]; exact q _ H (Same.refl _) rfl⟩
theorem rr_neD [Rq α] [DecidableEq α] {x y : α} (hx : Rq.ok x) (hy : Rq.ok y) (hd : Rq.dep α ≤ 64 := by decide) : R2r K (rNeD K) x y (!decide (x = y)) := fun H v u e1 e2 Q q =>
  ⟨_, _, Rq.dp e1, Rq.dp e2, shaped_of hx hd, shaped_of hy hd, by rw [eqv_dec]; exact q _ H (Same.refl _) rfl⟩
theorem rr_eqT [Rq α] [Rt α] [DecidableEq α] {x y : α} (hd : Rq.dep α ≤ 64 := by decide) : R2r K (rEqD K) x y (decide (x = y)) := rr_eqD (Rt.all x) (Rt.all y) hd
theorem rr_neT [Rq α] [Rt α] [DecidableEq α] {x y : α} (hd : Rq.dep α ≤ 64 := by decide) : R2r K (rNeD K) x y (!decide (x = y)) := rr_neD (Rt.all x) (Rt.all y) hd
theorem rr_isB : R2r K (fun x y H Q => ∃ a b : Bool, x = .bl a ∧ y = .bl b ∧ Q (.bl (decide (a = b))) H) b c (decide (b = c)) := fun H v u e1 e2 Q q => ⟨b, c, e1, e2, q _ H (Same.refl _) rfl⟩
theorem rr_notB : R2r K (fun x y H Q => ∃ a b : Bool, x = .bl a ∧ y = .bl b ∧ Q (.bl (!decide (a = b))) H) b c (!decide (b = c)) := fun H v u e1 e2 Q q => ⟨b, c, e1, e2, q _ H (Same.refl _) rfl⟩
/-! items -/
theorem rr_ixL {l : List α} {n : Nat} {x : α} (hx : l[n]? = some x) : R2r K (rIxL K) l (n : Int) x := fun H v u e1 e2 Q q => by
  obtain ⟨a, vs, rfl, h2, h3⟩ := e1
  cases (show u = .int (n : Int) from e2)
  obtain ⟨w, hw, rw⟩ := paired_get h3 hx
  exact ⟨a, vs, n, w, rfl, rfl, h2.seq, atI_nat hw, q w H (Same.refl _) rw⟩
theorem rr_ixI {l : List α} {n : Nat} {x : α} (hi : i = (n : Int)) (hx : l[n]? = some x) : R2r K (rIxL K) l i x := by subst hi; exact rr_ixL hx
theorem rr_ixLast {l : List α} {x : α} (hx : l.getLast? = some x) : R2r K (rIxL K) l (-1 : Int) x := fun H v u e1 e2 Q q => by
  obtain ⟨a, vs, rfl, h2, h3⟩ := e1
  cases (show u = .int (-1) from e2)
  have hn : 0 < l.length := by cases l with
    | nil => cases hx
    | cons _ _ => exact Nat.succ_pos _
  rw [List.getLast?_eq_getElem?] at hx
  obtain ⟨w, hw, rw'⟩ := paired_get h3 hx
  have hl := paired_len h3
  refine ⟨a, vs, -1, w, rfl, rfl, h2.seq, ?_, q w H (Same.refl _) rw'⟩
  rw [← hl] at hw
  unfold atI ixN
  rw [if_neg (by omega), if_pos (by omega)]
  have e : ((-1 : Int) + (vs.length : Int)).toNat = vs.length - 1 := by omega
  rw [e]
  exact hw
theorem rr_ixP0 {p : α × β} : R2r K (rIxT K) p (0 : Int) p.1 := fun H v u e1 e2 Q q => by
  obtain ⟨a, v1, v2, rfl, h2, h3, h4⟩ := e1
  cases (show u = .int 0 from e2)
  exact ⟨a, _, 0, v1, rfl, rfl, h2, atI_nat (j := 0) rfl, q _ H (Same.refl _) h3⟩
theorem rr_ixP1 {p : α × β} : R2r K (rIxT K) p (1 : Int) p.2 := fun H v u e1 e2 Q q => by
  obtain ⟨a, v1, v2, rfl, h2, h3, h4⟩ := e1
  cases (show u = .int 1 from e2)
  exact ⟨a, _, 1, v2, rfl, rfl, h2, atI_nat (j := 1) rfl, q _ H (Same.refl _) h4⟩
theorem rr_ixA {p : T3 α β γ} : R2r K (rIxT K) p (0 : Int) p.a := fun H v u e1 e2 Q q => by
  obtain ⟨a, v1, v2, v3, rfl, h2, h3, h4, h5⟩ := e1
  cases (show u = .int 0 from e2)
  exact ⟨a, _, 0, v1, rfl, rfl, h2, atI_nat (j := 0) rfl, q _ H (Same.refl _) h3⟩
theorem rr_ixB {p : T3 α β γ} : R2r K (rIxT K) p (1 : Int) p.b := fun H v u e1 e2 Q q => by
  obtain ⟨a, v1, v2, v3, rfl, h2, h3, h4, h5⟩ := e1
  cases (show u = .int 1 from e2)
  exact ⟨a, _, 1, v2, rfl, rfl, h2, atI_nat (j := 1) rfl, q _ H (Same.refl _) h4⟩
theorem rr_ixC {p : T3 α β γ} : R2r K (rIxT K) p (2 : Int) p.c := fun H v u e1 e2 Q q => by
  obtain ⟨a, v1, v2, v3, rfl, h2, h3, h4, h5⟩ := e1
  cases (show u = .int 2 from e2)
  exact ⟨a, _, 2, v3, rfl, rfl, h2, atI_nat (j := 2) rfl, q _ H (Same.refl _) h5⟩
/-! one operand -/
theorem er_neg (h : Er K te σ H i) : Er K (tUn (rU fun i => .int (-i)) te) σ H (-i) := fun H1 e Q q => h H1 e _ fun v H2 e2 r => ⟨i, r, q _ H2 e2 rfl⟩
/-! chains, tests -/
theorem er_chain {b b' : Bool} (ha : Er K ta σ H x) (hb : Er K tb σ H y) (hc : Er K tc σ H z) (h1 : R2r K r x y b) (h2 : R2r K r' y z b') : Er K (tChain r r' ta tb tc) σ H (b && b') := fun H1 e Q q =>
  ha H1 e _ fun v H2 e2 r2 => hb H2 (e.trans e2) _ fun u H3 e3 r3 => h1 H3 v u (Rp.mono (SF.of e3) r2) r3 _ fun w H4 e4 r4 => ⟨b, r4, by
    cases b with
    | true =>
      refine iteT ?_
      exact hc H4 (((e.trans e2).trans e3).trans e4) _ fun w' H5 e5 r5 => h2 H5 u w' (Rp.mono (SF.of (e4.trans e5)) r3) r5 Q fun w2 H6 e6 r6 => q w2 H6 ((((e2.trans e3).trans e4).trans e5).trans e6) r6
    | false =>
      refine iteF ?_
      exact q _ H4 ((e2.trans e3).trans e4) rfl⟩
theorem et_test (h : Er K te σ H b) : Et K (tTest te) σ H b := fun H1 e _ q => h H1 e _ fun v H2 e2 r => ⟨b, r, q H2 e2⟩
theorem et_B (h : Er K te σ H b) : Et K (tB te) σ H b := fun H1 e _ q => h H1 e _ fun v H2 e2 r => ⟨b, r, q H2 e2⟩
theorem et_and (h1 : Et K tt σ H b) (h2 : b = true → Et K uu σ H c) : Et K (tAnd tt uu) σ H (b && c) := fun H1 e Q q => h1 H1 e _ fun H2 e2 => by
  cases b with
  | true => exact iteT (h2 rfl H2 (e.trans e2) Q fun H3 e3 => q H3 (e2.trans e3))
  | false => exact iteF (q H2 e2)
theorem et_or (h1 : Et K tt σ H b) (h2 : b = false → Et K uu σ H c) : Et K (tOr tt uu) σ H (b || c) := fun H1 e Q q => h1 H1 e _ fun H2 e2 => by
  cases b with
  | true => exact iteT (q H2 e2)
  | false => exact iteF (h2 rfl H2 (e.trans e2) Q fun H3 e3 => q H3 (e2.trans e3))
theorem et_not (h1 : Et K tt σ H b) : Et K (tNot tt) σ H (!b) := fun H1 e _ q => h1 H1 e _ fun H2 e2 => q H2 e2
theorem et_yes : Et K tYes σ H true := fun H1 e _ q => q H1 (Same.refl _)
theorem er_andV (h1 : Er K ta σ H b) (h2 : b = true → Er K tb σ H c) : Er K (tAndV ta tb) σ H (b && c) := fun H1 e Q q => h1 H1 e _ fun v H2 e2 r => ⟨b, r, by
  cases b with
  | true => exact iteT (h2 rfl H2 (e.trans e2) Q fun v H3 e3 r3 => q v H3 (e2.trans e3) r3)
  | false => exact iteF (q _ H2 e2 rfl)⟩
theorem er_orV (h1 : Er K ta σ H b) (h2 : b = false → Er K tb σ H c) : Er K (tOrV ta tb) σ H (b || c) := fun H1 e Q q => h1 H1 e _ fun v H2 e2 r => ⟨b, r, by
  cases b with
  | true => exact iteT (q _ H2 e2 rfl)
  | false => exact iteF (h2 rfl H2 (e.trans e2) Q fun v H3 e3 r3 => q v H3 (e2.trans e3) r3)⟩
theorem er_notV (h1 : Er K ta σ H b) : Er K (tNotV ta) σ H (!b) := fun H1 e Q q => h1 H1 e _ fun v H2 e2 r => ⟨b, r, q _ H2 e2 rfl⟩
theorem er_if {x' : α} (h : Et K tt σ H b) (h1 : b = true → Er K ta σ H x) (h2 : b = false → Er K tb σ H x') : Er K (tIf tt ta tb) σ H (if b = true then x else x') := fun H1 e Q q => h H1 e _ fun H2 e2 => by
  cases b with
  | true => exact iteT (h1 rfl H2 (e.trans e2) Q fun v H3 e3 r3 => q v H3 (e2.trans e3) (by rw [if_pos rfl]; exact r3))
  | false => exact iteF (h2 rfl H2 (e.trans e2) Q fun v H3 e3 r3 => q v H3 (e2.trans e3) (by rw [if_neg Bool.false_ne_true]; exact r3))
theorem erl_if {l l' : List α} (h : Et K tt σ H b) (h1 : b = true → ErL K ta σ H l) (h2 : b = false → ErL K tb σ H l') : ErL K (tIf tt ta tb) σ H (if b = true then l else l') := fun H1 e Q q => h H1 e _ fun H2 e2 => by
  cases b with
  | true => exact iteT (h1 rfl H2 (e.trans e2) Q fun p vs H3 e3 hp h3 r3 => q p vs H3 (e2.trans e3) (e2.free hp) h3 (by rw [if_pos rfl]; exact r3))
  | false => exact iteF (h2 rfl H2 (e.trans e2) Q fun p vs H3 e3 hp h3 r3 => q p vs H3 (e2.trans e3) (e2.free hp) h3 (by rw [if_neg Bool.false_ne_true]; exact r3))
/-! displays -/
theorem er_pair (h1 : Er K ta σ H x) (h2 : Er K tb σ H y) : Er K (tTup (tCons ta (tCons tb tNil))) σ H (x, y) := fun H1 e Q q =>
  h1 H1 e _ fun v H2 e2 r2 => h2 H2 (e.trans e2) _ fun u H3 e3 r3 => ⟨by show 2 ≤ sizeLine; decide, fun p hp =>
    q (.ref p) _ ((e2.trans e3).trans (same_new hp)) ⟨p, v, u, rfl, sq_tup upd_same, Rp.mono (SF.of (e3.trans (same_new hp))) r2, Rp.mono (SF.new hp) r3⟩⟩
theorem er_three (h1 : Er K ta σ H x) (h2 : Er K tb σ H y) (h3 : Er K tc σ H z) : Er K (tTup (tCons ta (tCons tb (tCons tc tNil)))) σ H (T3.mk x y z) := fun H1 e Q q =>
  h1 H1 e _ fun v H2 e2 r2 => h2 H2 (e.trans e2) _ fun u H3 e3 r3 => h3 H3 ((e.trans e2).trans e3) _ fun w H4 e4 r4 => ⟨by show 3 ≤ sizeLine; decide, fun p hp =>
    q (.ref p) _ (((e2.trans e3).trans e4).trans (same_new hp)) ⟨p, v, u, w, rfl, sq_tup upd_same, Rp.mono (SF.of ((e3.trans e4).trans (same_new hp))) r2, Rp.mono (SF.of (e4.trans (same_new hp))) r3, Rp.mono (SF.new hp) r4⟩⟩
theorem ea_nil : Ea K tNil σ H ([] : List α) := fun H1 _ _ q => q [] H1 (Same.refl _) .nil
theorem ea_cons {tr : TA} {l : List α} (h : Er K ta σ H x) (hr : Ea K tr σ H l) : Ea K (tCons ta tr) σ H (x :: l) := fun H1 e _ q =>
  h H1 e _ fun v H2 e2 r2 => hr H2 (e.trans e2) _ fun vs H3 e3 r3 => q _ H3 (e2.trans e3) (.cons (Rp.mono (SF.of e3) r2) r3)
theorem sz1000 {n : Nat} (h : n ≤ 1000000) : n ≤ sizeLine := Nat.le_trans h (by decide)
theorem erl_lst {t : TA} {l : List α} (h : Ea K t σ H l) (hz : l.length ≤ 1000000 := by first | decide | simp) : ErL K (tLst t) σ H l := fun H1 e Q q =>
  h H1 e _ fun vs H2 e2 r2 => ⟨by rw [paired_len r2]; exact sz1000 hz, fun p hp => q p vs _ (e2.trans (same_new hp)) (e2.free hp) upd_same (r2.mono (SF.new hp))⟩
theorem er_tuple {t : TA} {l : List α} (h : Ea K t σ H l) (hz : l.length ≤ 1000000 := by first | decide | simp) : Er K (tTup t) σ H (Tp.mk l) := fun H1 e Q q =>
  h H1 e _ fun vs H2 e2 r2 => ⟨by rw [paired_len r2]; exact sz1000 hz, fun p hp => q (.ref p) _ (e2.trans (same_new hp)) ⟨p, vs, rfl, sq_tup upd_same, r2.mono (SF.new hp)⟩⟩
theorem erl_cat {l l' : List α} (h1 : Er K ta σ H l) (h2 : Er K tb σ H l') (hz : l.length + l'.length ≤ 1000000) : ErL K (tOp rCatR ta tb) σ H (l ++ l') := fun H1 e Q q =>
  h1 H1 e _ fun v H2 e2 r2 => h2 H2 (e.trans e2) _ fun u H3 e3 r3 => by
    obtain ⟨a, vs, rfl, f1, p1⟩ := Rp.mono (SF.of e3) r2
    obtain ⟨b, us, rfl, f2, p2⟩ := r3
    refine ⟨a, b, vs, us, rfl, rfl, .inr f1, .inr f2, ?_, fun p hp => q p _ _ ((e2.trans e3).trans (same_new hp)) ((e2.trans e3).free hp) upd_same (RL.mono (SF.new hp) (paired_app p1 p2))⟩
    rw [paired_len p1, paired_len p2]; exact sz1000 hz
theorem paired_rep {F : V → α → Prop} {vs : List V} {l : List α} (h : Paired F vs l) : ∀ n : Nat, Paired F (List.replicate n vs).flatten (List.replicate n l).flatten
  | 0 => .nil
  | n + 1 => by
    rw [List.replicate_succ, List.replicate_succ, List.flatten_cons, List.flatten_cons]
    exact paired_app h (paired_rep h n)
theorem erl_rep {l : List α} {k : Int} (h1 : ErL K ta σ H l) (h2 : ∀ H', Same H H' → Er K tb σ H' k) (hk : -1000000 ≤ k ∧ k ≤ 1000000) (hz : l.length * k.toNat ≤ 1000000) : ErL K (tOp rRep ta tb) σ H (List.replicate k.toNat l).flatten := fun H1 e Q q =>
  h1 H1 e _ fun a vs H2 e2 hp h2' p1 => h2 H2 (e.trans e2) H2 (Same.refl _) _ fun u H3 e3 r3 => by
    cases (show u = .int k from r3)
    refine ⟨a, k, vs, rfl, rfl, e3 _ _ h2', by omega, by omega, ?_, fun p hp => q p _ _ ((e2.trans e3).trans (same_new hp)) ((e2.trans e3).free hp) upd_same (RL.mono ((SF.of e3).trans (SF.new hp)) (paired_rep p1 k.toNat))⟩
    rw [paired_len p1]; exact sz1000 hz
end
end BL

set_option Elab.async false
set_option linter.all false
set_option maxRecDepth 100000
set_option maxHeartbeats 2000000
namespace BL
open PySem PySem.Spec PyProof.Rows L2
/-! ### plain functions that the built-ins answer by -/
def mxl : List Int → Int
  | [] => 0
  | [x] => x
  | x :: y :: r => max x (mxl (y :: r))
def mnl : List Int → Int
  | [] => 0
  | [x] => x
  | x :: y :: r => min x (mnl (y :: r))
theorem mxl_mem : ∀ {l : List Int}, l ≠ [] → mxl l ∈ l
  | [x], _ => List.mem_singleton.mpr rfl
  | x :: y :: r, _ => by
    have ih := mxl_mem (l := y :: r) (by simp)
    show max x (mxl (y :: r)) ∈ _
    rcases Int.le_total x (mxl (y :: r)) with h | h
    · rw [Int.max_eq_right h]; exact List.mem_cons_of_mem _ ih
    · rw [Int.max_eq_left h]; exact List.mem_cons_self ..
theorem mxl_le : ∀ {l : List Int} {x : Int}, x ∈ l → x ≤ mxl l
  | [y], x, h => by rw [List.mem_singleton.mp h]; exact Int.le_refl _
  | y :: z :: r, x, h => by
    show x ≤ max y (mxl (z :: r))
    rcases List.mem_cons.mp h with h | h
    · subst h; exact Int.le_max_left ..
    · exact Int.le_trans (mxl_le h) (Int.le_max_right ..)
theorem mnl_mem : ∀ {l : List Int}, l ≠ [] → mnl l ∈ l
  | [x], _ => List.mem_singleton.mpr rfl
  | x :: y :: r, _ => by
    have ih := mnl_mem (l := y :: r) (by simp)
    show min x (mnl (y :: r)) ∈ _
    rcases Int.le_total x (mnl (y :: r)) with h | h
    · rw [Int.min_eq_left h]; exact List.mem_cons_self ..
    · rw [Int.min_eq_right h]; exact List.mem_cons_of_mem _ ih
theorem mnl_le : ∀ {l : List Int} {x : Int}, x ∈ l → mnl l ≤ x
  | [y], x, h => by rw [List.mem_singleton.mp h]; exact Int.le_refl _
  | y :: z :: r, x, h => by
    show min y (mnl (z :: r)) ≤ x
    rcases List.mem_cons.mp h with h | h
    · subst h; exact Int.min_le_left ..
    · exact Int.le_trans (Int.min_le_right ..) (mnl_le h)
theorem mxl_eq {l : List Int} {m : Int} (h1 : m ∈ l) (h2 : ∀ y ∈ l, y ≤ m) : m = mxl l := by
  have h3 := h2 _ (mxl_mem (l := l) (by rintro rfl; cases h1))
  have h4 := mxl_le h1
  omega
theorem mnl_eq {l : List Int} {m : Int} (h1 : m ∈ l) (h2 : ∀ y ∈ l, m ≤ y) : m = mnl l := by
  have h3 := h2 _ (mnl_mem (l := l) (by rintro rfl; cases h1))
  have h4 := mnl_le h1
  omega
/-- sorted, ascending -/
def ins (x : Int) : List Int → List Int
  | [] => [x]
  | y :: r => if x ≤ y then x :: y :: r else y :: ins x r
def srt : List Int → List Int
  | [] => []
  | x :: r => ins x (srt r)
theorem ins_perm (x : Int) : ∀ l : List Int, (ins x l).Perm (x :: l)
  | [] => .refl _
  | y :: r => by
    unfold ins
    split
    · exact .refl _
    · exact ((ins_perm x r).cons y).trans (.swap ..)
theorem srt_perm : ∀ l : List Int, (srt l).Perm l
  | [] => .refl _
  | x :: r => (ins_perm x (srt r)).trans ((srt_perm r).cons x)
theorem ins_sorted (x : Int) : ∀ {l : List Int}, l.Pairwise (· ≤ ·) → (ins x l).Pairwise (· ≤ ·)
  | [], _ => by simp [ins]
  | y :: r, h => by
    obtain ⟨h1, h2⟩ := List.pairwise_cons.mp h
    unfold ins
    split
    · rename_i hxy
      refine List.pairwise_cons.mpr ⟨fun z hz => ?_, h⟩
      rcases List.mem_cons.mp hz with hz | hz
      · subst hz; exact hxy
      · exact Int.le_trans hxy (h1 z hz)
    · rename_i hxy
      refine List.pairwise_cons.mpr ⟨fun z hz => ?_, ins_sorted x h2⟩
      rcases List.mem_cons.mp ((ins_perm x r).mem_iff.mp hz) with hz | hz
      · subst hz; omega
      · exact h1 z hz
theorem srt_sorted : ∀ l : List Int, (srt l).Pairwise (· ≤ ·)
  | [] => .nil
  | x :: r => ins_sorted x (srt_sorted r)
theorem srt_uniq : ∀ {l r : List Int}, l.Perm r → l.Pairwise (· ≤ ·) → r.Pairwise (· ≤ ·) → l = r
  | [], r, h, _, _ => (List.Perm.nil_eq h)
  | x :: l, [], h, _, _ => absurd h.length_eq (by simp)
  | x :: l, y :: r, h, h1, h2 => by
    obtain ⟨a1, a2⟩ := List.pairwise_cons.mp h1
    obtain ⟨b1, b2⟩ := List.pairwise_cons.mp h2
    have e : x = y := by
      have m1 : x ∈ y :: r := h.mem_iff.mp (List.mem_cons_self ..)
      have m2 : y ∈ x :: l := h.mem_iff.mpr (List.mem_cons_self ..)
      have q1 : y ≤ x := by
        rcases List.mem_cons.mp m1 with m | m
        · omega
        · exact b1 x m
      have q2 : x ≤ y := by
        rcases List.mem_cons.mp m2 with m | m
        · omega
        · exact a1 y m
      omega
    subst e
    rw [srt_uniq (List.Perm.cons_inv h) a2 b2]
theorem srt_eq {l r : List Int} (h : l.Perm r) (hs : l.Pairwise (· ≤ ·)) : l = srt r := srt_uniq (h.trans (srt_perm r).symm) hs (srt_sorted r)
theorem srt_len (l : List Int) : (srt l).length = l.length := (srt_perm l).length_eq
def iabs (i : Int) : Int := if i < 0 then -i else i
section
variable {K : Fg} {σ : L2.St} {H H' H1 : Hp} {ta tb tc td te : TE} {tt uu : TT} {α β γ δ : Type} [Rp α] [Rp β] [Rp γ] [Rp δ] {x : α} {y : β} {z : γ} {v u : V} {i j : Int} {b c : Bool}
/-! ### built-ins -/
theorem er_cb1 {r : List V → Hp → VK → Prop} (h : Er K ta σ H x) (hr : ∀ H v, Rp.rep K H v x → ∀ Q : VK, (∀ w H', Same H H' → Rp.rep K H' w y → Q w H') → r [v] H Q) : Er K (tCB r (tCons ta tNil)) σ H y := fun H1 e Q q =>
  h H1 e _ fun v H2 e2 r2 => hr H2 v r2 Q fun w H3 e3 r3 => q w H3 (e2.trans e3) r3
theorem er_cb2 {r : List V → Hp → VK → Prop} (h : Er K ta σ H x) (h' : Er K tb σ H y) (hr : ∀ H v u, Rp.rep K H v x → Rp.rep K H u y → ∀ Q : VK, (∀ w H', Same H H' → Rp.rep K H' w z → Q w H') → r [v, u] H Q) : Er K (tCB r (tCons ta (tCons tb tNil))) σ H z := fun H1 e Q q =>
  h H1 e _ fun v H2 e2 r2 => h' H2 (e.trans e2) _ fun u H3 e3 r3 => hr H3 v u (Rp.mono (SF.of e3) r2) r3 Q fun w H4 e4 r4 => q w H4 ((e2.trans e3).trans e4) r4
theorem erl_cb1 {r : List V → Hp → VK → Prop} {l : List β} (h : Er K ta σ H x) (hr : ∀ H v, Rp.rep K H v x → ∀ Q : VK, (∀ p vs H', Same H H' → H p = none → H' p = some (.lst vs) → RL K H' vs l → Q (.ref p) H') → r [v] H Q) : ErL K (tCB r (tCons ta tNil)) σ H l := fun H1 e Q q =>
  h H1 e _ fun v H2 e2 r2 => hr H2 v r2 Q fun p vs H3 e3 hp h3 r3 => q p vs H3 (e2.trans e3) (e2.free hp) h3 r3
theorem er_sum {l : List Int} (h : Er K ta σ H l) : Er K (tCB (rSum K) (tCons ta tNil)) σ H l.sum := er_cb1 h fun H v r Q q => by
  obtain ⟨a, vs, rfl, h2, h3⟩ := r
  exact ⟨a, l, rfl, by rw [← rl_ints h3]; exact h2.seq, q _ H (Same.refl _) rfl⟩
abbrev rLenC (K : Fg) : List V → Hp → VK → Prop := fun xs H Q => ∃ p ys, xs = [.ref p] ∧ (SqL K H p ys ∨ SqT K H p ys) ∧ Q (.int (ys.length : Int)) H
theorem er_len {l : List α} (h : Er K ta σ H l) : Er K (tCB (rLenC K) (tCons ta tNil)) σ H l.length := er_cb1 h fun H v r Q q => by
  obtain ⟨a, vs, rfl, h2, h3⟩ := r
  exact ⟨a, vs, rfl, .inl h2.seq, by rw [paired_len h3]; exact q _ H (Same.refl _) rfl⟩
theorem er_lenP {p : α × β} (h : Er K ta σ H p) : Er K (tCB (rLenC K) (tCons ta tNil)) σ H (2 : Int) := er_cb1 h fun H v r Q q => by
  obtain ⟨a, v1, v2, rfl, h2, _⟩ := r
  exact ⟨a, _, rfl, .inr h2, q _ H (Same.refl _) rfl⟩
theorem er_lenT {t : Tp α} (h : Er K ta σ H t) : Er K (tCB (rLenC K) (tCons ta tNil)) σ H t.l.length := er_cb1 h fun H v r Q q => by
  obtain ⟨a, vs, rfl, h2, h3⟩ := r
  exact ⟨a, vs, rfl, .inr h2, by rw [paired_len h3]; exact q _ H (Same.refl _) rfl⟩
theorem er_max {l : List Int} (h : Er K ta σ H l) (hn : l ≠ []) : Er K (tCB (rMax K) (tCons ta tNil)) σ H (mxl l) := er_cb1 h fun H v r Q q => by
  obtain ⟨a, vs, rfl, h2, h3⟩ := r
  exact ⟨a, l, rfl, by rw [← rl_ints h3]; exact h2.seq, List.length_pos_iff.mpr hn, fun m h1 h2 => q _ H (Same.refl _) (by rw [← mxl_eq h1 h2]; rfl)⟩
theorem er_min {l : List Int} (h : Er K ta σ H l) (hn : l ≠ []) : Er K (tCB (rMin K) (tCons ta tNil)) σ H (mnl l) := er_cb1 h fun H v r Q q => by
  obtain ⟨a, vs, rfl, h2, h3⟩ := r
  exact ⟨a, l, rfl, by rw [← rl_ints h3]; exact h2.seq, List.length_pos_iff.mpr hn, fun m h1 h2 => q _ H (Same.refl _) (by rw [← mnl_eq h1 h2]; rfl)⟩
abbrev rMax2C : List V → Hp → VK → Prop := fun xs H Q => ∃ i j, xs = [.int i, .int j] ∧ Q (.int (if j > i then j else i)) H
abbrev rMin2C : List V → Hp → VK → Prop := fun xs H Q => ∃ i j, xs = [.int i, .int j] ∧ Q (.int (if j < i then j else i)) H
abbrev rAbsC : List V → Hp → VK → Prop := fun xs H Q => ∃ i, xs = [.int i] ∧ Q (.int (if i < 0 then -i else i)) H
theorem er_max2 (h : Er K ta σ H i) (h' : Er K tb σ H j) : Er K (tCB rMax2C (tCons ta (tCons tb tNil))) σ H (max i j) := er_cb2 h h' fun H v u e1 e2 Q q => by
  cases (show v = .int i from e1); cases (show u = .int j from e2)
  refine ⟨i, j, rfl, q _ H (Same.refl _) (congrArg V.int ?_)⟩
  split <;> omega
theorem er_min2 (h : Er K ta σ H i) (h' : Er K tb σ H j) : Er K (tCB rMin2C (tCons ta (tCons tb tNil))) σ H (min i j) := er_cb2 h h' fun H v u e1 e2 Q q => by
  cases (show v = .int i from e1); cases (show u = .int j from e2)
  refine ⟨i, j, rfl, q _ H (Same.refl _) (congrArg V.int ?_)⟩
  split <;> omega
theorem er_abs (h : Er K ta σ H i) : Er K (tCB rAbsC (tCons ta tNil)) σ H (iabs i) := er_cb1 h fun H v e1 Q q => by
  cases (show v = .int i from e1)
  exact ⟨i, rfl, q _ H (Same.refl _) rfl⟩
theorem erl_sorted {l : List Int} (h : Er K ta σ H l) : ErL K (tCB (rSortedI K) (tCons ta tNil)) σ H (srt l) := erl_cb1 h fun H v r Q q => by
  obtain ⟨a, vs, rfl, h2, h3⟩ := r
  refine ⟨a, l, rfl, by rw [← rl_ints h3]; exact h2.seq, fun ns' p hp hs hn => q p _ _ (same_new hn) hn upd_same ?_⟩
  rw [srt_eq hp hs]; exact rl_of_ints _
theorem er_all {l : List Bool} (h : Er K ta σ H l) : Er K (tCB (rAll K) (tCons ta tNil)) σ H (l.all id) := er_cb1 h fun H v r Q q => by
  obtain ⟨a, vs, rfl, h2, h3⟩ := r
  exact ⟨a, l, rfl, by rw [← rl_bools h3]; exact h2.seq, q _ H (Same.refl _) rfl⟩
theorem er_any {l : List Bool} (h : Er K ta σ H l) : Er K (tCB (rAny K) (tCons ta tNil)) σ H (l.any id) := er_cb1 h fun H v r Q q => by
  obtain ⟨a, vs, rfl, h2, h3⟩ := r
  exact ⟨a, l, rfl, by rw [← rl_bools h3]; exact h2.seq, q _ H (Same.refl _) rfl⟩
abbrev rListC (K : Fg) : List V → Hp → VK → Prop := fun xs H Q => ∃ p ys, xs = [.ref p] ∧ (SqL K H p ys ∨ SqT K H p ys) ∧ ∀ l, H l = none → Q (.ref l) (upd H l (.lst ys))
theorem erl_list {l : List α} (h : Er K ta σ H l) : ErL K (tCB (rListC K) (tCons ta tNil)) σ H l := erl_cb1 h fun H v r Q q => by
  obtain ⟨a, vs, rfl, h2, h3⟩ := r
  exact ⟨a, vs, rfl, .inl h2.seq, fun p hp => q p vs _ (same_new hp) hp upd_same (h3.mono (SF.new hp))⟩
theorem erl_listT {t : Tp α} (h : Er K ta σ H t) : ErL K (tCB (rListC K) (tCons ta tNil)) σ H t.l := erl_cb1 h fun H v r Q q => by
  obtain ⟨a, vs, rfl, h2, h3⟩ := r
  exact ⟨a, vs, rfl, .inr h2, fun p hp => q p vs _ (same_new hp) hp upd_same (h3.mono (SF.new hp))⟩
/-! ### isinstance -/
class Ty (α : Type) [Rp α] where
  n : α → String
  ty : ∀ {K : Fg} {H : Hp} {v : V} {x : α}, Rp.rep K H v x → TyX K H v (.type (n x))
instance : Ty Int := ⟨fun _ => "int", fun {K H v x} h => by cases (show v = .int x from h); exact .base (.int _)⟩
instance : Ty Nat := ⟨fun _ => "int", fun {K H v x} h => by cases (show v = .int (x : Int) from h); exact .base (.int _)⟩
instance : Ty Bool := ⟨fun _ => "bool", fun {K H v x} h => by cases (show v = .bl x from h); exact .base (.bl _)⟩
instance : Ty Str := ⟨fun _ => "str", fun {K H v x} h => by cases (show v = .str x from h); exact .base (.str _)⟩
instance : Ty Unit := ⟨fun _ => "NoneType", fun {K H v x} h => by cases (show v = .non from h); exact .base .non⟩
theorem ty_tup {a : Addr} {vs : List V} (h : SqT K H a vs) : TyX K H (.ref a) (.type "tuple") := by
  rcases h with (h | ⟨o, h⟩) | ⟨o, its, n, h, hc, _⟩
  · exact .base (.tup h)
  · exact .fTuple h
  · exact .kTuple h hc
instance {α : Type} [Rp α] : Ty (List α) := ⟨fun _ => "list", fun {K H v x} h => by obtain ⟨a, vs, rfl, ⟨o, h2⟩, _⟩ := h; exact .base (.frz h2)⟩
instance {α β : Type} [Rp α] [Rp β] : Ty (α × β) := ⟨fun _ => "tuple", fun {K H v x} h => by obtain ⟨a, v1, v2, rfl, h2, _⟩ := h; exact ty_tup h2⟩
instance {α β γ : Type} [Rp α] [Rp β] [Rp γ] : Ty (T3 α β γ) := ⟨fun _ => "tuple", fun {K H v x} h => by obtain ⟨a, v1, v2, v3, rfl, h2, _⟩ := h; exact ty_tup h2⟩
instance {α : Type} [Rp α] : Ty (Tp α) := ⟨fun _ => "tuple", fun {K H v x} h => by obtain ⟨a, vs, rfl, h2, _⟩ := h; exact ty_tup h2⟩
theorem er_isi [Ty α] {s : String} {b : Bool} (h : Er K ta σ H x) (hb : kitB (Ty.n x) s = some b) : Er K (tCB (rIsi K) (tCons ta (tCons (tC (.ty s)) tNil))) σ H b := fun H1 e Q q =>
  h H1 e _ fun v H2 e2 r2 => ⟨v, .ty s, .type (Ty.n x), .type s, b, rfl, .ty s, Ty.ty r2, kit_ty hb, q _ H2 e2 rfl⟩
/-! ### slices -/
theorem paired_cut {F : V → α → Prop} {vs : List V} {l : List α} (h : Paired F vs l) (n m : Nat) : Paired F ((vs.drop n).take m) ((l.drop n).take m) := paired_take m (paired_drop n h)
def Eo (K : Fg) (to : TO) (σ : L2.St) (H : Hp) (o : Option Int) : Prop := ∀ H1, Same H H1 → ∀ Q : Option Int → Hp → Prop, (∀ H2, Same H1 H2 → Q o H2) → to σ H1 Q
theorem eo_none : Eo K tNoPart σ H none := fun H1 _ _ q => q H1 (Same.refl _)
theorem eo_some (h : Er K te σ H i) : Eo K (tPart te) σ H (some i) := fun H1 e _ q => h H1 e _ fun v H2 e2 r => ⟨i, r, q H2 e2⟩
def cutL (l : List α) (lo hi : Option Int) : List α := (l.drop (HT.sIx l.length 0 lo)).take (HT.sIx l.length l.length hi - HT.sIx l.length 0 lo)
theorem erl_sl {tl th : TO} {l : List α} {lo hi : Option Int} (h : Er K te σ H l) (h1 : Eo K tl σ H lo) (h2 : Eo K th σ H hi) : ErL K (tSl (rSlL K) te tl th) σ H (cutL l lo hi) := fun H1 e Q q =>
  h H1 e _ fun v H2 e2 r2 => h1 H2 (e.trans e2) _ fun H3 e3 => h2 H3 ((e.trans e2).trans e3) _ fun H4 e4 => by
    obtain ⟨a, vs, rfl, f, p⟩ := r2
    have f4 : Fz H4 a vs := f.sf (SF.of (e3.trans e4))
    have p4 : RL K H4 vs l := p.mono (SF.of (e3.trans e4))
    refine ⟨a, vs, rfl, f4.seq, fun n hn => q n _ _ (((e2.trans e3).trans e4).trans (same_new hn)) (((e2.trans e3).trans e4).free hn) upd_same ?_⟩
    have hc : RL K H4 (cutV vs lo hi) (cutL l lo hi) := by
      unfold cutV cutL
      rw [paired_len p4]
      exact paired_cut p4 _ _
    exact hc.mono (SF.new hn)
theorem cutL_from (l : List α) (n : Nat) : cutL l (some (n : Int)) none = l.drop n := by
  unfold cutL
  rw [HT.sIx_nat, HT.sIx_none]
  by_cases h : n ≤ l.length
  · rw [Nat.min_eq_left h, List.take_of_length_le (by rw [List.length_drop]; omega)]
  · rw [Nat.min_eq_right (by omega), List.drop_of_length_le (Nat.le_refl _), List.drop_of_length_le (by omega)]; simp
theorem cutL_to (l : List α) (n : Nat) : cutL l none (some (n : Int)) = l.take n := by
  unfold cutL
  rw [HT.sIx_nat, HT.sIx_none, List.drop_zero, Nat.sub_zero]
  by_cases h : n ≤ l.length
  · rw [Nat.min_eq_left h]
  · rw [Nat.min_eq_right (by omega), List.take_of_length_le (Nat.le_refl _), List.take_of_length_le (by omega)]
/-! ### promises: n arguments that stand for data, an answer, all that was tracked kept -/
def ansV (K : Fg) (y : β) (H : Hp) (Q : VK) : Prop := ∀ u H', Same H H' → Rp.rep K H' u y → Q u H'
def ansL (K : Fg) (l : List β) (H : Hp) (Q : VK) : Prop := ∀ p us H', Same H H' → H p = none → H' p = some (.lst us) → RL K H' us l → Q (.ref p) H'
def sp1 (K : Fg) (pre : α → Prop) (f : α → β) : Sp := fun vs H Q _ => ∃ v x, vs = [v] ∧ Rp.rep K H v x ∧ pre x ∧ ansV K (f x) H Q
def sp2 (K : Fg) (pre : α → β → Prop) (f : α → β → γ) : Sp := fun vs H Q _ => ∃ v u x y, vs = [v, u] ∧ Rp.rep K H v x ∧ Rp.rep K H u y ∧ pre x y ∧ ansV K (f x y) H Q
def sp3 (K : Fg) (pre : α → β → γ → Prop) (f : α → β → γ → δ) : Sp := fun vs H Q _ => ∃ v u w x y z, vs = [v, u, w] ∧ Rp.rep K H v x ∧ Rp.rep K H u y ∧ Rp.rep K H w z ∧ pre x y z ∧ ansV K (f x y z) H Q
def sl1 (K : Fg) (pre : α → Prop) (f : α → List β) : Sp := fun vs H Q _ => ∃ v x, vs = [v] ∧ Rp.rep K H v x ∧ pre x ∧ ansL K (f x) H Q
def sl2 (K : Fg) (pre : α → β → Prop) (f : α → β → List γ) : Sp := fun vs H Q _ => ∃ v u x y, vs = [v, u] ∧ Rp.rep K H v x ∧ Rp.rep K H u y ∧ pre x y ∧ ansL K (f x y) H Q
def sl3 (K : Fg) (pre : α → β → γ → Prop) (f : α → β → γ → List δ) : Sp := fun vs H Q _ => ∃ v u w x y z, vs = [v, u, w] ∧ Rp.rep K H v x ∧ Rp.rep K H u y ∧ Rp.rep K H w z ∧ pre x y z ∧ ansL K (f x y z) H Q
theorem er_call1 {pre : α → Prop} {f : α → β} {E : XK} (h : Er K ta σ H x) (hp : pre x) : Er K (tCall (sp1 K pre f) [] E (tCons ta tNil)) σ H (f x) := fun H1 e Q q =>
  h H1 e _ fun v H2 e2 r2 => ⟨v, x, rfl, r2, hp, fun u H3 e3 r3 => q u H3 (e2.trans e3) r3⟩
theorem er_call2 {pre : α → β → Prop} {f : α → β → γ} {E : XK} (h : Er K ta σ H x) (h' : Er K tb σ H y) (hp : pre x y) : Er K (tCall (sp2 K pre f) [] E (tCons ta (tCons tb tNil))) σ H (f x y) := fun H1 e Q q =>
  h H1 e _ fun v H2 e2 r2 => h' H2 (e.trans e2) _ fun u H3 e3 r3 => ⟨v, u, x, y, rfl, Rp.mono (SF.of e3) r2, r3, hp, fun u H4 e4 r4 => q u H4 ((e2.trans e3).trans e4) r4⟩
theorem er_call3 {pre : α → β → γ → Prop} {f : α → β → γ → δ} {E : XK} (h : Er K ta σ H x) (h' : Er K tb σ H y) (h'' : Er K tc σ H z) (hp : pre x y z) : Er K (tCall (sp3 K pre f) [] E (tCons ta (tCons tb (tCons tc tNil)))) σ H (f x y z) := fun H1 e Q q =>
  h H1 e _ fun v H2 e2 r2 => h' H2 (e.trans e2) _ fun u H3 e3 r3 => h'' H3 ((e.trans e2).trans e3) _ fun w H4 e4 r4 =>
    ⟨v, u, w, x, y, z, rfl, Rp.mono (SF.of (e3.trans e4)) r2, Rp.mono (SF.of e4) r3, r4, hp, fun u H5 e5 r5 => q u H5 (((e2.trans e3).trans e4).trans e5) r5⟩
theorem erl_call1 {pre : α → Prop} {f : α → List β} {E : XK} (h : Er K ta σ H x) (hp : pre x) : ErL K (tCall (sl1 K pre f) [] E (tCons ta tNil)) σ H (f x) := fun H1 e Q q =>
  h H1 e _ fun v H2 e2 r2 => ⟨v, x, rfl, r2, hp, fun p us H3 e3 hn h3 r3 => q p us H3 (e2.trans e3) (e2.free hn) h3 r3⟩
theorem erl_call2 {pre : α → β → Prop} {f : α → β → List γ} {E : XK} (h : Er K ta σ H x) (h' : Er K tb σ H y) (hp : pre x y) : ErL K (tCall (sl2 K pre f) [] E (tCons ta (tCons tb tNil))) σ H (f x y) := fun H1 e Q q =>
  h H1 e _ fun v H2 e2 r2 => h' H2 (e.trans e2) _ fun u H3 e3 r3 => ⟨v, u, x, y, rfl, Rp.mono (SF.of e3) r2, r3, hp, fun p us H4 e4 hn h4 r4 => q p us H4 ((e2.trans e3).trans e4) ((e2.trans e3).free hn) h4 r4⟩
theorem erl_call3 {pre : α → β → γ → Prop} {f : α → β → γ → List δ} {E : XK} (h : Er K ta σ H x) (h' : Er K tb σ H y) (h'' : Er K tc σ H z) (hp : pre x y z) : ErL K (tCall (sl3 K pre f) [] E (tCons ta (tCons tb (tCons tc tNil)))) σ H (f x y z) := fun H1 e Q q =>
  h H1 e _ fun v H2 e2 r2 => h' H2 (e.trans e2) _ fun u H3 e3 r3 => h'' H3 ((e.trans e2).trans e3) _ fun w H4 e4 r4 =>
    ⟨v, u, w, x, y, z, rfl, Rp.mono (SF.of (e3.trans e4)) r2, Rp.mono (SF.of e4) r3, r4, hp, fun p us H5 e5 hn h5 r5 => q p us H5 (((e2.trans e3).trans e4).trans e5) (((e2.trans e3).trans e4).free hn) h5 r5⟩
/-! ### statements -/
variable {D : Ends} {tu tw tz : TS} {g : TG}
theorem s_set {k : Nat} (h : Er K te σ H x) (q : ∀ v H1, Same H H1 → Rp.rep K H1 v x → D.nx (σ.set k (some v)) H1) : tAsg te (gName k) D σ H := h H (Same.refl _) _ q
theorem s_setL {k : Nat} {l : List α} (h : ErL K te σ H l) (q : ∀ p vs H1, Same H H1 → H p = none → H1 p = some (.lst vs) → RL K H1 vs l → D.nx (σ.set k (some (.ref p))) H1) : tAsg te (gName k) D σ H := h H (Same.refl _) _ q
theorem q_set {k : Nat} (h : Er K te σ H x) (q : ∀ v H1, Same H H1 → Rp.rep K H1 v x → tz D (σ.set k (some v)) H1) : tSeq (tAsg te (gName k)) tz D σ H := h H (Same.refl _) _ q
theorem q_setL {k : Nat} {l : List α} (h : ErL K te σ H l) (q : ∀ p vs H1, Same H H1 → H p = none → H1 p = some (.lst vs) → RL K H1 vs l → tz D (σ.set k (some (.ref p))) H1) : tSeq (tAsg te (gName k)) tz D σ H := h H (Same.refl _) _ q
theorem s_drop (h : Er K te σ H x) (q : ∀ H1, Same H H1 → D.nx σ H1) : tDrop te D σ H := h H (Same.refl _) _ fun _ H1 e _ => q H1 e
theorem q_drop (h : Er K te σ H x) (q : ∀ H1, Same H H1 → tz D σ H1) : tSeq (tDrop te) tz D σ H := h H (Same.refl _) _ fun _ H1 e _ => q H1 e
theorem s_par {k m : Nat} (h : Er K ta σ H x) (h' : Er K tb σ H y) (q : ∀ v u H1, Same H H1 → Rp.rep K H1 v x → Rp.rep K H1 u y → D.nx ((σ.set k (some v)).set m (some u)) H1) : tPar k m (tCons ta (tCons tb tNil)) D σ H :=
  h H (Same.refl _) _ fun v H1 e r => h' H1 e _ fun u H2 e2 r2 => ⟨v, u, rfl, q v u H2 (e.trans e2) (Rp.mono (SF.of e2) r) r2⟩
theorem q_par {k m : Nat} (h : Er K ta σ H x) (h' : Er K tb σ H y) (q : ∀ v u H1, Same H H1 → Rp.rep K H1 v x → Rp.rep K H1 u y → tz D ((σ.set k (some v)).set m (some u)) H1) : tSeq (tPar k m (tCons ta (tCons tb tNil))) tz D σ H :=
  s_par (D := { D with nx := tz D }) h h' q
theorem tg_pair {p : α × β} {k m : Nat} (h : Rp.rep K H v p) : ∃ v1 v2, Rp.rep K H v1 p.1 ∧ Rp.rep K H v2 p.2 ∧ ∀ Q : L2.St → Hp → Prop, Q ((σ.set k (some v1)).set m (some v2)) H → gTup K 2 (gCons (gName k) (gCons (gName m) gNil)) v σ H Q := by
  obtain ⟨a, v1, v2, rfl, h2, h3, h4⟩ := h
  exact ⟨v1, v2, h3, h4, fun Q q => ⟨a, _, rfl, h2, rfl, v1, _, rfl, v2, _, rfl, rfl, q⟩⟩
theorem tg_three {p : T3 α β γ} {k m n : Nat} (h : Rp.rep K H v p) : ∃ v1 v2 v3, Rp.rep K H v1 p.a ∧ Rp.rep K H v2 p.b ∧ Rp.rep K H v3 p.c ∧ ∀ Q : L2.St → Hp → Prop, Q (((σ.set k (some v1)).set m (some v2)).set n (some v3)) H → gTup K 3 (gCons (gName k) (gCons (gName m) (gCons (gName n) gNil))) v σ H Q := by
  obtain ⟨a, v1, v2, v3, rfl, h2, h3, h4, h5⟩ := h
  exact ⟨v1, v2, v3, h3, h4, h5, fun Q q => ⟨a, _, rfl, h2, rfl, v1, _, rfl, v2, _, rfl, v3, _, rfl, rfl, q⟩⟩
theorem s_unp {p : α × β} {k m : Nat} (h : Er K te σ H p) (q : ∀ v u H1, Same H H1 → Rp.rep K H1 v p.1 → Rp.rep K H1 u p.2 → D.nx ((σ.set k (some v)).set m (some u)) H1) : tAsg te (gTup K 2 (gCons (gName k) (gCons (gName m) gNil))) D σ H :=
  h H (Same.refl _) _ fun v H1 e r => by
    obtain ⟨v1, v2, r1, r2, f⟩ := tg_pair (σ := σ) (k := k) (m := m) r
    exact f _ (q v1 v2 H1 e r1 r2)
theorem q_unp {p : α × β} {k m : Nat} (h : Er K te σ H p) (q : ∀ v u H1, Same H H1 → Rp.rep K H1 v p.1 → Rp.rep K H1 u p.2 → tz D ((σ.set k (some v)).set m (some u)) H1) : tSeq (tAsg te (gTup K 2 (gCons (gName k) (gCons (gName m) gNil)))) tz D σ H :=
  s_unp (D := { D with nx := tz D }) h q
theorem s_ret (h : Er K te σ H x) (q : ∀ v H1, Same H H1 → Rp.rep K H1 v x → D.rt v H1) : tRet te D σ H := h H (Same.refl _) _ q
theorem s_retL {l : List α} (h : ErL K te σ H l) (q : ∀ p vs H1, Same H H1 → H p = none → H1 p = some (.lst vs) → RL K H1 vs l → D.rt (.ref p) H1) : tRet te D σ H := h H (Same.refl _) _ q
theorem s_if (h : Et K tt σ H b) (h1 : b = true → ∀ H1, Same H H1 → tu D σ H1) (h2 : b = false → ∀ H1, Same H H1 → tw D σ H1) : tIfS tt tu tw D σ H := h H (Same.refl _) _ fun H1 e => by
  cases b with
  | true => exact iteT (h1 rfl H1 e)
  | false => exact iteF (h2 rfl H1 e)
theorem q_if (h : Et K tt σ H b) (h1 : b = true → ∀ H1, Same H H1 → tu { D with nx := tz D } σ H1) (h2 : b = false → ∀ H1, Same H H1 → tw { D with nx := tz D } σ H1) : tSeq (tIfS tt tu tw) tz D σ H := s_if (D := { D with nx := tz D }) h h1 h2
theorem q_when (h : Et K tt σ H b) (h1 : b = true → ∀ H1, Same H H1 → tu { D with nx := tz D } σ H1) (h2 : b = false → ∀ H1, Same H H1 → tz D σ H1) : tSeq (tIfS tt tu tNext) tz D σ H := s_if (D := { D with nx := tz D }) h h1 h2
/-- the test is known not to hold -/
theorem q_not (h : Et K tt σ H b) (hb : b = false) (q : ∀ H1, Same H H1 → tz D σ H1) : tSeq (tIfS tt tu tNext) tz D σ H := q_when h (fun e => by rw [hb] at e; cases e) fun _ => q
theorem s_not (h : Et K tt σ H b) (hb : b = false) (q : ∀ H1, Same H H1 → D.nx σ H1) : tIfS tt tu tNext D σ H := s_if h (fun e => by rw [hb] at e; cases e) fun _ => q
/-! lists not locked yet -/
def Un (K : Fg) (H : Hp) (p : Addr) (l : List α) : Prop := ∃ vs, H p = some (.lst vs) ∧ RL K H vs l
theorem Un.of {p : Addr} {vs : List V} {l : List α} (h : H p = some (.lst vs)) (r : RL K H vs l) : Un K H p l := ⟨vs, h, r⟩
theorem Un.mono {p : Addr} {l : List α} (e : Same H H') (h : Un K H p l) : Un K H' p l := by
  obtain ⟨vs, h, r⟩ := h; exact ⟨vs, e _ _ h, r.mono (SF.of e)⟩
/-- from H to H' the list at p alone has changed, new things are there -/
structure Mu (p : Addr) (H H' : Hp) : Prop where
  sf : SF H H'
  ne : ∀ q o, q ≠ p → H q = some o → H' q = some o
theorem Mu.base {p : Addr} {H0 : Hp} (m : Mu p H H') (e : Same H0 H) (h : H0 p = none) : Same H0 H' := fun a o ha => m.ne a o (ne_of_none ha h) (e a o ha)
theorem Mu.trans {p : Addr} {H2 : Hp} (m : Mu p H H') (n : Mu p H' H2) : Mu p H H2 := ⟨m.sf.trans n.sf, fun q o h e => n.ne q o h (m.ne q o h e)⟩
theorem Mu.of {p : Addr} (e : Same H H') : Mu p H H' := ⟨SF.of e, fun q o _ h => e q o h⟩
theorem mu_upd {p : Addr} {vs : List V} {o : HO} (e : Same H H1) (h : H p = some (.lst vs)) : Mu p H (upd H1 p o) := ⟨(SF.of e).trans (SF.lst (e _ _ h)), fun q u n hq => by rw [upd_ne n]; exact e _ _ hq⟩
theorem Un.ne {p q : Addr} {l : List α} (m : Mu p H H') (n : q ≠ p) (h : Un K H q l) : Un K H' q l := by
  obtain ⟨vs, h, r⟩ := h; exact ⟨vs, m.ne _ _ n h, r.mono m.sf⟩
theorem s_app {k : Nat} {p : Addr} {l : List α} (hσ : σ[k]? = some (some (.ref p))) (hu : Un K H p l) (h : Er K te σ H x) (hz : l.length < 1000000) (q : ∀ H2, Mu p H H2 → Un K H2 p (l ++ [x]) → D.nx σ H2) :
    tDrop (tBM K "list" rAppend (tVar k) (tCons te tNil)) D σ H := by
  obtain ⟨vs, hp, r⟩ := hu
  refine ⟨.ref p, hσ, Or.inl ⟨rfl, vs, sq_lst hp⟩, ?_⟩
  refine h H (Same.refl _) _ fun v H2 e2 r2 => ⟨p, vs, v, rfl, rfl, e2 _ _ hp, ?_, q _ (mu_upd e2 hp) ⟨_, upd_same, RL.mono (SF.lst (e2 _ _ hp)) (paired_app (r.mono (SF.of e2)) (.cons r2 .nil))⟩⟩
  rw [paired_len r]; exact Nat.lt_of_lt_of_le hz (by decide)
theorem q_app {k : Nat} {p : Addr} {l : List α} (hσ : σ[k]? = some (some (.ref p))) (hu : Un K H p l) (h : Er K te σ H x) (hz : l.length < 1000000) (q : ∀ H2, Mu p H H2 → Un K H2 p (l ++ [x]) → tz D σ H2) :
    tSeq (tDrop (tBM K "list" rAppend (tVar k) (tCons te tNil))) tz D σ H := s_app (D := { D with nx := tz D }) hσ hu h hz q
theorem s_setI {k : Nat} {p : Addr} {l : List α} {n : Nat} (hσ : σ[k]? = some (some (.ref p))) (hu : Un K H p l) (h : Er K te σ H x) (hi : Er K tb σ H n) (hn : n < l.length) (q : ∀ H2, Mu p H H2 → Un K H2 p (l.set n x) → D.nx σ H2) :
    tAsg te (gSub (tVar k) tb rSetL) D σ H := by
  obtain ⟨vs, hp, r⟩ := hu
  refine h H (Same.refl _) _ fun v H2 e2 r2 => ⟨.ref p, hσ, hi H2 e2 _ fun u H3 e3 r3 => ?_⟩
  cases (show u = .int (n : Int) from r3)
  refine ⟨p, vs, (n : Int), n, rfl, rfl, (e2.trans e3) _ _ hp, ?_, q _ (mu_upd (e2.trans e3) hp) ⟨_, upd_same, RL.mono (SF.lst ((e2.trans e3) _ _ hp)) (paired_set (Rp.mono (SF.of e3) r2) n (r.mono (SF.of (e2.trans e3))))⟩⟩
  rw [paired_len r]
  unfold ixN
  rw [if_pos (by omega), if_pos (by omega)]; simp
theorem q_setI {k : Nat} {p : Addr} {l : List α} {n : Nat} (hσ : σ[k]? = some (some (.ref p))) (hu : Un K H p l) (h : Er K te σ H x) (hi : Er K tb σ H n) (hn : n < l.length) (q : ∀ H2, Mu p H H2 → Un K H2 p (l.set n x) → tz D σ H2) :
    tSeq (tAsg te (gSub (tVar k) tb rSetL)) tz D σ H := s_setI (D := { D with nx := tz D }) hσ hu h hi hn q
theorem er_ixU {k : Nat} {p : Addr} {l : List α} {n : Nat} {x : α} (hσ : σ[k]? = some (some (.ref p))) (hu : Un K H p l) (hi : Er K tb σ H (n : Int)) (hx : l[n]? = some x) : Er K (tOp (rIxL K) (tVar k) tb) σ H x := fun H1 e Q q => by
  obtain ⟨vs, hp, r⟩ := hu
  refine ⟨.ref p, hσ, hi H1 e _ fun u H2 e2 r2 => ?_⟩
  cases (show u = .int (n : Int) from r2)
  obtain ⟨w, hw, rw'⟩ := paired_get r hx
  exact ⟨p, vs, n, w, rfl, rfl, sq_lst ((e.trans e2) _ _ hp), atI_nat hw, q w H2 e2 (Rp.mono (SF.of (e.trans e2)) rw')⟩
theorem er_lenU {k : Nat} {p : Addr} {l : List α} (hσ : σ[k]? = some (some (.ref p))) (hu : Un K H p l) : Er K (tCB (rLenC K) (tCons (tVar k) tNil)) σ H l.length := fun H1 e Q q => by
  obtain ⟨vs, hp, r⟩ := hu
  exact ⟨.ref p, hσ, p, vs, rfl, .inl (sq_lst (e _ _ hp)), by rw [paired_len r]; exact q _ H1 (Same.refl _) rfl⟩
/-- the list in a slot is locked from here on -/
def tFzS (k : Nat) (t : TS) : TS := fun D σ H => ∃ p vs, σ[k]? = some (some (.ref p)) ∧ H p = some (.lst vs) ∧ ∀ od, t D σ (upd H p (.frz od (.lst vs)))
theorem pss_frz {X : Cx} {rest : List Stmt} {t : TS} (k : Nat) (h : PSs X rest t) : PSs X rest (tFzS k t) := ⟨fun pins s σ H D I q => by
  obtain ⟨p, vs, hs, hp, q⟩ := q
  obtain ⟨od, I2⟩ := I.lock hp trivial
  exact h.run pins s σ _ D I2 (q od)⟩
theorem q_frz {k : Nat} {p : Addr} {l : List α} (hσ : σ[k]? = some (some (.ref p))) (hu : Un K H p l) (q : ∀ H2, Mu p H H2 → Rp.rep K H2 (.ref p) l → tz D σ H2) : tFzS k tz D σ H := by
  obtain ⟨vs, hp, r⟩ := hu
  exact ⟨p, vs, hσ, hp, fun od => q _ (mu_upd (Same.refl _) hp) ⟨p, vs, rfl, ⟨od, upd_same⟩, r.mono (SF.lst hp)⟩⟩
theorem s_aug {k : Nat} {f : Int → Int → Int} (hσ : σ[k]? = some (some (.int i))) (h : Er K te σ H j) (q : ∀ H1, Same H H1 → D.nx (σ.set k (some (.int (f i j)))) H1) : tAug k te (ipI f) D σ H :=
  ⟨.int i, hσ, h H (Same.refl _) _ fun v H1 e r => ⟨i, j, rfl, r, q H1 e⟩⟩
theorem q_aug {k : Nat} {f : Int → Int → Int} (hσ : σ[k]? = some (some (.int i))) (h : Er K te σ H j) (q : ∀ H1, Same H H1 → tz D (σ.set k (some (.int (f i j)))) H1) : tSeq (tAug k te (ipI f)) tz D σ H := s_aug (D := { D with nx := tz D }) hσ h q
end
end BL

set_option Elab.async false
set_option linter.all false
set_option maxRecDepth 100000
set_option maxHeartbeats 2000000
namespace BL
open PySem PySem.Spec PyProof.Rows L2
/-! ### what is walked -/
def Src (K : Fg) (wi : TI) (σ : L2.St) (H : Hp) {α : Type} [Rp α] (l : List α) : Prop := ∀ H1, Same H H1 → ∀ RR : It → Hp → Prop,
  (∀ (J : It) (H2 : Hp) (G : Hp → Prop) (Y : Nat → Hp → V → Hp → Prop), Same H1 H2 → Walk J l.length G Y → (∀ H', SF H2 H' → G H') →
    (∀ i x, l[i]? = some x → ∀ H', SF H2 H' → ∀ v H'', Y i H' v H'' → Same H' H'' ∧ Rp.rep K H'' v x) → RR J H2) → wi σ H1 RR
def enumL {α : Type} (l : List α) : List (Nat × α) := (List.range l.length).zip l
def rgI (lo : Int) (n : Nat) : List Int := (List.range n).map fun k : Nat => lo + (k : Int)
section
variable {K : Fg} {σ : L2.St} {H H' H1 : Hp} {ta tb tc td te : TE} {tt uu : TT} {α β γ δ : Type} [Rp α] [Rp β] [Rp γ] [Rp δ] {x : α} {y : β} {z : γ} {v u : V} {i j : Int} {b c : Bool}
theorem src_list {l : List α} (h : Er K te σ H l) : Src K (iList K te) σ H l := fun H1 e RR k => h H1 e _ fun v H2 e2 r => by
  obtain ⟨a, vs, rfl, f, p⟩ := r
  refine ⟨a, rfl, ⟨vs, f.seq⟩, k _ H2 (fun H => SqL K H a vs) (YAt vs) e2 (by rw [← paired_len p]; exact walk_list) (fun H' s => (f.sf s).seq) fun i x hx H' s v H'' y => ?_⟩
  obtain ⟨rfl, hv⟩ := y
  obtain ⟨w, hw, r⟩ := paired_get p hx
  rw [hv] at hw; cases hw
  exact ⟨Same.refl _, Rp.mono s r⟩
theorem src_tup {t : Tp α} (h : Er K te σ H t) : Src K (iTup K te) σ H t.l := fun H1 e RR k => h H1 e _ fun v H2 e2 r => by
  obtain ⟨a, vs, rfl, f, p⟩ := r
  refine ⟨a, rfl, ⟨vs, f⟩, k _ H2 (fun H => SqT K H a vs) (YAt vs) e2 (by rw [← paired_len p]; exact walk_tup) (fun H' s => sqt_sf s f) fun i x hx H' s v H'' y => ?_⟩
  obtain ⟨rfl, hv⟩ := y
  obtain ⟨w, hw, r⟩ := paired_get p hx
  rw [hv] at hw; cases hw
  exact ⟨Same.refl _, Rp.mono s r⟩
theorem src_two {p : α × α} (h : Er K te σ H p) : Src K (iTup K te) σ H [p.1, p.2] := src_tup (t := ⟨[p.1, p.2]⟩) fun H1 e Q q => h H1 e Q fun v H2 e2 r => q v H2 e2 (by
  obtain ⟨a, v1, v2, rfl, h2, h3, h4⟩ := r
  exact ⟨a, _, rfl, h2, .cons h3 (.cons h4 .nil)⟩)
theorem src_range1 {n : Nat} (h : Er K te σ H n) (hz : n ≤ 1000000) : Src K (iRng1 (tCons te tNil)) σ H (List.range n) := fun H1 e RR k => h H1 e _ fun v H2 e2 r => by
  cases (show v = .int (n : Int) from r)
  refine ⟨(n : Int), rfl, by omega, by omega, k _ H2 (fun _ => True) (YFn fun i => .int (0 + i)) e2 ?_ (fun _ _ => trivial) fun i x hx H' s v H'' y => ?_⟩
  · rw [List.length_range, Int.toNat_natCast]; exact walk_range
  · obtain ⟨rfl, rfl⟩ := y
    have hi : i < n := by
      have := (List.getElem?_eq_some_iff.mp hx).1
      rwa [List.length_range] at this
    rw [List.getElem?_range hi] at hx
    cases hx
    exact ⟨Same.refl _, by show V.int _ = V.int _; rw [Int.zero_add]⟩
theorem src_range2 {lo hi : Int} (h : Er K ta σ H lo) (h' : Er K tb σ H hi) (h1 : -1000000 ≤ lo ∧ lo ≤ 1000000) (h2 : -1000000 ≤ hi ∧ hi ≤ 1000000) : Src K (iRng2 (tCons ta (tCons tb tNil))) σ H (rgI lo (hi - lo).toNat) := fun H1 e RR k =>
  h H1 e _ fun v H2 e2 r2 => h' H2 (e.trans e2) _ fun u H3 e3 r3 => by
  cases (show v = .int lo from r2)
  cases (show u = .int hi from r3)
  refine ⟨lo, hi, rfl, ⟨by omega, by omega, by omega, by omega⟩, k _ H3 (fun _ => True) (YFn fun i => .int (lo + i)) (e2.trans e3) ?_ (fun _ _ => trivial) fun i x hx H' s v H'' y => ?_⟩
  · unfold rgI; rw [List.length_map, List.length_range]; exact walk_range
  · obtain ⟨rfl, rfl⟩ := y
    have hi : i < (hi - lo).toNat := by
      have := (List.getElem?_eq_some_iff.mp hx).1
      unfold rgI at this
      rwa [List.length_map, List.length_range] at this
    unfold rgI at hx
    rw [List.getElem?_map, List.getElem?_range hi] at hx
    cases hx
    exact ⟨Same.refl _, rfl⟩
theorem enumL_get {l : List α} {i : Nat} {p : Nat × α} (h : (enumL l)[i]? = some p) : l[i]? = some p.2 ∧ p.1 = i := by
  unfold enumL at h
  rw [List.getElem?_zip_eq_some] at h
  obtain ⟨h1, h2⟩ := h
  have hi : i < l.length := (List.getElem?_eq_some_iff.mp h2).1
  rw [List.getElem?_range hi] at h1
  exact ⟨h2, (Option.some.inj h1).symm⟩
theorem enumL_len (l : List α) : (enumL l).length = l.length := by unfold enumL; rw [List.length_zip, List.length_range, Nat.min_self]
theorem src_enum {l : List α} (h : Er K te σ H l) : Src K (iEnum K (tCons te tNil)) σ H (enumL l) := fun H1 e RR k => h H1 e _ fun v H2 e2 r => by
  obtain ⟨a, vs, rfl, f, p⟩ := r
  refine ⟨a, vs, rfl, f.seq, k _ H2 (fun H => SqL K H a vs) _ e2 (by rw [enumL_len, ← paired_len p]; exact walk_enum) (fun H' s => (f.sf s).seq) fun i x hx H' s v H'' y => ?_⟩
  obtain ⟨T, w1, w2, rfl, hT, rfl, h1, h2⟩ := y
  obtain ⟨g1, g2⟩ := enumL_get hx
  obtain ⟨w, hw, r⟩ := paired_get p g1
  have h2' : vs[i]? = some w2 := h2
  rw [h2'] at hw; cases hw
  refine ⟨same_new hT, T, w1, w2, rfl, sq_tup upd_same, ?_, Rp.mono (s.trans (SF.new hT)) r⟩
  cases h1
  show V.int _ = V.int _
  rw [g2]
theorem src_zip {l : List α} {m : List β} (h : Er K ta σ H l) (h' : Er K tb σ H m) : Src K (iZip K (tCons ta (tCons tb tNil))) σ H (l.zip m) := fun H1 e RR k => h H1 e _ fun v H2 e2 r2 => h' H2 (e.trans e2) _ fun u H3 e3 r3 => by
  obtain ⟨a, vs, rfl, f, p⟩ := r2
  obtain ⟨b, us, rfl, f', p'⟩ := r3
  have f3 := f.sf (SF.of e3)
  have p3 := p.mono (SF.of e3)
  refine ⟨a, b, vs, us, rfl, f3.seq, f'.seq, k _ H3 (fun H => SqL K H a vs ∧ SqL K H b us) _ (e2.trans e3) (walk_zip (by rw [List.length_zip, paired_len p, paired_len p'])) (fun H' s => ⟨(f3.sf s).seq, (f'.sf s).seq⟩) fun i x hx H' s v H'' y => ?_⟩
  obtain ⟨T, w1, w2, rfl, hT, rfl, h1, h2⟩ := y
  rw [List.getElem?_zip_eq_some] at hx
  obtain ⟨w, hw, r⟩ := paired_get p3 hx.1
  obtain ⟨w', hw', r'⟩ := paired_get p' hx.2
  have h1' : vs[i]? = some w1 := h1
  have h2' : us[i]? = some w2 := h2
  rw [h1'] at hw; cases hw
  rw [h2'] at hw'; cases hw'
  exact ⟨same_new hT, T, w1, w2, rfl, sq_tup upd_same, Rp.mono (s.trans (SF.new hT)) r, Rp.mono (s.trans (SF.new hT)) r'⟩
/-! ### for -/
variable {D : Ends} {tu tw tz : TS} {g : TG} {wi : TI}
theorem s_for {l : List α} (hs : Src K wi σ H l) (Pv : Hp → Nat → L2.St → Hp → Prop) (h0 : ∀ H1, Same H H1 → Pv H1 0 σ H1) (hf : ∀ H1 k σ' H', Pv H1 k σ' H' → SF H1 H')
    (turn : ∀ H1 k x σ' H' v H'', Same H H1 → l[k]? = some x → Pv H1 k σ' H' → Same H' H'' → Rp.rep K H'' v x → g v σ' H'' fun σ2 H2 => tu { D with nx := Pv H1 (k + 1), ct := Pv H1 (k + 1), bk := D.nx } σ2 H2)
    (hd : ∀ H1 σ' H', Same H H1 → Pv H1 l.length σ' H' → D.nx σ' H') : tFor wi g tu D σ H := hs H (Same.refl _) _ fun J H2 G Y e2 w hG hY =>
  for_it w (Pv H2) (h0 H2 e2) (fun k σ' H' _ p => hG H' (hf _ _ _ _ p)) (fun k v σ' H' H'' hk p y => by
    obtain ⟨x, hx⟩ : ∃ x, l[k]? = some x := ⟨l[k], List.getElem?_eq_getElem hk⟩
    obtain ⟨s, r⟩ := hY k x hx H' (hf _ _ _ _ p) v H'' y
    exact turn H2 k x σ' H' v H'' e2 hx p s r) fun σ' H' p => hd H2 σ' H' e2 p
theorem q_for {l : List α} (hs : Src K wi σ H l) (Pv : Hp → Nat → L2.St → Hp → Prop) (h0 : ∀ H1, Same H H1 → Pv H1 0 σ H1) (hf : ∀ H1 k σ' H', Pv H1 k σ' H' → SF H1 H')
    (turn : ∀ H1 k x σ' H' v H'', Same H H1 → l[k]? = some x → Pv H1 k σ' H' → Same H' H'' → Rp.rep K H'' v x → g v σ' H'' fun σ2 H2 => tu { D with nx := Pv H1 (k + 1), ct := Pv H1 (k + 1), bk := tz D } σ2 H2)
    (hd : ∀ H1 σ' H', Same H H1 → Pv H1 l.length σ' H' → tz D σ' H') : tSeq (tFor wi g tu) tz D σ H := s_for (D := { D with nx := tz D }) hs Pv h0 hf turn hd
theorem s_while (Pv : L2.St → Hp → Prop) (μ : L2.St → Hp → Nat) (h0 : Pv σ H)
    (hs : ∀ σ' H', Pv σ' H' → ∃ b, Et K tt σ' H' b ∧ (b = true → ∀ H1, Same H' H1 → tu { D with nx := fun σ2 H2 => Pv σ2 H2 ∧ μ σ2 H2 < μ σ' H', ct := fun σ2 H2 => Pv σ2 H2 ∧ μ σ2 H2 < μ σ' H', bk := D.nx } σ' H1) ∧ (b = false → ∀ H1, Same H' H1 → D.nx σ' H1)) : tWhile tt tu D σ H := by
  refine ⟨fun m σ H => m = μ σ H ∧ Pv σ H, ⟨_, rfl, h0⟩, ?_⟩
  rintro m σ' H' ⟨rfl, p⟩
  obtain ⟨b, hb, h1, h2⟩ := hs σ' H' p
  refine hb H' (Same.refl _) _ fun H2 e => ?_
  cases b with
  | true => exact ⟨_, fun σ2 H2 ⟨p', l⟩ => ⟨_, l, rfl, p'⟩, h1 rfl H2 e⟩
  | false => exact h2 rfl H2 e
theorem q_while (Pv : L2.St → Hp → Prop) (μ : L2.St → Hp → Nat) (h0 : Pv σ H)
    (hs : ∀ σ' H', Pv σ' H' → ∃ b, Et K tt σ' H' b ∧ (b = true → ∀ H1, Same H' H1 → tu { D with nx := fun σ2 H2 => Pv σ2 H2 ∧ μ σ2 H2 < μ σ' H', ct := fun σ2 H2 => Pv σ2 H2 ∧ μ σ2 H2 < μ σ' H', bk := tz D } σ' H1) ∧ (b = false → ∀ H1, Same H' H1 → tz D σ' H1)) : tSeq (tWhile tt tu) tz D σ H :=
  s_while (D := { D with nx := tz D }) Pv μ h0 hs
/-! ### comprehensions -/
def mapIf (c : α → Bool) (f : α → β) (l : List α) : List β := (l.filter c).map f
theorem erl_lc {l : List α} {vs : List Nat} {c : α → Bool} {f : α → β} (hs : Src K wi σ H l) (hz : l.length ≤ 1000000)
    (turn : ∀ x, x ∈ l → ∀ v H1, Same H H1 → Rp.rep K H1 v x → ∃ σ2, (∀ Q : L2.St → Hp → Prop, Q σ2 H1 → g v (wipe σ vs) H1 Q) ∧ wipe σ2 vs = wipe σ vs ∧ Et K tt σ2 H1 (c x) ∧ (c x = true → Er K te σ2 H1 (f x))) :
    ErL K (tLc wi g tt te vs) σ H (mapIf c f l) := fun H1 e Q q => hs H1 e _ fun J H2 G Y e2 w hG hY D hD => by
  refine lc_it w (fun k H' => Same H2 H' ∧ ∃ us, H' D = some (.lst us) ∧ RL K H' us (mapIf c f (l.take k))) ⟨same_new hD, [], upd_same, .nil⟩ (fun k H' _ p => hG H' (SF.of p.1)) (fun k v H' H'' hk p y => ?_) fun H' p => ?_
  · obtain ⟨p1, us, p2, p3⟩ := p
    have hx : l[k]? = some l[k] := List.getElem?_eq_getElem hk
    obtain ⟨s, r⟩ := hY k _ hx H' (SF.of p1) v H'' y
    obtain ⟨σ2, hg, hw, ht, he⟩ := turn l[k] (List.mem_of_getElem? hx) v H'' ((e.trans e2).trans (p1.trans s)) r
    refine hg _ ⟨hw, ht H'' (Same.refl _) _ fun H3 e3 => ?_⟩
    have htake : l.take (k + 1) = l.take k ++ [l[k]] := by rw [List.take_add_one, hx]; rfl
    cases hc : c l[k] with
    | true =>
      refine iteT (he hc H3 e3 _ fun w' H4 e4 r4 => ?_)
      have hm : mapIf c f (l.take (k + 1)) = mapIf c f (l.take k) ++ [f l[k]] := by
        unfold mapIf
        rw [htake, List.filter_append, List.map_append]; simp [hc]
      refine ⟨us, (s.trans (e3.trans e4)) _ _ p2, ?_, same_mut (p1.trans (s.trans (e3.trans e4))) hD, us ++ [w'], upd_same, ?_⟩
      · rw [paired_len p3]
        have : (mapIf c f (l.take k)).length ≤ l.length := by
          unfold mapIf
          rw [List.length_map]
          exact Nat.le_trans (List.length_filter_le _ _) (by rw [List.length_take]; exact Nat.min_le_right _ _)
        exact Nat.lt_of_le_of_lt (Nat.le_trans this hz) (by decide)
      · rw [hm]
        exact RL.mono (SF.lst ((s.trans (e3.trans e4)) _ _ p2)) (paired_app (p3.mono (SF.of (s.trans (e3.trans e4)))) (.cons r4 .nil))
    | false =>
      refine iteF ?_
      have hm : mapIf c f (l.take (k + 1)) = mapIf c f (l.take k) := by
        unfold mapIf
        rw [htake, List.filter_append, List.map_append]; simp [hc]
      exact ⟨p1.trans (s.trans e3), us, (s.trans e3) _ _ p2, by rw [hm]; exact p3.mono (SF.of (s.trans e3))⟩
  · obtain ⟨p1, us, p2, p3⟩ := p
    rw [List.take_length] at p3
    exact q D us H' (e2.trans p1) (e2.free hD) p2 p3
/-- for x in ..: one name -/
theorem erl_lc1 {l : List α} {vs : List Nat} {k : Nat} {c : α → Bool} {f : α → β} (hs : Src K wi σ H l) (hz : l.length ≤ 1000000) (hw : ∀ v : V, wipe ((wipe σ vs).set k (some v)) vs = wipe σ vs)
    (turn : ∀ x, x ∈ l → ∀ v H1, Same H H1 → Rp.rep K H1 v x → Et K tt ((wipe σ vs).set k (some v)) H1 (c x) ∧ (c x = true → Er K te ((wipe σ vs).set k (some v)) H1 (f x))) :
    ErL K (tLc wi (gName k) tt te vs) σ H (mapIf c f l) := erl_lc hs hz fun x hx v H1 e r => ⟨_, fun Q q => q, hw v, turn x hx v H1 e r⟩
/-- for x, y in .. -/
theorem erl_lc2 {l : List (α × β)} {vs : List Nat} {k m : Nat} {c : α × β → Bool} {f : α × β → γ} (hs : Src K wi σ H l) (hz : l.length ≤ 1000000) (hw : ∀ v u : V, wipe (((wipe σ vs).set k (some v)).set m (some u)) vs = wipe σ vs)
    (turn : ∀ x, x ∈ l → ∀ v u H1, Same H H1 → Rp.rep K H1 v x.1 → Rp.rep K H1 u x.2 → Et K tt (((wipe σ vs).set k (some v)).set m (some u)) H1 (c x) ∧ (c x = true → Er K te (((wipe σ vs).set k (some v)).set m (some u)) H1 (f x))) :
    ErL K (tLc wi (gTup K 2 (gCons (gName k) (gCons (gName m) gNil))) tt te vs) σ H (mapIf c f l) := erl_lc hs hz fun x hx v H1 e r => by
  obtain ⟨v1, v2, r1, r2, f⟩ := tg_pair (σ := wipe σ vs) (k := k) (m := m) r
  exact ⟨_, f, hw v1 v2, turn x hx v1 v2 H1 e r1 r2⟩
theorem mapIf_all {f : α → β} {l : List α} : mapIf (fun _ => true) f l = l.map f := by unfold mapIf; rw [List.filter_eq_self.mpr fun _ _ => rfl]
/-- no test -/
theorem erl_lm1 {l : List α} {vs : List Nat} {k : Nat} {f : α → β} (hs : Src K wi σ H l) (hz : l.length ≤ 1000000) (hw : ∀ v : V, wipe ((wipe σ vs).set k (some v)) vs = wipe σ vs)
    (turn : ∀ x, x ∈ l → ∀ v H1, Same H H1 → Rp.rep K H1 v x → Er K te ((wipe σ vs).set k (some v)) H1 (f x)) :
    ErL K (tLc wi (gName k) tYes te vs) σ H (l.map f) := (erl_lc1 (c := fun _ => true) hs hz hw fun x hx v H1 e r => ⟨et_yes, fun _ => turn x hx v H1 e r⟩).to mapIf_all
theorem erl_lm2 {l : List (α × β)} {vs : List Nat} {k m : Nat} {f : α × β → γ} (hs : Src K wi σ H l) (hz : l.length ≤ 1000000) (hw : ∀ v u : V, wipe (((wipe σ vs).set k (some v)).set m (some u)) vs = wipe σ vs)
    (turn : ∀ x, x ∈ l → ∀ v u H1, Same H H1 → Rp.rep K H1 v x.1 → Rp.rep K H1 u x.2 → Er K te (((wipe σ vs).set k (some v)).set m (some u)) H1 (f x)) :
    ErL K (tLc wi (gTup K 2 (gCons (gName k) (gCons (gName m) gNil))) tYes te vs) σ H (l.map f) := (erl_lc2 (c := fun _ => true) hs hz hw fun x hx v u H1 e r r' => ⟨et_yes, fun _ => turn x hx v u H1 e r r'⟩).to mapIf_all
end
/-! ### the rules that name the written part, the part given by name (a comprehension's block has the same) -/
section
variable {X : Cx} (K : Fg) (h : X.K = K)
include h
theorem k_ixl : IxR X (rIxL K) := by subst h; exact ix_list
theorem k_ixt : IxR X (rIxT K) := by subst h; exact ix_tup
theorem k_sum (hc : X.calm = true) : CallR X (.builtin "sum") (rSum K) := by subst h; exact cr_sum hc
theorem k_max (hc : X.calm = true) : CallR X (.builtin "max") (rMax K) := by subst h; exact cr_max hc
theorem k_min (hc : X.calm = true) : CallR X (.builtin "min") (rMin K) := by subst h; exact cr_min hc
theorem k_all (hc : X.calm = true) : CallR X (.builtin "all") (rAll K) := by subst h; exact cr_all hc
theorem k_any (hc : X.calm = true) : CallR X (.builtin "any") (rAny K) := by subst h; exact cr_any hc
theorem k_sorted : CallR X (.builtin "sorted") (rSortedI K) := by subst h; exact cr_sortedI
theorem k_len : CallR X (.builtin "len") (rLenC K) := by subst h; exact call_len_seq
theorem k_list : CallR X (.type "list") (rListC K) := by subst h; exact call_list_of
theorem k_isi : CallR X (.builtin "isinstance") (rIsi K) := by subst h; exact call_isi
theorem k_eqD (hu : X.A.units + 64 < cLine) : OpR X (compareOp .Eq) (rEqD K) := by subst h; exact op_eqD hu
theorem k_neD (hu : X.A.units + 64 < cLine) : OpR X (compareOp .NotEq) (rNeD K) := by subst h; exact op_neD hu
theorem k_in : OpR X (compareOp .In) (rIn K false) := by subst h; exact op_in_seq
theorem k_notIn : OpR X (compareOp .NotIn) (rIn K true) := by subst h; exact op_notIn_seq
theorem k_sl : SlR X (rSlL K) := by subst h; exact sl_list
theorem k_pl {tg l : Expr} {tl : TE} (hl : PE X l tl) : PI X tg l (iList K tl) := by subst h; exact pi_list hl
theorem k_pt {tg l : Expr} {tl : TE} (hl : PE X l tl) : PI X tg l (iTup K tl) := by subst h; exact pi_tup hl
theorem k_pe {e : Expr} {ta : TA} {p pos tpos : Pos} {elts : List Expr} {kk : Nat} (hg : Gl X "enumerate") (hm : X.mg "enumerate" = none) (ha : PA X [e] ta) (hs : starEach [e] X.env = [(false, eval e X.env)] := by rfl) :
    PI X (.Tuple elts kk tpos) (.Call (.Name "enumerate" p) [e] [] pos) (iEnum K ta) := by subst h; exact pi_enum hg hm ha hs
theorem k_pz {e e2 : Expr} {ta : TA} {p pos tpos : Pos} {elts : List Expr} {kk : Nat} (hg : Gl X "zip") (hm : X.mg "zip" = none) (ha : PA X [e, e2] ta)
    (hs : starEach [e, e2] X.env = (false, eval e X.env) :: starEach [e2] X.env := by rfl) (hpl : (backTo pos (starEach [e2] X.env)).any (·.1) = false := by rfl) :
    PI X (.Tuple elts kk tpos) (.Call (.Name "zip" p) [e, e2] [] pos) (iZip K ta) := by subst h; exact pi_zip hg hm ha hs hpl
theorem k_gt (n : Nat) {es : List Expr} {k : Nat} {t : TGs} {pos : Pos} (hc : X.calm = true) (hp : PGs X es t)
    (hn : (assignEach es X.env).length = n := by rfl) (hst : (assignEach es X.env).findIdx? (·.1) = none := by rfl) : PG X (.Tuple es k pos) (gTup K n t) := by subst h; exact pg_tup hc hp hn hst
theorem k_app {o e : Expr} {to te : TE} {apos cpos : Pos} (ho : PE X o to) (he : PE X e te)
    (hbase : attributeBase o "append" X.env (eval o X.env) = eval o X.env := by rfl)
    (hfew : ((backTo cpos (starEach [e] X.env)).all (fun x => !x.1) && (backToKw cpos (keywordEach [] X.env)).all (fun x => x.1.isSome)
      && decide ([e].length + ([] : List Keyword).length + (if ([] : List Keyword).isEmpty then 0 else 1) < 30)) = true := by rfl)
    (hline : (apos.endLine == cpos.line) = true := by rfl) (hs : starEach [e] X.env = (false, eval e X.env) :: starEach [] X.env := by rfl) (hplain : (backTo cpos (starEach [] X.env)).any (·.1) = false := by rfl) :
    PE X (.Call (.Attribute o "append" apos) [e] [] cpos) (tBM K "list" rAppend to (tCons te tNil)) := by
  subst h; exact pe_bm PySem.F.plainAttrs_list PySem.F.slot_list_append PySem.F.type_list_append mt_append ho (pa_cons he pa_nil hs) hbase hfew hline hs hplain
end
/-! ### a def by its name -/
def Ok (P : Program) (w : World) (K : Fg) (mg : Str → Option Value) (base : Heap) (CX : CXT) (k : Nat) (x : Str) (ps : List Str) (sp : Sp) : Prop :=
  ∃ f fd, mg x = some (.ref f) ∧ PySem.W.keepIn K (.ref f) = true ∧ Binds K fd ps [] ∧ FnOk P w K mg base CX k f fd ps sp
section
variable {X : Cx} {CX : CXT} {k : Nat} {x : Str} {ps : List Str} {sp : Sp} {E : XK} {t : TA} {e : Expr} {es : List Expr} {p pos : Pos}
theorem pe_fn (G : Ok X.prog X.w X.K X.mg X.base CX k x ps sp) (hr : Room k X.A) (hx : Passes CX X E) (ha : PA X (e :: es) t) (hg : Gl X x := by rfl) (hdb : (x == ("__debug__" : Str)) = false := by decide)
    (he : starEach (e :: es) X.env = (false, eval e X.env) :: starEach es X.env := by rfl) (hpl : (backTo pos (starEach es X.env)).any (·.1) = false := by rfl) : PE X (.Call (.Name x p) (e :: es) [] pos) (tCall sp [] E t) := by
  obtain ⟨f, fd, h1, h2, h3, h4⟩ := G
  exact pe_call h4 hr hg h1 h2 h3 .nil hx ha hdb he hpl
theorem pe_fn0 (G : Ok X.prog X.w X.K X.mg X.base CX k x ps sp) (hr : Room k X.A) (hx : Passes CX X E) (hg : Gl X x := by rfl) (hdb : (x == ("__debug__" : Str)) = false := by decide) : PE X (.Call (.Name x p) [] [] pos) (tCall sp [] E tNil) := by
  obtain ⟨f, fd, h1, h2, h3, h4⟩ := G
  exact pe_call0 h4 hr hg h1 h2 h3 .nil hx hdb
end
theorem Ok.mono {P : Program} {w : World} {K : Fg} {mg : Str → Option Value} {base : Heap} {CX : CXT} {j k : Nat} {x : Str} {ps : List Str} {sp : Sp} (F : Ok P w K mg base CX j x ps sp) (h : j ≤ k) : Ok P w K mg base CX k x ps sp := by
  obtain ⟨f, fd, h1, h2, h3, h4⟩ := F
  exact ⟨f, fd, h1, h2, h3, h4.mono h⟩
/-- a module's number -/
theorem pe_gint {X : Cx} {x : Str} {i : Int} {pos : Pos} (h : ∃ t, X.mg x = some (.int i t)) (hg : Gl X x := by rfl) (hd : (x == ("__debug__" : Str)) = false := by decide) : PE X (.Name x pos) (tC (.int i)) := by
  obtain ⟨t, h⟩ := h
  exact pe_glob hg h ⟨t, rfl⟩ hd
/-- a def of the text: what the head tells -/
def Fd (K : Fg) (mg : Str → Option Value) (x : Str) (st : Stmt) : Prop := ∃ f fd, FunD K x x (defArgs st) (defBody st) (defScope st) [] [] f fd ∧ mg x = some (.ref f)
section
variable {P : Program} {w : World} {K : Fg} {mg : Str → Option Value} {base : Heap}
theorem fnok_of {x : Str} {st : Stmt} {N ps : List Str} {k : Nat} {sp : Sp} {f : Addr} {fd : FuncData} (F : FunD K x x (defArgs st) (defBody st) (defScope st) [] [] f fd) (S : FnScope N ps (defScope st))
    (len : ∀ vs H Q E, sp vs H Q E → vs.length = ps.length)
    (hbody : ∀ (cdv : Value) (A : Around) (outer : List Env) (s : Shared) (H : Hp) (vs : List V) (Q : VK) (E : XK), Room k (A.deeper (envOfC x (defScope st) s.heap.objs.size f cdv)) → sp vs H Q E →
      ∃ t, PSs (cxOf CX0 P w K mg base N x (defScope st) f cdv A outer s H E).nox (defBody st) t ∧ t { nx := fun _ H' => Q .non H', rt := Q } (start N vs) H) : FnOk P w K mg base CX0 (k + 1) f fd ps sp :=
  F.ok S len fun cdv A outer s H vs Q E hr h => by
    obtain ⟨t, h1, h2⟩ := hbody cdv A outer s H vs Q E hr h
    exact ⟨t, PSs.nox h1, h2⟩
/-- a def keeps its promise: its body as a term of rules, and the reading of that term; nothing it raises leaves it -/
theorem ok_of {x : Str} {st : Stmt} {N ps : List Str} {k : Nat} {sp : Sp} (F : Fd K mg x st) (S : FnScope N ps (defScope st))
    (hb : ∀ (kV doc pm : Value) (an : Option Addr) (cdv ct : Value) (us : List Value), us.length = ps.length → bindArgs (PySem.W.fnOf x x (defArgs st) (defBody st) (defScope st) .none kV doc pm an cdv ct) ⟨us, []⟩ = pure (ps.zip us))
    (len : ∀ vs H Q E, sp vs H Q E → vs.length = ps.length)
    (hbody : ∀ (f : Addr) (cdv : Value) (A : Around) (outer : List Env) (s : Shared) (H : Hp) (vs : List V) (Q : VK) (E : XK), Room k (A.deeper (envOfC x (defScope st) s.heap.objs.size f cdv)) → sp vs H Q E →
      ∃ t, PSs (cxOf CX0 P w K mg base N x (defScope st) f cdv A outer s H E).nox (defBody st) t ∧ t { nx := fun _ H' => Q .non H', rt := Q } (start N vs) H) : Ok P w K mg base CX0 (k + 1) x ps sp := by
  obtain ⟨f, fd, F, g⟩ := F
  refine ⟨f, fd, g, F.kp, ?_, F.ok S len fun cdv A outer s H vs Q E hr h => ?_⟩
  · exact F.bindsN hb
  · obtain ⟨t, h1, h2⟩ := hbody f cdv A outer s H vs Q E hr h
    exact ⟨t, PSs.nox h1, h2⟩
end
section
variable {K : Fg} {α β γ δ : Type} [Rp α] [Rp β] [Rp γ] [Rp δ]
theorem len_sp1 {pre : α → Prop} {f : α → β} : ∀ vs H Q E, sp1 K pre f vs H Q E → vs.length = 1 := fun vs H Q E h => by obtain ⟨_, _, rfl, _⟩ := h; rfl
theorem len_sp2 {pre : α → β → Prop} {f : α → β → γ} : ∀ vs H Q E, sp2 K pre f vs H Q E → vs.length = 2 := fun vs H Q E h => by obtain ⟨_, _, _, _, rfl, _⟩ := h; rfl
theorem len_sp3 {pre : α → β → γ → Prop} {f : α → β → γ → δ} : ∀ vs H Q E, sp3 K pre f vs H Q E → vs.length = 3 := fun vs H Q E h => by obtain ⟨_, _, _, _, _, _, rfl, _⟩ := h; rfl
theorem len_sl1 {pre : α → Prop} {f : α → List β} : ∀ vs H Q E, sl1 K pre f vs H Q E → vs.length = 1 := fun vs H Q E h => by obtain ⟨_, _, rfl, _⟩ := h; rfl
theorem len_sl2 {pre : α → β → Prop} {f : α → β → List γ} : ∀ vs H Q E, sl2 K pre f vs H Q E → vs.length = 2 := fun vs H Q E h => by obtain ⟨_, _, _, _, rfl, _⟩ := h; rfl
theorem len_sl3 {pre : α → β → γ → Prop} {f : α → β → γ → List δ} : ∀ vs H Q E, sl3 K pre f vs H Q E → vs.length = 3 := fun vs H Q E h => by obtain ⟨_, _, _, _, _, _, rfl, _⟩ := h; rfl
end
theorem bi1 {x : Str} {a : Arguments} {b : List Stmt} {sc : Scope} {p : Str} (h : ∀ (kV doc pm : Value) (an : Option Addr) (cdv ct u : Value), bindArgs (PySem.W.fnOf x x a b sc .none kV doc pm an cdv ct) ⟨[u], []⟩ = pure [(p, u)]) :
    ∀ (kV doc pm : Value) (an : Option Addr) (cdv ct : Value) (us : List Value), us.length = [p].length → bindArgs (PySem.W.fnOf x x a b sc .none kV doc pm an cdv ct) ⟨us, []⟩ = pure ([p].zip us)
  | kV, doc, pm, an, cdv, ct, [u], _ => h kV doc pm an cdv ct u
theorem bi2 {x : Str} {a : Arguments} {b : List Stmt} {sc : Scope} {p q : Str} (h : ∀ (kV doc pm : Value) (an : Option Addr) (cdv ct u v : Value), bindArgs (PySem.W.fnOf x x a b sc .none kV doc pm an cdv ct) ⟨[u, v], []⟩ = pure [(p, u), (q, v)]) :
    ∀ (kV doc pm : Value) (an : Option Addr) (cdv ct : Value) (us : List Value), us.length = [p, q].length → bindArgs (PySem.W.fnOf x x a b sc .none kV doc pm an cdv ct) ⟨us, []⟩ = pure ([p, q].zip us)
  | kV, doc, pm, an, cdv, ct, [u, v], _ => h kV doc pm an cdv ct u v
theorem bi3 {x : Str} {a : Arguments} {b : List Stmt} {sc : Scope} {p q r : Str} (h : ∀ (kV doc pm : Value) (an : Option Addr) (cdv ct u v w : Value), bindArgs (PySem.W.fnOf x x a b sc .none kV doc pm an cdv ct) ⟨[u, v, w], []⟩ = pure [(p, u), (q, v), (r, w)]) :
    ∀ (kV doc pm : Value) (an : Option Addr) (cdv ct : Value) (us : List Value), us.length = [p, q, r].length → bindArgs (PySem.W.fnOf x x a b sc .none kV doc pm an cdv ct) ⟨us, []⟩ = pure ([p, q, r].zip us)
  | kV, doc, pm, an, cdv, ct, [u, v, w], _ => h kV doc pm an cdv ct u v w
end BL

set_option Elab.async false
set_option linter.all false
set_option maxRecDepth 100000
set_option maxHeartbeats 2000000
namespace BL
open PySem PySem.Spec PyProof.Rows L2
/-! ### draws: the list of numbers at pn and the count, in the list at pd; nothing else changes -/
def Dr (H : Hp) (pd pn : Addr) : Prop := ∃ (ns : List Int) (k : Int), H pd = some (.lst [.ref pn, .int k]) ∧ H pn = some (.lst (ns.map V.int)) ∧ 0 < ns.length ∧ ns.length ≤ 1000 ∧ 0 ≤ k ∧ pd ≠ pn
structure DM (pd pn : Addr) (H H' : Hp) : Prop where
  sf : SF H H'
  ne : ∀ q o, q ≠ pd → q ≠ pn → H q = some o → H' q = some o
section
variable {K : Fg} {σ : L2.St} {H H' H1 : Hp} {pd pn : Addr} {ta tb tc td te : TE} {tt uu : TT} {α β γ δ : Type} [Rp α] [Rp β] [Rp γ] [Rp δ] {x : α} {y : β} {z : γ} {v u : V} {i j : Int} {b c : Bool}
theorem Dr.mono (e : Same H H') (h : Dr H pd pn) : Dr H' pd pn := by
  obtain ⟨ns, k, h1, h2, h3⟩ := h; exact ⟨ns, k, e _ _ h1, e _ _ h2, h3⟩
theorem DM.of (e : Same H H') : DM pd pn H H' := ⟨SF.of e, fun q o _ _ h => e q o h⟩
theorem DM.refl (H : Hp) : DM pd pn H H := DM.of (Same.refl H)
theorem DM.trans {H2 : Hp} (a : DM pd pn H H1) (b : DM pd pn H1 H2) : DM pd pn H H2 := ⟨a.sf.trans b.sf, fun q o n m h => b.ne q o n m (a.ne q o n m h)⟩
theorem Dr.of_mu {p : Addr} (m : Mu p H H') (h1 : pd ≠ p) (h2 : pn ≠ p) (h : Dr H pd pn) : Dr H' pd pn := by
  obtain ⟨ns, k, g1, g2, g3⟩ := h; exact ⟨ns, k, m.ne _ _ h1 g1, m.ne _ _ h2 g2, g3⟩
theorem Dr.pd_ne {p : Addr} (h : Dr H pd pn) (n : H p = none) : pd ≠ p := by obtain ⟨_, _, g1, _⟩ := h; exact ne_of_none g1 n
theorem Dr.pn_ne {p : Addr} (h : Dr H pd pn) (n : H p = none) : pn ≠ p := by obtain ⟨_, _, _, g1, _⟩ := h; exact ne_of_none g1 n
theorem Un.dm {p : Addr} {l : List α} (m : DM pd pn H H') (h1 : p ≠ pd) (h2 : p ≠ pn) (h : Un K H p l) : Un K H' p l := by
  obtain ⟨vs, g, r⟩ := h; exact ⟨vs, m.ne _ _ h1 h2 g, r.mono m.sf⟩
theorem DM.free (m : DM pd pn H H') (dr : Dr H pd pn) {p : Addr} (h : H' p = none) (dr' : Dr H' pd pn) : H p = none := by
  have h1 : p ≠ pd := (dr'.pd_ne h).symm
  have h2 : p ≠ pn := (dr'.pn_ne h).symm
  cases e : H p with
  | none => rfl
  | some o => rw [m.ne p o h1 h2 e] at h; cases h
/-! an expression that may draw: P tells what it can be -/
def Ep (K : Fg) (pd pn : Addr) (te : TE) (σ : L2.St) (H : Hp) {α : Type} [Rp α] (P : α → Prop) : Prop := ∀ H1, DM pd pn H H1 → Dr H1 pd pn → ∀ Q : VK, (∀ v H2 x, DM pd pn H1 H2 → Dr H2 pd pn → P x → Rp.rep K H2 v x → Q v H2) → te σ H1 Q
def EpL (K : Fg) (pd pn : Addr) (te : TE) (σ : L2.St) (H : Hp) {α : Type} [Rp α] (P : List α → Prop) : Prop := ∀ H1, DM pd pn H H1 → Dr H1 pd pn → ∀ Q : VK, (∀ p vs H2 l, DM pd pn H1 H2 → Dr H2 pd pn → P l → H1 p = none → H2 p = some (.lst vs) → RL K H2 vs l → Q (.ref p) H2) → te σ H1 Q
theorem ep_of (h : ∀ H1, DM pd pn H H1 → Er K te σ H1 x) : Ep K pd pn te σ H (fun y => y = x) := fun H1 m dr Q q => h H1 m H1 (Same.refl _) Q fun v H2 e r => q v H2 x (DM.of e) (dr.mono e) rfl r
theorem epl_of {l : List α} (h : ∀ H1, DM pd pn H H1 → ErL K te σ H1 l) : EpL K pd pn te σ H (fun y => y = l) := fun H1 m dr Q q => h H1 m H1 (Same.refl _) Q fun p vs H2 e hp h2 r => q p vs H2 l (DM.of e) (dr.mono e) rfl hp h2 r
theorem dm_frz {p : Addr} {vs : List V} {od : Obj} (m : DM pd pn H H') (dr : Dr H pd pn) (h : H p = none) : DM pd pn H (upd H' p (.frz od (.lst vs))) := ⟨sf_mut m.sf h, fun q o n1 n2 e => by rw [upd_ne (ne_of_none e h)]; exact m.ne q o n1 n2 e⟩
theorem ep_frz {P : List α → Prop} (h : EpL K pd pn te σ H P) : Ep K pd pn (tFrz te) σ H P := fun H1 m dr Q q => h H1 m dr _ fun p vs H2 l m2 dr2 hP hp h2 r => ⟨p, vs, rfl, h2, fun od => by
  have n1 := dr.pd_ne hp
  have n2 := dr.pn_ne hp
  refine q (.ref p) _ l (dm_frz m2 dr hp) ?_ hP ⟨p, vs, rfl, ⟨od, upd_same⟩, RL.mono (SF.lst h2) r⟩
  obtain ⟨ns, k, g1, g2, g3⟩ := dr2
  exact ⟨ns, k, upd_get g1 n1, upd_get g2 n2, g3⟩⟩
theorem ep_op {r : R2} {P : α → Prop} {P2 : α → β → Prop} {f : α → β → γ} (ha : Ep K pd pn ta σ H P) (hb : ∀ x, P x → Ep K pd pn tb σ H (P2 x)) (hr : ∀ x y, P x → P2 x y → R2r K r x y (f x y)) : Ep K pd pn (tOp r ta tb) σ H (fun z => ∃ x y, P x ∧ P2 x y ∧ z = f x y) := fun H1 m dr Q q =>
  ha H1 m dr _ fun v H2 x m2 dr2 hx r2 => hb x hx H2 (m.trans m2) dr2 _ fun u H3 y m3 dr3 hy r3 => hr x y hx hy H3 v u (Rp.mono m3.sf r2) r3 Q fun w H4 e4 r4 => q w H4 _ ((m2.trans m3).trans (DM.of e4)) (dr3.mono e4) ⟨x, y, hx, hy, rfl⟩ r4
theorem ep_pair {P : α → Prop} {P2 : α → β → Prop} (ha : Ep K pd pn ta σ H P) (hb : ∀ x, P x → Ep K pd pn tb σ H (P2 x)) : Ep K pd pn (tTup (tCons ta (tCons tb tNil))) σ H (fun z : α × β => P z.1 ∧ P2 z.1 z.2) := fun H1 m dr Q q =>
  ha H1 m dr _ fun v H2 x m2 dr2 hx r2 => hb x hx H2 (m.trans m2) dr2 _ fun u H3 y m3 dr3 hy r3 => ⟨by show 2 ≤ sizeLine; decide, fun p hp =>
    q (.ref p) _ (x, y) ((m2.trans m3).trans (DM.of (same_new hp))) (dr3.mono (same_new hp)) ⟨hx, hy⟩ ⟨p, v, u, rfl, sq_tup upd_same, Rp.mono (m3.sf.trans (SF.new hp)) r2, Rp.mono (SF.new hp) r3⟩⟩
theorem Ep.imp {P P' : α → Prop} (h : Ep K pd pn te σ H P) (hi : ∀ x, P x → P' x) : Ep K pd pn te σ H P' := fun H1 m dr Q q => h H1 m dr Q fun v H2 x m2 dr2 hx r => q v H2 x m2 dr2 (hi x hx) r
variable {D : Ends} {tu tw tz : TS} {g : TG}
theorem q_setP {k : Nat} {P : α → Prop} (dr : Dr H pd pn) (h : Ep K pd pn te σ H P) (q : ∀ v H1 x, DM pd pn H H1 → Dr H1 pd pn → P x → Rp.rep K H1 v x → tz D (σ.set k (some v)) H1) : tSeq (tAsg te (gName k)) tz D σ H := h H (DM.refl _) dr _ fun v H1 x m d p r => q v H1 x m d p r
theorem q_parP {k n : Nat} {P : α → Prop} {P2 : α → β → Prop} (dr : Dr H pd pn) (h : Ep K pd pn ta σ H P) (h' : ∀ x, P x → Ep K pd pn tb σ H (P2 x)) (q : ∀ v u H1 x y, DM pd pn H H1 → Dr H1 pd pn → P x → P2 x y → Rp.rep K H1 v x → Rp.rep K H1 u y → tz D ((σ.set k (some v)).set n (some u)) H1) :
    tSeq (tPar k n (tCons ta (tCons tb tNil))) tz D σ H := h H (DM.refl _) dr _ fun v H1 x m d p r => h' x p H1 m d _ fun u H2 y m2 d2 p2 r2 => ⟨v, u, rfl, q v u H2 x y (m.trans m2) d2 p p2 (Rp.mono m2.sf r) r2⟩
theorem s_retP {P : α → Prop} (dr : Dr H pd pn) (h : Ep K pd pn te σ H P) (q : ∀ v H1 x, DM pd pn H H1 → Dr H1 pd pn → P x → Rp.rep K H1 v x → D.rt v H1) : tRet te D σ H := h H (DM.refl _) dr _ fun v H1 x m d p r => q v H1 x m d p r
/-! the promises of the draws' defs -/
def spDraw : Sp := fun vs H Q _ => ∃ (pd pn : Addr) (lim : Int), vs = [.ref pd, .int lim] ∧ Dr H pd pn ∧ 0 < lim ∧ lim < 1000000 ∧ ∀ (d : Int) H', 0 ≤ d → d < lim → DM pd pn H H' → Dr H' pd pn → Q (.int d) H'
def spStart (K : Fg) : Sp := fun vs H Q _ => ∃ (a : Addr) (ns : List Int), vs = [.ref a] ∧ SqL K H a (ns.map V.int) ∧ ns.length ≤ 63 ∧ ∀ (pd pn : Addr) H', Same H H' → H pd = none → H pn = none → Dr H' pd pn → Q (.ref pd) H'
def spPick (K : Fg) {α : Type} [Rp α] : Sp := fun vs H Q _ => ∃ (pd pn : Addr) (v : V) (l : List α), vs = [.ref pd, v] ∧ Dr H pd pn ∧ Rp.rep K H v l ∧ 0 < l.length ∧ l.length < 1000000 ∧ ∀ (x : α) u H', x ∈ l → DM pd pn H H' → Dr H' pd pn → Rp.rep K H' u x → Q u H'
/-- a def that draws a list: P of its number tells what comes -/
def spDraws (K : Fg) {α : Type} [Rp α] (pre : Int → Prop) (P : Int → List α → Prop) : Sp := fun vs H Q _ => ∃ (pd pn : Addr) (n : Int), vs = [.ref pd, .int n] ∧ Dr H pd pn ∧ pre n ∧ ∀ p us l H', P n l → DM pd pn H H' → Dr H' pd pn → H p = none → H' p = some (.lst us) → RL K H' us l → Q (.ref p) H'
theorem ep_draw {E : XK} (h : ∀ H1, DM pd pn H H1 → Er K tb σ H1 i) (hσ : ∃ k : Nat, ta = tVar k ∧ σ[k]? = some (some (.ref pd))) (h0 : 0 < i) (h1 : i < 1000000) : Ep K pd pn (tCall spDraw [] E (tCons ta (tCons tb tNil))) σ H (fun d : Int => 0 ≤ d ∧ d < i) := fun H1 m dr Q q => by
  obtain ⟨k, rfl, hk⟩ := hσ
  refine ⟨.ref pd, hk, h H1 m H1 (Same.refl _) _ fun u H2 e r => ?_⟩
  cases (show u = .int i from r)
  exact ⟨pd, pn, i, rfl, dr.mono e, h0, h1, fun d H3 a b m3 d3 => q (.int d) H3 d ((DM.of e).trans m3) d3 ⟨a, b⟩ rfl⟩
theorem ep_pick {E : XK} {l : List α} (h : ∀ H1, DM pd pn H H1 → Er K tb σ H1 l) (hσ : ∃ k : Nat, ta = tVar k ∧ σ[k]? = some (some (.ref pd))) (h0 : 0 < l.length) (h1 : l.length < 1000000) : Ep K pd pn (tCall (spPick K (α := α)) [] E (tCons ta (tCons tb tNil))) σ H (fun x => x ∈ l) := fun H1 m dr Q q => by
  obtain ⟨k, rfl, hk⟩ := hσ
  refine ⟨.ref pd, hk, h H1 m H1 (Same.refl _) _ fun u H2 e r => ?_⟩
  exact ⟨pd, pn, u, l, rfl, dr.mono e, r, h0, h1, fun x w H3 a m3 d3 r3 => q w H3 x ((DM.of e).trans m3) d3 a r3⟩
/-- .. the list's items drawn too -/
theorem ep_pickP {E : XK} {P : List α → Prop} (h : Ep K pd pn tb σ H P) (hσ : ∃ k : Nat, ta = tVar k ∧ σ[k]? = some (some (.ref pd))) (h0 : ∀ l, P l → 0 < l.length ∧ l.length < 1000000) : Ep K pd pn (tCall (spPick K (α := α)) [] E (tCons ta (tCons tb tNil))) σ H (fun x => ∃ l, P l ∧ x ∈ l) := fun H1 m dr Q q => by
  obtain ⟨k, rfl, hk⟩ := hσ
  refine ⟨.ref pd, hk, h H1 m dr _ fun u H2 l m2 d2 hl r => ?_⟩
  exact ⟨pd, pn, u, l, rfl, d2, r, (h0 l hl).1, (h0 l hl).2, fun x w H3 a m3 d3 r3 => q w H3 x (m2.trans m3) d3 ⟨l, hl, a⟩ r3⟩
theorem epl_draws {E : XK} {pre : Int → Prop} {P : Int → List α → Prop} (h : ∀ H1, DM pd pn H H1 → Er K tb σ H1 i) (hσ : ∃ k : Nat, ta = tVar k ∧ σ[k]? = some (some (.ref pd))) (hp : pre i) : EpL K pd pn (tCall (spDraws K pre P) [] E (tCons ta (tCons tb tNil))) σ H (P i) := fun H1 m dr Q q => by
  obtain ⟨k, rfl, hk⟩ := hσ
  refine ⟨.ref pd, hk, h H1 m H1 (Same.refl _) _ fun u H2 e r => ?_⟩
  cases (show u = .int i from r)
  exact ⟨pd, pn, i, rfl, dr.mono e, hp, fun p us l H3 hl m3 d3 hn h3 r3 => q p us H3 l ((DM.of e).trans m3) d3 hl (e.free hn) h3 r3⟩
theorem s_appP {k : Nat} {p : Addr} {l : List α} {P : α → Prop} (dr : Dr H pd pn) (hσ : σ[k]? = some (some (.ref p))) (hu : Un K H p l) (n1 : p ≠ pd) (n2 : p ≠ pn) (h : Ep K pd pn te σ H P) (hz : l.length < 1000000)
    (q : ∀ H2 x, (∀ H0, DM pd pn H0 H → H0 p = none → DM pd pn H0 H2) → Dr H2 pd pn → P x → Un K H2 p (l ++ [x]) → D.nx σ H2) : tDrop (tBM K "list" rAppend (tVar k) (tCons te tNil)) D σ H := by
  obtain ⟨vs, hp, r⟩ := hu
  refine ⟨.ref p, hσ, Or.inl ⟨rfl, vs, sq_lst hp⟩, ?_⟩
  refine h H (DM.refl _) dr _ fun v H2 x m2 d2 hx r2 => ⟨p, vs, v, rfl, rfl, m2.ne _ _ n1 n2 hp, ?_, q _ x (fun H0 m0 h0 => ?_) ?_ hx ⟨_, upd_same, RL.mono (SF.lst (m2.ne _ _ n1 n2 hp)) (paired_app (r.mono m2.sf) (.cons r2 .nil))⟩⟩
  · rw [paired_len r]; exact Nat.lt_of_lt_of_le hz (by decide)
  · exact ⟨sf_mut (m0.sf.trans m2.sf) h0, fun q o a b e => by rw [upd_ne (ne_of_none e h0)]; exact (m0.trans m2).ne q o a b e⟩
  · obtain ⟨ns, k, g1, g2, g3⟩ := d2
    exact ⟨ns, k, upd_get g1 n1.symm, upd_get g2 n2.symm, g3⟩
theorem q_appP {k : Nat} {p : Addr} {l : List α} {P : α → Prop} (dr : Dr H pd pn) (hσ : σ[k]? = some (some (.ref p))) (hu : Un K H p l) (n1 : p ≠ pd) (n2 : p ≠ pn) (h : Ep K pd pn te σ H P) (hz : l.length < 1000000)
    (q : ∀ H2 x, (∀ H0, DM pd pn H0 H → H0 p = none → DM pd pn H0 H2) → Dr H2 pd pn → P x → Un K H2 p (l ++ [x]) → tz D σ H2) : tSeq (tDrop (tBM K "list" rAppend (tVar k) (tCons te tNil))) tz D σ H := s_appP (D := { D with nx := tz D }) dr hσ hu n1 n2 h hz q
/-- for k in range(e), e drawn -/
theorem s_forR {k : Nat} {P : Int → Prop} (dr : Dr H pd pn) (h : Ep K pd pn te σ H P) (hz : ∀ x, P x → -1000000 ≤ x ∧ x ≤ 1000000) (Pv : Int → Nat → L2.St → Hp → Prop) (h0 : ∀ x H1, DM pd pn H H1 → Dr H1 pd pn → P x → Pv x 0 σ H1)
    (turn : ∀ (x : Int) (i : Nat) σ' H', P x → (i : Int) < x → Pv x i σ' H' → tu { D with nx := Pv x (i + 1), ct := Pv x (i + 1), bk := D.nx } (σ'.set k (some (.int (i : Int)))) H') (hd : ∀ x σ' H', P x → Pv x x.toNat σ' H' → D.nx σ' H') : tFor (iRng1 (tCons te tNil)) (gName k) tu D σ H :=
  h H (DM.refl _) dr _ fun v H1 x m d hx r => by
    cases (show v = .int x from r)
    refine ⟨x, rfl, by have := hz x hx; omega, by have := hz x hx; omega, for_range (lo := 0) (n := x.toNat) (Pv x) (h0 x H1 m d hx) (fun i σ' H' hi p => ?_) fun σ' H' p => hd x σ' H' hx p⟩
    have e : (0 : Int) + (i : Int) = (i : Int) := Int.zero_add _
    show tu { D with nx := Pv x (i + 1), ct := Pv x (i + 1), bk := D.nx } (σ'.set k (some (.int ((0 : Int) + (i : Int))))) H'
    rw [e]
    exact turn x i σ' H' hx (by omega) p
theorem q_forR {k : Nat} {P : Int → Prop} (dr : Dr H pd pn) (h : Ep K pd pn te σ H P) (hz : ∀ x, P x → -1000000 ≤ x ∧ x ≤ 1000000) (Pv : Int → Nat → L2.St → Hp → Prop) (h0 : ∀ x H1, DM pd pn H H1 → Dr H1 pd pn → P x → Pv x 0 σ H1)
    (turn : ∀ (x : Int) (i : Nat) σ' H', P x → (i : Int) < x → Pv x i σ' H' → tu { D with nx := Pv x (i + 1), ct := Pv x (i + 1), bk := tz D } (σ'.set k (some (.int (i : Int)))) H') (hd : ∀ x σ' H', P x → Pv x x.toNat σ' H' → tz D σ' H') : tSeq (tFor (iRng1 (tCons te tNil)) (gName k) tu) tz D σ H :=
  s_forR (D := { D with nx := tz D }) dr h hz Pv h0 turn hd
theorem epl_lst2 {P : α → Prop} {P2 : α → α → Prop} (ha : Ep K pd pn ta σ H P) (hb : ∀ x, P x → Ep K pd pn tb σ H (P2 x)) : EpL K pd pn (tLst (tCons ta (tCons tb tNil))) σ H (fun l => ∃ x y, P x ∧ P2 x y ∧ l = [x, y]) := fun H1 m dr Q q =>
  ha H1 m dr _ fun v H2 x m2 dr2 hx r2 => hb x hx H2 (m.trans m2) dr2 _ fun u H3 y m3 dr3 hy r3 => ⟨by show 2 ≤ sizeLine; decide, fun p hp =>
    q p _ _ [x, y] ((m2.trans m3).trans (DM.of (same_new hp))) (dr3.mono (same_new hp)) ⟨x, y, hx, hy, rfl⟩ ((m2.trans m3).free dr hp dr3) upd_same (.cons (Rp.mono (m3.sf.trans (SF.new hp)) r2) (.cons (Rp.mono (SF.new hp) r3) .nil))⟩
/-- the law's own promise -/
def spLaw (K : Fg) : Sp := fun vs H Q _ => ∃ (a : Addr) (ns : List Int), vs = [.ref a] ∧ SqL K H a (ns.map V.int) ∧ ns.length ≤ 63 ∧ ∀ H', Q (.bl true) H'
theorem len_law : ∀ vs H Q E, spLaw K vs H Q E → vs.length = 1 := fun vs H Q E h => by obtain ⟨_, _, rfl, _⟩ := h; rfl
/-- _law_draws = _law_start(_law_script) -/
theorem q_start {k m : Nat} {E : XK} {a : Addr} {ns : List Int} (hσ : σ[m]? = some (some (.ref a))) (hs : SqL K H a (ns.map V.int)) (hz : ns.length ≤ 63) (q : ∀ pd pn H1, Same H H1 → Dr H1 pd pn → tz D (σ.set k (some (.ref pd))) H1) :
    tSeq (tAsg (tCall (spStart K) [] E (tCons (tVar m) tNil)) (gName k)) tz D σ H := ⟨.ref a, hσ, a, ns, rfl, hs, hz, fun pd pn H1 e _ _ d => q pd pn H1 e d⟩
theorem s_true {D : Ends} (h : Er K te σ H b) (hb : b = true) (hQ : ∀ H', D.rt (.bl true) H') : tRet te D σ H := h H (Same.refl _) _ fun v H1 e r => by
  cases (show v = .bl b from r); rw [hb]; exact hQ H1
theorem sub_dr {k : Nat} (h : σ[k]? = some (some (.ref pd))) : ∃ m : Nat, tVar k = tVar m ∧ σ[m]? = some (some (.ref pd)) := ⟨k, rfl, h⟩
end
end BL

set_option Elab.async false
set_option linter.all false
set_option maxRecDepth 100000
set_option maxHeartbeats 2000000
namespace BL
open PySem PySem.Spec PyProof.Rows L2
/-! ### a <= b <= c <= d -/
def tTest3 (r r' r'' : R2) (ta tb tc td : TE) : TT := fun σ H Q => ta σ H fun x H1 => tb σ H1 fun y H2 => r x y H2 fun z H3 => ∃ k, z = .bl k ∧
  (if k = true then tc σ H3 fun x' H4 => r' y x' H4 fun z' H5 => ∃ k', z' = .bl k' ∧ (if k' = true then td σ H5 fun w' H6 => r'' x' w' H6 fun z2 H7 => ∃ k2, z2 = .bl k2 ∧ Q k2 H7 else Q false H5) else Q false H3)
theorem pt_chain3 {X : Cx} {a b c d : Expr} {ta tb tc td : TE} {pos : Pos} {op op' op'' : CmpOp} {r r' r'' : R2} (ho : OpR X (compareOp op) r) (ho' : OpR X (compareOp op') r') (ho'' : OpR X (compareOp op'') r'') (ha : PE X a ta) (hb : PE X b tb) (hc : PE X c tc) (hd : PE X d td)
    (hm : lastMarks [op, op', op''] [b, c, d] = false := by with_unfolding_all rfl) : PT X (.Compare a [op, op', op''] [b, c, d] pos) (tTest3 r r' r'' ta tb tc td) := by
  refine ⟨fun pins s σ H Q I h => ?_⟩
  refine isTrue_chain (thn (ha.run pins s σ H _ I h) fun v s1 ⟨x, H1, I1, r1, q1⟩ => test_link (thn (hb.run pins s1 σ H1 _ I1 q1) fun u s2 ⟨y, H2, I2, r2, q2⟩ =>
    thn (ho pins s2 σ H2 x y v u _ I2 r1 r2 q2) fun d s3 ⟨z, H3, I3, r3, k, e, q3⟩ => ?_)) hm
  subst e
  cases r3
  refine wpAny_truthy_bool ?_
  cases k with
  | false => exact ite_ff ⟨H3, I3, q3⟩
  | true =>
    refine ite_tt (test_link (thn (hc.run pins s3 σ H3 _ I3 q3) fun w' s4 ⟨z', H4, I4, r4, q4⟩ => thn (ho' pins s4 σ H4 y z' u w' _ I4 r2 r4 q4) fun d' s5 ⟨z2, H5, I5, r5, k2, e2, q5⟩ => ?_))
    subst e2
    cases r5
    refine wpAny_truthy_bool ?_
    cases k2 with
    | false => exact ite_ff ⟨H5, I5, q5⟩
    | true =>
      refine ite_tt (test_last (thn (hd.run pins s5 σ H5 _ I5 q5) fun w2 s6 ⟨z3, H6, I6, r6, q6⟩ => thn (ho'' pins s6 σ H6 z' z3 w' w2 _ I6 r4 r6 q6) fun d2 s7 ⟨z4, H7, I7, r7, k3, e3, q7⟩ => ?_))
      subst e3
      cases r7
      exact wpAny_truthy_bool ⟨H7, I7, q7⟩
section
variable {K : Fg} {σ : L2.St} {H H' H1 : Hp} {ta tb tc td te : TE} {tt uu : TT} {α β γ δ : Type} [Rp α] [Rp β] [Rp γ] [Rp δ] {x : α} {y : β} {z : γ} {z2 : δ} {v u : V} {i j : Int} {b c : Bool} {r r' r'' : R2}
theorem et_chain3 {b b' b'' : Bool} (ha : Er K ta σ H x) (hb : Er K tb σ H y) (hc : Er K tc σ H z) (hd : Er K td σ H z2) (h1 : R2r K r x y b) (h2 : R2r K r' y z b') (h3 : R2r K r'' z z2 b'') : Et K (tTest3 r r' r'' ta tb tc td) σ H (b && (b' && b'')) := fun H1 e Q q =>
  ha H1 e _ fun v H2 e2 r2 => hb H2 (e.trans e2) _ fun u H3 e3 r3 => h1 H3 v u (Rp.mono (SF.of e3) r2) r3 _ fun w H4 e4 r4 => ⟨b, r4, by
    have c4 := ((e.trans e2).trans e3).trans e4
    cases b with
    | false => exact iteF (q H4 ((e2.trans e3).trans e4))
    | true =>
      refine iteT (hc H4 c4 _ fun w' H5 e5 r5 => h2 H5 u w' (Rp.mono (SF.of (e4.trans e5)) r3) r5 _ fun w2 H6 e6 r6 => ⟨b', r6, ?_⟩)
      cases b' with
      | false => exact iteF (q H6 (((e2.trans e3).trans e4).trans (e5.trans e6)))
      | true =>
        refine iteT (hd H6 (c4.trans (e5.trans e6)) _ fun w3 H7 e7 r7 => h3 H7 w' w3 (Rp.mono (SF.of (e6.trans e7)) r5) r7 _ fun w4 H8 e8 r8 => ⟨b'', r8, ?_⟩)
        exact q H8 ((((e2.trans e3).trans e4).trans (e5.trans e6)).trans (e7.trans e8))⟩
/-! ### in -/
theorem flat_bls (l : List Bool) : (l.map V.bl).all flatV = true := by rw [List.all_map, List.all_eq_true]; intro x _; rfl
theorem flat_ints (l : List Int) : (l.map V.int).all flatV = true := by rw [List.all_map, List.all_eq_true]; intro x _; rfl
theorem flat_strs' (l : List Str) : (l.map V.str).all flatV = true := by rw [List.all_map, List.all_eq_true]; intro x _; rfl
theorem inV_bl (b : Bool) (l : List Bool) : inV (.bl b) (l.map V.bl) = decide (b ∈ l) := by
  unfold inV
  rw [List.any_map]
  induction l with
  | nil => rfl
  | cons x r ih =>
    rw [List.any_cons, ih]
    show ((x == b) || _) = _
    by_cases e : b = x
    · subst e; simp
    · simp [e]; intro h; exact absurd h.symm e
theorem inV_int (b : Int) (l : List Int) : inV (.int b) (l.map V.int) = decide (b ∈ l) := by
  unfold inV
  rw [List.any_map]
  induction l with
  | nil => rfl
  | cons x r ih =>
    rw [List.any_cons, ih]
    show ((x == b) || _) = _
    by_cases e : b = x
    · subst e; simp
    · simp [e]; intro h; exact absurd h.symm e
theorem inV_str (b : Str) (l : List Str) : inV (.str b) (l.map V.str) = decide (b ∈ l) := by
  unfold inV
  rw [List.any_map]
  induction l with
  | nil => rfl
  | cons x r ih =>
    rw [List.any_cons, ih]
    show ((x == b) || _) = _
    by_cases e : b = x
    · subst e; simp
    · simp [e]; intro h; exact absurd h.symm e
def neg (n b : Bool) : Bool := if n then !b else b
theorem rr_inB {n : Bool} {l : List Bool} : R2r K (rIn K n) b l (neg n (decide (b ∈ l))) := fun H v u e1 e2 Q q => by
  obtain ⟨a, vs, rfl, h2, h3⟩ := e2
  cases (show v = .bl b from e1)
  rw [rl_bools h3] at h2
  exact ⟨a, _, rfl, .inl h2.seq, rfl, flat_bls l, by rw [inV_bl]; exact q _ H (Same.refl _) (by cases n <;> rfl)⟩
theorem rr_inI {n : Bool} {l : List Int} : R2r K (rIn K n) i l (neg n (decide (i ∈ l))) := fun H v u e1 e2 Q q => by
  obtain ⟨a, vs, rfl, h2, h3⟩ := e2
  cases (show v = .int i from e1)
  rw [rl_ints h3] at h2
  exact ⟨a, _, rfl, .inl h2.seq, rfl, flat_ints l, by rw [inV_int]; exact q _ H (Same.refl _) (by cases n <;> rfl)⟩
theorem rr_inS {n : Bool} {s : Str} {l : List Str} : R2r K (rIn K n) s l (neg n (decide (s ∈ l))) := fun H v u e1 e2 Q q => by
  obtain ⟨a, vs, rfl, h2, h3⟩ := e2
  cases (show v = .str s from e1)
  rw [rl_strs h3] at h2
  exact ⟨a, _, rfl, .inl h2.seq, rfl, flat_strs' l, by rw [inV_str]; exact q _ H (Same.refl _) (by cases n <;> rfl)⟩
theorem rr_inST {n : Bool} {s : Str} {t : Tp Str} : R2r K (rIn K n) s t (neg n (decide (s ∈ t.l))) := fun H v u e1 e2 Q q => by
  obtain ⟨a, vs, rfl, h2, h3⟩ := e2
  cases (show v = .str s from e1)
  rw [rl_strs h3] at h2
  exact ⟨a, _, rfl, .inr h2, rfl, flat_strs' t.l, by rw [inV_str]; exact q _ H (Same.refl _) (by cases n <;> rfl)⟩
theorem any_eqv [Rq α] [DecidableEq α] (x : α) (l : List α) : ((l.map Rq.toD).any fun w => PyData.eqv w (Rq.toD x)) = decide (x ∈ l) := by
  rw [List.any_map]
  induction l with
  | nil => rfl
  | cons y r ih =>
    rw [List.any_cons, ih]
    show (PyData.eqv (Rq.toD y) (Rq.toD x) || _) = _
    rw [eqv_dec]
    by_cases e : x = y
    · subst e; simp
    · simp [e]; intro h; exact absurd h.symm e
theorem rr_inD [Rq α] [Rt α] [DecidableEq α] {l : List α} (hd : Rq.dep α + 1 ≤ 64 := by decide) : R2r K (rInD K) x l (decide (x ∈ l)) := fun H v u e1 e2 Q q => by
  have h2 : Dp K H u (.list (l.map Rq.toD)) := Rq.dp e2
  exact ⟨_, _, Rq.dp e1, h2, shaped_of (Rt.all x) (by omega), shaped_of (α := List α) (Rt.all l) hd, by rw [any_eqv]; exact q _ H (Same.refl _) rfl⟩
theorem rr_ninD [Rq α] [Rt α] [DecidableEq α] {l : List α} (hd : Rq.dep α + 1 ≤ 64 := by decide) : R2r K (rNotInD K) x l (!decide (x ∈ l)) := fun H v u e1 e2 Q q => by
  have h2 : Dp K H u (.list (l.map Rq.toD)) := Rq.dp e2
  exact ⟨_, _, Rq.dp e1, h2, shaped_of (Rt.all x) (by omega), shaped_of (α := List α) (Rt.all l) hd, by rw [any_eqv]; exact q _ H (Same.refl _) rfl⟩
/-- a constant tuple of the module -/
theorem er_kt {t : Tp α} {a : Addr} (h : ∀ H, Rp.rep K H (.ref a) t) : Er K (tC (.ref a)) σ H t := er_c h
/-! ### the if's answer is known -/
theorem er_ifT (h : Et K tt σ H true) (ha : Er K ta σ H x) : Er K (tIf tt ta tb) σ H x := fun H1 e Q q => h H1 e _ fun H2 e2 => iteT (ha H2 (e.trans e2) Q fun v H3 e3 r => q v H3 (e2.trans e3) r)
theorem er_ifF (h : Et K tt σ H false) (hb : Er K tb σ H x) : Er K (tIf tt ta tb) σ H x := fun H1 e Q q => h H1 e _ fun H2 e2 => iteF (hb H2 (e.trans e2) Q fun v H3 e3 r => q v H3 (e2.trans e3) r)
/-! ### a list not locked, handed through a check -/
def spThru (K : Fg) (pre : List α → Prop) : Sp := fun vs H Q _ => ∃ (p : Addr) (us : List V) (l : List α), vs = [.ref p] ∧ H p = some (.lst us) ∧ RL K H us l ∧ pre l ∧ ∀ H', Same H H' → Q (.ref p) H'
theorem erl_thru {E : XK} {pre : List α → Prop} {l : List α} (h : ErL K ta σ H l) (hp : pre l) : ErL K (tCall (spThru K pre) [] E (tCons ta tNil)) σ H l := fun H1 e Q q =>
  h H1 e _ fun p vs H2 e2 hn h2 r2 => ⟨p, vs, l, rfl, h2, r2, hp, fun H3 e3 => q p vs H3 (e2.trans e3) hn (e3 _ _ h2) (r2.mono (SF.of e3))⟩
theorem s_retThru {E : XK} {pre : List α → Prop} {l : List α} {D : Ends} {k : Nat} {p : Addr} (hσ : σ[k]? = some (some (.ref p))) (hu : Un K H p l) (hp : pre l) (q : ∀ H1 us, Same H H1 → H1 p = some (.lst us) → RL K H1 us l → D.rt (.ref p) H1) :
    tRet (tCall (spThru K pre) [] E (tCons (tVar k) tNil)) D σ H := by
  obtain ⟨us, h1, r⟩ := hu
  exact ⟨.ref p, hσ, p, us, l, rfl, h1, r, hp, fun H1 e => q H1 us e (e _ _ h1) (r.mono (SF.of e))⟩
/-- a check that runs while its list is locked -/
theorem q_lockd {p : Addr} {us : List V} {l : List α} {D : Ends} {tu tz : TS} (hp : H p = some (.lst us)) (hr : RL K H us l)
    (q : ∀ (od : Obj), Rp.rep K (upd H p (.frz od (.lst us))) (.ref p) l → tu ⟨fun σ' H' => H' p = some (.frz od (.lst us)) ∧ tz D σ' (upd H' p (.lst us)), fun v H' => H' p = some (.frz od (.lst us)) ∧ D.rt v (upd H' p (.lst us)), fun σ' H' => H' p = some (.frz od (.lst us)) ∧ D.bk σ' (upd H' p (.lst us)), fun σ' H' => H' p = some (.frz od (.lst us)) ∧ D.ct σ' (upd H' p (.lst us))⟩ σ (upd H p (.frz od (.lst us)))) :
    tSeq (tLock tu) tz D σ H := ⟨p, .lst us, hp, trivial, fun od => q od ⟨p, us, rfl, ⟨od, upd_same⟩, hr.mono (SF.lst hp)⟩⟩
theorem same_lock {p : Addr} {us : List V} {od : Obj} (hp : H p = some (.lst us)) (e : Same (upd H p (.frz od (.lst us))) H1) : Same H (upd H1 p (.lst us)) := fun a o h => by
  by_cases n : a = p
  · subst n; rw [upd_same]; rw [hp] at h; exact h
  · rw [upd_ne n]; exact e a o (by rw [upd_ne n]; exact h)
/-- a, b = a list of two -/
theorem tg_unl {l : List α} {k m : Nat} {d : α} (h : Rp.rep K H v l) (hl : l.length = 2) : ∃ v1 v2, Rp.rep K H v1 (l.getD 0 d) ∧ Rp.rep K H v2 (l.getD 1 d) ∧ ∀ Q : L2.St → Hp → Prop, Q ((σ.set k (some v1)).set m (some v2)) H → gUnl K 2 (gCons (gName k) (gCons (gName m) gNil)) v σ H Q := by
  obtain ⟨a, vs, rfl, h2, h3⟩ := h
  match l, hl with
  | [x, y], _ =>
    cases h3 with
    | cons r1 h4 =>
      cases h4 with
      | cons r2 h5 =>
        cases h5
        exact ⟨_, _, r1, r2, fun Q q => ⟨a, _, rfl, h2.seq, rfl, _, _, rfl, _, _, rfl, rfl, q⟩⟩
theorem q_unl {l : List α} {k m : Nat} {d : α} {D : Ends} {tz : TS} (h : Er K te σ H l) (hl : l.length = 2) (q : ∀ v u H1, Same H H1 → Rp.rep K H1 v (l.getD 0 d) → Rp.rep K H1 u (l.getD 1 d) → tz D ((σ.set k (some v)).set m (some u)) H1) : tSeq (tAsg te (gUnl K 2 (gCons (gName k) (gCons (gName m) gNil)))) tz D σ H :=
  h H (Same.refl _) _ fun v H1 e r => by
    obtain ⟨v1, v2, r1, r2, f⟩ := tg_unl (σ := σ) (k := k) (m := m) (d := d) r hl
    exact f _ (q v1 v2 H1 e r1 r2)
end
section
variable {X : Cx} (K : Fg) (h : X.K = K)
include h
theorem k_gl (n : Nat) {es : List Expr} {k : Nat} {t : TGs} {pos : Pos} (hc : X.calm = true) (hp : PGs X es t)
    (hn : (assignEach es X.env).length = n := by rfl) (hst : (assignEach es X.env).findIdx? (·.1) = none := by rfl) : PG X (.Tuple es k pos) (gUnl K n t) := by subst h; exact pg_unl hc hp hn hst
theorem k_inD (hu : X.A.units + 65 < cLine) : OpR X (compareOp .In) (rInD K) := by subst h; exact op_inD hu
theorem k_ninD (hu : X.A.units + 65 < cLine) : OpR X (compareOp .NotIn) (rNotInD K) := by subst h; exact op_notInD hu
end
theorem u65 {k : Nat} {A : Around} (r : Room k A) : A.units + 65 < cLine := by have := r.un; omega
/-! ### the head's facts, with tables -/
def hookB (n : Nat) (fa : List He.Fa) (fn : List He.DefD) (ex : Fg → Bool) : PySem.W.Hook where
  α := He.AlD × Bool
  obs := fun s => (He.obsDG n fa fn s.heap.get?, ex (He.frG s.heap.get? (He.asD s.heap.get? n)))
  val := fun _ => (He.valD fn, true)
  says := fun _ h => ∃ K : Fg, K.In h ∧ He.SaysD fa fn K ∧ ex K = true
  of := fun _ _ e => ⟨_, He.frG_in, congrArg Prod.fst e, congrArg Prod.snd e⟩
  keeps := fun _ _ _ ⟨K, hK, c⟩ k => ⟨K, PySem.W.Frag.In.keeps hK k, c⟩
theorem hookB_eq {n : Nat} {fa : List He.Fa} {fn : List He.DefD} {ex : Fg → Bool} {g : Addr → Option Obj} {s : Shared} (h : ∀ a, g a = s.heap.get? a) : ((He.obsDG n fa fn g, ex (He.frG g (He.asD g n))) : He.AlD × Bool) = (hookB n fa fn ex).obs s := by
  have e : g = s.heap.get? := funext h
  rw [e] <;> rfl
theorem rl_dv (K : Fg) (H : Hp) : ∀ l : List Str, RL K H ((l.map He.Dv.str).map (He.Dv.v K)) l
  | [] => .nil
  | _ :: r => .cons rfl (rl_dv K H r)
theorem tup_of {K : Fg} {x : Str} {l : List Str} (h : He.tupB K x (l.map He.Dv.str) = true) (H : Hp) : Rp.rep K H (.ref (He.ga K x)) (Tp.mk l) := ⟨_, _, rfl, He.tupB_ok h H, rl_dv K H l⟩
end BL

set_option Elab.async false
set_option linter.all false
set_option maxRecDepth 100000
set_option maxHeartbeats 2000000
namespace BL
open PySem PySem.Spec PyProof.Rows L2
/-! ### some lists change, nothing else -/
structure Mus (ps : List Addr) (H H' : Hp) : Prop where
  sf : SF H H'
  ne : ∀ q o, q ∉ ps → H q = some o → H' q = some o
section
variable {K : Fg} {σ : L2.St} {H H' H0 H1 H2 : Hp} {pd pn p q : Addr} {ps qs : List Addr} {ta tb tc td te : TE} {tt uu : TT} {α β γ δ : Type} [Rp α] [Rp β] [Rp γ] [Rp δ] {x : α} {y : β} {z : γ} {v u : V} {i j : Int} {b c : Bool}
theorem Mus.of (e : Same H H') : Mus ps H H' := ⟨SF.of e, fun q o _ h => e q o h⟩
theorem Mus.refl (H : Hp) : Mus ps H H := Mus.of (Same.refl H)
theorem Mus.trans (a : Mus ps H H1) (b : Mus ps H1 H2) : Mus ps H H2 := ⟨a.sf.trans b.sf, fun q o n h => b.ne q o n (a.ne q o n h)⟩
theorem Mus.mu (m : Mu p H H') (h : p ∈ ps) : Mus ps H H' := ⟨m.sf, fun q o n e => m.ne q o (fun c => n (c ▸ h)) e⟩
theorem Mus.dm (m : DM pd pn H H') (h1 : pd ∈ ps) (h2 : pn ∈ ps) : Mus ps H H' := ⟨m.sf, fun q o n e => m.ne q o (fun c => n (c ▸ h1)) (fun c => n (c ▸ h2)) e⟩
theorem Mus.sub (m : Mus ps H H') (h : ∀ x ∈ ps, x ∈ qs) : Mus qs H H' := ⟨m.sf, fun q o n e => m.ne q o (fun c => n (h q c)) e⟩
theorem Mus.same0 (m : Mus [] H H') : Same H H' := fun q o e => m.ne q o (by simp) e
theorem Mus.to_dm (m : Mus [pd, pn] H H') : DM pd pn H H' := ⟨m.sf, fun q o n1 n2 e => m.ne q o (by simp [n1, n2]) e⟩
/-- p is new since H0 -/
theorem Mus.fresh (B : Mus ps H0 H) (n : p ∉ ps) (h : H p = none) : H0 p = none := by
  cases e : H0 p with
  | none => rfl
  | some o => rw [B.ne p o n e] at h; cases h
theorem Mus.mut (B : Mus ps H0 H) (h : H0 p = none) (m : Mu p H H') : Mus ps H0 H' := ⟨B.sf.trans m.sf, fun q o n e => m.ne q o (ne_of_none e h) (B.ne q o n e)⟩
theorem Mus.cut (B : Mus ps H0 H) (h : H0 p = none) (m : Mus (p :: ps) H H') : Mus ps H0 H' := ⟨B.sf.trans m.sf, fun q o n e => m.ne q o (fun c => by
  rcases List.mem_cons.mp c with c | c
  · exact ne_of_none e h c
  · exact n c) (B.ne q o n e)⟩
/-- all that changes is new since H0 -/
theorem Mus.base (B : Mus [] H0 H) (m : Mus ps H H') (h : ∀ p ∈ ps, H0 p = none) : Mus [] H0 H' := ⟨B.sf.trans m.sf, fun q o _ e => m.ne q o (fun c => by rw [h q c] at e; cases e) (B.ne q o (by simp) e)⟩
theorem Mus.baseS (B : Mus qs H0 H) (m : Mus ps H H') (h : ∀ p ∈ ps, H0 p = none ∨ p ∈ qs) : Mus qs H0 H' := ⟨B.sf.trans m.sf, fun q o n e => m.ne q o (fun c => by
  rcases h q c with h | h
  · rw [h] at e; cases e
  · exact n h) (B.ne q o n e)⟩
theorem nin0 : p ∉ ([] : List Addr) := by simp
theorem nin (h : p ≠ q) (n : p ∉ ps) : p ∉ q :: ps := fun c => by
  rcases List.mem_cons.mp c with c | c
  · exact h c
  · exact n c
theorem all0 {F : Addr → Prop} : ∀ p ∈ ([] : List Addr), F p := fun _ h => by cases h
theorem allC {F : Addr → Prop} (h : F q) (n : ∀ p ∈ ps, F p) : ∀ p ∈ q :: ps, F p := fun x c => by
  rcases List.mem_cons.mp c with c | c
  · subst c; exact h
  · exact n x c
theorem Un.mus {l : List α} (m : Mus ps H H') (n : p ∉ ps) (h : Un K H p l) : Un K H' p l := by
  obtain ⟨vs, g, r⟩ := h; exact ⟨vs, m.ne _ _ n g, r.mono m.sf⟩
theorem Dr.mus (m : Mus ps H H') (n1 : pd ∉ ps) (n2 : pn ∉ ps) (h : Dr H pd pn) : Dr H' pd pn := by
  obtain ⟨ns, k, g1, g2, g3⟩ := h; exact ⟨ns, k, m.ne _ _ n1 g1, m.ne _ _ n2 g2, g3⟩
theorem Un.nep {l : List α} (h : Un K H q l) (n : H p = none) : q ≠ p := by obtain ⟨_, g, _⟩ := h; exact ne_of_none g n
/-! ### a loop's fold -/
theorem fold_step {l : List α} {f : β → α → β} {a s : β} {k : Nat} {x : α} (hx : l[k]? = some x) (hs : s = (l.take k).foldl f a) : f s x = (l.take (k + 1)).foldl f a := by
  rw [List.take_add_one, hx, List.foldl_append, hs]; rfl
theorem fold_all {l : List α} {f : β → α → β} {a s : β} (hs : s = (l.take l.length).foldl f a) : s = l.foldl f a := by rw [hs, List.take_length]
theorem fold_app1 {γ : Type} (f : α → γ) : ∀ (l : List α) (a : List γ), l.foldl (fun s x => s ++ [f x]) a = a ++ l.map f
  | [], a => by simp
  | x :: l, a => by rw [List.foldl_cons, fold_app1 f l]; simp
theorem fold_app2 {γ δ : Type} (f : α → γ) (g : α → δ) : ∀ (l : List α) (a : List γ × List δ), l.foldl (fun s x => (s.1 ++ [f x], s.2 ++ [g x])) a = (a.1 ++ l.map f, a.2 ++ l.map g)
  | [], a => by simp
  | x :: l, a => by rw [List.foldl_cons, fold_app2 f g l]; simp
/-! ### if: one name is set -/
variable {D : Ends} {tu tw tz : TS}
theorem set_same' {k : Nat} (h : σ[k]? = some (some v)) : σ.set k (some v) = σ := by
  refine List.ext_getElem? fun i => ?_
  rw [List.getElem?_set]
  split
  · rename_i e; subst e
    rw [h]
    split
    · rfl
    · rename_i hn; rw [List.getElem?_eq_none (by omega)] at h; cases h
  · rfl
theorem q_ifset {k : Nat} {x y : α} (hc : Et K tt σ H c) (h1 : c = true → ∀ H1, Same H H1 → Er K te σ H1 y) (hold : σ[k]? = some (some v)) (r0 : Rp.rep K H v x)
    (q : ∀ w H1, Same H H1 → Rp.rep K H1 w (if c = true then y else x) → tz D (σ.set k (some w)) H1) : tSeq (tIfS tt (tAsg te (gName k)) tNext) tz D σ H :=
  q_when hc (fun e H1 s => h1 e H1 s H1 (Same.refl _) _ fun w H2 e2 r2 => q w H2 (s.trans e2) (by rw [if_pos e]; exact r2)) fun e H1 s => by
    have := q v H1 s (by rw [if_neg (by rw [e]; exact Bool.false_ne_true)]; exact Rp.mono (SF.of s) r0)
    rwa [set_same' hold] at this
theorem q_ifset2 {k : Nat} {x y : α} (hc : Et K tt σ H c) (h1 : c = true → ∀ H1, Same H H1 → Er K ta σ H1 y) (h2 : c = false → ∀ H1, Same H H1 → Er K tb σ H1 x)
    (q : ∀ w H1, Same H H1 → Rp.rep K H1 w (if c = true then y else x) → tz D (σ.set k (some w)) H1) : tSeq (tIfS tt (tAsg ta (gName k)) (tAsg tb (gName k))) tz D σ H :=
  q_if hc (fun e H1 s => h1 e H1 s H1 (Same.refl _) _ fun w H2 e2 r2 => q w H2 (s.trans e2) (by rw [if_pos e]; exact r2))
    fun e H1 s => h2 e H1 s H1 (Same.refl _) _ fun w H2 e2 r2 => q w H2 (s.trans e2) (by rw [if_neg (by rw [e]; exact Bool.false_ne_true)]; exact r2)
/-! ### None or a value -/
theorem er_O0 : Er K (tC .non) σ H (none : Option α) := er_c (x := (none : Option α)) fun _ => rfl
class Nn (α : Type) [Rp α] : Prop where
  n : ∀ {K : Fg} {H : Hp} {v : V} {x : α}, Rp.rep K H v x → v ≠ .non
instance : Nn Int := ⟨fun h => by cases h; exact V.noConfusion⟩
instance : Nn Nat := ⟨fun h => by cases h; exact V.noConfusion⟩
instance : Nn Bool := ⟨fun h => by cases h; exact V.noConfusion⟩
instance : Nn Str := ⟨fun h => by cases h; exact V.noConfusion⟩
instance {α : Type} [Rp α] : Nn (List α) := ⟨fun h => by obtain ⟨_, _, rfl, _⟩ := h; exact V.noConfusion⟩
instance {α β : Type} [Rp α] [Rp β] : Nn (α × β) := ⟨fun h => by obtain ⟨_, _, _, rfl, _⟩ := h; exact V.noConfusion⟩
instance {α β γ : Type} [Rp α] [Rp β] [Rp γ] : Nn (T3 α β γ) := ⟨fun h => by obtain ⟨_, _, _, _, rfl, _⟩ := h; exact V.noConfusion⟩
theorem er_O1 [Nn α] (h : Er K te σ H x) : Er K te σ H (some x) := fun H1 e Q q => h H1 e Q fun v H2 e2 r => q v H2 e2 ⟨Nn.n r, r⟩
theorem er_Oget {o : Option α} (h : Er K te σ H o) (ho : o = some x) : Er K te σ H x := fun H1 e Q q => h H1 e Q fun v H2 e2 r => by
  rw [ho] at r; exact q v H2 e2 r.2
theorem opt_non {o : Option α} (h : Rp.rep K H v o) : decide (v = .non) = o.isNone := by
  cases o with
  | none => cases (show v = .non from h); rfl
  | some x => exact decide_eq_false h.1
theorem er_isN {o : Option α} (h : Er K te σ H o) : Er K (tOp rIsN te (tC .non)) σ H o.isNone := fun H1 e Q q => h H1 e _ fun v H2 e2 r => ⟨rfl, q _ H2 e2 (by show V.bl _ = V.bl _; rw [opt_non r])⟩
theorem er_notN {o : Option α} (h : Er K te σ H o) : Er K (tOp rNotN te (tC .non)) σ H (!o.isNone) := fun H1 e Q q => h H1 e _ fun v H2 e2 r => ⟨rfl, q _ H2 e2 (by show V.bl _ = V.bl _; rw [opt_non r])⟩
/-! ### names that count -/
theorem q_augI {k : Nat} {f : Int → Int → Int} (hσ : σ[k]? = some (some v)) (r : Rp.rep K H v i) (h : Er K te σ H j) (q : ∀ w H1, Same H H1 → Rp.rep K H1 w (f i j) → tz D (σ.set k (some w)) H1) : tSeq (tAug k te (ipI f)) tz D σ H := by
  cases (show v = .int i from r)
  exact q_aug hσ h fun H1 e => q _ H1 e rfl
theorem s_ext {k : Nat} {l m : List α} (hσ : σ[k]? = some (some (.ref p))) (hu : Un K H p l) (h : ErL K te σ H m) (hz : l.length + m.length ≤ 1000000) (q : ∀ H2, Mu p H H2 → Un K H2 p (l ++ m) → D.nx σ H2) :
    tAug k te rExt2 D σ H := by
  obtain ⟨vs, hp, r⟩ := hu
  refine ⟨.ref p, hσ, h H (Same.refl _) _ fun b us H2 e2 hn h2 r2 => ?_⟩
  have hp2 := e2 _ _ hp
  refine ⟨p, b, vs, us, rfl, rfl, hp2, h2, ?_, ?_⟩
  · rw [paired_len r, paired_len r2]; exact Nat.le_trans hz (by decide)
  · have e : σ.set k (some (.ref p)) = σ := set_same' hσ
    show D.nx (σ.set k (some (.ref p))) _
    rw [e]
    exact q _ (mu_upd e2 hp) ⟨_, upd_same, RL.mono (SF.lst hp2) (paired_app (r.mono (SF.of e2)) r2)⟩
theorem q_ext {k : Nat} {l m : List α} (hσ : σ[k]? = some (some (.ref p))) (hu : Un K H p l) (h : ErL K te σ H m) (hz : l.length + m.length ≤ 1000000) (q : ∀ H2, Mu p H H2 → Un K H2 p (l ++ m) → tz D σ H2) :
    tSeq (tAug k te rExt2) tz D σ H := s_ext (D := { D with nx := tz D }) hσ hu h hz q
end
section
variable {K : Fg} {σ : L2.St} {H : Hp} {pd pn : Addr} {ta tb tc : TE} {α β : Type} [Rp α] [Rp β] {D : Ends} {tz : TS}
theorem q_parL {k m : Nat} {l : List α} {l' : List β} (h : ErL K ta σ H l) (h' : ErL K tb σ H l')
    (q : ∀ p p' vs vs' H1 H2, Same H H1 → Same H1 H2 → H p = none → H1 p' = none → H1 p = some (.lst vs) → RL K H1 vs l → H2 p' = some (.lst vs') → RL K H2 vs' l' → tz D ((σ.set k (some (.ref p))).set m (some (.ref p'))) H2) : tSeq (tPar k m (tCons ta (tCons tb tNil))) tz D σ H :=
  h H (Same.refl _) _ fun p vs H1 e hp h1 r => h' H1 e _ fun p' vs' H2 e2 hp' h2 r2 => ⟨.ref p, .ref p', rfl, q p p' vs vs' H1 H2 e e2 hp hp' h1 r h2 r2⟩
theorem q_unpL {k m : Nat} {l : List α} {l' : List β} (h : ErL K ta σ H l) (h' : ErL K tb σ H l')
    (q : ∀ p p' vs vs' H1 H2, Same H H1 → Same H1 H2 → H p = none → H1 p' = none → H1 p = some (.lst vs) → RL K H1 vs l → H2 p' = some (.lst vs') → RL K H2 vs' l' → tz D ((σ.set k (some (.ref p))).set m (some (.ref p'))) H2) : tSeq (tAsg (tTup (tCons ta (tCons tb tNil))) (gTup K 2 (gCons (gName k) (gCons (gName m) gNil)))) tz D σ H :=
  h H (Same.refl _) _ fun p vs H1 e hp h1 r => h' H1 e _ fun p' vs' H2 e2 hp' h2 r2 => ⟨by show 2 ≤ sizeLine; decide, fun t ht => ⟨t, _, rfl, sq_tup upd_same, rfl, .ref p, _, rfl, .ref p', _, rfl, rfl, q p p' vs vs' H1 _ e (e2.trans (same_new ht)) hp hp' h1 r ((same_new ht) _ _ h2) (r2.mono (SF.new ht))⟩⟩
theorem epl_lst3 {P : α → Prop} {P2 : α → α → Prop} {P3 : α → α → α → Prop} (ha : Ep K pd pn ta σ H P) (hb : ∀ x, P x → Ep K pd pn tb σ H (P2 x)) (hc : ∀ x y, P x → P2 x y → Ep K pd pn tc σ H (P3 x y)) : EpL K pd pn (tLst (tCons ta (tCons tb (tCons tc tNil)))) σ H (fun l => ∃ x y z, P x ∧ P2 x y ∧ P3 x y z ∧ l = [x, y, z]) := fun H1 m dr Q q =>
  ha H1 m dr _ fun v H2 x m2 dr2 hx r2 => hb x hx H2 (m.trans m2) dr2 _ fun u H3 y m3 dr3 hy r3 => hc x y hx hy H3 ((m.trans m2).trans m3) dr3 _ fun w H4 z m4 dr4 hz r4 => ⟨by show 3 ≤ sizeLine; decide, fun p hp =>
    q p _ _ [x, y, z] (((m2.trans m3).trans m4).trans (DM.of (same_new hp))) (dr4.mono (same_new hp)) ⟨x, y, z, hx, hy, hz, rfl⟩ (((m2.trans m3).trans m4).free dr hp dr4) upd_same (.cons (Rp.mono ((m3.sf.trans m4.sf).trans (SF.new hp)) r2) (.cons (Rp.mono (m4.sf.trans (SF.new hp)) r3) (.cons (Rp.mono (SF.new hp) r4) .nil)))⟩
end
section
variable {K : Fg} {σ : L2.St} {H : Hp} {ta tb tc td : TE} {α β γ δ ε : Type} [Rp α] [Rp β] [Rp γ] [Rp δ] [Rp ε] {x : α} {y : β} {z : γ} {w : δ}
def sp4 (K : Fg) (pre : α → β → γ → δ → Prop) (f : α → β → γ → δ → ε) : Sp := fun vs H Q _ => ∃ v0 v1 v2 v3 x0 x1 x2 x3, vs = [v0, v1, v2, v3] ∧ Rp.rep K H v0 x0 ∧ Rp.rep K H v1 x1 ∧ Rp.rep K H v2 x2 ∧ Rp.rep K H v3 x3 ∧ pre x0 x1 x2 x3 ∧ ansV K (f x0 x1 x2 x3) H Q
theorem er_call4 {pre : α → β → γ → δ → Prop} {f : α → β → γ → δ → ε} {E : XK} (h0 : Er K ta σ H x) (h1 : Er K tb σ H y) (h2 : Er K tc σ H z) (h3 : Er K td σ H w) (hp : pre x y z w) : Er K (tCall (sp4 K pre f) [] E (tCons ta (tCons tb (tCons tc (tCons td tNil))))) σ H (f x y z w) := fun H1 e Q q =>
  h0 H1 e _ fun v0 H2 e2 r0 => h1 H2 (e.trans e2) _ fun v1 H3 e3 r1 => h2 H3 ((e.trans e2).trans e3) _ fun v2 H4 e4 r2 => h3 H4 (((e.trans e2).trans e3).trans e4) _ fun v3 H5 e5 r3 =>
    ⟨v0, v1, v2, v3, x, y, z, w, rfl, Rp.mono (SF.of ((e3.trans e4).trans e5)) r0, Rp.mono (SF.of (e4.trans e5)) r1, Rp.mono (SF.of e5) r2, r3, hp, fun u H6 e6 r6 => q u H6 ((((e2.trans e3).trans e4).trans e5).trans e6) r6⟩
theorem len_sp4 {pre : α → β → γ → δ → Prop} {f : α → β → γ → δ → ε} : ∀ vs H Q E, sp4 K pre f vs H Q E → vs.length = 4 := fun vs H Q E h => by obtain ⟨_, _, _, _, _, _, _, _, rfl, _⟩ := h; rfl
end
theorem bi4 {x : Str} {a : Arguments} {b : List Stmt} {sc : Scope} {p q r t : Str} (h : ∀ (kV doc pm : Value) (an : Option Addr) (cdv ct u v w z : Value), bindArgs (PySem.W.fnOf x x a b sc .none kV doc pm an cdv ct) ⟨[u, v, w, z], []⟩ = pure [(p, u), (q, v), (r, w), (t, z)]) :
    ∀ (kV doc pm : Value) (an : Option Addr) (cdv ct : Value) (us : List Value), us.length = [p, q, r, t].length → bindArgs (PySem.W.fnOf x x a b sc .none kV doc pm an cdv ct) ⟨us, []⟩ = pure ([p, q, r, t].zip us)
  | kV, doc, pm, an, cdv, ct, [u, v, w, z], _ => h kV doc pm an cdv ct u v w z
theorem dead_eq {α : Type} [DecidableEq α] {a b : α} (h : a = b) : (!decide (a = b)) = false := by rw [decide_eq_true h]; rfl
theorem q_last {t : TS} {D : Ends} {σ : L2.St} {H : Hp} (h : tSeq t tNext D σ H) : t D σ H := h
theorem s_gn {k : Nat} {v : V} {σ : L2.St} {H : Hp} {Q : L2.St → Hp → Prop} (h : Q (σ.set k (some v)) H) : gName k v σ H Q := h
theorem s_nx {D : Ends} {σ : L2.St} {H : Hp} (h : D.nx σ H) : tNext D σ H := h
theorem s_nxz {tz : TS} {D : Ends} {σ : L2.St} {H : Hp} (h : tz D σ H) : tNext { D with nx := tz D } σ H := h
theorem Rp.cong {α : Type} [Rp α] {K : Fg} {H : Hp} {v : V} {x y : α} (h : Rp.rep K H v y) (e : x = y) : Rp.rep K H v x := by rw [e]; exact h
theorem find_none {α β : Type} {l : List α} {f : α → Option β} {k : Nat} {x : α} (hx : l[k]? = some x) (hs : (l.take k).findSome? f = none) (hn : f x = none) : (l.take (k + 1)).findSome? f = none := by
  rw [List.take_add_one, hx, List.findSome?_append, hs]; simp [hn]
theorem find_at {α β : Type} {l : List α} {f : α → Option β} {k : Nat} {x : α} {y : β} (hx : l[k]? = some x) (hs : (l.take k).findSome? f = none) (hn : f x = some y) : l.findSome? f = some y := by
  conv => lhs; rw [← List.take_append_drop (k + 1) l, List.take_add_one, hx]
  rw [List.findSome?_append, List.findSome?_append, hs]; simp [hn]
theorem find_all {α β : Type} {l : List α} {f : α → Option β} (hs : (l.take l.length).findSome? f = none) : l.findSome? f = none := by rw [List.take_length] at hs; exact hs
theorem ip_ext {X : Cx} : PIp X .Add rExt2 := fun pins s σ H x y v u Q I r1 r2 h => iop_ext pins s σ H x y v u Q I r1 r2 h
end BL

set_option Elab.async false
set_option linter.all false
set_option maxRecDepth 100000
set_option maxHeartbeats 2000000
namespace BL
open PySem PySem.Spec PyProof.Rows L2
theorem nff {b : Bool} (h : b = false) : ¬ (b = true) := by rw [h]; exact Bool.false_ne_true
theorem fold_grow {α β : Type} {f : List β → α → List β} {c : Nat} : ∀ {l : List α} {a : List β}, (∀ s x, x ∈ l → (f s x).length ≤ s.length + c) → (l.foldl f a).length ≤ a.length + c * l.length
  | [], a, _ => by simp
  | x :: l, a, h => by
    rw [List.foldl_cons, List.length_cons, Nat.mul_add]
    have h1 := h a x (List.mem_cons_self ..)
    have h2 := fold_grow (l := l) (a := f a x) fun s y hy => h s y (List.mem_cons_of_mem _ hy)
    omega
theorem fold_growE {α β : Type} {f : List β → α → List β} (c : Nat) {l : List α} {a s : List β} (hs : s = l.foldl f a) (h : ∀ s x, x ∈ l → (f s x).length ≤ s.length + c) : s.length ≤ a.length + c * l.length := by rw [hs]; exact fold_grow h
theorem fold_inv {α β : Type} {f : β → α → β} {P : β → Prop} : ∀ {l : List α} {a : β}, P a → (∀ s x, x ∈ l → P s → P (f s x)) → P (l.foldl f a)
  | [], _, h, _ => h
  | x :: l, a, h, hs => fold_inv (l := l) (hs a x (List.mem_cons_self ..) h) fun s y hy => hs s y (List.mem_cons_of_mem _ hy)
theorem fold_invE {α β : Type} {f : β → α → β} (P : β → Prop) {l : List α} {a s : β} (hs : s = l.foldl f a) (h : P a) (h2 : ∀ s x, x ∈ l → P s → P (f s x)) : P s := by rw [hs]; exact fold_inv h h2
theorem mapIf_le {α β : Type} {c : α → Bool} {f : α → β} {l : List α} : (mapIf c f l).length ≤ l.length := by unfold mapIf; rw [List.length_map]; exact List.length_filter_le _ _
theorem last_atD {α : Type} {l : List α} {d : α} (h : l ≠ []) : l.getLast? = some (l.getLastD d) := by
  rw [List.getLastD_eq_getLast?]
  cases e : l.getLast? with
  | none => exact absurd (List.getLast?_eq_none_iff.mp e) h
  | some x => rfl
theorem lastD_mem {α : Type} {l : List α} {d : α} (h : l ≠ []) : l.getLastD d ∈ l := List.mem_of_getLast? (last_atD h)
theorem mem_enumN {α : Type} [Rp α] {l : List α} {p : Nat × α} (h : p ∈ enumL l) : l[p.1]? = some p.2 ∧ p.1 < l.length := by
  obtain ⟨i, hi⟩ := List.getElem?_of_mem h
  obtain ⟨h1, h2⟩ := enumL_get hi
  rw [h2]
  exact ⟨h1, (List.getElem?_eq_some_iff.mp h1).1⟩
/-! ### pairs of numbers, sorted -/
/-- a pair of numbers in a tuple of its own -/
structure Pt where
  a : Int
  b : Int
instance : Rp Pt := ⟨fun _ H v p => ∃ t, v = .ref t ∧ H t = some (.tup [.int p.a, .int p.b]), fun {K H H' v p} e h => by
  obtain ⟨t, h1, h2⟩ := h; exact ⟨t, h1, e _ _ (.tup _) h2⟩⟩
def insP (x : Int × Int) : List (Int × Int) → List (Int × Int)
  | [] => [x]
  | y :: r => if SrtO.lexB y x = true then y :: insP x r else x :: y :: r
def srtP : List (Int × Int) → List (Int × Int)
  | [] => []
  | x :: r => insP x (srtP r)
theorem insP_perm (x : Int × Int) : ∀ l : List (Int × Int), (insP x l).Perm (x :: l)
  | [] => .refl _
  | y :: r => by
    unfold insP
    split
    · exact ((insP_perm x r).cons y).trans (.swap ..)
    · exact .refl _
theorem srtP_perm : ∀ l : List (Int × Int), (srtP l).Perm l
  | [] => .refl _
  | x :: r => (insP_perm x (srtP r)).trans ((srtP_perm r).cons x)
abbrev SoP (l : List (Int × Int)) : Prop := l.Pairwise fun x y => SrtO.lexB y x = false
theorem insP_sorted (x : Int × Int) : ∀ {l : List (Int × Int)}, SoP l → SoP (insP x l)
  | [], _ => List.pairwise_singleton _ _
  | y :: r, h => by
    obtain ⟨h1, h2⟩ := List.pairwise_cons.mp h
    unfold insP
    split
    · rename_i c
      refine List.pairwise_cons.mpr ⟨fun z hz => ?_, insP_sorted x h2⟩
      rcases List.mem_cons.mp ((insP_perm x r).mem_iff.mp hz) with e | hz
      · subst e
        have a := SrtO.lexB_iff.mp c
        exact SrtO.lexB_no.mpr (by omega)
      · exact h1 z hz
    · rename_i c
      refine List.pairwise_cons.mpr ⟨fun z hz => ?_, h⟩
      have c' : SrtO.lexB y x = false := by simpa using c
      rcases List.mem_cons.mp hz with e | hz
      · subst e; exact c'
      · have a := SrtO.lexB_no.mp c'
        have b := SrtO.lexB_no.mp (h1 z hz)
        exact SrtO.lexB_no.mpr (by omega)
theorem srtP_sorted : ∀ l : List (Int × Int), SoP (srtP l)
  | [] => .nil
  | x :: r => insP_sorted x (srtP_sorted r)
theorem soP_uniq : ∀ {l r : List (Int × Int)}, l.Perm r → SoP l → SoP r → l = r
  | [], r, h, _, _ => (List.Perm.nil_eq h)
  | x :: l, [], h, _, _ => absurd h.length_eq (by simp)
  | x :: l, y :: r, h, h1, h2 => by
    obtain ⟨a1, a2⟩ := List.pairwise_cons.mp h1
    obtain ⟨b1, b2⟩ := List.pairwise_cons.mp h2
    have e : x = y := by
      have m1 : x ∈ y :: r := h.mem_iff.mp (List.mem_cons_self ..)
      have m2 : y ∈ x :: l := h.mem_iff.mpr (List.mem_cons_self ..)
      rcases List.mem_cons.mp m1 with m | m
      · exact m
      · rcases List.mem_cons.mp m2 with n | n
        · exact n.symm
        · have p := SrtO.lexB_no.mp (a1 y n)
          have q := SrtO.lexB_no.mp (b1 x m)
          exact Prod.ext (by omega) (by omega)
    subst e
    rw [soP_uniq (List.Perm.cons_inv h) a2 b2]
def kP (H : Hp) (v : V) : Int × Int := match v with
  | .ref t => match H t with
    | some (.tup [.int i, .int j]) => (i, j)
    | _ => (0, 0)
  | _ => (0, 0)
theorem kP_at {H : Hp} {t : Addr} {i j : Int} (h : H t = some (.tup [.int i, .int j])) : kP H (.ref t) = (i, j) := by
  show (match H t with | some (.tup [.int i, .int j]) => (i, j) | _ => (0, 0)) = _
  rw [h]
section
variable {K : Fg} {σ : L2.St} {H H' H1 : Hp} {p : Addr} {ta tb tc te : TE} {tt : TT} {α β : Type} [Rp α] [Rp β] {x : α} {v u : V} {i j : Int} {b : Bool}
theorem er_ptup (h1 : Er K ta σ H i) (h2 : Er K tb σ H j) : Er K (tTup (tCons ta (tCons tb tNil))) σ H (Pt.mk i j) := fun H1 e Q q =>
  h1 H1 e _ fun v H2 e2 r2 => h2 H2 (e.trans e2) _ fun u H3 e3 r3 => ⟨by show 2 ≤ sizeLine; decide, fun p hp => by
    cases (show v = .int i from r2); cases (show u = .int j from r3)
    exact q (.ref p) _ ((e2.trans e3).trans (same_new hp)) ⟨p, rfl, upd_same⟩⟩
theorem pt_k : ∀ {vs : List V} {l : List Pt}, RL K H vs l → vs.map (kP H) = l.map fun p => (p.a, p.b)
  | _, _, .nil => rfl
  | _, _, .cons h r => by
    obtain ⟨t, rfl, ht⟩ := h
    rw [List.map_cons, List.map_cons, kP_at ht, pt_k r]
theorem pt_all : ∀ {vs : List V} {l : List Pt}, RL K H vs l → ∀ x ∈ vs, ∃ t, x = V.ref t ∧ H t = some (.tup [.int (kP H x).1, .int (kP H x).2])
  | _, _, .nil, _, h => by cases h
  | _, _, .cons h r, x, hx => by
    rcases List.mem_cons.mp hx with e | hx
    · subst e
      obtain ⟨t, rfl, ht⟩ := h
      exact ⟨t, rfl, by rw [kP_at ht]; exact ht⟩
    · exact pt_all r x hx
theorem rl_pt : ∀ {ys : List V}, (∀ x ∈ ys, ∃ t, x = V.ref t ∧ H t = some (.tup [.int (kP H x).1, .int (kP H x).2])) → RL K H ys (ys.map (kP H))
  | [], _ => .nil
  | y :: ys, h => .cons (by
      obtain ⟨t, e, ht⟩ := h y (List.mem_cons_self ..)
      exact ⟨t, _, _, e, sq_tup ht, rfl, rfl⟩) (rl_pt fun x hx => h x (List.mem_cons_of_mem _ hx))
theorem erl_sortedP {l : List Pt} (h : Er K ta σ H l) : ErL K (tCB (rSortedPO K) (tCons ta tNil)) σ H (srtP (l.map fun p => (p.a, p.b))) := erl_cb1 h fun H v r Q q => by
  obtain ⟨a, vs, rfl, h2, h3⟩ := r
  have ha := pt_all h3
  refine ⟨a, vs, kP H, rfl, h2.seq, ha, fun ys p hs hst hn => q p ys _ (same_new hn) hn upd_same ?_⟩
  have hy : ∀ x ∈ ys, ∃ t, x = V.ref t ∧ H t = some (.tup [.int (kP H x).1, .int (kP H x).2]) := fun x hx => ha x (hst.perm.mem_iff.mp hx)
  have e : srtP (l.map fun p => (p.a, p.b)) = ys.map (kP H) := by
    refine (soP_uniq ?_ ?_ (srtP_sorted _)).symm
    · exact ((hst.perm.map (kP H)).trans (by rw [pt_k h3])).trans (srtP_perm _).symm
    · exact List.pairwise_map.mpr hs
  rw [e]
  exact (rl_pt hy).mono (SF.new hn)
/-! ### lists not locked, read -/
theorem er_lastU {k : Nat} {l : List α} {x : α} (hσ : σ[k]? = some (some (.ref p))) (hu : Un K H p l) (hi : Er K tb σ H (-1 : Int)) (hx : l.getLast? = some x) : Er K (tOp (rIxL K) (tVar k) tb) σ H x := fun H1 e Q q => by
  obtain ⟨vs, hp, r⟩ := hu
  refine ⟨.ref p, hσ, hi H1 e _ fun u H2 e2 r2 => ?_⟩
  cases (show u = .int (-1) from r2)
  have hn : 0 < l.length := by cases l with
    | nil => cases hx
    | cons _ _ => exact Nat.succ_pos _
  rw [List.getLast?_eq_getElem?] at hx
  obtain ⟨w, hw, rw'⟩ := paired_get r hx
  have hl := paired_len r
  refine ⟨p, vs, -1, w, rfl, rfl, sq_lst ((e.trans e2) _ _ hp), ?_, q w H2 e2 (Rp.mono (SF.of (e.trans e2)) rw')⟩
  unfold atI ixN
  rw [if_neg (by decide), if_pos (by omega)]
  show vs[((-1 : Int) + (vs.length : Int)).toNat]? = some w
  rw [show ((-1 : Int) + (vs.length : Int)).toNat = l.length - 1 by omega]
  exact hw
theorem un_dp [Rq α] {l : List α} (h : Un K H p l) : Dp K H (.ref p) (.list (l.map Rq.toD)) := by
  obtain ⟨vs, h1, r⟩ := h
  exact .lst (sq_lst h1) (dp_all r)
theorem er_eqU {k : Nat} [Rq α] [Rt α] [DecidableEq α] {l m : List α} (hσ : σ[k]? = some (some (.ref p))) (hu : Un K H p l) (h : Er K tb σ H m) (hd : Rq.dep (List α) ≤ 64 := by decide) : Er K (tOp (rEqD K) (tVar k) tb) σ H (decide (l = m)) := fun H1 e Q q =>
  ⟨.ref p, hσ, h H1 e _ fun u H2 e2 r2 => ⟨_, _, un_dp (Un.mono (e.trans e2) hu), Rq.dp r2, shaped_of (α := List α) (Rt.all l) hd, shaped_of (α := List α) (Rt.all m) hd, by rw [show PyData.list (l.map Rq.toD) = Rq.toD l from rfl, eqv_dec]; exact q _ H2 e2 rfl⟩⟩
theorem src_range1I (h : Er K te σ H i) (hz : -1000000 ≤ i ∧ i ≤ 1000000) : Src K (iRng1 (tCons te tNil)) σ H (List.range i.toNat) := fun H1 e RR k => h H1 e _ fun v H2 e2 r => by
  cases (show v = .int i from r)
  refine ⟨i, rfl, by omega, by omega, k _ H2 (fun _ => True) (YFn fun j => .int (0 + j)) e2 ?_ (fun _ _ => trivial) fun j x hx H' s v H'' y => ?_⟩
  · rw [List.length_range]; exact walk_range
  · obtain ⟨rfl, rfl⟩ := y
    have hi : j < i.toNat := by
      have := (List.getElem?_eq_some_iff.mp hx).1
      rwa [List.length_range] at this
    rw [List.getElem?_range hi] at hx
    cases hx
    exact ⟨Same.refl _, by show V.int _ = V.int _; rw [Int.zero_add]⟩
/-! ### len(set(numbers)) -/
theorem er_lenSet {l : List Int} (h : Er K ta σ H l) (hn : l.Nodup) (hl : l.length < 64) : Er K (tLenSetI K ta) σ H l.length := fun H1 e Q q => h H1 e _ fun v H2 e2 r => by
  obtain ⟨a, vs, rfl, f, r⟩ := r
  have h2 := rl_ints r
  subst h2
  exact ⟨a, l, rfl, f.seq, hl, hn, q _ H2 e2 rfl⟩
/-! ### while, with what falls -/
variable {D : Ends} {tu tz : TS}
theorem s_whileN (Pv : Nat → L2.St → Hp → Prop) (n : Nat) (h0 : Pv n σ H)
    (hs : ∀ m σ' H', Pv m σ' H' → ∃ b, Et K tt σ' H' b ∧ (b = true → ∀ H1, Same H' H1 → tu { D with nx := fun σ2 H2 => ∃ m', m' < m ∧ Pv m' σ2 H2, ct := fun σ2 H2 => ∃ m', m' < m ∧ Pv m' σ2 H2, bk := D.nx } σ' H1) ∧ (b = false → ∀ H1, Same H' H1 → D.nx σ' H1)) : tWhile tt tu D σ H := by
  refine ⟨Pv, ⟨n, h0⟩, ?_⟩
  rintro m σ' H' p
  obtain ⟨b, hb, h1, h2⟩ := hs m σ' H' p
  refine hb H' (Same.refl _) _ fun H2 e => ?_
  cases b with
  | true => exact ⟨_, fun σ2 H2 ⟨m', l, p'⟩ => ⟨m', l, p'⟩, h1 rfl H2 e⟩
  | false => exact h2 rfl H2 e
theorem q_whileN (Pv : Nat → L2.St → Hp → Prop) (n : Nat) (h0 : Pv n σ H)
    (hs : ∀ m σ' H', Pv m σ' H' → ∃ b, Et K tt σ' H' b ∧ (b = true → ∀ H1, Same H' H1 → tu { D with nx := fun σ2 H2 => ∃ m', m' < m ∧ Pv m' σ2 H2, ct := fun σ2 H2 => ∃ m', m' < m ∧ Pv m' σ2 H2, bk := tz D } σ' H1) ∧ (b = false → ∀ H1, Same H' H1 → tz D σ' H1)) : tSeq (tWhile tt tu) tz D σ H :=
  s_whileN (D := { D with nx := tz D }) Pv n h0 hs
end
section
variable {X : Cx} (K : Fg) (h : X.K = K)
include h
theorem k_sortedP : CallR X (.builtin "sorted") (rSortedPO K) := by subst h; exact cr_sortedPO
theorem k_lenSet {a : Expr} {ta : TE} {p p2 q pos : Pos} (hc : X.calm = true) (hg : Gl X "len") (hm : X.mg "len" = none) (hg2 : Gl X "set") (hm2 : X.mg "set" = none) (ha : PE X a ta)
    (na : starEach [a] X.env = (false, eval a X.env) :: starEach [] X.env := by rfl) : PE X (.Call (.Name "len" p) [.Call (.Name "set" p2) [a] [] q] [] pos) (tLenSetI K ta) := by subst h; exact pe_lenSetI hc hg hm hg2 hm2 ha na
end
end BL

set_option Elab.async false
set_option linter.all false
set_option maxRecDepth 100000
set_option maxHeartbeats 2000000
namespace BL
open PySem PySem.Spec PyProof.Rows L2
/-! ### the mathematics that all laws share -/
/-- bounds as they are asked -/
def BOk (b : List (Int × Int)) : Prop := 1 ≤ b.length ∧ b.length ≤ 7 ∧ ∀ p ∈ b, -50 ≤ p.1 ∧ p.1 ≤ p.2 ∧ p.2 ≤ 50
theorem getD_at {α : Type} {l : List α} {n : Nat} {d : α} (h : n < l.length) : l[n]? = some (l.getD n d) := by
  rw [List.getElem?_eq_getElem h, List.getD_eq_getElem?_getD, List.getElem?_eq_getElem h]; rfl
/-- what the laws draw: few values with few choices -/
def SmallP (n : Int) (b : List (Int × Int)) : Prop := 1 ≤ b.length ∧ (b.length : Int) ≤ n ∧ ∀ t ∈ b, -4 ≤ t.1 ∧ t.1 < 4 ∧ t.1 ≤ t.2 ∧ t.2 < t.1 + 4
theorem iabs_nat (i : Int) : iabs i = (i.natAbs : Int) := by unfold iabs; split <;> omega
def gcdI (a b : Int) : Int := (Int.gcd a b : Int)
/-- a fraction in lowest terms -/
def frI (a b : Int) : Int × Int := (a / gcdI a b, b / gcdI a b)
theorem gcdI_pos {a b : Int} (h : 0 < b) : 0 < gcdI a b := by
  unfold gcdI
  have := Int.gcd_pos_of_ne_zero_right a (show b ≠ 0 by omega)
  omega
theorem gcdI_le {a b : Int} (h : 0 < b) : gcdI a b ≤ b := by
  unfold gcdI
  have h1 : Int.gcd a b ∣ b.natAbs := Nat.gcd_dvd_right _ _
  have := Nat.le_of_dvd (by omega) h1
  omega
theorem gcd_turn {a b : Nat} (h : b ≠ 0) : Nat.gcd b (a % b) = Nat.gcd a b := by
  rw [Nat.gcd_comm a b, Nat.gcd_rec b a, Nat.gcd_comm (a % b) b]
theorem nat_mod_int (a b : Nat) : ((a : Int) % (b : Int)) = ((a % b : Nat) : Int) := by omega
def BndP (n : Int) (b : List (Int × Int)) : Prop := 1 ≤ b.length ∧ (b.length : Int) ≤ n ∧ ∀ t ∈ b, -30 ≤ t.1 ∧ t.1 < 30 ∧ t.1 ≤ t.2 ∧ t.2 < t.1 + 20
theorem bnd_bok {n : Int} {b : List (Int × Int)} (h : BndP n b) (hn : n ≤ 7) : BOk b := ⟨h.1, by have := h.2.1; omega, fun p hp => by have := h.2.2 p hp; omega⟩
theorem ord_of {b : List (Int × Int)} (h : BOk b) : ∀ p ∈ b, p.1 ≤ p.2 := fun p hp => (h.2.2 p hp).2.1
/-! ### lists below one another, place by place -/
def leL : List Int → List Int → Prop
  | [], [] => True
  | x :: l, y :: r => x ≤ y ∧ leL l r
  | _, _ => False
theorem leL_refl : ∀ l : List Int, leL l l
  | [] => trivial
  | _ :: l => ⟨Int.le_refl _, leL_refl l⟩
theorem leL_len : ∀ {l r : List Int}, leL l r → l.length = r.length
  | [], [], _ => rfl
  | _ :: l, _ :: r, h => by rw [List.length_cons, List.length_cons, leL_len h.2]
  | [], _ :: _, h => h.elim
  | _ :: _, [], h => h.elim
theorem leL_trans : ∀ {l r s : List Int}, leL l r → leL r s → leL l s
  | [], [], [], _, _ => trivial
  | _ :: _, _ :: _, _ :: _, h, k => ⟨Int.le_trans h.1 k.1, leL_trans h.2 k.2⟩
  | [], _ :: _, _, h, _ => h.elim
  | _ :: _, [], _, h, _ => h.elim
  | [], [], _ :: _, _, h => h.elim
  | _ :: _, _ :: _, [], _, h => h.elim
theorem leL_sum : ∀ {l r : List Int}, leL l r → l.sum ≤ r.sum
  | [], [], _ => Int.le_refl _
  | _ :: l, _ :: r, h => by rw [List.sum_cons, List.sum_cons]; have := leL_sum h.2; have := h.1; omega
  | [], _ :: _, h => h.elim
  | _ :: _, [], h => h.elim
theorem leL_getD : ∀ {l r : List Int} (n : Nat), leL l r → l.getD n 0 ≤ r.getD n 0
  | [], [], _, _ => Int.le_refl _
  | _ :: _, _ :: _, 0, h => h.1
  | _ :: l, _ :: r, n + 1, h => by
    rw [List.getD_cons_succ, List.getD_cons_succ]; exact leL_getD n h.2
  | [], _ :: _, _, h => h.elim
  | _ :: _, [], _, h => h.elim
theorem ins_head {x : Int} {l : List Int} (h : (x :: l).Pairwise (· ≤ ·)) : ins x l = x :: l := by
  cases l with
  | nil => rfl
  | cons y r =>
    unfold ins
    rw [if_pos ((List.pairwise_cons.mp h).1 y (List.mem_cons_self ..))]
theorem leL_ins : ∀ {l r : List Int} {x y : Int}, l.Pairwise (· ≤ ·) → r.Pairwise (· ≤ ·) → leL l r → x ≤ y → leL (ins x l) (ins y r)
  | [], [], x, y, _, _, _, h => ⟨h, trivial⟩
  | a :: l, b :: r, x, y, hl, hr, hlr, h => by
    obtain ⟨h1, h2⟩ := hlr
    have hl2 := (List.pairwise_cons.mp hl).2
    have hr2 := (List.pairwise_cons.mp hr).2
    unfold ins
    by_cases c1 : x ≤ a
    · rw [if_pos c1]
      by_cases c2 : y ≤ b
      · rw [if_pos c2]; exact ⟨h, h1, h2⟩
      · rw [if_neg c2]
        refine ⟨by omega, ?_⟩
        rw [← ins_head hl]
        exact leL_ins hl2 hr2 h2 (by omega)
    · rw [if_neg c1]
      by_cases c2 : y ≤ b
      · rw [if_pos c2]
        refine ⟨by omega, ?_⟩
        rw [← ins_head hr]
        exact leL_ins hl2 hr2 h2 (by omega)
      · rw [if_neg c2]
        exact ⟨h1, leL_ins hl2 hr2 h2 h⟩
  | [], _ :: _, _, _, _, _, h, _ => h.elim
  | _ :: _, [], _, _, _, _, h, _ => h.elim
theorem leL_srt : ∀ {l r : List Int}, leL l r → leL (srt l) (srt r)
  | [], [], _ => trivial
  | _ :: l, _ :: r, h => leL_ins (srt_sorted l) (srt_sorted r) (leL_srt h.2) h.1
  | [], _ :: _, h => h.elim
  | _ :: _, [], h => h.elim
theorem leL_above (c : Int) : ∀ {l r : List Int}, leL l r → (l.filter fun v => decide (v > c)).length ≤ (r.filter fun v => decide (v > c)).length
  | [], [], _ => Nat.le_refl _
  | x :: l, y :: r, h => by
    have ih := leL_above c h.2
    have h1 := h.1
    rw [List.filter_cons, List.filter_cons]
    by_cases c1 : x > c
    · rw [if_pos (decide_eq_true c1), if_pos (decide_eq_true (show y > c by omega)), List.length_cons, List.length_cons]; omega
    · rw [if_neg (by simp; omega)]
      split
      · rw [List.length_cons]; omega
      · exact ih
  | [], _ :: _, h => h.elim
  | _ :: _, [], h => h.elim
theorem srt_zero {l : List Int} (h : l ≠ []) : (srt l).getD 0 0 = mnl l := by
  have hl : 0 < (srt l).length := by rw [srt_len]; exact List.length_pos_iff.mpr h
  refine mnl_eq ?_ fun y hy => ?_
  · refine (srt_perm l).mem_iff.mp ?_
    cases e : srt l with
    | nil => rw [e] at hl; cases hl
    | cons x r => exact List.mem_cons_self ..
  · have hs := srt_sorted l
    have hy := (srt_perm l).mem_iff.mpr hy
    cases e : srt l with
    | nil => rw [e] at hl; cases hl
    | cons x r =>
      rw [e] at hs hy
      rcases List.mem_cons.mp hy with q | q
      · subst q; exact Int.le_refl _
      · exact (List.pairwise_cons.mp hs).1 y q
theorem sorted_last : ∀ {l : List Int}, l.Pairwise (· ≤ ·) → ∀ y ∈ l, y ≤ l.getD (l.length - 1) 0
  | [x], _, y, h => by rw [List.mem_singleton.mp h]; exact Int.le_refl _
  | x :: z :: r, hs, y, h => by
    have h2 := (List.pairwise_cons.mp hs).2
    have e : (x :: z :: r).getD ((x :: z :: r).length - 1) 0 = (z :: r).getD ((z :: r).length - 1) 0 := by simp [List.getD_cons_succ]
    rw [e]
    rcases List.mem_cons.mp h with q | q
    · subst q
      exact Int.le_trans ((List.pairwise_cons.mp hs).1 z (List.mem_cons_self ..)) (sorted_last h2 z (List.mem_cons_self ..))
    · exact sorted_last h2 y q
theorem getD_mem {l : List Int} {n : Nat} (h : n < l.length) : l.getD n 0 ∈ l := List.mem_of_getElem? (getD_at h)
theorem srt_last {l : List Int} (h : l ≠ []) : (srt l).getD (l.length - 1) 0 = mxl l := by
  have hl : 0 < (srt l).length := by rw [srt_len]; exact List.length_pos_iff.mpr h
  refine mxl_eq ?_ fun y hy => ?_
  · exact (srt_perm l).mem_iff.mp (getD_mem (by rw [srt_len] at hl ⊢; omega))
  · have := sorted_last (srt_sorted l) y ((srt_perm l).mem_iff.mpr hy)
    rw [srt_len] at this
    exact this
/-! ### fractions in lowest terms, compared -/
theorem frI_spec {x n : Int} (h : 0 < n) : ∃ g, 0 < g ∧ x = (frI x n).1 * g ∧ n = (frI x n).2 * g ∧ 0 < (frI x n).2 := by
  have hg := gcdI_pos (a := x) h
  have d1 : gcdI x n ∣ x := Int.gcd_dvd_left ..
  have d2 : gcdI x n ∣ n := Int.gcd_dvd_right ..
  refine ⟨gcdI x n, hg, (Int.ediv_mul_cancel d1).symm, (Int.ediv_mul_cancel d2).symm, ?_⟩
  exact Int.ediv_pos_of_pos_of_dvd h (Int.le_of_lt hg) d2
theorem frI_le {x n : Int} (h : 0 < n) : 0 < (frI x n).2 ∧ (frI x n).2 ≤ n := by
  obtain ⟨g, h1, h2, h3, h4⟩ := frI_spec (x := x) h
  refine ⟨h4, ?_⟩
  have : (frI x n).2 * 1 ≤ (frI x n).2 * g := Int.mul_le_mul_of_nonneg_left (by omega) (by omega)
  omega
/-- a fraction a / b below another, as their whole numbers tell -/
theorem frI_lt {x y n m : Int} (hn : 0 < n) (hm : 0 < m) : (frI x n).1 * (frI y m).2 < (frI y m).1 * (frI x n).2 ↔ x * m < y * n := by
  obtain ⟨g, g1, g2, g3, g4⟩ := frI_spec (x := x) hn
  obtain ⟨k, k1, k2, k3, k4⟩ := frI_spec (x := y) hm
  have e1 : x * m = (frI x n).1 * (frI y m).2 * (g * k) := by
    calc x * m = ((frI x n).1 * g) * ((frI y m).2 * k) := by rw [← g2, ← k3]
      _ = _ := by simp only [Int.mul_assoc, Int.mul_left_comm, Int.mul_comm]
  have e2 : y * n = (frI y m).1 * (frI x n).2 * (g * k) := by
    calc y * n = ((frI y m).1 * k) * ((frI x n).2 * g) := by rw [← k2, ← g3]
      _ = _ := by simp only [Int.mul_assoc, Int.mul_left_comm, Int.mul_comm]
  rw [e1, e2]
  have hp : 0 < g * k := Int.mul_pos g1 k1
  exact ⟨fun h => Int.mul_lt_mul_of_pos_right h hp, fun h => Int.lt_of_mul_lt_mul_right h (Int.le_of_lt hp)⟩
/-! ### all choices of integers, one after another -/
def rowExt (p : Int × Int) (r : List Int) : List (List Int) := (rgI p.1 (p.2 + 1 - p.1).toNat).map fun v => r ++ [v]
def rowsFrom (acc : List (List Int)) (b : List (Int × Int)) : List (List Int) := b.foldl (fun a p => a.flatMap (rowExt p)) acc
def rowsOf (b : List (Int × Int)) : List (List Int) := rowsFrom [[]] b
def inB : List (Int × Int) → List Int → Prop
  | [], [] => True
  | p :: b, x :: r => (p.1 ≤ x ∧ x ≤ p.2) ∧ inB b r
  | _, _ => False
theorem mem_rgI {lo : Int} {n : Nat} {x : Int} : x ∈ rgI lo n ↔ lo ≤ x ∧ x < lo + n := by
  unfold rgI
  rw [List.mem_map]
  constructor
  · rintro ⟨k, hk, rfl⟩
    have := List.mem_range.mp hk
    omega
  · rintro ⟨h1, h2⟩
    exact ⟨(x - lo).toNat, List.mem_range.mpr (by omega), by omega⟩
theorem len_rgI (lo : Int) (n : Nat) : (rgI lo n).length = n := by unfold rgI; rw [List.length_map, List.length_range]
theorem mem_rowsFrom : ∀ {b : List (Int × Int)} {acc : List (List Int)} {r : List Int}, r ∈ rowsFrom acc b ↔ ∃ r0 ∈ acc, ∃ r1, r = r0 ++ r1 ∧ inB b r1
  | [], acc, r => by
    constructor
    · intro h; exact ⟨r, h, [], (List.append_nil r).symm, trivial⟩
    · rintro ⟨r0, h0, r1, rfl, h1⟩
      cases r1 with
      | nil => rw [List.append_nil]; exact h0
      | cons _ _ => exact h1.elim
  | p :: b, acc, r => by
    show r ∈ rowsFrom (acc.flatMap (rowExt p)) b ↔ _
    rw [mem_rowsFrom]
    constructor
    · rintro ⟨r0, h0, r1, rfl, h1⟩
      obtain ⟨a, ha, h2⟩ := List.mem_flatMap.mp h0
      obtain ⟨v, hv, rfl⟩ := List.mem_map.mp h2
      have hv := mem_rgI.mp hv
      exact ⟨a, ha, v :: r1, by simp, by omega, h1⟩
    · rintro ⟨r0, h0, r1, rfl, h1⟩
      cases r1 with
      | nil => exact h1.elim
      | cons v r1 =>
        refine ⟨r0 ++ [v], List.mem_flatMap.mpr ⟨r0, h0, List.mem_map.mpr ⟨v, mem_rgI.mpr ?_, rfl⟩⟩, r1, by simp, h1.2⟩
        have := h1.1
        omega
theorem mem_rows {b : List (Int × Int)} {r : List Int} : r ∈ rowsOf b ↔ inB b r := by
  unfold rowsOf
  rw [mem_rowsFrom]
  constructor
  · rintro ⟨r0, h0, r1, rfl, h1⟩
    rw [List.mem_singleton.mp h0]; exact h1
  · intro h; exact ⟨[], List.mem_singleton.mpr rfl, r, rfl, h⟩
theorem inB_len : ∀ {b : List (Int × Int)} {r : List Int}, inB b r → r.length = b.length
  | [], [], _ => rfl
  | _ :: b, _ :: r, h => by rw [List.length_cons, List.length_cons, inB_len h.2]
  | [], _ :: _, h => h.elim
  | _ :: _, [], h => h.elim
theorem rows_take {b : List (Int × Int)} {k : Nat} {p : Int × Int} (h : b[k]? = some p) : rowsOf (b.take (k + 1)) = (rowsOf (b.take k)).flatMap (rowExt p) := by
  unfold rowsOf rowsFrom
  rw [List.take_add_one, h, List.foldl_append]; rfl
theorem flat_len {α β : Type} {f : α → List β} {n : Nat} : ∀ {l : List α}, (∀ x ∈ l, (f x).length ≤ n) → (l.flatMap f).length ≤ l.length * n
  | [], _ => by simp
  | x :: l, h => by
    rw [List.flatMap_cons, List.length_append, List.length_cons, Nat.add_mul, Nat.one_mul, Nat.add_comm]
    exact Nat.add_le_add (flat_len fun y hy => h y (List.mem_cons_of_mem _ hy)) (h x (List.mem_cons_self ..))
theorem rows_card : ∀ {b : List (Int × Int)} {acc : List (List Int)} {m : Nat}, (∀ p ∈ b, p.2 + 1 - p.1 ≤ (m : Int)) → (rowsFrom acc b).length ≤ acc.length * m ^ b.length
  | [], acc, m, _ => by show acc.length ≤ acc.length * m ^ 0; rw [Nat.pow_zero, Nat.mul_one]; exact Nat.le_refl _
  | p :: b, acc, m, h => by
    have ih := rows_card (b := b) (acc := acc.flatMap (rowExt p)) (m := m) fun q hq => h q (List.mem_cons_of_mem _ hq)
    have h1 : (acc.flatMap (rowExt p)).length ≤ acc.length * m := flat_len fun r _ => by
      unfold rowExt
      rw [List.length_map, len_rgI]
      have := h p (List.mem_cons_self ..)
      omega
    show (rowsFrom (acc.flatMap (rowExt p)) b).length ≤ acc.length * m ^ (b.length + 1)
    refine Nat.le_trans ih ?_
    rw [Nat.pow_succ, Nat.mul_comm (m ^ b.length) m, ← Nat.mul_assoc]
    exact Nat.mul_le_mul_right _ h1
/-- few bounds of few choices -/
def Few (b : List (Int × Int)) : Prop := b.length ≤ 7 ∧ ∀ p ∈ b, -1000 ≤ p.1 ∧ p.1 ≤ p.2 ∧ p.2 < p.1 + 4 ∧ p.2 ≤ 1000
theorem few_card {b : List (Int × Int)} (h : Few b) (k : Nat) : (rowsOf (b.take k)).length ≤ 16384 := by
  have h1 := rows_card (b := b.take k) (acc := [[]]) (m := 4) fun p hp => by have := h.2 p (List.mem_of_mem_take hp); omega
  have h2 : (b.take k).length ≤ 7 := Nat.le_trans (by rw [List.length_take]; exact Nat.min_le_right _ _) h.1
  have h3 : 4 ^ (b.take k).length ≤ 4 ^ 7 := Nat.pow_le_pow_right (by decide) h2
  have h4 : (4 : Nat) ^ 7 = 16384 := by decide
  have h5 : ([[]] : List (List Int)).length = 1 := rfl
  unfold rowsOf
  exact Nat.le_trans h1 (by rw [h5, Nat.one_mul]; exact Nat.le_trans h3 (by decide))
theorem ext_card {p : Int × Int} (h : p.2 < p.1 + 4) {l : List (List Int)} : (l.flatMap (rowExt p)).length ≤ l.length * 4 := flat_len fun r _ => by
  unfold rowExt
  rw [List.length_map, len_rgI]; omega
/-! ### fractions: their size -/
def Sz (k : Nat) (p : Int × Int) : Prop := 0 < p.2 ∧ p.2.natAbs < 2 ^ k ∧ p.1.natAbs < 2 ^ k
theorem pow_le2 {k m : Nat} (h : k ≤ m) : 2 ^ k ≤ 2 ^ m := Nat.pow_le_pow_right (by decide) h
theorem Sz.le {k m : Nat} {p : Int × Int} (h : Sz k p) (hk : k ≤ m) : Sz m p := ⟨h.1, Nat.lt_of_lt_of_le h.2.1 (pow_le2 hk), Nat.lt_of_lt_of_le h.2.2 (pow_le2 hk)⟩
theorem small_pre {b : Int} (h : 0 < b) (h2 : b ≤ 100) : 0 < b ∧ b.natAbs < 2 ^ 4000 := ⟨h, Nat.lt_of_lt_of_le (show b.natAbs < 2 ^ 7 by omega) (pow_le2 (by decide))⟩
theorem gcd_div {i a b : Int} (h : 0 < b ∧ b.natAbs < 2 ^ 4000) : CDivW i (gcdI a b) :=
  wide_div (b := 4000) (gcdI_pos h.1) (wide_le (Int.le_of_lt (gcdI_pos h.1)) (gcdI_le h.1) h.2) (by decide) (by decide)
theorem cmulW {i j : Int} {k : Nat} (hi : i.natAbs < 2 ^ k) (hj : j.natAbs < 2 ^ k) (h0 : 0 < k) (h : k ≤ 4000) : CMulW i j := by
  have a := PySem.Flt.log2_lt_of h0 hi
  have b := PySem.Flt.log2_lt_of h0 hj
  unfold CMulW; omega
theorem frI_sz {a b : Int} {k : Nat} (hb : 0 < b) (h1 : a.natAbs < 2 ^ k) (h2 : b.natAbs < 2 ^ k) : Sz k (frI a b) := by
  have hg := gcdI_pos (a := a) hb
  obtain ⟨g, g1, g2, g3, g4⟩ := frI_spec (x := a) hb
  refine ⟨g4, Nat.lt_of_le_of_lt ?_ h2, Nat.lt_of_le_of_lt ?_ h1⟩
  · conv => rhs; rw [g3, Int.natAbs_mul]
    exact Nat.le_mul_of_pos_right _ (by omega)
  · conv => rhs; rw [g2, Int.natAbs_mul]
    exact Nat.le_mul_of_pos_right _ (by omega)
theorem mul_sz {i j : Int} {k m : Nat} (hi : i.natAbs < 2 ^ k) (hj : j.natAbs < 2 ^ m) : (i * j).natAbs < 2 ^ (k + m) := wide_lt hi hj
theorem add_sz {i j : Int} {k : Nat} (hi : i.natAbs < 2 ^ k) (hj : j.natAbs < 2 ^ k) : (i + j).natAbs < 2 ^ (k + 1) := by
  rw [Nat.pow_succ]; omega
theorem sz_one {x : Int} (h : -200 ≤ x ∧ x ≤ 200) : Sz 8 (x, 1) := ⟨(show (0 : Int) < 1 by decide), (show (1 : Int).natAbs < 2 ^ 8 by decide), by show x.natAbs < 2 ^ 8; omega⟩
theorem sz_zero : Sz 1 (0, 1) := ⟨(show (0 : Int) < 1 by decide), (show (1 : Int).natAbs < 2 ^ 1 by decide), (show (0 : Int).natAbs < 2 ^ 1 by decide)⟩
theorem sz_pre {k m : Nat} {p q : Int × Int} (hp : Sz k p) (hq : Sz m q) (h : k + m ≤ 4000) : 0 < p.2 * q.2 ∧ (p.2 * q.2).natAbs < 2 ^ 4000 :=
  ⟨Int.mul_pos hp.1 hq.1, Nat.lt_of_lt_of_le (mul_sz hp.2.1 hq.2.1) (pow_le2 h)⟩
def pls (p q : Int × Int) : Int × Int := frI (p.1 * q.2 + q.1 * p.2) (p.2 * q.2)
def tms (p q : Int × Int) : Int × Int := frI (p.1 * q.1) (p.2 * q.2)
theorem sz_pls {k m : Nat} {p q : Int × Int} (hp : Sz k p) (hq : Sz m q) : Sz (k + m + 1) (pls p q) := by
  refine frI_sz (Int.mul_pos hp.1 hq.1) (add_sz (mul_sz hp.2.2 hq.2.1) ?_) (Nat.lt_of_lt_of_le (mul_sz hp.2.1 hq.2.1) (pow_le2 (by omega)))
  rw [Nat.add_comm]; exact mul_sz hq.2.2 hp.2.1
theorem sz_tms {k m : Nat} {p q : Int × Int} (hp : Sz k p) (hq : Sz m q) : Sz (k + m) (tms p q) := frI_sz (Int.mul_pos hp.1 hq.1) (mul_sz hp.2.2 hq.2.2) (mul_sz hp.2.1 hq.2.1)
theorem sz_neg {k : Nat} {p : Int × Int} (hp : Sz k p) : Sz k (-p.1, p.2) := ⟨hp.1, hp.2.1, by show (-p.1).natAbs < _; rw [Int.natAbs_neg]; exact hp.2.2⟩
theorem sz_fold {α : Type} {g : α → Int × Int} {k : Nat} : ∀ {l : List α} {m : Nat} {a : Int × Int}, Sz m a → (∀ x ∈ l, Sz k (g x)) → Sz (m + l.length * (k + 1)) (l.foldl (fun s x => pls s (g x)) a)
  | [], m, a, h, _ => by simpa using h
  | x :: l, m, a, h, hl => by
    rw [List.foldl_cons, List.length_cons, Nat.add_mul, Nat.one_mul]
    have h1 := sz_pls h (hl x (List.mem_cons_self ..))
    have := sz_fold (l := l) h1 fun y hy => hl y (List.mem_cons_of_mem _ hy)
    exact this.le (by omega)
theorem sz_neg0 {k : Nat} {p : Int × Int} (hp : Sz k p) : Sz k (0 - p.1, p.2) := by rw [Int.zero_sub]; exact sz_neg hp
theorem n_sz {α : Type} {l : List α} (h0 : l ≠ []) (h : l.length ≤ 8) : Sz 8 ((1 : Int), (l.length : Int)) := ⟨by have := List.length_pos_iff.mpr h0; show (0 : Int) < (l.length : Int); omega, by show (l.length : Int).natAbs < 2 ^ 8; omega, (show (1 : Int).natAbs < 2 ^ 8 by decide)⟩
/-! all lows and highs -/
def cstep (s : List (List Int)) (p : Int × Int) : List (List Int) := s.map (fun r => r ++ [p.1]) ++ mapIf (fun _ => decide (p.2 > p.1)) (fun r => r ++ [p.2]) s
theorem cor_len : ∀ {l : List (Int × Int)} {a : List (List Int)}, (l.foldl cstep a).length ≤ a.length * 2 ^ l.length
  | [], a => by simp
  | p :: l, a => by
    rw [List.foldl_cons, List.length_cons, Nat.pow_succ]
    refine Nat.le_trans (cor_len (l := l)) ?_
    rw [Nat.mul_comm (2 ^ l.length) 2, ← Nat.mul_assoc]
    refine Nat.mul_le_mul_right _ ?_
    unfold cstep
    rw [List.length_append, List.length_map]
    have := mapIf_le (c := fun _ : List Int => decide (p.2 > p.1)) (f := fun r => r ++ [p.2]) (l := a)
    omega
theorem cor_lenE {l : List (Int × Int)} {s : List (List Int)} (hs : s = l.foldl cstep [[]]) (h : l.length ≤ 7) : s.length ≤ 128 := by
  rw [hs]
  refine Nat.le_trans cor_len ?_
  have := pow_le2 h
  show 1 * _ ≤ _
  omega
theorem inB_app : ∀ {b : List (Int × Int)} {r : List Int} {p : Int × Int} {x : Int}, inB b r → p.1 ≤ x → x ≤ p.2 → inB (b ++ [p]) (r ++ [x])
  | [], [], _, _, _, h1, h2 => ⟨⟨h1, h2⟩, trivial⟩
  | _ :: b, _ :: r, _, _, h, h1, h2 => ⟨h.1, inB_app h.2 h1 h2⟩
  | [], _ :: _, _, _, h, _, _ => h.elim
  | _ :: _, [], _, _, h, _, _ => h.elim
theorem cor_in : ∀ {l : List (Int × Int)} {b : List (Int × Int)} {a : List (List Int)}, (∀ p ∈ l, p.1 ≤ p.2) → (∀ r ∈ a, inB b r) → ∀ r ∈ l.foldl cstep a, inB (b ++ l) r
  | [], b, a, _, h, r, hr => by rw [List.append_nil]; exact h r hr
  | p :: l, b, a, hp, h, r, hr => by
    rw [List.foldl_cons] at hr
    have h1 := hp p (List.mem_cons_self ..)
    have := cor_in (b := b ++ [p]) (fun q hq => hp q (List.mem_cons_of_mem _ hq)) (fun q hq => by
      unfold cstep at hq
      rcases List.mem_append.mp hq with hq | hq
      · obtain ⟨r0, h0, rfl⟩ := List.mem_map.mp hq
        exact inB_app (h r0 h0) (Int.le_refl _) h1
      · obtain ⟨r0, h0, rfl⟩ := List.mem_map.mp hq
        exact inB_app (h r0 (List.mem_filter.mp h0).1) h1 (Int.le_refl _)) r hr
    rwa [List.append_assoc] at this
theorem cor_inE {l : List (Int × Int)} {s : List (List Int)} (hs : s = l.foldl cstep [[]]) (hp : ∀ p ∈ l, p.1 ≤ p.2) : ∀ r ∈ s, inB l r := fun r hr => by
  rw [hs] at hr
  exact cor_in (b := []) hp (fun q hq => by rw [List.mem_singleton.mp hq]; trivial) r hr
theorem cor_ne : ∀ {l : List (Int × Int)} {a : List (List Int)}, a ≠ [] → l.foldl cstep a ≠ []
  | [], _, h => h
  | p :: l, a, h => cor_ne (l := l) (by unfold cstep; cases a with
    | nil => exact absurd rfl h
    | cons x r => simp)
theorem inB_all : ∀ {b : List (Int × Int)} {r : List Int}, inB b r → (∀ p ∈ b, -50 ≤ p.1 ∧ p.1 ≤ p.2 ∧ p.2 ≤ 50) → ∀ x ∈ r, -50 ≤ x ∧ x ≤ 50
  | [], [], _, _, _, h => by cases h
  | p :: b, y :: r, h, hb, x, hx => by
    rcases List.mem_cons.mp hx with e | hx
    · subst e; have := hb p (List.mem_cons_self ..); have := h.1; omega
    · exact inB_all h.2 (fun q hq => hb q (List.mem_cons_of_mem _ hq)) x hx
  | [], _ :: _, h, _, _, _ => h.elim
  | _ :: _, [], h, _, _, _ => h.elim
theorem row_sz {b : List (Int × Int)} (hB : BOk b) {r : List Int} (h : inB b r) : (r.map fun x => (x, (1 : Int))) ≠ [] ∧ (r.map fun x => (x, (1 : Int))).length ≤ 8 ∧ ∀ p ∈ r.map (fun x => (x, (1 : Int))), Sz 10 p := by
  have hl := inB_len h
  have := hB.1; have := hB.2.1
  refine ⟨fun e => ?_, by rw [List.length_map]; omega, fun p hp => ?_⟩
  · have := congrArg List.length e; rw [List.length_map] at this; simp at this; subst this; simp at hl; omega
  · obtain ⟨x, hx, rfl⟩ := List.mem_map.mp hp
    have := inB_all h hB.2.2 x hx
    exact (sz_one (by omega)).le (by decide)
/-! ### sums of rationals, and n times the squares about the mean -/
def s1 (l : List Rat) : Rat := l.foldr (· + ·) 0
def s2 (l : List Rat) : Rat := l.foldr (fun x s => x * x + s) 0
def ln (l : List Rat) : Rat := l.foldr (fun _ s => s + 1) 0
def vr (l : List Rat) : Rat := ln l * s2 l - s1 l * s1 l
theorem s1c (x : Rat) (l : List Rat) : s1 (x :: l) = x + s1 l := rfl
theorem s2c (x : Rat) (l : List Rat) : s2 (x :: l) = x * x + s2 l := rfl
theorem lnc (x : Rat) (l : List Rat) : ln (x :: l) = ln l + 1 := rfl
theorem sq_nn (x : Rat) : 0 ≤ x * x := by
  by_cases h : 0 ≤ x
  · exact Rat.mul_nonneg h h
  · have := Rat.mul_nonneg (a := -x) (b := -x) (by grind) (by grind); grind
theorem sqd_nn (x : Rat) : ∀ l : List Rat, 0 ≤ ln l * (x * x) - 2 * x * s1 l + s2 l
  | [] => by show (0 : Rat) ≤ 0 * (x * x) - 2 * x * 0 + 0; grind
  | y :: l => by
    have ih := sqd_nn x l
    have := sq_nn (x - y)
    rw [s1c, s2c, lnc]; grind
theorem vr_nn : ∀ l : List Rat, 0 ≤ vr l
  | [] => by show (0 : Rat) ≤ 0 * 0 - 0 * 0; grind
  | x :: l => by
    have ih := vr_nn l
    have := sqd_nn x l
    unfold vr at *
    rw [s1c, s2c, lnc]; grind
theorem ln_nn : ∀ l : List Rat, 0 ≤ ln l
  | [] => by show (0 : Rat) ≤ 0; grind
  | _ :: l => by rw [lnc]; have := ln_nn l; grind
/-- of pairs (x, y): what the x's have more -/
def dif (l : List (Rat × Rat)) : List Rat := l.map fun p => p.1 - p.2
def prd (l : List (Rat × Rat)) : Rat := l.foldr (fun p s => (p.1 - p.2) * p.2 + s) 0
theorem s1_dif : ∀ l : List (Rat × Rat), s1 (l.map (·.1)) = s1 (l.map (·.2)) + s1 (dif l)
  | [] => by show (0 : Rat) = 0 + 0; grind
  | p :: l => by
    have ih := s1_dif l
    show p.1 + s1 (l.map (·.1)) = p.2 + s1 (l.map (·.2)) + (p.1 - p.2 + s1 (dif l))
    grind
theorem s2_dif : ∀ l : List (Rat × Rat), s2 (l.map (·.1)) = s2 (l.map (·.2)) + 2 * prd l + s2 (dif l)
  | [] => by show (0 : Rat) = 0 + 2 * 0 + 0; grind
  | p :: l => by
    have ih := s2_dif l
    show p.1 * p.1 + s2 (l.map (·.1)) = p.2 * p.2 + s2 (l.map (·.2)) + 2 * ((p.1 - p.2) * p.2 + prd l) + ((p.1 - p.2) * (p.1 - p.2) + s2 (dif l))
    grind
theorem ln_map {α : Type} (f g : α → Rat) : ∀ l : List α, ln (l.map f) = ln (l.map g)
  | [] => rfl
  | _ :: l => by rw [List.map_cons, List.map_cons, lnc, lnc, ln_map f g l]
theorem prd_nn (n Y : Rat) : ∀ l : List (Rat × Rat), (∀ p ∈ l, 0 ≤ (p.1 - p.2) * (n * p.2 - Y)) → 0 ≤ n * prd l - Y * s1 (dif l)
  | [], _ => by show (0 : Rat) ≤ n * 0 - Y * 0; grind
  | p :: l, h => by
    have ih := prd_nn n Y l fun q hq => h q (List.mem_cons_of_mem _ hq)
    have := h p (List.mem_cons_self ..)
    show 0 ≤ n * ((p.1 - p.2) * p.2 + prd l) - Y * (p.1 - p.2 + s1 (dif l))
    grind
/-- moving away from the mean makes the squares more -/
theorem vr_key (l : List (Rat × Rat)) (h : ∀ p ∈ l, 0 ≤ (p.1 - p.2) * (ln (l.map (·.2)) * p.2 - s1 (l.map (·.2)))) : vr (l.map (·.2)) ≤ vr (l.map (·.1)) := by
  have a := s1_dif l
  have b := s2_dif l
  have c := prd_nn _ _ l h
  have d := vr_nn (dif l)
  have e1 : ln (l.map (·.1)) = ln (l.map (·.2)) := ln_map _ _ l
  have e2 : ln (dif l) = ln (l.map (·.2)) := ln_map _ _ l
  unfold vr at *
  rw [e2] at d
  rw [e1, a, b]
  grind
/-- one more value -/
theorem vr_more (x : Rat) (l : List Rat) (h : 0 < ln l) : vr l * (ln l + 1) ≤ vr (x :: l) * ln l := by
  have a := sqd_nn x l
  have b := sq_nn (ln l * x - s1 l)
  unfold vr
  rw [s1c, s2c, lnc]
  grind
/-! ### cut to bounds -/
def clp (lo hi t : Rat) : Rat := if t < lo then lo else if hi < t then hi else t
def clps (b : List (Rat × Rat)) (t : Rat) : List Rat := b.map fun p => clp p.1 p.2 t
theorem clp_in {lo hi : Rat} (t : Rat) (h : lo ≤ hi) : lo ≤ clp lo hi t ∧ clp lo hi t ≤ hi := by unfold clp; grind
theorem clp_mono {lo hi s t : Rat} (h : lo ≤ hi) (hs : s ≤ t) : clp lo hi s ≤ clp lo hi t ∧ clp lo hi t - clp lo hi s ≤ t - s := by unfold clp; grind
theorem clps_mono {s t : Rat} (hs : s ≤ t) : ∀ {b : List (Rat × Rat)}, (∀ p ∈ b, p.1 ≤ p.2) → s1 (clps b s) ≤ s1 (clps b t) ∧ s1 (clps b t) - s1 (clps b s) ≤ ln (clps b t) * (t - s)
  | [], _ => by show (0 : Rat) ≤ 0 ∧ (0 : Rat) - 0 ≤ 0 * (t - s); grind
  | p :: b, h => by
    have ih := clps_mono hs (b := b) fun q hq => h q (List.mem_cons_of_mem _ hq)
    have := clp_mono (h p (List.mem_cons_self ..)) hs
    show clp p.1 p.2 s + s1 (clps b s) ≤ clp p.1 p.2 t + s1 (clps b t) ∧ (clp p.1 p.2 t + s1 (clps b t)) - (clp p.1 p.2 s + s1 (clps b s)) ≤ (ln (clps b t) + 1) * (t - s)
    grind
theorem ln_clps (b : List (Rat × Rat)) (s t : Rat) : ln (clps b s) = ln (clps b t) := ln_map _ _ b
section
variable {b : List (Rat × Rat)} {c : Rat}
/-- c is the centre: the mean of what it cuts to -/
def Cen (b : List (Rat × Rat)) (c : Rat) : Prop := s1 (clps b c) = ln (clps b c) * c
theorem mul_nn_of {x y : Rat} (h : (0 ≤ x ∧ 0 ≤ y) ∨ (x ≤ 0 ∧ y ≤ 0)) : 0 ≤ x * y := by
  rcases h with ⟨h1, h2⟩ | ⟨h1, h2⟩
  · exact Rat.mul_nonneg h1 h2
  · have := Rat.mul_nonneg (a := -x) (b := -y) (by grind) (by grind); grind
/-- no choice has less -/
theorem cen_least (hc : Cen b c) (hb : ∀ p ∈ b, p.1 ≤ p.2) (f : Rat × Rat → Rat) (hf : ∀ p ∈ b, p.1 ≤ f p ∧ f p ≤ p.2) : vr (clps b c) ≤ vr (b.map f) := by
  have h := vr_key (b.map fun p => (f p, clp p.1 p.2 c)) (fun q hq => by
    obtain ⟨p, hp, rfl⟩ := List.mem_map.mp hq
    rw [List.map_map]
    have e : (b.map ((fun x : Rat × Rat => x.2) ∘ fun p => (f p, clp p.1 p.2 c))) = clps b c := rfl
    rw [e, hc]
    have hn := ln_nn (clps b c)
    have h1 := hf p hp
    have h2 := hb p hp
    show 0 ≤ (f p - clp p.1 p.2 c) * (ln (clps b c) * clp p.1 p.2 c - ln (clps b c) * c)
    have : 0 ≤ (f p - clp p.1 p.2 c) * (clp p.1 p.2 c - c) := by
      refine mul_nn_of ?_
      unfold clp; grind
    have := Rat.mul_nonneg hn this
    grind)
  rw [List.map_map, List.map_map] at h
  exact h
/-- the mean of what t cuts to, where t lies below the centre, above it -/
theorem cen_below (hc : Cen b c) (hb : ∀ p ∈ b, p.1 ≤ p.2) {t : Rat} (ht : t ≤ c) : ln (clps b t) * t ≤ s1 (clps b t) := by
  have := (clps_mono ht hb).2
  unfold Cen at hc
  rw [ln_clps b t c]
  grind
theorem cen_above (hc : Cen b c) (hb : ∀ p ∈ b, p.1 ≤ p.2) {t : Rat} (ht : c ≤ t) : s1 (clps b t) ≤ ln (clps b t) * t := by
  have := (clps_mono ht hb).2
  unfold Cen at hc
  rw [ln_clps b c t] at hc
  grind
theorem cut_away {s t : Rat} (hb : ∀ p ∈ b, p.1 ≤ p.2) (h : (s ≤ t ∧ ln (clps b t) * t ≤ s1 (clps b t)) ∨ (t ≤ s ∧ s1 (clps b t) ≤ ln (clps b t) * t)) : vr (clps b t) ≤ vr (clps b s) := by
  have h := vr_key (b.map fun p => (clp p.1 p.2 s, clp p.1 p.2 t)) (fun q hq => by
    obtain ⟨p, hp, rfl⟩ := List.mem_map.mp hq
    rw [List.map_map]
    have e : (b.map ((fun x : Rat × Rat => x.2) ∘ fun p => (clp p.1 p.2 s, clp p.1 p.2 t))) = clps b t := rfl
    rw [e]
    have hn := ln_nn (clps b t)
    have h2 := hb p hp
    show 0 ≤ (clp p.1 p.2 s - clp p.1 p.2 t) * (ln (clps b t) * clp p.1 p.2 t - s1 (clps b t))
    have a1 : s ≤ t → clp p.1 p.2 s < clp p.1 p.2 t → clp p.1 p.2 t ≤ t := by unfold clp; grind
    have a2 : t ≤ s → clp p.1 p.2 t < clp p.1 p.2 s → t ≤ clp p.1 p.2 t := by unfold clp; grind
    rcases h with ⟨h, hm⟩ | ⟨h, hm⟩
    · have m := (clp_mono h2 h).1
      by_cases q : clp p.1 p.2 s < clp p.1 p.2 t
      · refine mul_nn_of (.inr ⟨by grind, ?_⟩)
        have := Rat.mul_le_mul_of_nonneg_left (a1 h q) hn
        grind
      · have : clp p.1 p.2 s - clp p.1 p.2 t = 0 := by grind
        rw [this]; grind
    · have m := (clp_mono h2 h).1
      by_cases q : clp p.1 p.2 t < clp p.1 p.2 s
      · refine mul_nn_of (.inl ⟨by grind, ?_⟩)
        have := Rat.mul_le_mul_of_nonneg_left (a2 h q) hn
        grind
      · have : clp p.1 p.2 s - clp p.1 p.2 t = 0 := by grind
        rw [this]; grind)
  rw [List.map_map, List.map_map] at h
  exact h
end
/-! ### fractions in lowest terms as rationals -/
def fr (x : Rat) : Int × Int := (x.num, (x.den : Int))
theorem frI_fr {a b : Int} (hb : 0 < b) : frI a b = fr ((a : Rat) / (b : Rat)) := by
  rw [← Rat.divInt_eq_div]
  unfold fr frI gcdI
  rw [Rat.num_divInt, Rat.den_divInt, if_neg (by omega), Int.sign_eq_one_of_pos hb, Int.one_mul, Int.gcd_comm b a]
  refine Prod.ext rfl ?_
  show b / ((Int.gcd a b : Nat) : Int) = ((b.natAbs / Int.gcd a b : Nat) : Int)
  rw [Int.natCast_ediv, Int.natAbs_of_nonneg (by omega)]
theorem fr_int (x : Int) : (x, (1 : Int)) = fr (x : Rat) := rfl
theorem fr_den (x : Rat) : 0 < (fr x).2 := by
  show (0 : Int) < (x.den : Int)
  have := x.den_pos; omega
theorem fr_val (x : Rat) : ((fr x).1 : Rat) / ((fr x).2 : Rat) = x := by
  rw [← Rat.divInt_eq_div]
  show Rat.divInt x.num (x.den : Int) = x
  rw [Rat.num_divInt_den]
theorem fr_inj {x y : Rat} (h : fr x = fr y) : x = y := by rw [← fr_val x, ← fr_val y, h]
theorem cast_pos {b : Int} (h : 0 < b) : (0 : Rat) < (b : Rat) := by
  have := Rat.intCast_lt_intCast.mpr h
  simpa using this
theorem fr_pls (x y : Rat) : pls (fr x) (fr y) = fr (x + y) := by
  have h1 := fr_den x
  have h2 := fr_den y
  unfold pls
  rw [frI_fr (Int.mul_pos h1 h2)]
  congr 1
  have a := fr_val x
  have b := fr_val y
  have p1 := cast_pos h1
  have p2 := cast_pos h2
  rw [Rat.intCast_add, Rat.intCast_mul, Rat.intCast_mul, Rat.intCast_mul]
  generalize ((fr x).1 : Rat) = u at *
  generalize ((fr x).2 : Rat) = v at *
  generalize ((fr y).1 : Rat) = w at *
  generalize ((fr y).2 : Rat) = z at *
  grind
theorem fr_tms (x y : Rat) : tms (fr x) (fr y) = fr (x * y) := by
  have h1 := fr_den x
  have h2 := fr_den y
  unfold tms
  rw [frI_fr (Int.mul_pos h1 h2)]
  congr 1
  have a := fr_val x
  have b := fr_val y
  have p1 := cast_pos h1
  have p2 := cast_pos h2
  rw [Rat.intCast_mul, Rat.intCast_mul]
  generalize ((fr x).1 : Rat) = u at *
  generalize ((fr x).2 : Rat) = v at *
  generalize ((fr y).1 : Rat) = w at *
  generalize ((fr y).2 : Rat) = z at *
  grind
theorem fr_neg (x : Rat) : (-(fr x).1, (fr x).2) = fr (-x) := by
  unfold fr
  rw [Rat.neg_num, Rat.neg_den]
theorem fr_lt (x y : Rat) : (decide ((fr x).1 * (fr y).2 < (fr y).1 * (fr x).2)) = decide (x < y) := decide_eq_decide.mpr (Rat.lt_iff x y).symm
theorem fr_one {n : Int} (h : 0 < n) : ((1 : Int), n) = fr (1 / (n : Rat)) := by
  have e := frI_fr (a := 1) h
  have g : gcdI 1 n = 1 := by unfold gcdI; rw [Int.one_gcd]; rfl
  unfold frI at e
  rw [g, Int.ediv_one, Int.ediv_one] at e
  rw [e]; congr 1
theorem ln_len (l : List Rat) : ln l = ((l.length : Int) : Rat) := by
  induction l with
  | nil => rfl
  | cons x l ih =>
    rw [lnc, ih, List.length_cons, Int.natCast_add, Rat.intCast_add]; rfl
theorem fr_tot : ∀ (l : List Rat) (a : Rat), (l.map fr).foldl (fun s x => pls s x) (fr a) = fr (a + s1 l)
  | [], a => by show fr a = fr (a + 0); congr 1; grind
  | x :: l, a => by
    rw [List.map_cons, List.foldl_cons, fr_pls, fr_tot l, s1c]; congr 1; grind
theorem fr_sqs : ∀ (l : List Rat) (a : Rat), (l.map fr).foldl (fun s x => pls s (tms x x)) (fr a) = fr (a + s2 l)
  | [], a => by show fr a = fr (a + 0); congr 1; grind
  | x :: l, a => by
    rw [List.map_cons, List.foldl_cons, fr_tms, fr_pls, fr_sqs l, s2c]; congr 1; grind
theorem fr_gaps (m : Rat) : ∀ (l : List Rat) (a : Rat), (l.map fr).foldl (fun s x => pls s (tms (pls x (fr (-m))) (pls x (fr (-m))))) (fr a) = fr (a + (s2 l - 2 * m * s1 l + ln l * (m * m)))
  | [], a => by show fr a = fr (a + (0 - 2 * m * 0 + 0 * (m * m))); congr 1; grind
  | x :: l, a => by
    rw [List.map_cons, List.foldl_cons, fr_pls, fr_tms, fr_pls, fr_gaps m l, s1c, s2c, lnc]; congr 1; grind
/-- the squares about the mean -/
def sq (l : List Rat) : Rat := vr l / ln l
theorem ln_pos {l : List Rat} (h : l ≠ []) : 0 < ln l := by
  rw [ln_len]
  exact cast_pos (by have := List.length_pos_iff.mpr h; omega)
theorem sq_le {l r : List Rat} (hn : ln l = ln r) (hl : r ≠ []) (h : vr l ≤ vr r) : sq l ≤ sq r := by
  have hp := ln_pos hl
  unfold sq
  rw [hn]
  generalize ln r = n at *
  have : vr r / n - vr l / n = (vr r - vr l) * n⁻¹ := by grind
  have h2 : 0 ≤ (vr r - vr l) * n⁻¹ := Rat.mul_nonneg (by grind) (Rat.le_of_lt (Rat.inv_pos.mpr hp))
  grind
theorem sq_nn' (l : List Rat) : 0 ≤ sq l := by
  unfold sq
  have h1 := vr_nn l
  have h2 := ln_nn l
  rw [Rat.div_def]
  refine Rat.mul_nonneg h1 ?_
  by_cases h : ln l = 0
  · rw [h, Rat.inv_zero]; exact Rat.le_refl
  · exact Rat.le_of_lt (Rat.inv_pos.mpr (by grind))
/-! ### marks, one after another -/
theorem consec : ∀ {l : List Int} {x y : Int}, l.Pairwise (· ≤ ·) → (x, y) ∈ l.zip (l.drop 1) → x ≤ y ∧ x ∈ l ∧ y ∈ l ∧ ∀ m ∈ l, m ≤ x ∨ y ≤ m
  | [], _, _, _, h => by simp at h
  | [a], _, _, _, h => by simp at h
  | a :: b :: l, x, y, hs, h => by
    have hs2 := (List.pairwise_cons.mp hs).2
    have ha := (List.pairwise_cons.mp hs).1
    rw [List.drop_succ_cons, List.drop_zero, List.zip_cons_cons] at h
    rcases List.mem_cons.mp h with e | h
    · cases e
      refine ⟨ha b (List.mem_cons_self ..), List.mem_cons_self .., List.mem_cons_of_mem _ (List.mem_cons_self ..), fun m hm => ?_⟩
      rcases List.mem_cons.mp hm with e | hm
      · left; omega
      · right
        rcases List.mem_cons.mp hm with e | hm
        · omega
        · exact (List.pairwise_cons.mp hs2).1 m hm
    · have h' : (x, y) ∈ (b :: l).zip ((b :: l).drop 1) := by rw [List.drop_succ_cons, List.drop_zero]; exact h
      obtain ⟨h1, h2, h3, h4⟩ := consec hs2 h'
      refine ⟨h1, List.mem_cons_of_mem _ h2, List.mem_cons_of_mem _ h3, fun m hm => ?_⟩
      rcases List.mem_cons.mp hm with e | hm
      · subst e; left; exact ha x h2
      · exact h4 m hm
/-- what goes from not less than nothing to not more than nothing does so between two marks -/
theorem cross {f : Int → Rat} : ∀ {l : List Int} {a z : Int}, l.head? = some a → l.getLast? = some z → l.length ≥ 2 → 0 ≤ f a → f z ≤ 0 → ∃ x y, (x, y) ∈ l.zip (l.drop 1) ∧ 0 ≤ f x ∧ f y ≤ 0
  | [], _, _, _, _, h, _, _ => by simp at h
  | [_], _, _, _, _, h, _, _ => by simp at h
  | a :: b :: l, a', z, h1, h2, h3, h4, h5 => by
    simp only [List.head?_cons, Option.some.injEq] at h1
    subst h1
    by_cases c : f b ≤ 0
    · exact ⟨a, b, by rw [List.drop_succ_cons, List.drop_zero, List.zip_cons_cons]; exact List.mem_cons_self .., h4, c⟩
    · have hb : 0 ≤ f b := by grind
      cases l with
      | nil =>
        simp only [List.getLast?_cons_cons, List.getLast?_singleton, Option.some.injEq] at h2
        subst h2; exact absurd h5 c
      | cons d r =>
        obtain ⟨x, y, m, p, q⟩ := cross (f := f) (l := b :: d :: r) (a := b) (z := z) rfl (by rw [List.getLast?_cons_cons] at h2; exact h2) (by simp) hb h5
        refine ⟨x, y, ?_, p, q⟩
        rw [List.drop_succ_cons, List.drop_zero] at m ⊢
        rw [List.zip_cons_cons]
        exact List.mem_cons_of_mem _ m
def marks (b : List (Int × Int)) : List Int := srt (b.map (fun p => p.1) ++ b.map fun p => p.2)
def fixed (b : List (Int × Int)) (x y : Int) : List Int := mapIf (fun t : Int × Int => decide (t.1 ≥ y)) (fun t => t.1) b ++ mapIf (fun t : Int × Int => decide (t.2 ≤ x)) (fun t => t.2) b
theorem mem_mapIf {α β : Type} {c : α → Bool} {f : α → β} {l : List α} {a : α} (h : a ∈ l) (hc : c a = true) : f a ∈ mapIf c f l := List.mem_map.mpr ⟨a, List.mem_filter.mpr ⟨h, hc⟩, rfl⟩
theorem mem_marks {b : List (Int × Int)} {p : Int × Int} (h : p ∈ b) : p.1 ∈ marks b ∧ p.2 ∈ marks b :=
  ⟨(srt_perm _).mem_iff.mpr (List.mem_append_left _ (List.mem_map.mpr ⟨p, h, rfl⟩)), (srt_perm _).mem_iff.mpr (List.mem_append_right _ (List.mem_map.mpr ⟨p, h, rfl⟩))⟩
theorem fixed_ne {b : List (Int × Int)} (hn : b ≠ []) (h : ¬ mxl (b.map fun p => p.1) ≤ mnl (b.map fun p => p.2)) {x y : Int} (hm : (x, y) ∈ (marks b).zip ((marks b).drop 1)) : fixed b x y ≠ [] := by
  obtain ⟨h1, _, _, h4⟩ := consec (srt_sorted _) hm
  obtain ⟨p, hp, ep⟩ := List.mem_map.mp (mxl_mem (l := b.map fun p => p.1) (by simpa using hn))
  obtain ⟨q, hq, eq⟩ := List.mem_map.mp (mnl_mem (l := b.map fun p => p.2) (by simpa using hn))
  rw [← ep, ← eq] at h
  intro c
  have a1 : ¬ p.1 ≥ y := fun k => by
    have := mem_mapIf (c := fun t : Int × Int => decide (t.1 ≥ y)) (f := fun t => t.1) hp (decide_eq_true k)
    have : p.1 ∈ fixed b x y := List.mem_append_left _ this
    rw [c] at this; cases this
  have a2 : ¬ q.2 ≤ x := fun k => by
    have := mem_mapIf (c := fun t : Int × Int => decide (t.2 ≤ x)) (f := fun t => t.2) hq (decide_eq_true k)
    have : q.2 ∈ fixed b x y := List.mem_append_right _ this
    rw [c] at this; cases this
  have b1 := h4 _ (mem_marks hp).1
  have b2 := h4 _ (mem_marks hq).2
  omega
theorem fixed_len (b : List (Int × Int)) (x y : Int) : (fixed b x y).length ≤ 2 * b.length := by
  unfold fixed
  rw [List.length_append]
  have := mapIf_le (c := fun t : Int × Int => decide (t.1 ≥ y)) (f := fun t => t.1) (l := b)
  have := mapIf_le (c := fun t : Int × Int => decide (t.2 ≤ x)) (f := fun t => t.2) (l := b)
  omega
theorem sum_abs {c : Int} : ∀ {l : List Int}, (∀ x ∈ l, -c ≤ x ∧ x ≤ c) → -(c * l.length) ≤ l.sum ∧ l.sum ≤ c * l.length
  | [], _ => by simp
  | x :: l, h => by
    have h1 := h x (List.mem_cons_self ..)
    have ih := sum_abs (l := l) fun y hy => h y (List.mem_cons_of_mem _ hy)
    rw [List.sum_cons, List.length_cons, Int.natCast_add, Int.mul_add]; omega
theorem fixed_in {b : List (Int × Int)} {x y : Int} (h : ∀ p ∈ b, -50 ≤ p.1 ∧ p.1 ≤ p.2 ∧ p.2 ≤ 50) : ∀ v ∈ fixed b x y, -50 ≤ v ∧ v ≤ 50 := fun v hv => by
  rcases List.mem_append.mp hv with hv | hv
  · obtain ⟨p, hp, rfl⟩ := List.mem_map.mp hv
    have := h p (List.mem_filter.mp hp).1; omega
  · obtain ⟨p, hp, rfl⟩ := List.mem_map.mp hv
    have := h p (List.mem_filter.mp hp).1; omega
theorem num_sz {b : List (Int × Int)} (hB : BOk b) (h : ¬ mxl (b.map fun p => p.1) ≤ mnl (b.map fun p => p.2)) {x y : Int} (hm : (x, y) ∈ (marks b).zip ((marks b).drop 1)) :
    0 < ((fixed b x y).length : Int) ∧ Sz 10 (frI (fixed b x y).sum (fixed b x y).length) := by
  have hn : b ≠ [] := fun e => by have := hB.1; rw [e] at this; simp at this
  have h1 := List.length_pos_iff.mpr (fixed_ne hn h hm)
  have h2 := fixed_len b x y
  have h3 := sum_abs (c := 50) (fixed_in (b := b) (x := x) (y := y) hB.2.2)
  have := hB.2.1
  exact ⟨by omega, frI_sz (by omega) (by omega) (by omega)⟩
theorem mark_in {b : List (Int × Int)} (hB : BOk b) {m : Int} (h : m ∈ marks b) : -50 ≤ m ∧ m ≤ 50 := by
  have h := (srt_perm _).mem_iff.mp h
  rcases List.mem_append.mp h with h | h
  · obtain ⟨p, hp, rfl⟩ := List.mem_map.mp h
    have := hB.2.2 p hp; omega
  · obtain ⟨p, hp, rfl⟩ := List.mem_map.mp h
    have := hB.2.2 p hp; omega
def topS (i : Nat) : Stmt := PySem.Challenge.pw_boundstats_k20_whole_centres.main.body.getD i (.Pass ⟨0, 0, 0, 0⟩)
abbrev s_is_int : Stmt := topS 5
abbrev N_is_int : List Str := ["value", "low", "high"]
theorem sc_is_int : FnScope N_is_int ["value", "low", "high"] (defScope s_is_int) := ⟨rfl, rfl, rfl, by decide +kernel, rfl, by decide +kernel, by decide +kernel⟩
abbrev s_is_bound : Stmt := topS 6
abbrev N_is_bound : List Str := ["value"]
theorem sc_is_bound : FnScope N_is_bound ["value"] (defScope s_is_bound) := ⟨rfl, rfl, rfl, by decide +kernel, rfl, by decide +kernel, by decide +kernel⟩
abbrev s_is_bounds : Stmt := topS 7
abbrev N_is_bounds : List Str := ["value", "one"]
theorem sc_is_bounds : FnScope N_is_bounds ["value"] (defScope s_is_bounds) := ⟨rfl, rfl, rfl, by decide +kernel, rfl, by decide +kernel, by decide +kernel⟩
abbrev s_check_bounds : Stmt := topS 8
abbrev N_check_bounds : List Str := ["value"]
theorem sc_check_bounds : FnScope N_check_bounds ["value"] (defScope s_check_bounds) := ⟨rfl, rfl, rfl, by decide +kernel, rfl, by decide +kernel, by decide +kernel⟩
abbrev s_common_divisor : Stmt := topS 10
abbrev N_common_divisor : List Str := ["one", "other"]
theorem sc_common_divisor : FnScope N_common_divisor ["one", "other"] (defScope s_common_divisor) := ⟨rfl, rfl, rfl, by decide +kernel, rfl, by decide +kernel, by decide +kernel⟩
abbrev s_lowest : Stmt := topS 11
abbrev N_lowest : List Str := ["top", "below", "divisor"]
theorem sc_lowest : FnScope N_lowest ["top", "below"] (defScope s_lowest) := ⟨rfl, rfl, rfl, by decide +kernel, rfl, by decide +kernel, by decide +kernel⟩
abbrev s_plus : Stmt := topS 12
abbrev N_plus : List Str := ["one", "other"]
theorem sc_plus : FnScope N_plus ["one", "other"] (defScope s_plus) := ⟨rfl, rfl, rfl, by decide +kernel, rfl, by decide +kernel, by decide +kernel⟩
abbrev s_minus : Stmt := topS 13
abbrev N_minus : List Str := ["one", "other"]
theorem sc_minus : FnScope N_minus ["one", "other"] (defScope s_minus) := ⟨rfl, rfl, rfl, by decide +kernel, rfl, by decide +kernel, by decide +kernel⟩
abbrev s_times : Stmt := topS 14
abbrev N_times : List Str := ["one", "other"]
theorem sc_times : FnScope N_times ["one", "other"] (defScope s_times) := ⟨rfl, rfl, rfl, by decide +kernel, rfl, by decide +kernel, by decide +kernel⟩
abbrev s_less : Stmt := topS 15
abbrev N_less : List Str := ["one", "other"]
theorem sc_less : FnScope N_less ["one", "other"] (defScope s_less) := ⟨rfl, rfl, rfl, by decide +kernel, rfl, by decide +kernel, by decide +kernel⟩
abbrev s_total : Stmt := topS 16
abbrev N_total : List Str := ["some", "found", "one"]
theorem sc_total : FnScope N_total ["some"] (defScope s_total) := ⟨rfl, rfl, rfl, by decide +kernel, rfl, by decide +kernel, by decide +kernel⟩
abbrev s_squares_about_mean : Stmt := topS 17
abbrev N_squares_about_mean : List Str := ["some", "whole", "found", "one"]
theorem sc_squares_about_mean : FnScope N_squares_about_mean ["some"] (defScope s_squares_about_mean) := ⟨rfl, rfl, rfl, by decide +kernel, rfl, by decide +kernel, by decide +kernel⟩
abbrev s_lows : Stmt := topS 19
abbrev N_lows : List Str := ["bounds", "low", "high"]
theorem sc_lows : FnScope N_lows ["bounds"] (defScope s_lows) := ⟨rfl, rfl, rfl, by decide +kernel, rfl, by decide +kernel, by decide +kernel⟩
abbrev s_highs : Stmt := topS 20
abbrev N_highs : List Str := ["bounds", "low", "high"]
theorem sc_highs : FnScope N_highs ["bounds"] (defScope s_highs) := ⟨rfl, rfl, rfl, by decide +kernel, rfl, by decide +kernel, by decide +kernel⟩
abbrev s_mean_range : Stmt := topS 21
abbrev N_mean_range : List Str := ["bounds"]
theorem sc_mean_range : FnScope N_mean_range ["bounds"] (defScope s_mean_range) := ⟨rfl, rfl, rfl, by decide +kernel, rfl, by decide +kernel, by decide +kernel⟩
abbrev s_corner_choices : Stmt := topS 23
abbrev N_corner_choices : List Str := ["bounds", "found", "low", "high", "one"]
theorem sc_corner_choices : FnScope N_corner_choices ["bounds"] (defScope s_corner_choices) := ⟨rfl, rfl, rfl, by decide +kernel, rfl, by decide +kernel, by decide +kernel⟩
abbrev s_widest : Stmt := topS 25
abbrev N_widest : List Str := ["bounds", "best", "most", "one", "own", "value"]
theorem sc_widest : FnScope N_widest ["bounds"] (defScope s_widest) := ⟨rfl, rfl, rfl, by decide +kernel, rfl, by decide +kernel, by decide +kernel⟩
abbrev s_greatest_squares : Stmt := topS 24
abbrev N_greatest_squares : List Str := ["bounds", "value"]
theorem sc_greatest_squares : FnScope N_greatest_squares ["bounds"] (defScope s_greatest_squares) := ⟨rfl, rfl, rfl, by decide +kernel, rfl, by decide +kernel, by decide +kernel⟩
abbrev s_widest_squares_choice : Stmt := topS 26
abbrev N_widest_squares_choice : List Str := ["bounds"]
theorem sc_widest_squares_choice : FnScope N_widest_squares_choice ["bounds"] (defScope s_widest_squares_choice) := ⟨rfl, rfl, rfl, by decide +kernel, rfl, by decide +kernel, by decide +kernel⟩
abbrev s_clipped : Stmt := topS 27
abbrev N_clipped : List Str := ["bounds", "number", "found", "low", "high"]
theorem sc_clipped : FnScope N_clipped ["bounds", "number"] (defScope s_clipped) := ⟨rfl, rfl, rfl, by decide +kernel, rfl, by decide +kernel, by decide +kernel⟩
abbrev s_centre_of : Stmt := topS 28
abbrev N_centre_of : List Str := ["bounds", "low", "high", "marks", "one", "other", "fixed", "number", "a", "b"]
theorem sc_centre_of : FnScope N_centre_of ["bounds"] (defScope s_centre_of) := ⟨rfl, rfl, rfl, by decide +kernel, rfl, by decide +kernel, by decide +kernel⟩
abbrev s_centre : Stmt := topS 29
abbrev N_centre : List Str := ["bounds"]
theorem sc_centre : FnScope N_centre ["bounds"] (defScope s_centre) := ⟨rfl, rfl, rfl, by decide +kernel, rfl, by decide +kernel, by decide +kernel⟩
abbrev s_nearest_choice : Stmt := topS 30
abbrev N_nearest_choice : List Str := ["bounds"]
theorem sc_nearest_choice : FnScope N_nearest_choice ["bounds"] (defScope s_nearest_choice) := ⟨rfl, rfl, rfl, by decide +kernel, rfl, by decide +kernel, by decide +kernel⟩
abbrev s_least_squares : Stmt := topS 31
abbrev N_least_squares : List Str := ["bounds"]
theorem sc_least_squares : FnScope N_least_squares ["bounds"] (defScope s_least_squares) := ⟨rfl, rfl, rfl, by decide +kernel, rfl, by decide +kernel, by decide +kernel⟩
abbrev s__law_start : Stmt := topS 33
abbrev N__law_start : List Str := ["_law_script"]
theorem sc__law_start : FnScope N__law_start ["_law_script"] (defScope s__law_start) := ⟨rfl, rfl, rfl, by decide +kernel, rfl, by decide +kernel, by decide +kernel⟩
abbrev s__law_draw : Stmt := topS 34
abbrev N__law_draw : List Str := ["_law_draws", "_law_limit", "_law_numbers", "_law_at", "_law_cell", "_law_mixed"]
theorem sc__law_draw : FnScope N__law_draw ["_law_draws", "_law_limit"] (defScope s__law_draw) := ⟨rfl, rfl, rfl, by decide +kernel, rfl, by decide +kernel, by decide +kernel⟩
abbrev s__law_pick : Stmt := topS 35
abbrev N__law_pick : List Str := ["_law_draws", "_law_choices"]
theorem sc__law_pick : FnScope N__law_pick ["_law_draws", "_law_choices"] (defScope s__law_pick) := ⟨rfl, rfl, rfl, by decide +kernel, rfl, by decide +kernel, by decide +kernel⟩
abbrev s__law_bounds : Stmt := topS 36
abbrev N__law_bounds : List Str := ["_law_draws", "_law_most", "_law_far", "_law_wide", "_law_found", "_law_k", "_law_low_here"]
theorem sc__law_bounds : FnScope N__law_bounds ["_law_draws", "_law_most"] (defScope s__law_bounds) := ⟨rfl, rfl, rfl, by decide +kernel, rfl, by decide +kernel, by decide +kernel⟩
abbrev s__law_low : Stmt := topS 37
abbrev N__law_low : List Str := ["_law_top", "_law_under", "_law_one", "_law_other"]
theorem sc__law_low : FnScope N__law_low ["_law_top", "_law_under"] (defScope s__law_low) := ⟨rfl, rfl, rfl, by decide +kernel, rfl, by decide +kernel, by decide +kernel⟩
abbrev s__law_add : Stmt := topS 38
abbrev N__law_add : List Str := ["_law_one", "_law_other"]
theorem sc__law_add : FnScope N__law_add ["_law_one", "_law_other"] (defScope s__law_add) := ⟨rfl, rfl, rfl, by decide +kernel, rfl, by decide +kernel, by decide +kernel⟩
abbrev s__law_below : Stmt := topS 39
abbrev N__law_below : List Str := ["_law_one", "_law_other"]
theorem sc__law_below : FnScope N__law_below ["_law_one", "_law_other"] (defScope s__law_below) := ⟨rfl, rfl, rfl, by decide +kernel, rfl, by decide +kernel, by decide +kernel⟩
abbrev s__law_squares : Stmt := topS 40
abbrev N__law_squares : List Str := ["_law_some", "_law_whole", "_law_found", "_law_one", "_law_mean", "_law_gap"]
theorem sc__law_squares : FnScope N__law_squares ["_law_some"] (defScope s__law_squares) := ⟨rfl, rfl, rfl, by decide +kernel, rfl, by decide +kernel, by decide +kernel⟩
abbrev s__law_near : Stmt := topS 41
abbrev N__law_near : List Str := ["_law_bounds_here", "_law_number", "_law_found", "_law_low_here", "_law_high"]
theorem sc__law_near : FnScope N__law_near ["_law_bounds_here", "_law_number"] (defScope s__law_near) := ⟨rfl, rfl, rfl, by decide +kernel, rfl, by decide +kernel, by decide +kernel⟩
abbrev s_law : Stmt := topS 42
abbrev N_law : List Str := ["_law_script", "_law_draws", "_law_bounds_here", "_law_least", "_law_number", "_law_under", "_law_before", "_law_after", "_law_top", "_law_one", "_law_own", "_law_k", "_law_lower", "_law_upper", "_law_value", "_law_more", "_law_row"]
theorem sc_law : FnScope N_law ["_law_script"] (defScope s_law) := ⟨rfl, rfl, rfl, by decide +kernel, rfl, by decide +kernel, by decide +kernel⟩
structure Txt (K : Fg) (mg : Str → Option Value) : Prop where
  d_is_int : Fd K mg "is_int" s_is_int
  d_is_bound : Fd K mg "is_bound" s_is_bound
  d_is_bounds : Fd K mg "is_bounds" s_is_bounds
  d_check_bounds : Fd K mg "check_bounds" s_check_bounds
  d_common_divisor : Fd K mg "common_divisor" s_common_divisor
  d_lowest : Fd K mg "lowest" s_lowest
  d_plus : Fd K mg "plus" s_plus
  d_minus : Fd K mg "minus" s_minus
  d_times : Fd K mg "times" s_times
  d_less : Fd K mg "less" s_less
  d_total : Fd K mg "total" s_total
  d_squares_about_mean : Fd K mg "squares_about_mean" s_squares_about_mean
  d_lows : Fd K mg "lows" s_lows
  d_highs : Fd K mg "highs" s_highs
  d_mean_range : Fd K mg "mean_range" s_mean_range
  d_corner_choices : Fd K mg "corner_choices" s_corner_choices
  d_widest : Fd K mg "widest" s_widest
  d_greatest_squares : Fd K mg "greatest_squares" s_greatest_squares
  d_widest_squares_choice : Fd K mg "widest_squares_choice" s_widest_squares_choice
  d_clipped : Fd K mg "clipped" s_clipped
  d_centre_of : Fd K mg "centre_of" s_centre_of
  d_centre : Fd K mg "centre" s_centre
  d_nearest_choice : Fd K mg "nearest_choice" s_nearest_choice
  d_least_squares : Fd K mg "least_squares" s_least_squares
  d__law_start : Fd K mg "_law_start" s__law_start
  d__law_draw : Fd K mg "_law_draw" s__law_draw
  d__law_pick : Fd K mg "_law_pick" s__law_pick
  d__law_bounds : Fd K mg "_law_bounds" s__law_bounds
  d__law_low : Fd K mg "_law_low" s__law_low
  d__law_add : Fd K mg "_law_add" s__law_add
  d__law_below : Fd K mg "_law_below" s__law_below
  d__law_squares : Fd K mg "_law_squares" s__law_squares
  d__law_near : Fd K mg "_law_near" s__law_near
  d_law : Fd K mg "law" s_law
  n_abs : mg "abs" = none
  n_all : mg "all" = none
  n_bool : mg "bool" = none
  n_int : mg "int" = none
  n_isinstance : mg "isinstance" = none
  n_len : mg "len" = none
  n_list : mg "list" = none
  n_max : mg "max" = none
  n_min : mg "min" = none
  n_range : mg "range" = none
  n_sorted : mg "sorted" = none
  n_sum : mg "sum" = none
  n_tuple : mg "tuple" = none
  n_zip : mg "zip" = none
  c_MOST_BOUND : ∃ t, mg "MOST_BOUND" = some (.int 50 t)
  c_MOST_VALUES : ∃ t, mg "MOST_VALUES" = some (.int 7 t)
section
variable {P : Program} {w : World} {K : Fg} {mg : Str → Option Value} {base : Heap}
def m_is_int (x0 : Int) (x1 : Int) (x2 : Int) : Bool := (true && ((!false) && ((decide (x1 ≤ x0)) && (decide (x0 ≤ x2)))))
theorem ok_is_int (T : Txt K mg) : Ok P w K mg base CX0 1 "is_int" ["value", "low", "high"] (sp3 K ((fun _ _ _ => True) : Int → Int → Int → Prop) m_is_int) := by
  refine ok_of T.d_is_int sc_is_int (bi3 fun _ _ _ _ _ _ _ _ _ => rfl) len_sp3 (fun f cdv A outer s H vs Q E hr h => ?_)
  have nd := sc_is_int.nd
  obtain ⟨v0, v1, v2, x0, x1, x2, rfl, r0, r1, r2, hp, q⟩ := h
  refine ⟨_, (pss_one (ps_ret (pe_and (pe_callB (k_isi K rfl) (by rfl) T.n_isinstance (by decide +kernel) (pa_cons (pv 0) (pa_cons (pe_bltn (v := .ty "int") (by rfl) T.n_int (by decide +kernel) rfl) pa_nil))) (pe_and (pe_not (pe_callB (k_isi K rfl) (by rfl) T.n_isinstance (by decide +kernel) (pa_cons (pv 0) (pa_cons (pe_bltn (v := .ty "bool") (by rfl) T.n_bool (by decide +kernel) rfl) pa_nil)))) (pe_one (pe_chain op_le op_le (pv 1) (pv 0) (pv 2))))))), ?_⟩
  exact s_ret (K := K) (er_andV (er_isi (b := true) (er_var rfl r0) (show kitB "int" "int" = some true from by decide)) (fun hsc => (er_andV (er_notV (er_isi (b := false) (er_var rfl r0) (show kitB "int" "bool" = some false from by decide))) (fun hsc => (er_chain (er_var rfl r1) (er_var rfl r0) (er_var rfl r2) rr_le rr_le))))) (fun u _ e398 rr => q u _ e398 rr)
def m_is_bound (x0 : (Int × Int)) : Bool := (if ((!true) || (!(decide ((2 : Int) = (2 : Int))))) = true then false else ((m_is_int x0.1 (-(50 : Int)) (50 : Int)) && (m_is_int x0.2 x0.1 (50 : Int))))
theorem ok_is_bound (T : Txt K mg) : Ok P w K mg base CX0 2 "is_bound" ["value"] (sp1 K ((fun _ => True) : (Int × Int) → Prop) m_is_bound) := by
  refine ok_of T.d_is_bound sc_is_bound (bi1 fun _ _ _ _ _ _ _ => rfl) len_sp1 (fun f cdv A outer s H vs Q E hr h => ?_)
  have nd := sc_is_bound.nd
  obtain ⟨v0, x0, rfl, r0, hp, q⟩ := h
  refine ⟨_, (pss_cons (ps_if (PW.pt (pw_or (pt_not (pt_val (pe_callB (k_isi K rfl) (by rfl) T.n_isinstance (by decide +kernel) (pa_cons (pv 0) (pa_cons (pe_bltn (v := .ty "tuple") (by rfl) T.n_tuple (by decide +kernel) rfl) pa_nil))))) (pw_or1 (pt_cmpR op_ne (pe_callB (k_len K rfl) (by rfl) T.n_len PySem.boot_len (pa_cons (pv 0) pa_nil)) pe_int (nomark _))))) (pss_one (ps_ret pe_bl)) pss_nil)
      (pss_one (ps_ret (pe_and (pe_fn (ok_is_int T) (hr.mono (by decide)) pass0 (pa_cons (pe_ix (k_ixt K rfl) (pv 0) pe_int (fun _ _ => rfl)) (pa_cons (pe_un un_neg (pe_gint T.c_MOST_BOUND)) (pa_cons (pe_gint T.c_MOST_BOUND) pa_nil)))) (pe_one (pe_fn (ok_is_int T) (hr.mono (by decide)) pass0 (pa_cons (pe_ix (k_ixt K rfl) (pv 0) pe_int (fun _ _ => rfl)) (pa_cons (pe_ix (k_ixt K rfl) (pv 0) pe_int (fun _ _ => rfl)) (pa_cons (pe_gint T.c_MOST_BOUND) pa_nil))))))))), ?_⟩
  refine q_when (K := K) (et_or (et_not (et_B (er_isi (b := true) (er_var rfl r0) (show kitB "tuple" "tuple" = some true from by decide)))) (fun hsc => (et_test (er_op (er_lenP (er_var rfl r0)) er_int rr_neI)))) (fun hc400 _ e399 => ?_) (fun hc400 _ e399 => ?_)
  ·
    exact s_ret (K := K) er_bl (fun u _ e401 rr => q u _ (e399.trans e401) (by rw [(show m_is_bound x0 = false from by unfold m_is_bound; rw [if_pos hc400])]; exact rr))
  ·
    exact s_ret (K := K) (er_andV (er_call3 (er_op (er_var rfl (Rp.mono (SF.of e399) r0)) er_int rr_ixP0) (er_neg er_int) er_int trivial) (fun hsc => (er_call3 (er_op (er_var rfl (Rp.mono (SF.of e399) r0)) er_int rr_ixP1) (er_op (er_var rfl (Rp.mono (SF.of e399) r0)) er_int rr_ixP0) er_int trivial))) (fun u _ e402 rr => q u _ (e399.trans e402) (by rw [(show m_is_bound x0 = ((m_is_int x0.1 (-(50 : Int)) (50 : Int)) && (m_is_int x0.2 x0.1 (50 : Int))) from by unfold m_is_bound; rw [if_neg (by rw [hc400]; exact Bool.false_ne_true)])]; exact rr))
def m_is_bounds (x0 : (List (Int × Int))) : Bool := (if ((!true) || (!((decide ((1 : Int) ≤ ((x0.length : Nat) : Int))) && (decide (((x0.length : Nat) : Int) ≤ (7 : Int)))))) = true then false else ((x0.map (fun (x412 : (Int × Int)) => (m_is_bound x412))).all id))
theorem ok_is_bounds (T : Txt K mg) : Ok P w K mg base CX0 3 "is_bounds" ["value"] (sp1 K ((fun b => b.length ≤ 100000) : (List (Int × Int)) → Prop) m_is_bounds) := by
  refine ok_of T.d_is_bounds sc_is_bounds (bi1 fun _ _ _ _ _ _ _ => rfl) len_sp1 (fun f cdv A outer s H vs Q E hr h => ?_)
  have nd := sc_is_bounds.nd
  obtain ⟨v0, x0, rfl, r0, hp, q⟩ := h
  refine ⟨_, (pss_cons (ps_if (PW.pt (pw_or (pt_not (pt_val (pe_callB (k_isi K rfl) (by rfl) T.n_isinstance (by decide +kernel) (pa_cons (pv 0) (pa_cons (pe_bltn (v := .ty "list") (by rfl) T.n_list (by decide +kernel) rfl) pa_nil))))) (pw_or1 (pt_not (pt_chain op_le op_le pe_int (pe_callB (k_len K rfl) (by rfl) T.n_len PySem.boot_len (pa_cons (pv 0) pa_nil)) (pe_gint T.c_MOST_VALUES)))))) (pss_one (ps_ret pe_bl)) pss_nil)
      (pss_one (ps_ret (pe_callB (k_all K rfl rfl) (by rfl) T.n_all (by decide +kernel) (pa_cons (pe_frz (pe_lc (own := [("one", 1)]) rfl nd (k_pl K rfl (pv 0)) (blkOk_by (N := N_is_bounds) (sc := defScope s_is_bounds) (by decide +kernel)) (fun _ _ _ _ _ => (pg_name (i := 1) nd rfl (.inl rfl) (.inr rfl))) (fun _ _ _ _ _ => pts_nil) (fun _ _ _ _ _ => (pe_fn (ok_is_bound T) (hr.mono (by decide)) pass0 (pa_cons (pv 1) pa_nil))))) pa_nil))))), ?_⟩
  refine q_when (K := K) (et_or (et_not (et_B (er_isi (b := true) (er_var rfl r0) (show kitB "list" "list" = some true from by decide)))) (fun hsc => (et_not (et_test (er_chain er_int (er_up (er_len (er_var rfl r0))) er_int rr_le rr_le))))) (fun hc409 _ e408 => ?_) (fun hc409 _ e408 => ?_)
  ·
    exact s_ret (K := K) er_bl (fun u _ e410 rr => q u _ (e408.trans e410) (by rw [(show m_is_bounds x0 = false from by unfold m_is_bounds; rw [if_pos hc409])]; exact rr))
  ·
    exact s_ret (K := K) (er_all (er_frz (erl_lm1 (f := fun (x412 : (Int × Int)) => (m_is_bound x412)) (src_list (er_var rfl (Rp.mono (SF.of e408) r0))) (by first | omega | (have := hp.2.1; omega) | (have := hp.1.2.1; omega)) (by intros; rfl) (fun x412 hx413 v414 _ e411 r415 => (er_call1 (er_var rfl r415) trivial))))) (fun u _ e416 rr => q u _ (e408.trans e416) (by rw [(show m_is_bounds x0 = ((x0.map (fun (x412 : (Int × Int)) => (m_is_bound x412))).all id) from by unfold m_is_bounds; rw [if_neg (by rw [hc409]; exact Bool.false_ne_true)])]; exact rr))
theorem isBounds_ok {b : List (Int × Int)} (h : BOk b) : m_is_bounds b = true := by
  unfold m_is_bounds m_is_bound m_is_int
  simp only [Bool.not_true, Bool.false_or, Bool.not_false]
  rw [if_neg]
  · rw [List.all_map, List.all_eq_true]
    intro p hp
    have := h.2.2 p hp
    simp; omega
  · have := h.1; have := h.2.1
    simp; omega
theorem ok_check_bounds (T : Txt K mg) : Ok P w K mg base CX0 4 "check_bounds" ["value"] (sp1 K ((fun b => BOk b) : (List (Int × Int)) → Prop) (fun _ => ())) := by
  refine ok_of T.d_check_bounds sc_check_bounds (bi1 fun _ _ _ _ _ _ _ => rfl) len_sp1 (fun f cdv A outer s H vs Q E hr h => ?_)
  have nd := sc_check_bounds.nd
  obtain ⟨v0, x0, rfl, r0, hp, q⟩ := h
  refine ⟨_, (pss_one (ps_if (pt_not (pt_val (pe_fn (ok_is_bounds T) (hr.mono (by decide)) pass0 (pa_cons (pv 0) pa_nil)))) (pss_one ps_never) pss_nil)), ?_⟩
  refine s_if (K := K) (et_not (et_B (er_call1 (er_var rfl r0) (by have := hp.2.1; omega)))) (fun hc _ _ => ?_) (fun _ _ e => ?_)
  · rw [isBounds_ok hp] at hc; cases hc
  · exact q .non _ e rfl
theorem ok_common_divisor (T : Txt K mg) : Ok P w K mg base CX0 1 "common_divisor" ["one", "other"] (sp2 K ((fun _ _ => True) : Int → Int → Prop) gcdI) := by
  refine ok_of T.d_common_divisor sc_common_divisor (bi2 fun _ _ _ _ _ _ _ _ => rfl) len_sp2 (fun f cdv A outer s H vs Q E hr h => ?_)
  have nd := sc_common_divisor.nd
  obtain ⟨v0, v1, x0, x1, rfl, r0, r1, hp, q⟩ := h
  refine ⟨_, (pss_cons (ps_par (i := 0) (j := 1) (by rfl) nd rfl rfl (by decide) rfl rfl (pa_cons (pe_callB call_abs (by rfl) T.n_abs (by decide +kernel) (pa_cons (pv 0) pa_nil)) (pa_cons (pe_callB call_abs (by rfl) T.n_abs (by decide +kernel) (pa_cons (pv 1) pa_nil)) pa_nil)) (by rfl))
      (pss_cons (ps_while PassesOwn.never (pt_cmpR op_ne (pv 1) pe_int (nomark _)) (pss_one (ps_par (i := 0) (j := 1) (by rfl) nd rfl rfl (by decide) rfl rfl (pa_cons (pv 1) (pa_cons (pe_op op_mod (pv 0) (pv 1)) pa_nil)) (by rfl))))
      (pss_one (ps_ret (pv 0))))), ?_⟩
  refine q_par (K := K) (er_abs (er_var rfl r0)) (er_abs (er_var rfl r1)) (fun v u H1 e1 ra rb => ?_)
  cases (show v = .int (iabs x0) from ra); cases (show u = .int (iabs x1) from rb)
  refine q_while (K := K) (fun σ' H' => ∃ a b : Nat, σ' = [some (.int a), some (.int b)] ∧ Same H H' ∧ Nat.gcd a b = Int.gcd x0 x1) (fun σ' _ => match σ' with | [_, some (.int b)] => b.toNat | _ => 0) ⟨x0.natAbs, x1.natAbs, by rw [iabs_nat, iabs_nat]; rfl, e1, rfl⟩ (fun σ' H' hW => ?_)
  obtain ⟨a, b, rfl, e, hg⟩ := hW
  refine ⟨!decide ((b : Int) = 0), et_test (er_op (er_var (x := (b : Int)) rfl rfl) er_int rr_neI), fun hb H2 e2 => ?_, fun hb H2 e2 => ?_⟩
  · have hb0 : b ≠ 0 := by intro z; subst z; simp at hb
    refine s_par (K := K) (er_var (x := (b : Int)) rfl rfl) (er_op (er_var (x := (a : Int)) rfl rfl) (er_var (x := (b : Int)) rfl rfl) (rr_mod (by omega))) (fun v u H3 e3 r1 r2 => ?_)
    cases (show v = .int (b : Int) from r1); cases (show u = .int ((a : Int) % (b : Int)) from r2)
    refine ⟨⟨b, a % b, by rw [nat_mod_int]; rfl, e.trans (e2.trans e3), by rw [gcd_turn hb0]; exact hg⟩, ?_⟩
    show ((a : Int) % (b : Int)).toNat < (b : Int).toNat
    have := Nat.mod_lt a (Nat.pos_of_ne_zero hb0)
    rw [nat_mod_int]; omega
  · have hb0 : b = 0 := by have := of_decide_eq_true (show decide ((b : Int) = 0) = true by simpa using hb); omega
    subst hb0
    rw [Nat.gcd_zero_right] at hg
    exact s_ret (K := K) (er_var (x := (a : Int)) rfl rfl) (fun u H3 e3 rr => q u _ (e.trans (e2.trans e3)) (by rw [show gcdI x0 x1 = (a : Int) from by unfold gcdI; omega]; exact rr))
theorem ok_lowest (T : Txt K mg) : Ok P w K mg base CX0 2 "lowest" ["top", "below"] (sp2 K ((fun _ b => 0 < b ∧ b.natAbs < 2 ^ 4000) : Int → Int → Prop) frI) := by
  refine ok_of T.d_lowest sc_lowest (bi2 fun _ _ _ _ _ _ _ _ => rfl) len_sp2 (fun f cdv A outer s H vs Q E hr h => ?_)
  have nd := sc_lowest.nd
  obtain ⟨v0, v1, x0, x1, rfl, r0, r1, hp, q⟩ := h
  refine ⟨_, (pss_cons (ps_set (i := 2) nd rfl (.inl rfl) (pe_fn (ok_common_divisor T) (hr.mono (by decide)) pass0 (pa_cons (pv 0) (pa_cons (pv 1) pa_nil))))
      (pss_one (ps_ret (pe_tup (pa_cons (pe_op op_fdivW (pv 0) (pv 2)) (pa_cons (pe_op op_fdivW (pv 1) (pv 2)) pa_nil)))))), ?_⟩
  refine q_set (K := K) (er_call2 (er_var rfl r0) (er_var rfl r1) trivial) (fun v419 _ e417 r418 => ?_)
  exact s_ret (K := K) (er_pair (er_op (er_var rfl (Rp.mono (SF.of e417) r0)) (er_var rfl r418) (rr_divW (by exact gcd_div hp))) (er_op (er_var rfl (Rp.mono (SF.of e417) r1)) (er_var rfl r418) (rr_divW (by exact gcd_div hp)))) (fun u _ e420 rr => q u _ (e417.trans e420) rr)
theorem ok_plus (T : Txt K mg) : Ok P w K mg base CX0 3 "plus" ["one", "other"] (sp2 K ((fun p q => Sz 2000 p ∧ Sz 2000 q) : (Int × Int) → (Int × Int) → Prop) pls) := by
  refine ok_of T.d_plus sc_plus (bi2 fun _ _ _ _ _ _ _ _ => rfl) len_sp2 (fun f cdv A outer s H vs Q E hr h => ?_)
  have nd := sc_plus.nd
  obtain ⟨v0, v1, x0, x1, rfl, r0, r1, hp, q⟩ := h
  refine ⟨_, (pss_one (ps_ret (pe_fn (ok_lowest T) (hr.mono (by decide)) pass0 (pa_cons (pe_op op_add (pe_op op_mulW (pe_ix (k_ixt K rfl) (pv 0) pe_int (fun _ _ => rfl)) (pe_ix (k_ixt K rfl) (pv 1) pe_int (fun _ _ => rfl))) (pe_op op_mulW (pe_ix (k_ixt K rfl) (pv 1) pe_int (fun _ _ => rfl)) (pe_ix (k_ixt K rfl) (pv 0) pe_int (fun _ _ => rfl)))) (pa_cons (pe_op op_mulW (pe_ix (k_ixt K rfl) (pv 0) pe_int (fun _ _ => rfl)) (pe_ix (k_ixt K rfl) (pv 1) pe_int (fun _ _ => rfl))) pa_nil))))), ?_⟩
  exact s_ret (K := K) (er_call2 (er_op (er_op (er_op (er_var rfl r0) er_int rr_ixP0) (er_op (er_var rfl r1) er_int rr_ixP1) (rr_mulW (by first | exact cmulW hp.1.2.2 hp.2.2.1 (by decide) (by decide) | exact cmulW hp.2.2.2 hp.1.2.1 (by decide) (by decide) | exact cmulW hp.1.2.1 hp.2.2.1 (by decide) (by decide) | exact cmulW hp.1.2.2 hp.2.2.2 (by decide) (by decide)))) (er_op (er_op (er_var rfl r1) er_int rr_ixP0) (er_op (er_var rfl r0) er_int rr_ixP1) (rr_mulW (by first | exact cmulW hp.1.2.2 hp.2.2.1 (by decide) (by decide) | exact cmulW hp.2.2.2 hp.1.2.1 (by decide) (by decide) | exact cmulW hp.1.2.1 hp.2.2.1 (by decide) (by decide) | exact cmulW hp.1.2.2 hp.2.2.2 (by decide) (by decide)))) rr_add) (er_op (er_op (er_var rfl r0) er_int rr_ixP1) (er_op (er_var rfl r1) er_int rr_ixP1) (rr_mulW (by first | exact cmulW hp.1.2.2 hp.2.2.1 (by decide) (by decide) | exact cmulW hp.2.2.2 hp.1.2.1 (by decide) (by decide) | exact cmulW hp.1.2.1 hp.2.2.1 (by decide) (by decide) | exact cmulW hp.1.2.2 hp.2.2.2 (by decide) (by decide)))) (by exact sz_pre hp.1 hp.2 (by decide))) (fun u _ e421 rr => q u _ e421 rr)
def m_minus (x0 : (Int × Int)) (x1 : (Int × Int)) : (Int × Int) := (pls x0 ((-x1.1), x1.2))
theorem ok_minus (T : Txt K mg) : Ok P w K mg base CX0 4 "minus" ["one", "other"] (sp2 K ((fun p q => Sz 1900 p ∧ Sz 1900 q) : (Int × Int) → (Int × Int) → Prop) m_minus) := by
  refine ok_of T.d_minus sc_minus (bi2 fun _ _ _ _ _ _ _ _ => rfl) len_sp2 (fun f cdv A outer s H vs Q E hr h => ?_)
  have nd := sc_minus.nd
  obtain ⟨v0, v1, x0, x1, rfl, r0, r1, hp, q⟩ := h
  refine ⟨_, (pss_one (ps_ret (pe_fn (ok_plus T) (hr.mono (by decide)) pass0 (pa_cons (pv 0) (pa_cons (pe_tup (pa_cons (pe_un un_neg (pe_ix (k_ixt K rfl) (pv 1) pe_int (fun _ _ => rfl))) (pa_cons (pe_ix (k_ixt K rfl) (pv 1) pe_int (fun _ _ => rfl)) pa_nil))) pa_nil))))), ?_⟩
  exact s_ret (K := K) (er_call2 (er_var rfl r0) (er_pair (er_neg (er_op (er_var rfl r1) er_int rr_ixP0)) (er_op (er_var rfl r1) er_int rr_ixP1)) (by exact ⟨hp.1.le (by decide), sz_neg (hp.2.le (by decide))⟩)) (fun u _ e422 rr => q u _ e422 rr)
theorem ok_times (T : Txt K mg) : Ok P w K mg base CX0 3 "times" ["one", "other"] (sp2 K ((fun p q => Sz 2000 p ∧ Sz 2000 q) : (Int × Int) → (Int × Int) → Prop) tms) := by
  refine ok_of T.d_times sc_times (bi2 fun _ _ _ _ _ _ _ _ => rfl) len_sp2 (fun f cdv A outer s H vs Q E hr h => ?_)
  have nd := sc_times.nd
  obtain ⟨v0, v1, x0, x1, rfl, r0, r1, hp, q⟩ := h
  refine ⟨_, (pss_one (ps_ret (pe_fn (ok_lowest T) (hr.mono (by decide)) pass0 (pa_cons (pe_op op_mulW (pe_ix (k_ixt K rfl) (pv 0) pe_int (fun _ _ => rfl)) (pe_ix (k_ixt K rfl) (pv 1) pe_int (fun _ _ => rfl))) (pa_cons (pe_op op_mulW (pe_ix (k_ixt K rfl) (pv 0) pe_int (fun _ _ => rfl)) (pe_ix (k_ixt K rfl) (pv 1) pe_int (fun _ _ => rfl))) pa_nil))))), ?_⟩
  exact s_ret (K := K) (er_call2 (er_op (er_op (er_var rfl r0) er_int rr_ixP0) (er_op (er_var rfl r1) er_int rr_ixP0) (rr_mulW (by first | exact cmulW hp.1.2.2 hp.2.2.1 (by decide) (by decide) | exact cmulW hp.2.2.2 hp.1.2.1 (by decide) (by decide) | exact cmulW hp.1.2.1 hp.2.2.1 (by decide) (by decide) | exact cmulW hp.1.2.2 hp.2.2.2 (by decide) (by decide)))) (er_op (er_op (er_var rfl r0) er_int rr_ixP1) (er_op (er_var rfl r1) er_int rr_ixP1) (rr_mulW (by first | exact cmulW hp.1.2.2 hp.2.2.1 (by decide) (by decide) | exact cmulW hp.2.2.2 hp.1.2.1 (by decide) (by decide) | exact cmulW hp.1.2.1 hp.2.2.1 (by decide) (by decide) | exact cmulW hp.1.2.2 hp.2.2.2 (by decide) (by decide)))) (by exact sz_pre hp.1 hp.2 (by decide))) (fun u _ e423 rr => q u _ e423 rr)
def m_less (x0 : (Int × Int)) (x1 : (Int × Int)) : Bool := (decide ((x0.1 * x1.2) < (x1.1 * x0.2)))
theorem ok_less (T : Txt K mg) : Ok P w K mg base CX0 1 "less" ["one", "other"] (sp2 K ((fun p q => Sz 2000 p ∧ Sz 2000 q) : (Int × Int) → (Int × Int) → Prop) m_less) := by
  refine ok_of T.d_less sc_less (bi2 fun _ _ _ _ _ _ _ _ => rfl) len_sp2 (fun f cdv A outer s H vs Q E hr h => ?_)
  have nd := sc_less.nd
  obtain ⟨v0, v1, x0, x1, rfl, r0, r1, hp, q⟩ := h
  refine ⟨_, (pss_one (ps_ret (pe_cmpR op_lt (pe_op op_mulW (pe_ix (k_ixt K rfl) (pv 0) pe_int (fun _ _ => rfl)) (pe_ix (k_ixt K rfl) (pv 1) pe_int (fun _ _ => rfl))) (pe_op op_mulW (pe_ix (k_ixt K rfl) (pv 1) pe_int (fun _ _ => rfl)) (pe_ix (k_ixt K rfl) (pv 0) pe_int (fun _ _ => rfl))) (nomark _)))), ?_⟩
  exact s_ret (K := K) (er_op (er_op (er_op (er_var rfl r0) er_int rr_ixP0) (er_op (er_var rfl r1) er_int rr_ixP1) (rr_mulW (by first | exact cmulW hp.1.2.2 hp.2.2.1 (by decide) (by decide) | exact cmulW hp.2.2.2 hp.1.2.1 (by decide) (by decide)))) (er_op (er_op (er_var rfl r1) er_int rr_ixP0) (er_op (er_var rfl r0) er_int rr_ixP1) (rr_mulW (by first | exact cmulW hp.1.2.2 hp.2.2.1 (by decide) (by decide) | exact cmulW hp.2.2.2 hp.1.2.1 (by decide) (by decide)))) rr_lt) (fun u _ e424 rr => q u _ e424 rr)
theorem tot_sz {l : List (Int × Int)} (h : l.length ≤ 8) (hp : ∀ p ∈ l, Sz 10 p) : Sz 100 (l.foldl (fun s x => pls s x) (0, 1)) := (sz_fold (g := fun x => x) sz_zero hp).le (by omega)
theorem sqs_sz {l : List (Int × Int)} (h : l.length ≤ 8) (hp : ∀ p ∈ l, Sz 10 p) : Sz 900 (l.foldl (fun s x => pls s (tms x x)) (0, 1)) := (sz_fold (g := fun x => tms x x) sz_zero (fun x hx => sz_tms (hp x hx) (hp x hx))).le (by omega)
def m_total (x0 : (List (Int × Int))) : (Int × Int) := (List.foldl (fun (s_l1 : (Int × Int)) (one_l1 : (Int × Int)) => ((pls s_l1 one_l1) : (Int × Int))) ((0 : Int), (1 : Int)) x0)
theorem ok_total (T : Txt K mg) : Ok P w K mg base CX0 4 "total" ["some"] (sp1 K ((fun l => l.length ≤ 8 ∧ ∀ p ∈ l, Sz 10 p) : (List (Int × Int)) → Prop) m_total) := by
  refine ok_of T.d_total sc_total (bi1 fun _ _ _ _ _ _ _ => rfl) len_sp1 (fun f cdv A outer s H vs Q E hr h => ?_)
  have nd := sc_total.nd
  obtain ⟨v0, x0, rfl, r0, hp, q⟩ := h
  refine ⟨_, (pss_cons (ps_set (i := 1) nd rfl (.inl rfl) (pe_tup (pa_cons pe_int (pa_cons pe_int pa_nil))))
      (pss_cons (ps_for PassesOwn.never rfl (k_pl K rfl (pv 0)) (pg_name (i := 2) nd rfl (.inl rfl) (.inr rfl)) (pss_one (ps_set (i := 1) nd rfl (.inl rfl) (pe_fn (ok_plus T) (hr.mono (by decide)) pass0 (pa_cons (pv 1) (pa_cons (pv 2) pa_nil))))))
      (pss_one (ps_ret (pv 1))))), ?_⟩
  refine q_set (K := K) (er_pair er_int er_int) (fun v427 _ e425 r426 => ?_)
  -- for one in some
  refine q_for (K := K) (src_list (er_var rfl (Rp.mono (SF.of e425) r0))) (fun H1 k σ' H' => ∃ (s_l1 : (Int × Int)) (w429 : V) (y430 : Option V), σ' = [some v0, some w429, y430] ∧ s_l1 = (List.take k x0).foldl (fun (s_l1 : (Int × Int)) (one_l1 : (Int × Int)) => ((pls s_l1 one_l1) : (Int × Int))) ((0 : Int), (1 : Int)) ∧ Mus [] H1 H' ∧ Rp.rep K H' w429 s_l1) (fun H1 e => ⟨((0 : Int), (1 : Int)), _, _, rfl, rfl, Mus.refl _, (Rp.mono (SF.of e) r426)⟩) (fun _ _ _ _ h => by obtain ⟨_, _, _, _, _, m, _⟩ := h; exact m.sf) (fun H1 k437 one_l1 σ' H' vone_l1 _ e434 hx433 hP e435 rone_l1 => ?_) (fun H1 σ' H' e434 hP => ?_)
  ·
    obtain ⟨s_l1, w429, y430, rfl, hs431, m436, r438⟩ := hP
    refine s_gn ?_
    have hone_l1 := List.mem_of_getElem? hx433
    have hturn1 := hs431
    refine q_last ?_
    have r440 := (Rp.mono ((((SF.of e425).trans (SF.of e434)).trans m436.sf).trans (SF.of e435)) r0)
    refine q_set (K := K) (er_call2 (er_var rfl (Rp.mono (SF.of e435) r438)) (er_var rfl rone_l1) (by exact ⟨by rw [hturn1]; exact (sz_fold (g := fun x => x) sz_zero (fun x hx => hp.2 x (List.mem_of_mem_take hx))).le (by rw [List.length_take]; have := hp.1; omega), (hp.2 _ hone_l1).le (by decide)⟩)) (fun v443 _ e441 r442 => ?_)
    refine s_nx ?_
    exact ⟨(pls s_l1 one_l1), _, _, rfl, (fold_step hx433 hs431), (((Mus.baseS (Mus.refl _) m436 all0).trans (Mus.of e435)).trans (Mus.of e441)), r442⟩
  ·
    obtain ⟨s_l1, w429, y430, rfl, hs431, m436, r438⟩ := hP
    replace hs431 := fold_all hs431
    subst hs431
    exact s_ret (K := K) (er_var rfl r438) (fun u _ e444 rr => q u _ (Mus.same0 ((Mus.baseS (((Mus.refl _).trans (Mus.of e425)).trans (Mus.of e434)) m436 all0).trans (Mus.of e444))) rr)
theorem one_n8 {l : List (Int × Int)} (h0 : l ≠ []) (h : l.length ≤ 8) : Sz 8 ((1 : Int), (l.length : Int)) := ⟨by have := List.length_pos_iff.mpr h0; show (0 : Int) < (l.length : Int); omega, by show (l.length : Int).natAbs < 2 ^ 8; omega, (show (1 : Int).natAbs < 2 ^ 8 by decide)⟩
theorem one_n {l : List (Int × Int)} (h0 : l ≠ []) (h : l.length ≤ 8) : Sz 2000 ((1 : Int), (l.length : Int)) := (one_n8 h0 h).le (by decide)
def m_squares_about_mean (x0 : (List (Int × Int))) : (Int × Int) := (m_minus (List.foldl (fun (s_l1 : (Int × Int)) (one_l1 : (Int × Int)) => ((pls s_l1 (tms one_l1 one_l1)) : (Int × Int))) ((0 : Int), (1 : Int)) x0) (tms (tms (m_total x0) (m_total x0)) ((1 : Int), ((x0.length : Nat) : Int))))
theorem ok_squares_about_mean (T : Txt K mg) : Ok P w K mg base CX0 5 "squares_about_mean" ["some"] (sp1 K ((fun l => l ≠ [] ∧ l.length ≤ 8 ∧ ∀ p ∈ l, Sz 10 p) : (List (Int × Int)) → Prop) m_squares_about_mean) := by
  refine ok_of T.d_squares_about_mean sc_squares_about_mean (bi1 fun _ _ _ _ _ _ _ => rfl) len_sp1 (fun f cdv A outer s H vs Q E hr h => ?_)
  have nd := sc_squares_about_mean.nd
  obtain ⟨v0, x0, rfl, r0, hp, q⟩ := h
  refine ⟨_, (pss_cons (ps_set (i := 1) nd rfl (.inl rfl) (pe_fn (ok_total T) (hr.mono (by decide)) pass0 (pa_cons (pv 0) pa_nil)))
      (pss_cons (ps_set (i := 2) nd rfl (.inl rfl) (pe_tup (pa_cons pe_int (pa_cons pe_int pa_nil))))
      (pss_cons (ps_for PassesOwn.never rfl (k_pl K rfl (pv 0)) (pg_name (i := 3) nd rfl (.inl rfl) (.inr rfl)) (pss_one (ps_set (i := 2) nd rfl (.inl rfl) (pe_fn (ok_plus T) (hr.mono (by decide)) pass0 (pa_cons (pv 2) (pa_cons (pe_fn (ok_times T) (hr.mono (by decide)) pass0 (pa_cons (pv 3) (pa_cons (pv 3) pa_nil))) pa_nil))))))
      (pss_one (ps_ret (pe_fn (ok_minus T) (hr.mono (by decide)) pass0 (pa_cons (pv 2) (pa_cons (pe_fn (ok_times T) (hr.mono (by decide)) pass0 (pa_cons (pe_fn (ok_times T) (hr.mono (by decide)) pass0 (pa_cons (pv 1) (pa_cons (pv 1) pa_nil))) (pa_cons (pe_tup (pa_cons pe_int (pa_cons (pe_callB (k_len K rfl) (by rfl) T.n_len PySem.boot_len (pa_cons (pv 0) pa_nil)) pa_nil))) pa_nil))) pa_nil)))))))), ?_⟩
  refine q_set (K := K) (er_call1 (er_var rfl r0) (by exact hp.2)) (fun v447 _ e445 r446 => ?_)
  refine q_set (K := K) (er_pair er_int er_int) (fun v450 _ e448 r449 => ?_)
  -- for one in some
  refine q_for (K := K) (src_list (er_var rfl (Rp.mono ((SF.of e445).trans (SF.of e448)) r0))) (fun H1 k σ' H' => ∃ (s_l1 : (Int × Int)) (w452 : V) (y453 : Option V), σ' = [some v0, some v447, some w452, y453] ∧ s_l1 = (List.take k x0).foldl (fun (s_l1 : (Int × Int)) (one_l1 : (Int × Int)) => ((pls s_l1 (tms one_l1 one_l1)) : (Int × Int))) ((0 : Int), (1 : Int)) ∧ Mus [] H1 H' ∧ Rp.rep K H' w452 s_l1) (fun H1 e => ⟨((0 : Int), (1 : Int)), _, _, rfl, rfl, Mus.refl _, (Rp.mono (SF.of e) r449)⟩) (fun _ _ _ _ h => by obtain ⟨_, _, _, _, _, m, _⟩ := h; exact m.sf) (fun H1 k460 one_l1 σ' H' vone_l1 _ e457 hx456 hP e458 rone_l1 => ?_) (fun H1 σ' H' e457 hP => ?_)
  ·
    obtain ⟨s_l1, w452, y453, rfl, hs454, m459, r461⟩ := hP
    refine s_gn ?_
    have hone_l1 := List.mem_of_getElem? hx456
    have hturn1 := hs454
    refine q_last ?_
    have r463 := (Rp.mono (((((SF.of e445).trans (SF.of e448)).trans (SF.of e457)).trans m459.sf).trans (SF.of e458)) r0)
    have r464 := (Rp.mono ((((SF.of e448).trans (SF.of e457)).trans m459.sf).trans (SF.of e458)) r446)
    refine q_set (K := K) (er_call2 (er_var rfl (Rp.mono (SF.of e458) r461)) (er_call2 (er_var rfl rone_l1) (er_var rfl rone_l1) (by first | exact ⟨(hp.2.2 _ hone_l1).le (by decide), (hp.2.2 _ hone_l1).le (by decide)⟩ | exact ⟨(tot_sz hp.2.1 hp.2.2).le (by decide), (tot_sz hp.2.1 hp.2.2).le (by decide)⟩ | exact ⟨(sz_tms (tot_sz hp.2.1 hp.2.2) (tot_sz hp.2.1 hp.2.2)).le (by decide), one_n hp.1 hp.2.1⟩)) (by exact ⟨by rw [hturn1]; exact (sqs_sz (by rw [List.length_take]; have := hp.2.1; omega) (fun x hx => hp.2.2 x (List.mem_of_mem_take hx))).le (by decide), (sz_tms (hp.2.2 _ hone_l1) (hp.2.2 _ hone_l1)).le (by decide)⟩)) (fun v467 _ e465 r466 => ?_)
    refine s_nx ?_
    exact ⟨(pls s_l1 (tms one_l1 one_l1)), _, _, rfl, (fold_step hx456 hs454), (((Mus.baseS (Mus.refl _) m459 all0).trans (Mus.of e458)).trans (Mus.of e465)), r466⟩
  ·
    obtain ⟨s_l1, w452, y453, rfl, hs454, m459, r461⟩ := hP
    replace hs454 := fold_all hs454
    subst hs454
    have r468 := (Rp.mono ((((SF.of e445).trans (SF.of e448)).trans (SF.of e457)).trans m459.sf) r0)
    exact s_ret (K := K) (er_call2 (er_var rfl r461) (er_call2 (er_call2 (er_var rfl (Rp.mono (((SF.of e448).trans (SF.of e457)).trans m459.sf) r446)) (er_var rfl (Rp.mono (((SF.of e448).trans (SF.of e457)).trans m459.sf) r446)) (by first | exact ⟨(hp.2.2 _ hone_l1).le (by decide), (hp.2.2 _ hone_l1).le (by decide)⟩ | exact ⟨(tot_sz hp.2.1 hp.2.2).le (by decide), (tot_sz hp.2.1 hp.2.2).le (by decide)⟩ | exact ⟨(sz_tms (tot_sz hp.2.1 hp.2.2) (tot_sz hp.2.1 hp.2.2)).le (by decide), one_n hp.1 hp.2.1⟩)) (er_pair er_int (er_up (er_len (er_var rfl r468)))) (by first | exact ⟨(hp.2.2 _ hone_l1).le (by decide), (hp.2.2 _ hone_l1).le (by decide)⟩ | exact ⟨(tot_sz hp.2.1 hp.2.2).le (by decide), (tot_sz hp.2.1 hp.2.2).le (by decide)⟩ | exact ⟨(sz_tms (tot_sz hp.2.1 hp.2.2) (tot_sz hp.2.1 hp.2.2)).le (by decide), one_n hp.1 hp.2.1⟩)) (by exact ⟨(sqs_sz hp.2.1 hp.2.2).le (by decide), (sz_tms (sz_tms (tot_sz hp.2.1 hp.2.2) (tot_sz hp.2.1 hp.2.2)) (one_n8 hp.1 hp.2.1)).le (by decide)⟩)) (fun u _ e469 rr => q u _ (Mus.same0 ((Mus.baseS ((((Mus.refl _).trans (Mus.of e445)).trans (Mus.of e448)).trans (Mus.of e457)) m459 all0).trans (Mus.of e469))) rr)
theorem neg_fr (x : Rat) (p : Int × Int) (h : p = fr x) : (-p.1, p.2) = fr (-x) := by rw [h]; exact fr_neg x
/-- the squares about the mean, as a rational -/
theorem sam_fr (l : List Rat) (h : l ≠ []) : m_squares_about_mean (l.map fr) = fr (sq l) := by
  have hp := ln_pos h
  have hn : (0 : Int) < ((l.map fr).length : Int) := by rw [List.length_map]; have := List.length_pos_iff.mpr h; omega
  show pls ((l.map fr).foldl (fun s x => pls s (tms x x)) (fr 0)) (-(tms (tms ((l.map fr).foldl (fun s x => pls s x) (fr 0)) ((l.map fr).foldl (fun s x => pls s x) (fr 0))) (1, ((l.map fr).length : Int))).1, (tms (tms ((l.map fr).foldl (fun s x => pls s x) (fr 0)) ((l.map fr).foldl (fun s x => pls s x) (fr 0))) (1, ((l.map fr).length : Int))).2) = _
  rw [fr_one hn, fr_tot, fr_tms, fr_tms, fr_neg, fr_sqs, fr_pls]
  congr 1
  rw [List.length_map, ← ln_len]
  unfold sq vr
  generalize ln l = n at *
  grind
theorem row_fr (r : List Int) : (r.map fun x => (x, (1 : Int))) = (r.map fun x : Int => (x : Rat)).map fr := by rw [List.map_map]; rfl
theorem own_pos {r : List Int} (h : (r.map fun x => (x, (1 : Int))) ≠ [] ∧ (r.map fun x => (x, (1 : Int))).length ≤ 8 ∧ ∀ p ∈ r.map (fun x => (x, (1 : Int))), Sz 10 p) : m_less (-1, 1) (m_squares_about_mean (r.map fun x => (x, (1 : Int)))) = true := by
  have hne : (r.map fun x : Int => (x : Rat)) ≠ [] := fun c => h.1 (by rw [row_fr, c]; rfl)
  rw [row_fr, sam_fr _ hne]
  show decide ((fr ((-1 : Int) : Rat)).1 * (fr (sq _)).2 < (fr (sq _)).1 * (fr ((-1 : Int) : Rat)).2) = true
  rw [fr_lt]
  have := sq_nn' (r.map fun x : Int => (x : Rat))
  exact decide_eq_true (by
    have e : (((-1 : Int) : Int) : Rat) = -1 := rfl
    rw [e]; grind)
def m_lows (x0 : (List (Int × Int))) : (List Int) := (x0.map (fun (x478 : (Int × Int)) => x478.1))
theorem ok_lows (T : Txt K mg) : Ok P w K mg base CX0 1 "lows" ["bounds"] (sl1 K ((fun b => b.length ≤ 100000) : (List (Int × Int)) → Prop) m_lows) := by
  refine ok_of T.d_lows sc_lows (bi1 fun _ _ _ _ _ _ _ => rfl) len_sl1 (fun f cdv A outer s H vs Q E hr h => ?_)
  have nd := sc_lows.nd
  obtain ⟨v0, x0, rfl, r0, hp, q⟩ := h
  refine ⟨_, (pss_one (ps_ret (pe_lc (own := [("low", 1), ("high", 2)]) rfl nd (k_pl K rfl (pv 0)) (blkOk_by (N := N_lows) (sc := defScope s_lows) (by decide +kernel)) (fun _ _ _ _ _ => (k_gt K rfl 2 rfl (pgs_cons (pg_name (i := 1) nd rfl (.inl rfl) (.inr rfl)) (pgs_cons (pg_name (i := 2) nd rfl (.inl rfl) (.inr rfl)) pgs_nil)))) (fun _ _ _ _ _ => pts_nil) (fun _ _ _ _ _ => (pv 1))))), ?_⟩
  exact s_retL (K := K) (erl_lm2 (f := fun (x478 : (Int × Int)) => x478.1) (src_list (er_var rfl r0)) (by first | omega | (have := hp.2.1; omega) | (have := hp.1.2.1; omega)) (by intros; rfl) (fun x478 hx479 v480 v481 _ e477 r482 r483 => (er_var rfl r482))) (fun p us _ e484 hn h1 rr => q p us _ e484 ((Same.refl _).free hn) h1 rr)
def m_highs (x0 : (List (Int × Int))) : (List Int) := (x0.map (fun (x493 : (Int × Int)) => x493.2))
theorem ok_highs (T : Txt K mg) : Ok P w K mg base CX0 1 "highs" ["bounds"] (sl1 K ((fun b => b.length ≤ 100000) : (List (Int × Int)) → Prop) m_highs) := by
  refine ok_of T.d_highs sc_highs (bi1 fun _ _ _ _ _ _ _ => rfl) len_sl1 (fun f cdv A outer s H vs Q E hr h => ?_)
  have nd := sc_highs.nd
  obtain ⟨v0, x0, rfl, r0, hp, q⟩ := h
  refine ⟨_, (pss_one (ps_ret (pe_lc (own := [("low", 1), ("high", 2)]) rfl nd (k_pl K rfl (pv 0)) (blkOk_by (N := N_highs) (sc := defScope s_highs) (by decide +kernel)) (fun _ _ _ _ _ => (k_gt K rfl 2 rfl (pgs_cons (pg_name (i := 1) nd rfl (.inl rfl) (.inr rfl)) (pgs_cons (pg_name (i := 2) nd rfl (.inl rfl) (.inr rfl)) pgs_nil)))) (fun _ _ _ _ _ => pts_nil) (fun _ _ _ _ _ => (pv 2))))), ?_⟩
  exact s_retL (K := K) (erl_lm2 (f := fun (x493 : (Int × Int)) => x493.2) (src_list (er_var rfl r0)) (by first | omega | (have := hp.2.1; omega) | (have := hp.1.2.1; omega)) (by intros; rfl) (fun x493 hx494 v495 v496 _ e492 r497 r498 => (er_var rfl r498))) (fun p us _ e499 hn h1 rr => q p us _ e499 ((Same.refl _).free hn) h1 rr)
theorem ne_lows {b : List (Int × Int)} (h : BOk b) : m_lows b ≠ [] := by
  have := h.1
  cases b with
  | nil => simp at this
  | cons p r => simp [m_lows]
theorem ne_highs {b : List (Int × Int)} (h : BOk b) : m_highs b ≠ [] := by
  have := h.1
  cases b with
  | nil => simp at this
  | cons p r => simp [m_highs]
theorem len_lows (b : List (Int × Int)) : (m_lows b).length = b.length := by simp [m_lows]
theorem len_highs (b : List (Int × Int)) : (m_highs b).length = b.length := by simp [m_highs]
def m_mean_range (x0 : (List (Int × Int))) : ((Int × Int) × (Int × Int)) := ((frI ((m_lows x0).sum) ((x0.length : Nat) : Int)), (frI ((m_highs x0).sum) ((x0.length : Nat) : Int)))
theorem ok_mean_range (T : Txt K mg) : Ok P w K mg base CX0 5 "mean_range" ["bounds"] (sp1 K ((fun b => BOk b) : (List (Int × Int)) → Prop) m_mean_range) := by
  refine ok_of T.d_mean_range sc_mean_range (bi1 fun _ _ _ _ _ _ _ => rfl) len_sp1 (fun f cdv A outer s H vs Q E hr h => ?_)
  have nd := sc_mean_range.nd
  obtain ⟨v0, x0, rfl, r0, hp, q⟩ := h
  refine ⟨_, (pss_cons (ps_expr (pe_fn (ok_check_bounds T) (hr.mono (by decide)) pass0 (pa_cons (pv 0) pa_nil)))
      (pss_one (ps_ret (pe_tup (pa_cons (pe_fn (ok_lowest T) (hr.mono (by decide)) pass0 (pa_cons (pe_callB (k_sum K rfl rfl) (by rfl) T.n_sum (by decide +kernel) (pa_cons (pe_frz (pe_fn (ok_lows T) (hr.mono (by decide)) pass0 (pa_cons (pv 0) pa_nil))) pa_nil)) (pa_cons (pe_callB (k_len K rfl) (by rfl) T.n_len PySem.boot_len (pa_cons (pv 0) pa_nil)) pa_nil))) (pa_cons (pe_fn (ok_lowest T) (hr.mono (by decide)) pass0 (pa_cons (pe_callB (k_sum K rfl rfl) (by rfl) T.n_sum (by decide +kernel) (pa_cons (pe_frz (pe_fn (ok_highs T) (hr.mono (by decide)) pass0 (pa_cons (pv 0) pa_nil))) pa_nil)) (pa_cons (pe_callB (k_len K rfl) (by rfl) T.n_len PySem.boot_len (pa_cons (pv 0) pa_nil)) pa_nil))) pa_nil)))))), ?_⟩
  refine q_drop (K := K) (er_call1 (er_var rfl r0) (by first | exact hp | exact hp.1)) (fun _ e500 => ?_)
  exact s_ret (K := K) (er_pair (er_call2 (er_sum (er_frz (erl_call1 (er_var rfl (Rp.mono (SF.of e500) r0)) (by first | omega | (have := hp.2.1; omega) | (have := hp.1.2.1; omega))))) (er_up (er_len (er_var rfl (Rp.mono (SF.of e500) r0)))) (by have := hp.1; have := hp.2.1; exact small_pre (by omega) (by omega))) (er_call2 (er_sum (er_frz (erl_call1 (er_var rfl (Rp.mono (SF.of e500) r0)) (by first | omega | (have := hp.2.1; omega) | (have := hp.1.2.1; omega))))) (er_up (er_len (er_var rfl (Rp.mono (SF.of e500) r0)))) (by have := hp.1; have := hp.2.1; exact small_pre (by omega) (by omega)))) (fun u _ e501 rr => q u _ (e500.trans e501) rr)
def m_corner_choices (x0 : (List (Int × Int))) : (List (List Int)) := (List.foldl (fun (s_l1 : (List (List Int))) (low_high_l1 : (Int × Int)) => (((s_l1.map (fun (x535 : (List Int)) => (x535 ++ ([low_high_l1.1] : (List Int))))) ++ (mapIf (fun (x540 : (List Int)) => (decide (low_high_l1.2 > low_high_l1.1))) (fun (x540 : (List Int)) => (x540 ++ ([low_high_l1.2] : (List Int)))) s_l1)) : (List (List Int)))) ([([] : (List Int))] : (List (List Int))) x0)
theorem ok_corner_choices (T : Txt K mg) : Ok P w K mg base CX0 1 "corner_choices" ["bounds"] (sp1 K ((fun b => BOk b) : (List (Int × Int)) → Prop) m_corner_choices) := by
  refine ok_of T.d_corner_choices sc_corner_choices (bi1 fun _ _ _ _ _ _ _ => rfl) len_sp1 (fun f cdv A outer s H vs Q E hr h => ?_)
  have nd := sc_corner_choices.nd
  obtain ⟨v0, x0, rfl, r0, hp, q⟩ := h
  refine ⟨_, (pss_cons (ps_set (i := 1) nd rfl (.inl rfl) (pe_frz (pe_lst (pa_cons (pe_frz (pe_lst pa_nil)) pa_nil))))
      (pss_cons (ps_for PassesOwn.never rfl (k_pl K rfl (pv 0)) (k_gt K rfl 2 rfl (pgs_cons (pg_name (i := 2) nd rfl (.inr rfl) (.inl rfl)) (pgs_cons (pg_name (i := 3) nd rfl (.inr rfl) (.inl rfl)) pgs_nil))) (pss_one (ps_set (i := 1) nd rfl (.inl rfl) (pe_frz (pe_op op_catR (pe_frz (pe_lc (own := [("one", 4)]) rfl nd (k_pl K rfl (pv 1)) (blkOk_by (N := N_corner_choices) (sc := defScope s_corner_choices) (by decide +kernel)) (fun _ _ _ _ _ => (pg_name (i := 4) nd rfl (.inl rfl) (.inr rfl))) (fun _ _ _ _ _ => pts_nil) (fun _ _ _ _ _ => (pe_frz (pe_op op_catR (pv 4) (pe_frz (pe_lst (pa_cons (pv 2) pa_nil)))))))) (pe_frz (pe_lc (own := [("one", 4)]) rfl nd (k_pl K rfl (pv 1)) (blkOk_by (N := N_corner_choices) (sc := defScope s_corner_choices) (by decide +kernel)) (fun _ _ _ _ _ => (pg_name (i := 4) nd rfl (.inl rfl) (.inr rfl))) (fun _ _ _ _ _ => (pts_one (pt_cmpR op_gt (pv 3) (pv 2) (nomark _)))) (fun _ _ _ _ _ => (pe_frz (pe_op op_catR (pv 4) (pe_frz (pe_lst (pa_cons (pv 3) pa_nil)))))))))))))
      (pss_one (ps_ret (pv 1))))), ?_⟩
  refine q_set (K := K) (er_frz (erl_lst (α := (List Int)) (ea_cons (er_frz (erl_lst (α := Int) ea_nil)) ea_nil))) (fun v514 _ e512 r513 => ?_)
  -- for (low, high) in bounds
  refine q_for (K := K) (src_list (er_var rfl (Rp.mono (SF.of e512) r0))) (fun H1 k σ' H' => ∃ (s_l1 : (List (List Int))) (w516 : V) (y517 : Option V) (y518 : Option V), σ' = [some v0, some w516, y517, y518, none] ∧ s_l1 = (List.take k x0).foldl (fun (s_l1 : (List (List Int))) (low_high_l1 : (Int × Int)) => (((s_l1.map (fun (x535 : (List Int)) => (x535 ++ ([low_high_l1.1] : (List Int))))) ++ (mapIf (fun (x540 : (List Int)) => (decide (low_high_l1.2 > low_high_l1.1))) (fun (x540 : (List Int)) => (x540 ++ ([low_high_l1.2] : (List Int)))) s_l1)) : (List (List Int)))) ([([] : (List Int))] : (List (List Int))) ∧ Mus [] H1 H' ∧ Rp.rep K H' w516 s_l1) (fun H1 e => ⟨([([] : (List Int))] : (List (List Int))), _, _, _, rfl, rfl, Mus.refl _, (Rp.mono (SF.of e) r513)⟩) (fun _ _ _ _ h => by obtain ⟨_, _, _, _, _, _, m, _⟩ := h; exact m.sf) (fun H1 k525 low_high_l1 σ' H' vlow_high_l1 _ e522 hx521 hP e523 rlow_high_l1 => ?_) (fun H1 σ' H' e522 hP => ?_)
  ·
    obtain ⟨s_l1, w516, y517, y518, rfl, hs519, m524, r526⟩ := hP
    obtain ⟨v528, v529, r530, r531, tg532⟩ := tg_pair (k := 2) (m := 3) rlow_high_l1
    refine tg532 _ ?_
    have hlow_high_l1 := List.mem_of_getElem? hx521
    have hturn1 := hs519
    refine q_last ?_
    have r533 := (Rp.mono ((((SF.of e512).trans (SF.of e522)).trans m524.sf).trans (SF.of e523)) r0)
    refine q_set (K := K) (er_frz (erl_cat (er_frz (erl_lm1 (f := fun (x535 : (List Int)) => (x535 ++ ([low_high_l1.1] : (List Int)))) (src_list (er_var rfl (Rp.mono (SF.of e523) r526))) (by first | (have g := cor_lenE hturn1 (by rw [List.length_take]; have := hp.2.1; omega); omega) | (have g := cor_lenE hturn1 (by rw [List.length_take]; have := hp.2.1; omega); have g2 := mapIf_le (c := fun _ : List Int => decide (low_high_l1.2 > low_high_l1.1)) (f := fun r => r ++ [low_high_l1.2]) (l := s_l1); rw [List.length_map]; omega) | (have g := inB_len (cor_inE hturn1 (fun p hh => (hp.2.2 p (List.mem_of_mem_take hh)).2.1) _ (by assumption)); rw [List.length_take] at g; have := hp.2.1; simp; omega)) (by intros; rfl) (fun x535 hx536 v537 _ e534 r538 => (er_frz (erl_cat (er_var rfl r538) (er_frz (erl_lst (α := Int) (ea_cons (er_var rfl (Rp.mono (SF.of e534) r530)) ea_nil))) (by first | (have g := cor_lenE hturn1 (by rw [List.length_take]; have := hp.2.1; omega); omega) | (have g := cor_lenE hturn1 (by rw [List.length_take]; have := hp.2.1; omega); have g2 := mapIf_le (c := fun _ : List Int => decide (low_high_l1.2 > low_high_l1.1)) (f := fun r => r ++ [low_high_l1.2]) (l := s_l1); rw [List.length_map]; omega) | (have g := inB_len (cor_inE hturn1 (fun p hh => (hp.2.2 p (List.mem_of_mem_take hh)).2.1) _ (by assumption)); rw [List.length_take] at g; have := hp.2.1; simp; omega))))))) (er_frz (erl_lc1 (c := fun (x540 : (List Int)) => (decide (low_high_l1.2 > low_high_l1.1))) (f := fun (x540 : (List Int)) => (x540 ++ ([low_high_l1.2] : (List Int)))) (src_list (er_var rfl (Rp.mono (SF.of e523) r526))) (by first | (have g := cor_lenE hturn1 (by rw [List.length_take]; have := hp.2.1; omega); omega) | (have g := cor_lenE hturn1 (by rw [List.length_take]; have := hp.2.1; omega); have g2 := mapIf_le (c := fun _ : List Int => decide (low_high_l1.2 > low_high_l1.1)) (f := fun r => r ++ [low_high_l1.2]) (l := s_l1); rw [List.length_map]; omega) | (have g := inB_len (cor_inE hturn1 (fun p hh => (hp.2.2 p (List.mem_of_mem_take hh)).2.1) _ (by assumption)); rw [List.length_take] at g; have := hp.2.1; simp; omega)) (by intros; rfl) (fun x540 hx541 v542 _ e539 r543 => ⟨(et_test (er_op (er_var rfl (Rp.mono (SF.of e539) r531)) (er_var rfl (Rp.mono (SF.of e539) r530)) rr_gt)), fun _ => (er_frz (erl_cat (er_var rfl r543) (er_frz (erl_lst (α := Int) (ea_cons (er_var rfl (Rp.mono (SF.of e539) r531)) ea_nil))) (by first | (have g := cor_lenE hturn1 (by rw [List.length_take]; have := hp.2.1; omega); omega) | (have g := cor_lenE hturn1 (by rw [List.length_take]; have := hp.2.1; omega); have g2 := mapIf_le (c := fun _ : List Int => decide (low_high_l1.2 > low_high_l1.1)) (f := fun r => r ++ [low_high_l1.2]) (l := s_l1); rw [List.length_map]; omega) | (have g := inB_len (cor_inE hturn1 (fun p hh => (hp.2.2 p (List.mem_of_mem_take hh)).2.1) _ (by assumption)); rw [List.length_take] at g; have := hp.2.1; simp; omega))))⟩))) (by first | (have g := cor_lenE hturn1 (by rw [List.length_take]; have := hp.2.1; omega); omega) | (have g := cor_lenE hturn1 (by rw [List.length_take]; have := hp.2.1; omega); have g2 := mapIf_le (c := fun _ : List Int => decide (low_high_l1.2 > low_high_l1.1)) (f := fun r => r ++ [low_high_l1.2]) (l := s_l1); rw [List.length_map]; omega) | (have g := inB_len (cor_inE hturn1 (fun p hh => (hp.2.2 p (List.mem_of_mem_take hh)).2.1) _ (by assumption)); rw [List.length_take] at g; have := hp.2.1; simp; omega)))) (fun v546 _ e544 r545 => ?_)
    refine s_nx ?_
    exact ⟨((s_l1.map (fun (x535 : (List Int)) => (x535 ++ ([low_high_l1.1] : (List Int))))) ++ (mapIf (fun (x540 : (List Int)) => (decide (low_high_l1.2 > low_high_l1.1))) (fun (x540 : (List Int)) => (x540 ++ ([low_high_l1.2] : (List Int)))) s_l1)), _, _, _, rfl, (fold_step hx521 hs519), (((Mus.baseS (Mus.refl _) m524 all0).trans (Mus.of e523)).trans (Mus.of e544)), r545⟩
  ·
    obtain ⟨s_l1, w516, y517, y518, rfl, hs519, m524, r526⟩ := hP
    replace hs519 := fold_all hs519
    subst hs519
    exact s_ret (K := K) (er_var rfl r526) (fun u _ e547 rr => q u _ (Mus.same0 ((Mus.baseS (((Mus.refl _).trans (Mus.of e512)).trans (Mus.of e522)) m524 all0).trans (Mus.of e547))) rr)
theorem sam_sz {l : List (Int × Int)} (hp : l ≠ [] ∧ l.length ≤ 8 ∧ ∀ p ∈ l, Sz 10 p) : Sz 1900 (m_squares_about_mean l) := by
  have a := sqs_sz hp.2.1 hp.2.2
  have b := sz_neg (sz_tms (sz_tms (tot_sz hp.2.1 hp.2.2) (tot_sz hp.2.1 hp.2.2)) (one_n8 hp.1 hp.2.1))
  exact (sz_pls a b).le (by decide)
def own (r : List Int) : Int × Int := m_squares_about_mean (r.map fun x => (x, (1 : Int)))
def wstep (s : Option (List Int) × (Int × Int)) (r : List Int) : Option (List Int) × (Int × Int) := if m_less s.2 (own r) = true then (some r, own r) else (s.1, s.2)
def WInv (l : List (List Int)) (s : Option (List Int) × (Int × Int)) : Prop := s = (none, (-1, 1)) ∨ ∃ r ∈ l, s = (some r, own r)
theorem wid_inv (l : List (List Int)) : ∀ {m : List (List Int)} {s : Option (List Int) × (Int × Int)}, WInv l s → (∀ x ∈ m, x ∈ l) → WInv l (m.foldl wstep s)
  | [], _, h, _ => h
  | x :: m, s, h, hm => wid_inv l (m := m) (by
      unfold wstep
      split
      · exact .inr ⟨x, hm x (List.mem_cons_self ..), rfl⟩
      · exact h) fun y hy => hm y (List.mem_cons_of_mem _ hy)
theorem wid_sz {b : List (Int × Int)} (hB : BOk b) {m : List (List Int)} (hm : ∀ x ∈ m, x ∈ m_corner_choices b) : Sz 2000 (m.foldl wstep (none, (-1, 1))).2 := by
  rcases wid_inv (m_corner_choices b) (m := m) (.inl rfl) hm with h | ⟨r, hr, h⟩
  · rw [h]; exact (sz_one (x := -1) (by decide)).le (by decide)
  · rw [h]; exact (sam_sz (row_sz hB (cor_inE rfl (ord_of hB) _ hr))).le (by decide)
theorem own_nn {b : List (Int × Int)} (hB : BOk b) {r : List Int} (h : inB b r) : m_less (-1, 1) (own r) = true := own_pos (row_sz hB h)
theorem wid_go {l : List (List Int)} : ∀ {m : List (List Int)} {s : Option (List Int) × (Int × Int)}, (∃ r ∈ l, s = (some r, own r)) → (∀ x ∈ m, x ∈ l) → ∃ r ∈ l, m.foldl wstep s = (some r, own r)
  | [], _, h, _ => h
  | x :: m, s, h, hm => wid_go (m := m) (by
      unfold wstep
      split
      · exact ⟨x, hm x (List.mem_cons_self ..), rfl⟩
      · exact h) fun y hy => hm y (List.mem_cons_of_mem _ hy)
theorem wid_get {b : List (Int × Int)} (hB : BOk b) : ∃ r ∈ m_corner_choices b, (m_corner_choices b).foldl wstep (none, (-1, 1)) = (some r, own r) := by
  have hne : m_corner_choices b ≠ [] := cor_ne (by simp)
  have hin : ∀ r ∈ m_corner_choices b, inB b r := cor_inE rfl (ord_of hB)
  generalize m_corner_choices b = L at hne hin
  cases L with
  | nil => exact absurd rfl hne
  | cons x r =>
    rw [List.foldl_cons]
    refine wid_go (l := x :: r) ?_ fun y hy => List.mem_cons_of_mem _ hy
    refine ⟨x, List.mem_cons_self .., ?_⟩
    unfold wstep
    rw [if_pos (own_nn hB (hin x (List.mem_cons_self ..)))]
theorem wid_some {b : List (Int × Int)} (hB : BOk b) : ((m_corner_choices b).foldl wstep (none, (-1, 1))).1 = some (((m_corner_choices b).foldl wstep (none, (-1, 1))).1.getD []) := by
  obtain ⟨r, _, e⟩ := wid_get hB
  rw [e]; rfl
def m_widest (x0 : (List (Int × Int))) : (List Int) := (((List.foldl (fun (s_l1 : ((Option (List Int)) × (Int × Int))) (one_l1 : (List Int)) => ((if (m_less s_l1.2 (m_squares_about_mean (one_l1.map (fun (x575 : Int) => (x575, (1 : Int)))))) = true then ((some one_l1), (m_squares_about_mean (one_l1.map (fun (x575 : Int) => (x575, (1 : Int)))))) else (s_l1.1, s_l1.2)) : ((Option (List Int)) × (Int × Int)))) ((none : (Option (List Int))), ((-(1 : Int)), (1 : Int))) (m_corner_choices x0)).1).getD [])
theorem ok_widest (T : Txt K mg) : Ok P w K mg base CX0 6 "widest" ["bounds"] (sp1 K ((fun b => BOk b) : (List (Int × Int)) → Prop) m_widest) := by
  refine ok_of T.d_widest sc_widest (bi1 fun _ _ _ _ _ _ _ => rfl) len_sp1 (fun f cdv A outer s H vs Q E hr h => ?_)
  have nd := sc_widest.nd
  obtain ⟨v0, x0, rfl, r0, hp, q⟩ := h
  refine ⟨_, (pss_cons (ps_asg (pe_tup (pa_cons pe_non (pa_cons (pe_tup (pa_cons (pe_un un_neg pe_int) (pa_cons pe_int pa_nil))) pa_nil))) (k_gt K rfl 2 rfl (pgs_cons (pg_name (i := 1) nd rfl (.inl rfl) (.inr rfl)) (pgs_cons (pg_name (i := 2) nd rfl (.inl rfl) (.inr rfl)) pgs_nil))))
      (pss_cons (ps_for PassesOwn.never rfl (k_pl K rfl (pe_fn (ok_corner_choices T) (hr.mono (by decide)) pass0 (pa_cons (pv 0) pa_nil))) (pg_name (i := 3) nd rfl (.inl rfl) (.inr rfl)) (pss_cons (ps_set (i := 4) nd rfl (.inl rfl) (pe_fn (ok_squares_about_mean T) (hr.mono (by decide)) pass0 (pa_cons (pe_frz (pe_lc (own := [("value", 5)]) rfl nd (k_pl K rfl (pv 3)) (blkOk_by (N := N_widest) (sc := defScope s_widest) (by decide +kernel)) (fun _ _ _ _ _ => (pg_name (i := 5) nd rfl (.inl rfl) (.inr rfl))) (fun _ _ _ _ _ => pts_nil) (fun _ _ _ _ _ => (pe_tup (pa_cons (pv 5) (pa_cons pe_int pa_nil)))))) pa_nil)))
      (pss_one (ps_if (pt_val (pe_fn (ok_less T) (hr.mono (by decide)) pass0 (pa_cons (pv 2) (pa_cons (pv 4) pa_nil)))) (pss_one (ps_par (i := 1) (j := 2) (by rfl) nd rfl rfl (by decide) rfl rfl (pa_cons (pv 3) (pa_cons (pv 4) pa_nil)) (by rfl))) pss_nil))))
      (pss_one (ps_ret (pv 1))))), ?_⟩
  refine q_unp (K := K) (er_pair (er_O0 (α := (List Int))) (er_pair (er_neg er_int) er_int)) (fun v556 v557 _ e553 r554 r555 => ?_)
  -- for one in corner_choices(bounds)
  refine q_for (K := K) (src_list (er_call1 (er_var rfl (Rp.mono (SF.of e553) r0)) (by exact hp))) (fun H1 k σ' H' => ∃ (s_l1 : ((Option (List Int)) × (Int × Int))) (w559 : V) (w560 : V) (y561 : Option V) (y562 : Option V), σ' = [some v0, some w559, some w560, y561, y562, none] ∧ s_l1 = (List.take k (m_corner_choices x0)).foldl (fun (s_l1 : ((Option (List Int)) × (Int × Int))) (one_l1 : (List Int)) => ((if (m_less s_l1.2 (m_squares_about_mean (one_l1.map (fun (x575 : Int) => (x575, (1 : Int)))))) = true then ((some one_l1), (m_squares_about_mean (one_l1.map (fun (x575 : Int) => (x575, (1 : Int)))))) else (s_l1.1, s_l1.2)) : ((Option (List Int)) × (Int × Int)))) ((none : (Option (List Int))), ((-(1 : Int)), (1 : Int))) ∧ Mus [] H1 H' ∧ Rp.rep K H' w559 s_l1.1 ∧ Rp.rep K H' w560 s_l1.2) (fun H1 e => ⟨((none : (Option (List Int))), ((-(1 : Int)), (1 : Int))), _, _, _, _, rfl, rfl, Mus.refl _, (Rp.mono (SF.of e) r554), (Rp.mono (SF.of e) r555)⟩) (fun _ _ _ _ h => by obtain ⟨_, _, _, _, _, _, _, m, _, _⟩ := h; exact m.sf) (fun H1 k569 one_l1 σ' H' vone_l1 _ e566 hx565 hP e567 rone_l1 => ?_) (fun H1 σ' H' e566 hP => ?_)
  ·
    obtain ⟨s_l1, w559, w560, y561, y562, rfl, hs563, m568, r570, r571⟩ := hP
    refine s_gn ?_
    have hone_l1 := List.mem_of_getElem? hx565
    have hturn1 := hs563
    have r573 := (Rp.mono ((((SF.of e553).trans (SF.of e566)).trans m568.sf).trans (SF.of e567)) r0)
    refine q_set (K := K) (er_call1 (er_frz (erl_lm1 (f := fun (x575 : Int) => (x575, (1 : Int))) (src_list (er_var rfl rone_l1)) (by have := inB_len (cor_inE rfl (ord_of hp) _ hone_l1); have := hp.2.1; omega) (by intros; rfl) (fun x575 hx576 v577 _ e574 r578 => (er_pair (er_var rfl r578) er_int)))) (by exact row_sz hp (cor_inE rfl (ord_of hp) _ hone_l1))) (fun v581 _ e579 r580 => ?_)
    refine q_last ?_
    refine q_if (K := K) (et_B (er_call2 (er_var rfl (Rp.mono ((SF.of e567).trans (SF.of e579)) r571)) (er_var rfl r580) (by exact ⟨by rw [hturn1]; exact wid_sz hp (fun x hx => List.mem_of_mem_take hx), (sam_sz (row_sz hp (cor_inE rfl (ord_of hp) _ hone_l1))).le (by decide)⟩))) (fun hc583 _ e582 => ?_) (fun hc583 _ e582 => ?_)
    ·
      refine q_last ?_
      refine q_par (K := K) (er_O1 (er_var rfl (Rp.mono ((SF.of e579).trans (SF.of e582)) rone_l1))) (er_var rfl (Rp.mono (SF.of e582) r580)) (fun v587 v588 _ e584 r585 r586 => ?_)
      refine s_nxz ?_
      refine s_nx ?_
      exact ⟨((some one_l1), (m_squares_about_mean (one_l1.map (fun (x575 : Int) => (x575, (1 : Int)))))), _, _, _, _, rfl, (Eq.trans (show ((some one_l1), (m_squares_about_mean (one_l1.map (fun (x575 : Int) => (x575, (1 : Int)))))) = (if (m_less s_l1.2 (m_squares_about_mean (one_l1.map (fun (x575 : Int) => (x575, (1 : Int)))))) = true then ((some one_l1), (m_squares_about_mean (one_l1.map (fun (x575 : Int) => (x575, (1 : Int)))))) else (s_l1.1, s_l1.2)) from by rw [if_pos hc583]) (fold_step hx565 hs563)), (((((Mus.baseS (Mus.refl _) m568 all0).trans (Mus.of e567)).trans (Mus.of e579)).trans (Mus.of e582)).trans (Mus.of e584)), r585, r586⟩
    ·
      refine s_nxz ?_
      refine s_nx ?_
      exact ⟨(s_l1.1, s_l1.2), _, _, _, _, rfl, (Eq.trans (show (s_l1.1, s_l1.2) = (if (m_less s_l1.2 (m_squares_about_mean (one_l1.map (fun (x575 : Int) => (x575, (1 : Int)))))) = true then ((some one_l1), (m_squares_about_mean (one_l1.map (fun (x575 : Int) => (x575, (1 : Int)))))) else (s_l1.1, s_l1.2)) from by rw [if_neg (nff hc583)]) (fold_step hx565 hs563)), ((((Mus.baseS (Mus.refl _) m568 all0).trans (Mus.of e567)).trans (Mus.of e579)).trans (Mus.of e582)), (Rp.mono (((SF.of e567).trans (SF.of e579)).trans (SF.of e582)) r570), (Rp.mono (((SF.of e567).trans (SF.of e579)).trans (SF.of e582)) r571)⟩
  ·
    obtain ⟨s_l1, w559, w560, y561, y562, rfl, hs563, m568, r570, r571⟩ := hP
    replace hs563 := fold_all hs563
    subst hs563
    exact s_ret (K := K) (er_Oget (er_var rfl r570) (by exact wid_some hp)) (fun u _ e589 rr => q u _ (Mus.same0 ((Mus.baseS (((Mus.refl _).trans (Mus.of e553)).trans (Mus.of e566)) m568 all0).trans (Mus.of e589))) rr)
theorem wid_in {b : List (Int × Int)} (hB : BOk b) : inB b (m_widest b) := by
  obtain ⟨r, hr, e⟩ := wid_get hB
  have : m_widest b = r := by
    show ((m_corner_choices b).foldl wstep (none, (-1, 1))).1.getD [] = r
    rw [e]; rfl
  rw [this]
  exact cor_inE rfl (ord_of hB) _ hr
def m_greatest_squares (x0 : (List (Int × Int))) : (Int × Int) := (m_squares_about_mean ((m_widest x0).map (fun (x597 : Int) => (x597, (1 : Int)))))
theorem ok_greatest_squares (T : Txt K mg) : Ok P w K mg base CX0 7 "greatest_squares" ["bounds"] (sp1 K ((fun b => BOk b) : (List (Int × Int)) → Prop) m_greatest_squares) := by
  refine ok_of T.d_greatest_squares sc_greatest_squares (bi1 fun _ _ _ _ _ _ _ => rfl) len_sp1 (fun f cdv A outer s H vs Q E hr h => ?_)
  have nd := sc_greatest_squares.nd
  obtain ⟨v0, x0, rfl, r0, hp, q⟩ := h
  refine ⟨_, (pss_cons (ps_expr (pe_fn (ok_check_bounds T) (hr.mono (by decide)) pass0 (pa_cons (pv 0) pa_nil)))
      (pss_one (ps_ret (pe_fn (ok_squares_about_mean T) (hr.mono (by decide)) pass0 (pa_cons (pe_frz (pe_lc (own := [("value", 1)]) rfl nd (k_pl K rfl (pe_fn (ok_widest T) (hr.mono (by decide)) pass0 (pa_cons (pv 0) pa_nil))) (blkOk_by (N := N_greatest_squares) (sc := defScope s_greatest_squares) (by decide +kernel)) (fun _ _ _ _ _ => (pg_name (i := 1) nd rfl (.inl rfl) (.inr rfl))) (fun _ _ _ _ _ => pts_nil) (fun _ _ _ _ _ => (pe_tup (pa_cons (pv 1) (pa_cons pe_int pa_nil)))))) pa_nil))))), ?_⟩
  refine q_drop (K := K) (er_call1 (er_var rfl r0) (by exact hp)) (fun _ e595 => ?_)
  exact s_ret (K := K) (er_call1 (er_frz (erl_lm1 (f := fun (x597 : Int) => (x597, (1 : Int))) (src_list (er_call1 (er_var rfl (Rp.mono (SF.of e595) r0)) (by exact hp))) (by have := inB_len (wid_in hp); have := hp.2.1; omega) (by intros; rfl) (fun x597 hx598 v599 _ e596 r600 => (er_pair (er_var rfl r600) er_int)))) (by exact row_sz hp (wid_in hp))) (fun u _ e601 rr => q u _ (e595.trans e601) rr)
def m_widest_squares_choice (x0 : (List (Int × Int))) : (List Int) := (m_widest x0)
theorem ok_widest_squares_choice (T : Txt K mg) : Ok P w K mg base CX0 7 "widest_squares_choice" ["bounds"] (sp1 K ((fun b => BOk b) : (List (Int × Int)) → Prop) m_widest_squares_choice) := by
  refine ok_of T.d_widest_squares_choice sc_widest_squares_choice (bi1 fun _ _ _ _ _ _ _ => rfl) len_sp1 (fun f cdv A outer s H vs Q E hr h => ?_)
  have nd := sc_widest_squares_choice.nd
  obtain ⟨v0, x0, rfl, r0, hp, q⟩ := h
  refine ⟨_, (pss_cons (ps_expr (pe_fn (ok_check_bounds T) (hr.mono (by decide)) pass0 (pa_cons (pv 0) pa_nil)))
      (pss_one (ps_ret (pe_fn (ok_widest T) (hr.mono (by decide)) pass0 (pa_cons (pv 0) pa_nil))))), ?_⟩
  refine q_drop (K := K) (er_call1 (er_var rfl r0) (by exact hp)) (fun _ e602 => ?_)
  exact s_ret (K := K) (er_call1 (er_var rfl (Rp.mono (SF.of e602) r0)) (by exact hp)) (fun u _ e603 rr => q u _ (e602.trans e603) rr)
def m_clipped (x0 : (List (Int × Int))) (x1 : (Int × Int)) : (List (Int × Int)) := (List.foldl (fun (s_l1 : (List (Int × Int))) (low_high_l1 : (Int × Int)) => ((if (m_less x1 (low_high_l1.1, (1 : Int))) = true then (s_l1 ++ [(low_high_l1.1, (1 : Int))]) else (s_l1 ++ [(if (m_less (low_high_l1.2, (1 : Int)) x1) = true then (low_high_l1.2, (1 : Int)) else x1)])) : (List (Int × Int)))) ([] : (List (Int × Int))) x0)
theorem ok_clipped (T : Txt K mg) : Ok P w K mg base CX0 2 "clipped" ["bounds", "number"] (sl2 K ((fun b p => b.length ≤ 8 ∧ (∀ t ∈ b, -50 ≤ t.1 ∧ t.1 ≤ 50 ∧ -50 ≤ t.2 ∧ t.2 ≤ 50) ∧ Sz 2000 p) : (List (Int × Int)) → (Int × Int) → Prop) m_clipped) := by
  refine ok_of T.d_clipped sc_clipped (bi2 fun _ _ _ _ _ _ _ _ => rfl) len_sl2 (fun f cdv A outer s H vs Q E hr h => ?_)
  have nd := sc_clipped.nd
  obtain ⟨v0, v1, x0, x1, rfl, r0, r1, hp, q⟩ := h
  refine ⟨_, (pss_cons (ps_set (i := 2) nd rfl (.inl rfl) (pe_lst pa_nil))
      (pss_cons (ps_for PassesOwn.never rfl (k_pl K rfl (pv 0)) (k_gt K rfl 2 rfl (pgs_cons (pg_name (i := 3) nd rfl (.inl rfl) (.inr rfl)) (pgs_cons (pg_name (i := 4) nd rfl (.inl rfl) (.inr rfl)) pgs_nil))) (pss_one (ps_if (pt_val (pe_fn (ok_less T) (hr.mono (by decide)) pass0 (pa_cons (pv 1) (pa_cons (pe_tup (pa_cons (pv 3) (pa_cons pe_int pa_nil))) pa_nil)))) (pss_one (ps_expr (k_app K rfl (pv 2) (pe_tup (pa_cons (pv 3) (pa_cons pe_int pa_nil)))))) (pss_one (ps_expr (k_app K rfl (pv 2) (pe_ifExp (pt_val (pe_fn (ok_less T) (hr.mono (by decide)) pass0 (pa_cons (pe_tup (pa_cons (pv 4) (pa_cons pe_int pa_nil))) (pa_cons (pv 1) pa_nil)))) (pe_tup (pa_cons (pv 4) (pa_cons pe_int pa_nil))) (pv 1))))))))
      (pss_one (ps_ret (pv 2))))), ?_⟩
  refine q_setL (K := K) (erl_lst (α := (Int × Int)) ea_nil) (fun p604 _ _ e605 hn606 h607 rl608 => ?_)
  have f610 := Mus.fresh (Mus.refl _) nin0 hn606
  have u609 := Un.of h607 rl608
  -- for (low, high) in bounds
  refine q_for (K := K) (src_list (er_var rfl (Rp.mono (SF.of e605) r0))) (fun H1 k σ' H' => ∃ (s_l1 : (List (Int × Int))) (y612 : Option V) (y613 : Option V), σ' = [some v0, some v1, some (.ref p604), y612, y613] ∧ s_l1 = (List.take k x0).foldl (fun (s_l1 : (List (Int × Int))) (low_high_l1 : (Int × Int)) => ((if (m_less x1 (low_high_l1.1, (1 : Int))) = true then (s_l1 ++ [(low_high_l1.1, (1 : Int))]) else (s_l1 ++ [(if (m_less (low_high_l1.2, (1 : Int)) x1) = true then (low_high_l1.2, (1 : Int)) else x1)])) : (List (Int × Int)))) ([] : (List (Int × Int))) ∧ Mus [p604] H1 H' ∧ Un K H' p604 s_l1) (fun H1 e => ⟨([] : (List (Int × Int))), _, _, rfl, rfl, Mus.refl _, (Un.mono e u609)⟩) (fun _ _ _ _ h => by obtain ⟨_, _, _, _, _, m, _⟩ := h; exact m.sf) (fun H1 k620 low_high_l1 σ' H' vlow_high_l1 _ e617 hx616 hP e618 rlow_high_l1 => ?_) (fun H1 σ' H' e617 hP => ?_)
  ·
    obtain ⟨s_l1, y612, y613, rfl, hs614, m619, u621⟩ := hP
    obtain ⟨v623, v624, r625, r626, tg627⟩ := tg_pair (k := 3) (m := 4) rlow_high_l1
    refine tg627 _ ?_
    have hlow_high_l1 := List.mem_of_getElem? hx616
    have hturn1 := hs614
    refine q_last ?_
    have r628 := (Rp.mono ((((SF.of e605).trans (SF.of e617)).trans m619.sf).trans (SF.of e618)) r0)
    have r629 := (Rp.mono ((((SF.of e605).trans (SF.of e617)).trans m619.sf).trans (SF.of e618)) r1)
    refine q_if (K := K) (et_B (er_call2 (er_var rfl r629) (er_pair (er_var rfl r625) er_int) (by first | exact ⟨hp.2.2, (sz_one (by have := hp.2.1 _ hlow_high_l1; omega)).le (by decide)⟩ | exact ⟨(sz_one (by have := hp.2.1 _ hlow_high_l1; omega)).le (by decide), hp.2.2⟩))) (fun hc631 _ e630 => ?_) (fun hc631 _ e630 => ?_)
    ·
      refine q_last ?_
      refine q_app (K := K) rfl (Un.mono e630 (Un.mono e618 u621)) (er_pair (er_var rfl (Rp.mono (SF.of e630) r625)) er_int) (by have g1 := fold_growE 1 hturn1 (fun s x _ => by split <;> simp); simp only [List.length_take, List.length_nil] at g1; have := hp.1; omega) (fun _ m632 u633 => ?_)
      refine s_nxz ?_
      refine s_nx ?_
      exact ⟨(s_l1 ++ [(low_high_l1.1, (1 : Int))]), _, _, rfl, (Eq.trans (show (s_l1 ++ [(low_high_l1.1, (1 : Int))]) = (if (m_less x1 (low_high_l1.1, (1 : Int))) = true then (s_l1 ++ [(low_high_l1.1, (1 : Int))]) else (s_l1 ++ [(if (m_less (low_high_l1.2, (1 : Int)) x1) = true then (low_high_l1.2, (1 : Int)) else x1)])) from by rw [if_pos hc631]) (fold_step hx616 hs614)), ((((Mus.baseS (Mus.refl _) m619 (allC (.inr (.head _)) all0)).trans (Mus.of e618)).trans (Mus.of e630)).trans (Mus.mu m632 (.head _))), u633⟩
    ·
      refine q_last ?_
      refine q_app (K := K) rfl (Un.mono e630 (Un.mono e618 u621)) (er_if (et_B (er_call2 (er_pair (er_var rfl (Rp.mono (SF.of e630) r626)) er_int) (er_var rfl (Rp.mono (SF.of e630) r629)) (by first | exact ⟨hp.2.2, (sz_one (by have := hp.2.1 _ hlow_high_l1; omega)).le (by decide)⟩ | exact ⟨(sz_one (by have := hp.2.1 _ hlow_high_l1; omega)).le (by decide), hp.2.2⟩))) (fun _ => (er_pair (er_var rfl (Rp.mono (SF.of e630) r626)) er_int)) (fun _ => (er_var rfl (Rp.mono (SF.of e630) r629)))) (by have g1 := fold_growE 1 hturn1 (fun s x _ => by split <;> simp); simp only [List.length_take, List.length_nil] at g1; have := hp.1; omega) (fun _ m634 u635 => ?_)
      refine s_nxz ?_
      refine s_nx ?_
      exact ⟨(s_l1 ++ [(if (m_less (low_high_l1.2, (1 : Int)) x1) = true then (low_high_l1.2, (1 : Int)) else x1)]), _, _, rfl, (Eq.trans (show (s_l1 ++ [(if (m_less (low_high_l1.2, (1 : Int)) x1) = true then (low_high_l1.2, (1 : Int)) else x1)]) = (if (m_less x1 (low_high_l1.1, (1 : Int))) = true then (s_l1 ++ [(low_high_l1.1, (1 : Int))]) else (s_l1 ++ [(if (m_less (low_high_l1.2, (1 : Int)) x1) = true then (low_high_l1.2, (1 : Int)) else x1)])) from by rw [if_neg (nff hc631)]) (fold_step hx616 hs614)), ((((Mus.baseS (Mus.refl _) m619 (allC (.inr (.head _)) all0)).trans (Mus.of e618)).trans (Mus.of e630)).trans (Mus.mu m634 (.head _))), u635⟩
  ·
    obtain ⟨s_l1, y612, y613, rfl, hs614, m619, u621⟩ := hP
    replace hs614 := fold_all hs614
    subst hs614
    obtain ⟨us, h1, rr⟩ := u621
    exact ⟨.ref p604, rfl, q p604 us _ (Mus.same0 (Mus.baseS (((Mus.refl _).trans (Mus.of e605)).trans (Mus.of e617)) m619 (allC (.inl f610) all0))) f610 h1 rr⟩
def clpF (p : Int × Int) (t : Int × Int) : Int × Int := if m_less p (t.1, 1) = true then (t.1, 1) else if m_less (t.2, 1) p = true then (t.2, 1) else p
theorem clipped_map (b : List (Int × Int)) (p : Int × Int) : m_clipped b p = b.map (clpF p) := by
  unfold m_clipped
  have e : (fun (s : List (Int × Int)) (t : Int × Int) => if m_less p (t.1, 1) = true then s ++ [(t.1, (1 : Int))] else s ++ [if m_less (t.2, 1) p = true then (t.2, (1 : Int)) else p]) = fun s t => s ++ [clpF p t] := by
    funext s t
    unfold clpF
    split <;> rfl
  refine Eq.trans (congrArg (fun f => List.foldl f [] b) e) ?_
  rw [fold_app1]; rfl
theorem clip_sz {b : List (Int × Int)} (hB : BOk b) {p : Int × Int} (hp : Sz 10 p) : m_clipped b p ≠ [] ∧ (m_clipped b p).length ≤ 8 ∧ ∀ q ∈ m_clipped b p, Sz 10 q := by
  rw [clipped_map]
  have := hB.1; have := hB.2.1
  refine ⟨fun e => ?_, by rw [List.length_map]; omega, fun q hq => ?_⟩
  · have := congrArg List.length e; rw [List.length_map] at this; simp at this; subst this; simp at *
  · obtain ⟨t, ht, rfl⟩ := List.mem_map.mp hq
    have := hB.2.2 t ht
    unfold clpF
    split
    · exact (sz_one (by omega)).le (by decide)
    · split
      · exact (sz_one (by omega)).le (by decide)
      · exact hp
theorem zm {b : List (Int × Int)} {t : Int × Int} (h : t ∈ (srt (m_lows b ++ m_highs b)).zip (cutL (srt (m_lows b ++ m_highs b)) (some (1 : Int)) none)) : (t.1, t.2) ∈ (marks b).zip ((marks b).drop 1) := by
  rw [show (1 : Int) = ((1 : Nat) : Int) from rfl, cutL_from] at h
  exact h
def m_centre_of (x0 : (List (Int × Int))) : (Int × Int) := (if (decide ((mxl (m_lows x0)) ≤ (mnl (m_highs x0)))) = true then ((mxl (m_lows x0)), (1 : Int)) else (match List.findSome? (fun (one_other_l1 : (Int × Int)) => ((if ((!(m_less (frI (((mapIf (fun (x683 : (Int × Int)) => (decide (x683.1 ≥ one_other_l1.2))) (fun (x683 : (Int × Int)) => x683.1) x0) ++ (mapIf (fun (x690 : (Int × Int)) => (decide (x690.2 ≤ one_other_l1.1))) (fun (x690 : (Int × Int)) => x690.2) x0)).sum) ((((mapIf (fun (x683 : (Int × Int)) => (decide (x683.1 ≥ one_other_l1.2))) (fun (x683 : (Int × Int)) => x683.1) x0) ++ (mapIf (fun (x690 : (Int × Int)) => (decide (x690.2 ≤ one_other_l1.1))) (fun (x690 : (Int × Int)) => x690.2) x0)).length : Nat) : Int)) (one_other_l1.1, (1 : Int)))) && (!(m_less (one_other_l1.2, (1 : Int)) (frI (((mapIf (fun (x683 : (Int × Int)) => (decide (x683.1 ≥ one_other_l1.2))) (fun (x683 : (Int × Int)) => x683.1) x0) ++ (mapIf (fun (x690 : (Int × Int)) => (decide (x690.2 ≤ one_other_l1.1))) (fun (x690 : (Int × Int)) => x690.2) x0)).sum) ((((mapIf (fun (x683 : (Int × Int)) => (decide (x683.1 ≥ one_other_l1.2))) (fun (x683 : (Int × Int)) => x683.1) x0) ++ (mapIf (fun (x690 : (Int × Int)) => (decide (x690.2 ≤ one_other_l1.1))) (fun (x690 : (Int × Int)) => x690.2) x0)).length : Nat) : Int))))) = true then (some (frI (((mapIf (fun (x683 : (Int × Int)) => (decide (x683.1 ≥ one_other_l1.2))) (fun (x683 : (Int × Int)) => x683.1) x0) ++ (mapIf (fun (x690 : (Int × Int)) => (decide (x690.2 ≤ one_other_l1.1))) (fun (x690 : (Int × Int)) => x690.2) x0)).sum) ((((mapIf (fun (x683 : (Int × Int)) => (decide (x683.1 ≥ one_other_l1.2))) (fun (x683 : (Int × Int)) => x683.1) x0) ++ (mapIf (fun (x690 : (Int × Int)) => (decide (x690.2 ≤ one_other_l1.1))) (fun (x690 : (Int × Int)) => x690.2) x0)).length : Nat) : Int))) else none) : Option (Int × Int))) ((srt ((m_lows x0) ++ (m_highs x0))).zip (cutL (srt ((m_lows x0) ++ (m_highs x0))) (some (1 : Int)) none)) with | some r => r | none => ((mxl (m_lows x0)), (1 : Int))))
theorem ok_centre_of (T : Txt K mg) : Ok P w K mg base CX0 3 "centre_of" ["bounds"] (sp1 K ((fun b => BOk b) : (List (Int × Int)) → Prop) m_centre_of) := by
  refine ok_of T.d_centre_of sc_centre_of (bi1 fun _ _ _ _ _ _ _ => rfl) len_sp1 (fun f cdv A outer s H vs Q E hr h => ?_)
  have nd := sc_centre_of.nd
  obtain ⟨v0, x0, rfl, r0, hp, q⟩ := h
  refine ⟨_, (pss_cons (ps_par (i := 1) (j := 2) (by rfl) nd rfl rfl (by decide) rfl rfl (pa_cons (pe_callB (k_max K rfl rfl) (by rfl) T.n_max (by decide +kernel) (pa_cons (pe_frz (pe_fn (ok_lows T) (hr.mono (by decide)) pass0 (pa_cons (pv 0) pa_nil))) pa_nil)) (pa_cons (pe_callB (k_min K rfl rfl) (by rfl) T.n_min (by decide +kernel) (pa_cons (pe_frz (pe_fn (ok_highs T) (hr.mono (by decide)) pass0 (pa_cons (pv 0) pa_nil))) pa_nil)) pa_nil)) (by rfl))
      (pss_cons (ps_if (pt_cmpR op_le (pv 1) (pv 2) (nomark _)) (pss_one (ps_ret (pe_tup (pa_cons (pv 1) (pa_cons pe_int pa_nil))))) pss_nil)
      (pss_cons (ps_set (i := 3) nd rfl (.inl rfl) (pe_frz (pe_callB (k_sorted K rfl) (by rfl) T.n_sorted (by decide +kernel) (pa_cons (pe_frz (pe_op op_catR (pe_frz (pe_fn (ok_lows T) (hr.mono (by decide)) pass0 (pa_cons (pv 0) pa_nil))) (pe_frz (pe_fn (ok_highs T) (hr.mono (by decide)) pass0 (pa_cons (pv 0) pa_nil))))) pa_nil))))
      (pss_cons (ps_for PassesOwn.never rfl (k_pz K rfl (by rfl) T.n_zip (pa_cons (pv 3) (pa_cons (pe_frz (pe_slice (k_sl K rfl) (pv 3) (po_some pe_int) po_none)) pa_nil))) (k_gt K rfl 2 rfl (pgs_cons (pg_name (i := 4) nd rfl (.inr rfl) (.inl rfl)) (pgs_cons (pg_name (i := 5) nd rfl (.inr rfl) (.inl rfl)) pgs_nil))) (pss_cons (ps_set (i := 6) nd rfl (.inl rfl) (pe_frz (pe_op op_catR (pe_frz (pe_lc (own := [("a", 8), ("b", 9)]) rfl nd (k_pl K rfl (pv 0)) (blkOk_by (N := N_centre_of) (sc := defScope s_centre_of) (by decide +kernel)) (fun _ _ _ _ _ => (k_gt K rfl 2 rfl (pgs_cons (pg_name (i := 8) nd rfl (.inl rfl) (.inr rfl)) (pgs_cons (pg_name (i := 9) nd rfl (.inl rfl) (.inr rfl)) pgs_nil)))) (fun _ _ _ _ _ => (pts_one (pt_cmpR op_ge (pv 8) (pv 5) (nomark _)))) (fun _ _ _ _ _ => (pv 8)))) (pe_frz (pe_lc (own := [("a", 8), ("b", 9)]) rfl nd (k_pl K rfl (pv 0)) (blkOk_by (N := N_centre_of) (sc := defScope s_centre_of) (by decide +kernel)) (fun _ _ _ _ _ => (k_gt K rfl 2 rfl (pgs_cons (pg_name (i := 8) nd rfl (.inl rfl) (.inr rfl)) (pgs_cons (pg_name (i := 9) nd rfl (.inl rfl) (.inr rfl)) pgs_nil)))) (fun _ _ _ _ _ => (pts_one (pt_cmpR op_le (pv 9) (pv 4) (nomark _)))) (fun _ _ _ _ _ => (pv 9)))))))
      (pss_cons (ps_set (i := 7) nd rfl (.inl rfl) (pe_fn (ok_lowest T) (hr.mono (by decide)) pass0 (pa_cons (pe_callB (k_sum K rfl rfl) (by rfl) T.n_sum (by decide +kernel) (pa_cons (pv 6) pa_nil)) (pa_cons (pe_callB (k_len K rfl) (by rfl) T.n_len PySem.boot_len (pa_cons (pv 6) pa_nil)) pa_nil))))
      (pss_one (ps_if (PW.pt (pw_and (pt_not (pt_val (pe_fn (ok_less T) (hr.mono (by decide)) pass0 (pa_cons (pv 7) (pa_cons (pe_tup (pa_cons (pv 4) (pa_cons pe_int pa_nil))) pa_nil))))) (pw_and1 (pt_not (pt_val (pe_fn (ok_less T) (hr.mono (by decide)) pass0 (pa_cons (pe_tup (pa_cons (pv 5) (pa_cons pe_int pa_nil))) (pa_cons (pv 7) pa_nil)))))))) (pss_one (ps_ret (pv 7))) pss_nil)))))
      (pss_one (ps_ret (pe_tup (pa_cons (pv 1) (pa_cons pe_int pa_nil))))))))), ?_⟩
  refine q_par (K := K) (er_max (er_frz (erl_call1 (er_var rfl r0) (by first | omega | (have := hp.2.1; omega) | (have := hp.1.2.1; omega)))) (by first | exact ne_lows hp | exact ne_highs hp)) (er_min (er_frz (erl_call1 (er_var rfl r0) (by first | omega | (have := hp.2.1; omega) | (have := hp.1.2.1; omega)))) (by first | exact ne_lows hp | exact ne_highs hp)) (fun v653 v654 _ e650 r651 r652 => ?_)
  refine q_if (K := K) (et_test (er_op (er_var rfl r651) (er_var rfl r652) rr_le)) (fun hc656 _ e655 => ?_) (fun hc656 _ e655 => ?_)
  ·
    exact s_ret (K := K) (er_pair (er_var rfl (Rp.mono (SF.of e655) r651)) er_int) (fun u _ e657 rr => q u _ ((e650.trans e655).trans e657) (by rw [(show m_centre_of x0 = ((mxl (m_lows x0)), (1 : Int)) from by unfold m_centre_of; rw [if_pos hc656])]; exact rr))
  ·
    refine s_nxz ?_
    refine q_set (K := K) (er_frz (erl_sorted (er_frz (erl_cat (er_frz (erl_call1 (er_var rfl (Rp.mono ((SF.of e650).trans (SF.of e655)) r0)) (by first | omega | (have := hp.2.1; omega) | (have := hp.1.2.1; omega)))) (er_frz (erl_call1 (er_var rfl (Rp.mono ((SF.of e650).trans (SF.of e655)) r0)) (by first | omega | (have := hp.2.1; omega) | (have := hp.1.2.1; omega)))) (by first | (have := hp.2.1; omega) | (have := hp.2.1; rw [len_lows, len_highs]; omega) | (have := hp.2.1; have := mapIf_le (c := fun t : Int × Int => decide (t.1 ≥ one_other_l1.2)) (f := fun t => t.1) (l := x0); have := mapIf_le (c := fun t : Int × Int => decide (t.2 ≤ one_other_l1.1)) (f := fun t => t.2) (l := x0); omega)))))) (fun v660 _ e658 r659 => ?_)
    -- for (one, other) in zip(marks, marks[1:])
    refine q_for (K := K) (src_zip (er_var rfl r659) (er_frz (erl_sl (er_var rfl r659) (eo_some er_int) eo_none))) (fun H1 k σ' H' => ∃ (y662 : Option V) (y663 : Option V) (y664 : Option V) (y665 : Option V), σ' = [some v0, some v653, some v654, some v660, y662, y663, y664, y665, none, none] ∧ (List.take k ((srt ((m_lows x0) ++ (m_highs x0))).zip (cutL (srt ((m_lows x0) ++ (m_highs x0))) (some (1 : Int)) none))).findSome? (fun (one_other_l1 : (Int × Int)) => ((if ((!(m_less (frI (((mapIf (fun (x683 : (Int × Int)) => (decide (x683.1 ≥ one_other_l1.2))) (fun (x683 : (Int × Int)) => x683.1) x0) ++ (mapIf (fun (x690 : (Int × Int)) => (decide (x690.2 ≤ one_other_l1.1))) (fun (x690 : (Int × Int)) => x690.2) x0)).sum) ((((mapIf (fun (x683 : (Int × Int)) => (decide (x683.1 ≥ one_other_l1.2))) (fun (x683 : (Int × Int)) => x683.1) x0) ++ (mapIf (fun (x690 : (Int × Int)) => (decide (x690.2 ≤ one_other_l1.1))) (fun (x690 : (Int × Int)) => x690.2) x0)).length : Nat) : Int)) (one_other_l1.1, (1 : Int)))) && (!(m_less (one_other_l1.2, (1 : Int)) (frI (((mapIf (fun (x683 : (Int × Int)) => (decide (x683.1 ≥ one_other_l1.2))) (fun (x683 : (Int × Int)) => x683.1) x0) ++ (mapIf (fun (x690 : (Int × Int)) => (decide (x690.2 ≤ one_other_l1.1))) (fun (x690 : (Int × Int)) => x690.2) x0)).sum) ((((mapIf (fun (x683 : (Int × Int)) => (decide (x683.1 ≥ one_other_l1.2))) (fun (x683 : (Int × Int)) => x683.1) x0) ++ (mapIf (fun (x690 : (Int × Int)) => (decide (x690.2 ≤ one_other_l1.1))) (fun (x690 : (Int × Int)) => x690.2) x0)).length : Nat) : Int))))) = true then (some (frI (((mapIf (fun (x683 : (Int × Int)) => (decide (x683.1 ≥ one_other_l1.2))) (fun (x683 : (Int × Int)) => x683.1) x0) ++ (mapIf (fun (x690 : (Int × Int)) => (decide (x690.2 ≤ one_other_l1.1))) (fun (x690 : (Int × Int)) => x690.2) x0)).sum) ((((mapIf (fun (x683 : (Int × Int)) => (decide (x683.1 ≥ one_other_l1.2))) (fun (x683 : (Int × Int)) => x683.1) x0) ++ (mapIf (fun (x690 : (Int × Int)) => (decide (x690.2 ≤ one_other_l1.1))) (fun (x690 : (Int × Int)) => x690.2) x0)).length : Nat) : Int))) else none) : Option (Int × Int))) = none ∧ Mus [] H1 H') (fun H1 e => ⟨_, _, _, _, rfl, rfl, Mus.refl _⟩) (fun _ _ _ _ h => by obtain ⟨_, _, _, _, _, _, m⟩ := h; exact m.sf) (fun H1 k672 one_other_l1 σ' H' vone_other_l1 _ e669 hx668 hP e670 rone_other_l1 => ?_) (fun H1 σ' H' e669 hP => ?_)
    ·
      obtain ⟨y662, y663, y664, y665, rfl, hn667, m671⟩ := hP
      obtain ⟨v674, v675, r676, r677, tg678⟩ := tg_pair (k := 4) (m := 5) rone_other_l1
      refine tg678 _ ?_
      have hone_other_l1 := List.mem_of_getElem? hx668
      have r679 := (Rp.mono ((((((SF.of e650).trans (SF.of e655)).trans (SF.of e658)).trans (SF.of e669)).trans m671.sf).trans (SF.of e670)) r0)
      have r680 := (Rp.mono (((((SF.of e655).trans (SF.of e658)).trans (SF.of e669)).trans m671.sf).trans (SF.of e670)) r651)
      have r681 := (Rp.mono (((((SF.of e655).trans (SF.of e658)).trans (SF.of e669)).trans m671.sf).trans (SF.of e670)) r652)
      refine q_set (K := K) (er_frz (erl_cat (er_frz (erl_lc2 (c := fun (x683 : (Int × Int)) => (decide (x683.1 ≥ one_other_l1.2))) (f := fun (x683 : (Int × Int)) => x683.1) (src_list (er_var rfl r679)) (by first | (have := hp.2.1; omega) | (have := hp.2.1; rw [len_lows, len_highs]; omega) | (have := hp.2.1; have := mapIf_le (c := fun t : Int × Int => decide (t.1 ≥ one_other_l1.2)) (f := fun t => t.1) (l := x0); have := mapIf_le (c := fun t : Int × Int => decide (t.2 ≤ one_other_l1.1)) (f := fun t => t.2) (l := x0); omega)) (by intros; rfl) (fun x683 hx684 v685 v686 _ e682 r687 r688 => ⟨(et_test (er_op (er_var rfl r687) (er_var rfl (Rp.mono (SF.of e682) r677)) rr_ge)), fun _ => (er_var rfl r687)⟩))) (er_frz (erl_lc2 (c := fun (x690 : (Int × Int)) => (decide (x690.2 ≤ one_other_l1.1))) (f := fun (x690 : (Int × Int)) => x690.2) (src_list (er_var rfl r679)) (by first | (have := hp.2.1; omega) | (have := hp.2.1; rw [len_lows, len_highs]; omega) | (have := hp.2.1; have := mapIf_le (c := fun t : Int × Int => decide (t.1 ≥ one_other_l1.2)) (f := fun t => t.1) (l := x0); have := mapIf_le (c := fun t : Int × Int => decide (t.2 ≤ one_other_l1.1)) (f := fun t => t.2) (l := x0); omega)) (by intros; rfl) (fun x690 hx691 v692 v693 _ e689 r694 r695 => ⟨(et_test (er_op (er_var rfl r695) (er_var rfl (Rp.mono (SF.of e689) r676)) rr_le)), fun _ => (er_var rfl r695)⟩))) (by first | (have := hp.2.1; omega) | (have := hp.2.1; rw [len_lows, len_highs]; omega) | (have := hp.2.1; have := mapIf_le (c := fun t : Int × Int => decide (t.1 ≥ one_other_l1.2)) (f := fun t => t.1) (l := x0); have := mapIf_le (c := fun t : Int × Int => decide (t.2 ≤ one_other_l1.1)) (f := fun t => t.2) (l := x0); omega)))) (fun v698 _ e696 r697 => ?_)
      have r699 := (Rp.mono ((((SF.of e669).trans m671.sf).trans (SF.of e670)).trans (SF.of e696)) r659)
      refine q_set (K := K) (er_call2 (er_sum (er_var rfl r697)) (er_up (er_len (er_var rfl r697))) (by have h := num_sz hp (of_decide_eq_false (by assumption)) (zm hone_other_l1); exact small_pre h.1 (by have := fixed_len x0 one_other_l1.1 one_other_l1.2; have := hp.2.1; show ((fixed x0 one_other_l1.1 one_other_l1.2).length : Int) ≤ 100; omega))) (fun v702 _ e700 r701 => ?_)
      refine q_last ?_
      refine q_if (K := K) (et_and (et_not (et_B (er_call2 (er_var rfl r701) (er_pair (er_var rfl (Rp.mono ((SF.of e696).trans (SF.of e700)) r676)) er_int) (by have h := num_sz hp (of_decide_eq_false (by assumption)) (zm hone_other_l1); obtain ⟨_, c1, c2, _⟩ := consec (srt_sorted _) (zm hone_other_l1); have d1 := mark_in hp c1; have d2 := mark_in hp c2; first | exact ⟨h.2.le (by decide), (sz_one (by omega)).le (by decide)⟩ | exact ⟨(sz_one (by omega)).le (by decide), h.2.le (by decide)⟩)))) (fun hsc => (et_not (et_B (er_call2 (er_pair (er_var rfl (Rp.mono ((SF.of e696).trans (SF.of e700)) r677)) er_int) (er_var rfl r701) (by have h := num_sz hp (of_decide_eq_false (by assumption)) (zm hone_other_l1); obtain ⟨_, c1, c2, _⟩ := consec (srt_sorted _) (zm hone_other_l1); have d1 := mark_in hp c1; have d2 := mark_in hp c2; first | exact ⟨h.2.le (by decide), (sz_one (by omega)).le (by decide)⟩ | exact ⟨(sz_one (by omega)).le (by decide), h.2.le (by decide)⟩)))))) (fun hc704 _ e703 => ?_) (fun hc704 _ e703 => ?_)
      ·
        have fd706 := find_at hx668 hn667 (show (if ((!(m_less (frI (((mapIf (fun (x683 : (Int × Int)) => (decide (x683.1 ≥ one_other_l1.2))) (fun (x683 : (Int × Int)) => x683.1) x0) ++ (mapIf (fun (x690 : (Int × Int)) => (decide (x690.2 ≤ one_other_l1.1))) (fun (x690 : (Int × Int)) => x690.2) x0)).sum) ((((mapIf (fun (x683 : (Int × Int)) => (decide (x683.1 ≥ one_other_l1.2))) (fun (x683 : (Int × Int)) => x683.1) x0) ++ (mapIf (fun (x690 : (Int × Int)) => (decide (x690.2 ≤ one_other_l1.1))) (fun (x690 : (Int × Int)) => x690.2) x0)).length : Nat) : Int)) (one_other_l1.1, (1 : Int)))) && (!(m_less (one_other_l1.2, (1 : Int)) (frI (((mapIf (fun (x683 : (Int × Int)) => (decide (x683.1 ≥ one_other_l1.2))) (fun (x683 : (Int × Int)) => x683.1) x0) ++ (mapIf (fun (x690 : (Int × Int)) => (decide (x690.2 ≤ one_other_l1.1))) (fun (x690 : (Int × Int)) => x690.2) x0)).sum) ((((mapIf (fun (x683 : (Int × Int)) => (decide (x683.1 ≥ one_other_l1.2))) (fun (x683 : (Int × Int)) => x683.1) x0) ++ (mapIf (fun (x690 : (Int × Int)) => (decide (x690.2 ≤ one_other_l1.1))) (fun (x690 : (Int × Int)) => x690.2) x0)).length : Nat) : Int))))) = true then (some (frI (((mapIf (fun (x683 : (Int × Int)) => (decide (x683.1 ≥ one_other_l1.2))) (fun (x683 : (Int × Int)) => x683.1) x0) ++ (mapIf (fun (x690 : (Int × Int)) => (decide (x690.2 ≤ one_other_l1.1))) (fun (x690 : (Int × Int)) => x690.2) x0)).sum) ((((mapIf (fun (x683 : (Int × Int)) => (decide (x683.1 ≥ one_other_l1.2))) (fun (x683 : (Int × Int)) => x683.1) x0) ++ (mapIf (fun (x690 : (Int × Int)) => (decide (x690.2 ≤ one_other_l1.1))) (fun (x690 : (Int × Int)) => x690.2) x0)).length : Nat) : Int))) else none) = some (frI (((mapIf (fun (x683 : (Int × Int)) => (decide (x683.1 ≥ one_other_l1.2))) (fun (x683 : (Int × Int)) => x683.1) x0) ++ (mapIf (fun (x690 : (Int × Int)) => (decide (x690.2 ≤ one_other_l1.1))) (fun (x690 : (Int × Int)) => x690.2) x0)).sum) ((((mapIf (fun (x683 : (Int × Int)) => (decide (x683.1 ≥ one_other_l1.2))) (fun (x683 : (Int × Int)) => x683.1) x0) ++ (mapIf (fun (x690 : (Int × Int)) => (decide (x690.2 ≤ one_other_l1.1))) (fun (x690 : (Int × Int)) => x690.2) x0)).length : Nat) : Int)) from by rw [if_pos hc704])
        exact s_ret (K := K) (er_var rfl (Rp.mono (SF.of e703) r701)) (fun u _ e705 rr => q u _ (Mus.same0 ((((((Mus.baseS (((((Mus.refl _).trans (Mus.of e650)).trans (Mus.of e655)).trans (Mus.of e658)).trans (Mus.of e669)) m671 all0).trans (Mus.of e670)).trans (Mus.of e696)).trans (Mus.of e700)).trans (Mus.of e703)).trans (Mus.of e705))) (by rw [(show m_centre_of x0 = (frI (((mapIf (fun (x683 : (Int × Int)) => (decide (x683.1 ≥ one_other_l1.2))) (fun (x683 : (Int × Int)) => x683.1) x0) ++ (mapIf (fun (x690 : (Int × Int)) => (decide (x690.2 ≤ one_other_l1.1))) (fun (x690 : (Int × Int)) => x690.2) x0)).sum) ((((mapIf (fun (x683 : (Int × Int)) => (decide (x683.1 ≥ one_other_l1.2))) (fun (x683 : (Int × Int)) => x683.1) x0) ++ (mapIf (fun (x690 : (Int × Int)) => (decide (x690.2 ≤ one_other_l1.1))) (fun (x690 : (Int × Int)) => x690.2) x0)).length : Nat) : Int)) from by unfold m_centre_of; rw [if_neg (nff hc656)]; rw [fd706])]; exact rr))
      ·
        refine s_nxz ?_
        refine s_nx ?_
        exact ⟨_, _, _, _, rfl, (find_none hx668 hn667 (show (if ((!(m_less (frI (((mapIf (fun (x683 : (Int × Int)) => (decide (x683.1 ≥ one_other_l1.2))) (fun (x683 : (Int × Int)) => x683.1) x0) ++ (mapIf (fun (x690 : (Int × Int)) => (decide (x690.2 ≤ one_other_l1.1))) (fun (x690 : (Int × Int)) => x690.2) x0)).sum) ((((mapIf (fun (x683 : (Int × Int)) => (decide (x683.1 ≥ one_other_l1.2))) (fun (x683 : (Int × Int)) => x683.1) x0) ++ (mapIf (fun (x690 : (Int × Int)) => (decide (x690.2 ≤ one_other_l1.1))) (fun (x690 : (Int × Int)) => x690.2) x0)).length : Nat) : Int)) (one_other_l1.1, (1 : Int)))) && (!(m_less (one_other_l1.2, (1 : Int)) (frI (((mapIf (fun (x683 : (Int × Int)) => (decide (x683.1 ≥ one_other_l1.2))) (fun (x683 : (Int × Int)) => x683.1) x0) ++ (mapIf (fun (x690 : (Int × Int)) => (decide (x690.2 ≤ one_other_l1.1))) (fun (x690 : (Int × Int)) => x690.2) x0)).sum) ((((mapIf (fun (x683 : (Int × Int)) => (decide (x683.1 ≥ one_other_l1.2))) (fun (x683 : (Int × Int)) => x683.1) x0) ++ (mapIf (fun (x690 : (Int × Int)) => (decide (x690.2 ≤ one_other_l1.1))) (fun (x690 : (Int × Int)) => x690.2) x0)).length : Nat) : Int))))) = true then (some (frI (((mapIf (fun (x683 : (Int × Int)) => (decide (x683.1 ≥ one_other_l1.2))) (fun (x683 : (Int × Int)) => x683.1) x0) ++ (mapIf (fun (x690 : (Int × Int)) => (decide (x690.2 ≤ one_other_l1.1))) (fun (x690 : (Int × Int)) => x690.2) x0)).sum) ((((mapIf (fun (x683 : (Int × Int)) => (decide (x683.1 ≥ one_other_l1.2))) (fun (x683 : (Int × Int)) => x683.1) x0) ++ (mapIf (fun (x690 : (Int × Int)) => (decide (x690.2 ≤ one_other_l1.1))) (fun (x690 : (Int × Int)) => x690.2) x0)).length : Nat) : Int))) else none) = none from by rw [if_neg (nff hc704)])), (((((Mus.baseS (Mus.refl _) m671 all0).trans (Mus.of e670)).trans (Mus.of e696)).trans (Mus.of e700)).trans (Mus.of e703))⟩
    ·
      obtain ⟨y662, y663, y664, y665, rfl, hn667, m671⟩ := hP
      replace hn667 := find_all hn667
      have r707 := (Rp.mono (((((SF.of e650).trans (SF.of e655)).trans (SF.of e658)).trans (SF.of e669)).trans m671.sf) r0)
      have r708 := (Rp.mono ((((SF.of e655).trans (SF.of e658)).trans (SF.of e669)).trans m671.sf) r651)
      have r709 := (Rp.mono ((((SF.of e655).trans (SF.of e658)).trans (SF.of e669)).trans m671.sf) r652)
      exact s_ret (K := K) (er_pair (er_var rfl r708) er_int) (fun u _ e710 rr => q u _ (Mus.same0 ((Mus.baseS (((((Mus.refl _).trans (Mus.of e650)).trans (Mus.of e655)).trans (Mus.of e658)).trans (Mus.of e669)) m671 all0).trans (Mus.of e710))) (by rw [(show m_centre_of x0 = ((mxl (m_lows x0)), (1 : Int)) from by unfold m_centre_of; rw [if_neg (nff hc656)]; rw [hn667])]; exact rr))
theorem cen_sz {b : List (Int × Int)} (hp : BOk b) : Sz 10 (m_centre_of b) := by
  have hl : -50 ≤ mxl (m_lows b) ∧ mxl (m_lows b) ≤ 50 := by
    obtain ⟨p, h, e⟩ := List.mem_map.mp (mxl_mem (ne_lows hp))
    have := hp.2.2 p h
    have e : p.1 = mxl (m_lows b) := e
    rw [← e]; omega
  unfold m_centre_of
  split
  · exact (sz_one (by omega)).le (by decide)
  · rename_i hc
    have hc := of_decide_eq_false (Bool.eq_false_iff.mpr hc)
    split
    · rename_i r h
      obtain ⟨t, ht, e⟩ := List.exists_of_findSome?_eq_some h
      split at e
      · cases e; exact (num_sz hp hc (zm ht)).2
      · cases e
    · exact (sz_one (by omega)).le (by decide)
def m_centre (x0 : (List (Int × Int))) : (Int × Int) := (m_centre_of x0)
theorem ok_centre (T : Txt K mg) : Ok P w K mg base CX0 5 "centre" ["bounds"] (sp1 K ((fun b => BOk b) : (List (Int × Int)) → Prop) m_centre) := by
  refine ok_of T.d_centre sc_centre (bi1 fun _ _ _ _ _ _ _ => rfl) len_sp1 (fun f cdv A outer s H vs Q E hr h => ?_)
  have nd := sc_centre.nd
  obtain ⟨v0, x0, rfl, r0, hp, q⟩ := h
  refine ⟨_, (pss_cons (ps_expr (pe_fn (ok_check_bounds T) (hr.mono (by decide)) pass0 (pa_cons (pv 0) pa_nil)))
      (pss_one (ps_ret (pe_fn (ok_centre_of T) (hr.mono (by decide)) pass0 (pa_cons (pv 0) pa_nil))))), ?_⟩
  refine q_drop (K := K) (er_call1 (er_var rfl r0) (by exact hp)) (fun _ e711 => ?_)
  exact s_ret (K := K) (er_call1 (er_var rfl (Rp.mono (SF.of e711) r0)) (by exact hp)) (fun u _ e712 rr => q u _ (e711.trans e712) rr)
def m_nearest_choice (x0 : (List (Int × Int))) : (List (Int × Int)) := (m_clipped x0 (m_centre_of x0))
theorem ok_nearest_choice (T : Txt K mg) : Ok P w K mg base CX0 5 "nearest_choice" ["bounds"] (sl1 K ((fun b => BOk b) : (List (Int × Int)) → Prop) m_nearest_choice) := by
  refine ok_of T.d_nearest_choice sc_nearest_choice (bi1 fun _ _ _ _ _ _ _ => rfl) len_sl1 (fun f cdv A outer s H vs Q E hr h => ?_)
  have nd := sc_nearest_choice.nd
  obtain ⟨v0, x0, rfl, r0, hp, q⟩ := h
  refine ⟨_, (pss_cons (ps_expr (pe_fn (ok_check_bounds T) (hr.mono (by decide)) pass0 (pa_cons (pv 0) pa_nil)))
      (pss_one (ps_ret (pe_fn (ok_clipped T) (hr.mono (by decide)) pass0 (pa_cons (pv 0) (pa_cons (pe_fn (ok_centre_of T) (hr.mono (by decide)) pass0 (pa_cons (pv 0) pa_nil)) pa_nil)))))), ?_⟩
  refine q_drop (K := K) (er_call1 (er_var rfl r0) (by exact hp)) (fun _ e713 => ?_)
  exact s_retL (K := K) (erl_call2 (er_var rfl (Rp.mono (SF.of e713) r0)) (er_call1 (er_var rfl (Rp.mono (SF.of e713) r0)) (by exact hp)) (by exact ⟨by have := hp.2.1; omega, fun t ht => by have := hp.2.2 t ht; omega, (cen_sz hp).le (by decide)⟩)) (fun p us _ e714 hn h1 rr => q p us _ (e713.trans e714) (e713.free hn) h1 rr)
def m_least_squares (x0 : (List (Int × Int))) : (Int × Int) := (m_squares_about_mean (m_clipped x0 (m_centre_of x0)))
theorem ok_least_squares (T : Txt K mg) : Ok P w K mg base CX0 6 "least_squares" ["bounds"] (sp1 K ((fun b => BOk b) : (List (Int × Int)) → Prop) m_least_squares) := by
  refine ok_of T.d_least_squares sc_least_squares (bi1 fun _ _ _ _ _ _ _ => rfl) len_sp1 (fun f cdv A outer s H vs Q E hr h => ?_)
  have nd := sc_least_squares.nd
  obtain ⟨v0, x0, rfl, r0, hp, q⟩ := h
  refine ⟨_, (pss_cons (ps_expr (pe_fn (ok_check_bounds T) (hr.mono (by decide)) pass0 (pa_cons (pv 0) pa_nil)))
      (pss_one (ps_ret (pe_fn (ok_squares_about_mean T) (hr.mono (by decide)) pass0 (pa_cons (pe_frz (pe_fn (ok_clipped T) (hr.mono (by decide)) pass0 (pa_cons (pv 0) (pa_cons (pe_fn (ok_centre_of T) (hr.mono (by decide)) pass0 (pa_cons (pv 0) pa_nil)) pa_nil)))) pa_nil))))), ?_⟩
  refine q_drop (K := K) (er_call1 (er_var rfl r0) (by exact hp)) (fun _ e715 => ?_)
  exact s_ret (K := K) (er_call1 (er_frz (erl_call2 (er_var rfl (Rp.mono (SF.of e715) r0)) (er_call1 (er_var rfl (Rp.mono (SF.of e715) r0)) (by exact hp)) (by exact ⟨by have := hp.2.1; omega, fun t ht => by have := hp.2.2 t ht; omega, (cen_sz hp).le (by decide)⟩))) (by exact clip_sz hp ((cen_sz hp).le (by decide)))) (fun u _ e716 rr => q u _ (e715.trans e716) rr)
theorem ok__law_start (T : Txt K mg) : Ok P w K mg base CX0 1 "_law_start" ["_law_script"] (spStart K) := by
  refine ok_of T.d__law_start sc__law_start (bi1 fun _ _ _ _ _ _ _ => rfl) (fun vs H Q E h => by obtain ⟨_, _, rfl, _⟩ := h; rfl) (fun f cdv A outer s H vs Q E hr h => ?_)
  have nd := sc__law_start.nd
  obtain ⟨a, ns, rfl, hs, hz, q⟩ := h
  refine ⟨_, (pss_one (ps_ret (pe_lst (pa_cons (pe_ifExp (pt_cmpR (k_neD K rfl hr.units) (pv 0) (pe_lst pa_nil) (nomark _)) (pe_callTy (k_list K rfl) (by rfl) T.n_list (by decide +kernel) (pa_cons (pv 0) pa_nil)) (pe_lst (pa_cons pe_int pa_nil))) (pa_cons pe_int pa_nil))))), ?_⟩
  refine ⟨.ref a, rfl, Nat.zero_le _, fun e he => ?_⟩
  have hs1 : SqL K (upd H e (.lst [])) a (ns.map V.int) := (same_new he : L2.Same _ _).seq hs
  refine ⟨_, _, .lst hs1 (dp_all (rl_of_ints ns)), .lst (sq_lst upd_same) .nil, shaped_of (α := List Int) (Rt.all ns) (by decide), shaped_of (α := List Int) (x := []) (Rt.all _) (by decide), _, rfl, ite2 (fun c => ?_) (fun c => ?_)⟩
  · refine ⟨.ref a, rfl, a, _, rfl, .inl hs1, fun pn hn => ?_⟩
    have s2 : L2.Same H (upd (upd H e (.lst [])) pn (.lst (ns.map V.int))) := (same_new he).trans (same_new hn)
    refine ⟨by show 2 ≤ sizeLine; decide, fun pd hd => ?_⟩
    refine q pd pn _ (s2.trans (same_new hd)) (s2.free hd) ((same_new he : L2.Same _ _).free hn) ⟨ns, 0, upd_same, upd_get upd_same (ne_of_none upd_same hd), ?_, by omega, by omega, (ne_of_none upd_same hd).symm⟩
    cases ns with
    | nil => exact absurd c (by decide)
    | cons x r => exact Nat.succ_pos _
  · refine ⟨by show 1 ≤ sizeLine; decide, fun pn hn => ?_⟩
    have s2 : L2.Same H (upd (upd H e (.lst [])) pn (.lst [.int 0])) := (same_new he).trans (same_new hn)
    refine ⟨by show 2 ≤ sizeLine; decide, fun pd hd => ?_⟩
    exact q pd pn _ (s2.trans (same_new hd)) (s2.free hd) ((same_new he : L2.Same _ _).free hn) ⟨[0], 0, upd_same, upd_get upd_same (ne_of_none upd_same hd), by decide, by decide, by omega, (ne_of_none upd_same hd).symm⟩
theorem ok__law_draw (T : Txt K mg) : Ok P w K mg base CX0 1 "_law_draw" ["_law_draws", "_law_limit"] spDraw := by
  refine ok_of T.d__law_draw sc__law_draw (bi2 fun _ _ _ _ _ _ _ _ => rfl) (fun vs H Q E h => by obtain ⟨_, _, _, rfl, _⟩ := h; rfl) (fun f cdv A outer s H vs Q E hr h => ?_)
  have nd := sc__law_draw.nd
  obtain ⟨pd, pn, lim, rfl, ⟨ns, k, h1, h2, hl, hl2, hk, hne⟩, l0, l1, q⟩ := h
  refine ⟨_, (pss_cons (ps_set (i := 2) nd rfl (.inl rfl) (pe_ix (k_ixl K rfl) (pv 0) pe_int (fun _ _ => rfl)))
      (pss_cons (ps_asg (pe_op op_add (pe_ix (k_ixl K rfl) (pv 0) pe_int (fun _ _ => rfl)) pe_int) (pg_sub (pv 0) pe_int set_list))
      (pss_cons (ps_set (i := 3) nd rfl (.inl rfl) (pe_op op_mod (pe_ix (k_ixl K rfl) (pv 0) pe_int (fun _ _ => rfl)) (pe_callB (k_len K rfl) (by rfl) T.n_len PySem.boot_len (pa_cons (pv 2) pa_nil))))
      (pss_cons (ps_set (i := 4) nd rfl (.inl rfl) (pe_ix (k_ixl K rfl) (pv 2) (pv 3) (fun _ _ => rfl)))
      (pss_cons (ps_if (pt_cmpR op_ge (pv 4) pe_int (nomark _)) (pss_cons (ps_asg (pe_op op_fdiv (pv 4) (pv 1)) (pg_sub (pv 2) (pv 3) set_list)) (pss_one (ps_ret (pe_op op_mod (pv 4) (pv 1))))) pss_nil)
      (pss_cons (ps_set (i := 5) nd rfl (.inl rfl) (pe_op op_mod (pe_op op_add (pv 4) (pe_op op_mul pe_int (pe_ix (k_ixl K rfl) (pv 0) pe_int (fun _ _ => rfl)))) pe_int))
      (pss_cons (ps_set (i := 5) nd rfl (.inl rfl) (pe_op op_mod (pe_op op_pow (pv 5) pe_int) pe_int))
      (pss_one (ps_ret (pe_op op_mod (pe_op op_fdiv (pe_op op_mod (pe_op op_add (pe_op op_mul (pe_op op_fdiv (pv 5) pe_int) pe_int) (pv 5)) pe_int) pe_int) (pv 1))))))))))), ?_⟩
  refine ⟨.ref pd, rfl, pd, _, 0, .ref pn, rfl, rfl, sq_lst h1, atI_nat (j := 0) rfl, ?_⟩
  refine ⟨.ref pd, rfl, pd, _, 1, .int k, rfl, rfl, sq_lst h1, atI_nat (j := 1) rfl, k, 1, rfl, rfl, .ref pd, rfl, pd, _, 1, 1, rfl, rfl, h1, rfl, ?_⟩
  have g1 : (upd H pd (.lst [.ref pn, .int (k + 1)])) pd = some (.lst [.ref pn, .int (k + 1)]) := upd_same
  have g2 : (upd H pd (.lst [.ref pn, .int (k + 1)])) pn = some (.lst (ns.map V.int)) := upd_get h2 hne.symm
  have m1 : DM pd pn H (upd H pd (.lst [.ref pn, .int (k + 1)])) := ⟨SF.lst h1, fun q o n _ e => upd_get e n⟩
  have d1 : Dr (upd H pd (.lst [.ref pn, .int (k + 1)])) pd pn := ⟨ns, k + 1, g1, g2, hl, hl2, by omega, hne⟩
  show tSeq _ _ _ _ (upd H pd (.lst [.ref pn, .int (k + 1)]))
  generalize upd H pd (.lst [.ref pn, .int (k + 1)]) = H1 at g1 g2 m1 d1
  have hlen : (ns.map V.int).length = ns.length := List.length_map ..
  refine ⟨.ref pd, rfl, pd, _, 1, .int (k + 1), rfl, rfl, sq_lst g1, atI_nat (j := 1) rfl, .ref pn, rfl, pn, _, rfl, .inl (sq_lst g2), k + 1, _, rfl, rfl, (by rw [hlen]; omega), ?_⟩
  obtain ⟨m, hm, hm2⟩ : ∃ m : Nat, (k + 1) % ((ns.map V.int).length : Int) = (m : Int) ∧ m < ns.length := by
    have a := Int.emod_nonneg (k + 1) (show ((ns.map V.int).length : Int) ≠ 0 by rw [hlen]; omega)
    have b := Int.emod_lt_of_pos (k + 1) (show (0 : Int) < ((ns.map V.int).length : Int) by rw [hlen]; omega)
    exact ⟨((k + 1) % ((ns.map V.int).length : Int)).toNat, by omega, by rw [hlen] at b ⊢; omega⟩
  have hc : (ns.map V.int)[m]? = some (.int ns[m]) := by rw [List.getElem?_map, List.getElem?_eq_getElem hm2]; rfl
  refine ⟨.ref pn, rfl, .int ((k + 1) % ((ns.map V.int).length : Int)), rfl, pn, _, _, _, rfl, rfl, sq_lst g2, at_of hm hc, ?_⟩
  refine ⟨.int ns[m], rfl, ns[m], 1000000000000000000, rfl, rfl, _, rfl, ite2 (fun _ => ?_) (fun _ => ?_)⟩
  · refine ⟨.int ns[m], rfl, .int lim, rfl, ns[m], lim, rfl, rfl, ⟨l0, by omega⟩, .ref pn, rfl, .int ((k + 1) % ((ns.map V.int).length : Int)), rfl, pn, _, _, m, rfl, rfl, g2, ?_, ?_⟩
    · rw [hm, hlen]; unfold ixN; rw [if_pos (by omega), if_pos (by omega)]; simp
    · refine ⟨.int ns[m], rfl, .int lim, rfl, ns[m], lim, rfl, rfl, l0, ?_⟩
      have e : (ns.map V.int).set m (.int (ns[m] / lim)) = (ns.set m (ns[m] / lim)).map V.int := by rw [List.map_set]
      rw [e]
      refine q _ _ (Int.emod_nonneg _ (by omega)) (Int.emod_lt_of_pos _ l0) (m1.trans ⟨SF.lst g2, fun q o _ n e => upd_get e n⟩) ⟨_, k + 1, upd_get g1 hne, upd_same, by rw [List.length_set]; exact hl, by rw [List.length_set]; exact hl2, by omega, hne⟩
  · refine ⟨.int ns[m], rfl, .ref pd, rfl, pd, _, 1, .int (k + 1), rfl, rfl, sq_lst g1, atI_nat (j := 1) rfl, 104729, k + 1, rfl, rfl, .inl ⟨by decide, by decide⟩, ns[m], _, rfl, rfl, _, _, rfl, rfl, (show (0 : Int) < 4294967291 by decide), ?_⟩
    have x0 : 0 ≤ (ns[m] + 104729 * (k + 1)) % 4294967291 := Int.emod_nonneg _ (by decide)
    have x1 : (ns[m] + 104729 * (k + 1)) % 4294967291 < 4294967291 := Int.emod_lt_of_pos _ (by decide)
    refine ⟨_, rfl, (ns[m] + 104729 * (k + 1)) % 4294967291, 5, rfl, rfl, ⟨by decide, by decide, by omega⟩, _, _, rfl, rfl, (show (0 : Int) < 4294967279 by decide), ?_⟩
    refine ⟨_, rfl, _, 64, rfl, rfl, ⟨by decide, by decide⟩, _, 69621, rfl, rfl, .inr ⟨by decide, by decide⟩, _, rfl, _, _, rfl, rfl, _, _, rfl, rfl, (show (0 : Int) < 4294967231 by decide), _, 8, rfl, rfl, ⟨by decide, by decide⟩, .int lim, rfl, _, lim, rfl, rfl, l0, ?_⟩
    exact q _ _ (Int.emod_nonneg _ (by omega)) (Int.emod_lt_of_pos _ l0) m1 d1
theorem ok__law_pick {α : Type} [Rp α] (T : Txt K mg) : Ok P w K mg base CX0 2 "_law_pick" ["_law_draws", "_law_choices"] (spPick K (α := α)) := by
  refine ok_of T.d__law_pick sc__law_pick (bi2 fun _ _ _ _ _ _ _ _ => rfl) (fun vs H Q E h => by obtain ⟨_, _, _, _, rfl, _⟩ := h; rfl) (fun f cdv A outer s H vs Q E hr h => ?_)
  have nd := sc__law_pick.nd
  obtain ⟨pd, pn, v, l, rfl, dr, r1, h0, h1, q⟩ := h
  refine ⟨_, (pss_one (ps_ret (pe_ix (k_ixl K rfl) (pv 1) (pe_fn (ok__law_draw T) (hr.mono (by decide)) pass0 (pa_cons (pv 0) (pa_cons (pe_callB (k_len K rfl) (by rfl) T.n_len PySem.boot_len (pa_cons (pv 1) pa_nil)) pa_nil))) (fun _ _ => rfl)))), ?_⟩
  refine s_retP (K := K) (pd := pd) (pn := pn) dr (ep_op (P := fun (x : List α) => x = l) (P2 := fun _ (y : Int) => 0 ≤ y ∧ y < (l.length : Int)) (f := fun _ (y : Int) => if h : y.toNat < l.length then l[y.toNat] else l[0]) (ep_of fun _ m => er_var rfl (Rp.mono m.sf r1)) (fun _ _ => ep_draw (fun _ m => er_up (er_len (er_var rfl (Rp.mono m.sf r1)))) (sub_dr rfl) (by omega) (by omega)) (fun x y hx hy => by
      subst hx
      have hl : y.toNat < x.length := by omega
      rw [dif_pos hl]
      exact rr_ixI (n := y.toNat) (by omega) (List.getElem?_eq_getElem hl))) (fun v H1 z m d hz r => ?_)
  obtain ⟨x, y, hx, hy, rfl⟩ := hz
  have hl : y.toNat < l.length := by omega
  rw [dif_pos hl] at r
  exact q _ v H1 (List.getElem_mem hl) m d r
theorem ok__law_bounds (T : Txt K mg) : Ok P w K mg base CX0 3 "_law_bounds" ["_law_draws", "_law_most"] (spDraws K (fun n => 1 ≤ n ∧ n ≤ 100) BndP) := by
  refine ok_of T.d__law_bounds sc__law_bounds (bi2 fun _ _ _ _ _ _ _ _ => rfl) (fun vs H Q E h => by obtain ⟨_, _, _, rfl, _⟩ := h; rfl) (fun f cdv A outer s H vs Q E hr h => ?_)
  have nd := sc__law_bounds.nd
  obtain ⟨pd, pn, n, rfl, dr, hn, q⟩ := h
  refine ⟨_, (pss_cons (ps_par (i := 2) (j := 3) (by rfl) nd rfl rfl (by decide) rfl rfl (pa_cons (pe_fn (ok__law_pick (α := Int) T) (hr.mono (by decide)) pass0 (pa_cons (pv 0) (pa_cons (pe_frz (pe_lst (pa_cons pe_int (pa_cons pe_int (pa_cons pe_int pa_nil))))) pa_nil))) (pa_cons (pe_fn (ok__law_pick (α := Int) T) (hr.mono (by decide)) pass0 (pa_cons (pv 0) (pa_cons (pe_frz (pe_lst (pa_cons pe_int (pa_cons pe_int (pa_cons pe_int pa_nil))))) pa_nil))) pa_nil)) (by rfl))
      (pss_cons (ps_set (i := 4) nd rfl (.inl rfl) (pe_lst pa_nil))
      (pss_cons (ps_for PassesOwn.never rfl (pi_range1 (by rfl) T.n_range (pa_cons (pe_op op_add pe_int (pe_fn (ok__law_draw T) (hr.mono (by decide)) pass0 (pa_cons (pv 0) (pa_cons (pv 1) pa_nil)))) pa_nil)) (pg_name (i := 5) nd rfl (.inl rfl) (.inr rfl)) (pss_cons (ps_set (i := 6) nd rfl (.inl rfl) (pe_op op_sub (pe_fn (ok__law_draw T) (hr.mono (by decide)) pass0 (pa_cons (pv 0) (pa_cons (pe_op op_mul pe_int (pv 2)) pa_nil))) (pv 2)))
      (pss_one (ps_expr (k_app K rfl (pv 4) (pe_tup (pa_cons (pv 6) (pa_cons (pe_op op_add (pv 6) (pe_fn (ok__law_draw T) (hr.mono (by decide)) pass0 (pa_cons (pv 0) (pa_cons (pv 3) pa_nil)))) pa_nil))))))))
      (pss_one (ps_ret (pv 4)))))), ?_⟩
  refine q_parP (K := K) dr (ep_pick (l := [(3 : Int), 8, 30]) (fun _ _ => er_frz (erl_lst (ea_cons er_int (ea_cons er_int (ea_cons er_int ea_nil))))) (sub_dr rfl) (by decide) (by decide)) (fun _ _ => ep_pick (l := [(2 : Int), 4, 20]) (fun _ _ => er_frz (erl_lst (ea_cons er_int (ea_cons er_int (ea_cons er_int ea_nil))))) (sub_dr rfl) (by decide) (by decide)) (fun vf vw H0 far wide m0 d0 hf hw rf rw' => ?_)
  have hf : 3 ≤ far ∧ far ≤ 30 := by
    rcases List.mem_cons.mp hf with h | h
    · omega
    · rcases List.mem_cons.mp h with h | h
      · omega
      · have := List.mem_singleton.mp h; omega
  have hw : 2 ≤ wide ∧ wide ≤ 20 := by
    rcases List.mem_cons.mp hw with h | h
    · omega
    · rcases List.mem_cons.mp h with h | h
      · omega
      · have := List.mem_singleton.mp h; omega
  refine q_setL (K := K) (l := ([] : List (Int × Int))) (erl_lst ea_nil) (fun p vs H1 e1 hp h1 rl => ?_)
  have n1 : p ≠ pd := (d0.pd_ne hp).symm
  have n2 : p ≠ pn := (d0.pn_ne hp).symm
  cases (show vf = .int far from rf); cases (show vw = .int wide from rw')
  refine q_forR (K := K) (d0.mono e1) (ep_op (ep_of fun _ _ => er_int) (fun _ _ => ep_draw (fun _ _ => er_var (x := n) rfl rfl) (sub_dr rfl) (by omega) (by omega)) (fun _ _ _ _ => rr_add)) (fun x hx => by obtain ⟨_, y, rfl, hy, rfl⟩ := hx; omega)
    (fun x i σ' H' => ∃ (l : List (Int × Int)) (a b : Option V), σ' = [some (.ref pd), some (.int n), some (.int far), some (.int wide), some (.ref p), a, b] ∧ l.length = i ∧ (∀ t ∈ l, -30 ≤ t.1 ∧ t.1 < 30 ∧ t.1 ≤ t.2 ∧ t.2 < t.1 + 20) ∧ DM pd pn H0 H' ∧ Dr H' pd pn ∧ Un K H' p l)
    (fun x H2 m d _ => ⟨[], none, none, rfl, rfl, (fun _ h => by cases h), (DM.of e1).trans m, d, Un.dm m n1 n2 (Un.of h1 rl)⟩) (fun x i σ' H' hx hi hP => ?_) (fun x σ' H' hx hP => ?_)
  · obtain ⟨l, a, b, rfl, hl, hok, m, d, u⟩ := hP
    obtain ⟨_, y, rfl, hy, rfl⟩ := hx
    refine q_setP (K := K) d (ep_op (ep_draw (i := 2 * far) (fun _ _ => er_op er_int (er_var (x := far) rfl rfl) (rr_mul (.inl ⟨by decide, by decide⟩))) (sub_dr rfl) (by omega) (by omega)) (fun _ _ => ep_of (x := far) fun _ _ => er_var rfl rfl) (fun _ _ _ _ => rr_sub)) (fun v H2 x m2 d2 hx r => ?_)
    obtain ⟨z, _, hz, rfl, rfl⟩ := hx
    refine s_appP (K := K) d2 rfl (Un.dm m2 n1 n2 u) n1 n2 (ep_pair (ep_of fun _ m => er_var rfl (Rp.mono m.sf r)) (fun x hx => ep_op (ep_of fun _ m => er_var rfl (Rp.mono m.sf r)) (fun _ _ => ep_draw (i := wide) (fun _ _ => er_var rfl rfl) (sub_dr rfl) (by omega) (by omega)) (fun _ _ _ _ => rr_add))) (by omega) (fun H3 t hb d3 ht u3 => ?_)
    refine ⟨l ++ [t], _, _, rfl, by rw [List.length_append, hl]; rfl, fun s hs => ?_, hb _ (m.trans m2) hp, d3, u3⟩
    rcases List.mem_append.mp hs with hs | hs
    · exact hok s hs
    · rw [List.mem_singleton.mp hs]
      obtain ⟨h1, w, k, rfl, hk, h2⟩ := ht
      omega
  · obtain ⟨l, a, b, rfl, hl, hok, m, d, u⟩ := hP
    obtain ⟨_, y, rfl, hy, rfl⟩ := hx
    obtain ⟨us, hu, ru⟩ := u
    exact ⟨.ref p, rfl, q p us l H' ⟨by omega, by omega, hok⟩ (m0.trans m) d (m0.free dr hp d0) hu ru⟩
theorem ok__law_low (T : Txt K mg) : Ok P w K mg base CX0 1 "_law_low" ["_law_top", "_law_under"] (sp2 K ((fun _ b => 0 < b ∧ b.natAbs < 2 ^ 4000) : Int → Int → Prop) frI) := by
  refine ok_of T.d__law_low sc__law_low (bi2 fun _ _ _ _ _ _ _ _ => rfl) len_sp2 (fun f cdv A outer s H vs Q E hr h => ?_)
  have nd := sc__law_low.nd
  obtain ⟨v0, v1, x0, x1, rfl, r0, r1, hp, q⟩ := h
  refine ⟨_, (pss_cons (ps_par (i := 2) (j := 3) (by rfl) nd rfl rfl (by decide) rfl rfl (pa_cons (pe_callB call_abs (by rfl) T.n_abs (by decide +kernel) (pa_cons (pv 0) pa_nil)) (pa_cons (pv 1) pa_nil)) (by rfl))
      (pss_cons (ps_while PassesOwn.never (pt_cmpR op_ne (pv 3) pe_int (nomark _)) (pss_one (ps_par (i := 2) (j := 3) (by rfl) nd rfl rfl (by decide) rfl rfl (pa_cons (pv 3) (pa_cons (pe_op op_mod (pv 2) (pv 3)) pa_nil)) (by rfl))))
      (pss_one (ps_ret (pe_tup (pa_cons (pe_op op_fdivW (pv 0) (pv 2)) (pa_cons (pe_op op_fdivW (pv 1) (pv 2)) pa_nil))))))), ?_⟩
  have hb := hp.1
  refine q_par (K := K) (er_abs (er_var rfl r0)) (er_var rfl r1) (fun v u H1 e1 ra rb => ?_)
  cases (show v = .int (iabs x0) from ra); cases (show u = .int x1 from rb)
  cases (show v0 = .int x0 from r0); cases (show v1 = .int x1 from r1)
  refine q_while (K := K) (fun σ' H' => ∃ a b : Nat, σ' = [some (.int x0), some (.int x1), some (.int a), some (.int b)] ∧ Same H H' ∧ Nat.gcd a b = Int.gcd x0 x1) (fun σ' _ => match σ' with | [_, _, _, some (.int b)] => b.toNat | _ => 0) ⟨x0.natAbs, x1.natAbs, by rw [iabs_nat, show ((x1.natAbs : Nat) : Int) = x1 from by omega]; rfl, e1, rfl⟩ (fun σ' H' hW => ?_)
  obtain ⟨a, b, rfl, e, hg⟩ := hW
  refine ⟨!decide ((b : Int) = 0), et_test (er_op (er_var (x := (b : Int)) rfl rfl) er_int rr_neI), fun hb H2 e2 => ?_, fun hb H2 e2 => ?_⟩
  · have hb0 : b ≠ 0 := by intro z; subst z; simp at hb
    refine s_par (K := K) (er_var (x := (b : Int)) rfl rfl) (er_op (er_var (x := (a : Int)) rfl rfl) (er_var (x := (b : Int)) rfl rfl) (rr_mod (by omega))) (fun v u H3 e3 r1 r2 => ?_)
    cases (show v = .int (b : Int) from r1); cases (show u = .int ((a : Int) % (b : Int)) from r2)
    refine ⟨⟨b, a % b, by rw [nat_mod_int]; rfl, e.trans (e2.trans e3), by rw [gcd_turn hb0]; exact hg⟩, ?_⟩
    show ((a : Int) % (b : Int)).toNat < (b : Int).toNat
    have := Nat.mod_lt a (Nat.pos_of_ne_zero hb0)
    rw [nat_mod_int]; omega
  · have hb0 : b = 0 := by have := of_decide_eq_true (show decide ((b : Int) = 0) = true by simpa using hb); omega
    subst hb0
    rw [Nat.gcd_zero_right] at hg
    have ea : gcdI x0 x1 = (a : Int) := by unfold gcdI; omega
    have hd : ∀ i, CDivW i (a : Int) := fun i => by rw [← ea]; exact gcd_div hp
    exact s_ret (K := K) (er_pair (er_op (er_var (x := x0) rfl rfl) (er_var (x := (a : Int)) rfl rfl) (rr_divW (hd _))) (er_op (er_var (x := x1) rfl rfl) (er_var (x := (a : Int)) rfl rfl) (rr_divW (hd _)))) (fun u H3 e3 rr => q u _ (e.trans (e2.trans e3)) (by unfold frI; rw [ea]; exact rr))
theorem ok__law_add (T : Txt K mg) : Ok P w K mg base CX0 2 "_law_add" ["_law_one", "_law_other"] (sp2 K ((fun p q => Sz 2000 p ∧ Sz 2000 q) : (Int × Int) → (Int × Int) → Prop) pls) := by
  refine ok_of T.d__law_add sc__law_add (bi2 fun _ _ _ _ _ _ _ _ => rfl) len_sp2 (fun f cdv A outer s H vs Q E hr h => ?_)
  have nd := sc__law_add.nd
  obtain ⟨v0, v1, x0, x1, rfl, r0, r1, hp, q⟩ := h
  refine ⟨_, (pss_one (ps_ret (pe_fn (ok__law_low T) (hr.mono (by decide)) pass0 (pa_cons (pe_op op_add (pe_op op_mulW (pe_ix (k_ixt K rfl) (pv 0) pe_int (fun _ _ => rfl)) (pe_ix (k_ixt K rfl) (pv 1) pe_int (fun _ _ => rfl))) (pe_op op_mulW (pe_ix (k_ixt K rfl) (pv 1) pe_int (fun _ _ => rfl)) (pe_ix (k_ixt K rfl) (pv 0) pe_int (fun _ _ => rfl)))) (pa_cons (pe_op op_mulW (pe_ix (k_ixt K rfl) (pv 0) pe_int (fun _ _ => rfl)) (pe_ix (k_ixt K rfl) (pv 1) pe_int (fun _ _ => rfl))) pa_nil))))), ?_⟩
  exact s_ret (K := K) (er_call2 (er_op (er_op (er_op (er_var rfl r0) er_int rr_ixP0) (er_op (er_var rfl r1) er_int rr_ixP1) (rr_mulW (by first | exact cmulW hp.1.2.2 hp.2.2.1 (by decide) (by decide) | exact cmulW hp.2.2.2 hp.1.2.1 (by decide) (by decide) | exact cmulW hp.1.2.1 hp.2.2.1 (by decide) (by decide) | exact cmulW hp.1.2.2 hp.2.2.2 (by decide) (by decide)))) (er_op (er_op (er_var rfl r1) er_int rr_ixP0) (er_op (er_var rfl r0) er_int rr_ixP1) (rr_mulW (by first | exact cmulW hp.1.2.2 hp.2.2.1 (by decide) (by decide) | exact cmulW hp.2.2.2 hp.1.2.1 (by decide) (by decide) | exact cmulW hp.1.2.1 hp.2.2.1 (by decide) (by decide) | exact cmulW hp.1.2.2 hp.2.2.2 (by decide) (by decide)))) rr_add) (er_op (er_op (er_var rfl r0) er_int rr_ixP1) (er_op (er_var rfl r1) er_int rr_ixP1) (rr_mulW (by first | exact cmulW hp.1.2.2 hp.2.2.1 (by decide) (by decide) | exact cmulW hp.2.2.2 hp.1.2.1 (by decide) (by decide) | exact cmulW hp.1.2.1 hp.2.2.1 (by decide) (by decide) | exact cmulW hp.1.2.2 hp.2.2.2 (by decide) (by decide)))) (by exact sz_pre hp.1 hp.2 (by decide))) (fun u _ e717 rr => q u _ e717 rr)
def m__law_below (x0 : (Int × Int)) (x1 : (Int × Int)) : Bool := (decide ((x0.1 * x1.2) < (x1.1 * x0.2)))
theorem ok__law_below (T : Txt K mg) : Ok P w K mg base CX0 1 "_law_below" ["_law_one", "_law_other"] (sp2 K ((fun p q => Sz 2000 p ∧ Sz 2000 q) : (Int × Int) → (Int × Int) → Prop) m__law_below) := by
  refine ok_of T.d__law_below sc__law_below (bi2 fun _ _ _ _ _ _ _ _ => rfl) len_sp2 (fun f cdv A outer s H vs Q E hr h => ?_)
  have nd := sc__law_below.nd
  obtain ⟨v0, v1, x0, x1, rfl, r0, r1, hp, q⟩ := h
  refine ⟨_, (pss_one (ps_ret (pe_cmpR op_lt (pe_op op_mulW (pe_ix (k_ixt K rfl) (pv 0) pe_int (fun _ _ => rfl)) (pe_ix (k_ixt K rfl) (pv 1) pe_int (fun _ _ => rfl))) (pe_op op_mulW (pe_ix (k_ixt K rfl) (pv 1) pe_int (fun _ _ => rfl)) (pe_ix (k_ixt K rfl) (pv 0) pe_int (fun _ _ => rfl))) (nomark _)))), ?_⟩
  exact s_ret (K := K) (er_op (er_op (er_op (er_var rfl r0) er_int rr_ixP0) (er_op (er_var rfl r1) er_int rr_ixP1) (rr_mulW (by first | exact cmulW hp.1.2.2 hp.2.2.1 (by decide) (by decide) | exact cmulW hp.2.2.2 hp.1.2.1 (by decide) (by decide)))) (er_op (er_op (er_var rfl r1) er_int rr_ixP0) (er_op (er_var rfl r0) er_int rr_ixP1) (rr_mulW (by first | exact cmulW hp.1.2.2 hp.2.2.1 (by decide) (by decide) | exact cmulW hp.2.2.2 hp.1.2.1 (by decide) (by decide)))) rr_lt) (fun u _ e718 rr => q u _ e718 rr)
theorem ltot_sz {l : List (Int × Int)} (h : l.length ≤ 8) (hp : ∀ p ∈ l, Sz 10 p) : Sz 89 (l.foldl (fun s x => pls s x) (0, 1)) := (sz_fold (g := fun x => x) sz_zero hp).le (by omega)
def lmean (l : List (Int × Int)) : Int × Int := frI (l.foldl (fun s x => pls s x) (0, 1)).1 ((l.foldl (fun s x => pls s x) (0, 1)).2 * (l.length : Int))
theorem lm_sz {l : List (Int × Int)} (h0 : l ≠ []) (h : l.length ≤ 8) (hp : ∀ p ∈ l, Sz 10 p) : Sz 97 (lmean l) := by
  have a := ltot_sz h hp
  have b := n_sz h0 h
  exact frI_sz (Int.mul_pos a.1 b.1) (Nat.lt_of_lt_of_le a.2.2 (pow_le2 (by decide))) (mul_sz a.2.1 b.2.1)
theorem gap_sz {l : List (Int × Int)} (hp : l ≠ [] ∧ l.length ≤ 8 ∧ ∀ p ∈ l, Sz 10 p) {x : Int × Int} (hx : Sz 10 x) : Sz 108 (pls x (0 - (lmean l).1, (lmean l).2)) := (sz_pls hx (sz_neg0 (lm_sz hp.1 hp.2.1 hp.2.2))).le (by decide)
theorem lfold_sz {l m : List (Int × Int)} (hp : l ≠ [] ∧ l.length ≤ 8 ∧ ∀ p ∈ l, Sz 10 p) (hm : ∀ x ∈ m, x ∈ l) (hl : m.length ≤ 8) : Sz 1900 (m.foldl (fun s x => pls s (tms (pls x (0 - (lmean l).1, (lmean l).2)) (pls x (0 - (lmean l).1, (lmean l).2)))) (0, 1)) :=
  (sz_fold (g := fun x => tms (pls x (0 - (lmean l).1, (lmean l).2)) (pls x (0 - (lmean l).1, (lmean l).2))) sz_zero (fun x hx => sz_tms (gap_sz hp (hp.2.2 x (hm x hx))) (gap_sz hp (hp.2.2 x (hm x hx))))).le (by omega)
def m__law_squares (x0 : (List (Int × Int))) : (Int × Int) := (List.foldl (fun (s_l2 : (Int × Int)) (one_l2 : (Int × Int)) => ((pls s_l2 (frI ((pls one_l2 (((0 : Int) - (frI ((List.foldl (fun (s_l1 : (Int × Int)) (one_l1 : (Int × Int)) => ((pls s_l1 one_l1) : (Int × Int))) ((0 : Int), (1 : Int)) x0).1) ((List.foldl (fun (s_l1 : (Int × Int)) (one_l1 : (Int × Int)) => ((pls s_l1 one_l1) : (Int × Int))) ((0 : Int), (1 : Int)) x0).2 * ((x0.length : Nat) : Int))).1), (frI ((List.foldl (fun (s_l1 : (Int × Int)) (one_l1 : (Int × Int)) => ((pls s_l1 one_l1) : (Int × Int))) ((0 : Int), (1 : Int)) x0).1) ((List.foldl (fun (s_l1 : (Int × Int)) (one_l1 : (Int × Int)) => ((pls s_l1 one_l1) : (Int × Int))) ((0 : Int), (1 : Int)) x0).2 * ((x0.length : Nat) : Int))).2)).1 * (pls one_l2 (((0 : Int) - (frI ((List.foldl (fun (s_l1 : (Int × Int)) (one_l1 : (Int × Int)) => ((pls s_l1 one_l1) : (Int × Int))) ((0 : Int), (1 : Int)) x0).1) ((List.foldl (fun (s_l1 : (Int × Int)) (one_l1 : (Int × Int)) => ((pls s_l1 one_l1) : (Int × Int))) ((0 : Int), (1 : Int)) x0).2 * ((x0.length : Nat) : Int))).1), (frI ((List.foldl (fun (s_l1 : (Int × Int)) (one_l1 : (Int × Int)) => ((pls s_l1 one_l1) : (Int × Int))) ((0 : Int), (1 : Int)) x0).1) ((List.foldl (fun (s_l1 : (Int × Int)) (one_l1 : (Int × Int)) => ((pls s_l1 one_l1) : (Int × Int))) ((0 : Int), (1 : Int)) x0).2 * ((x0.length : Nat) : Int))).2)).1) ((pls one_l2 (((0 : Int) - (frI ((List.foldl (fun (s_l1 : (Int × Int)) (one_l1 : (Int × Int)) => ((pls s_l1 one_l1) : (Int × Int))) ((0 : Int), (1 : Int)) x0).1) ((List.foldl (fun (s_l1 : (Int × Int)) (one_l1 : (Int × Int)) => ((pls s_l1 one_l1) : (Int × Int))) ((0 : Int), (1 : Int)) x0).2 * ((x0.length : Nat) : Int))).1), (frI ((List.foldl (fun (s_l1 : (Int × Int)) (one_l1 : (Int × Int)) => ((pls s_l1 one_l1) : (Int × Int))) ((0 : Int), (1 : Int)) x0).1) ((List.foldl (fun (s_l1 : (Int × Int)) (one_l1 : (Int × Int)) => ((pls s_l1 one_l1) : (Int × Int))) ((0 : Int), (1 : Int)) x0).2 * ((x0.length : Nat) : Int))).2)).2 * (pls one_l2 (((0 : Int) - (frI ((List.foldl (fun (s_l1 : (Int × Int)) (one_l1 : (Int × Int)) => ((pls s_l1 one_l1) : (Int × Int))) ((0 : Int), (1 : Int)) x0).1) ((List.foldl (fun (s_l1 : (Int × Int)) (one_l1 : (Int × Int)) => ((pls s_l1 one_l1) : (Int × Int))) ((0 : Int), (1 : Int)) x0).2 * ((x0.length : Nat) : Int))).1), (frI ((List.foldl (fun (s_l1 : (Int × Int)) (one_l1 : (Int × Int)) => ((pls s_l1 one_l1) : (Int × Int))) ((0 : Int), (1 : Int)) x0).1) ((List.foldl (fun (s_l1 : (Int × Int)) (one_l1 : (Int × Int)) => ((pls s_l1 one_l1) : (Int × Int))) ((0 : Int), (1 : Int)) x0).2 * ((x0.length : Nat) : Int))).2)).2))) : (Int × Int))) ((0 : Int), (1 : Int)) x0)
theorem ok__law_squares (T : Txt K mg) : Ok P w K mg base CX0 3 "_law_squares" ["_law_some"] (sp1 K ((fun l => l ≠ [] ∧ l.length ≤ 8 ∧ ∀ p ∈ l, Sz 10 p) : (List (Int × Int)) → Prop) m__law_squares) := by
  refine ok_of T.d__law_squares sc__law_squares (bi1 fun _ _ _ _ _ _ _ => rfl) len_sp1 (fun f cdv A outer s H vs Q E hr h => ?_)
  have nd := sc__law_squares.nd
  obtain ⟨v0, x0, rfl, r0, hp, q⟩ := h
  refine ⟨_, (pss_cons (ps_asg (pe_tup (pa_cons (pe_tup (pa_cons pe_int (pa_cons pe_int pa_nil))) (pa_cons (pe_tup (pa_cons pe_int (pa_cons pe_int pa_nil))) pa_nil))) (k_gt K rfl 2 rfl (pgs_cons (pg_name (i := 1) nd rfl (.inl rfl) (.inr rfl)) (pgs_cons (pg_name (i := 2) nd rfl (.inl rfl) (.inr rfl)) pgs_nil))))
      (pss_cons (ps_for PassesOwn.never rfl (k_pl K rfl (pv 0)) (pg_name (i := 3) nd rfl (.inl rfl) (.inr rfl)) (pss_one (ps_set (i := 1) nd rfl (.inl rfl) (pe_fn (ok__law_add T) (hr.mono (by decide)) pass0 (pa_cons (pv 1) (pa_cons (pv 3) pa_nil))))))
      (pss_cons (ps_set (i := 4) nd rfl (.inl rfl) (pe_fn (ok__law_low T) (hr.mono (by decide)) pass0 (pa_cons (pe_ix (k_ixt K rfl) (pv 1) pe_int (fun _ _ => rfl)) (pa_cons (pe_op op_mulW (pe_ix (k_ixt K rfl) (pv 1) pe_int (fun _ _ => rfl)) (pe_callB (k_len K rfl) (by rfl) T.n_len PySem.boot_len (pa_cons (pv 0) pa_nil))) pa_nil))))
      (pss_cons (ps_for PassesOwn.never rfl (k_pl K rfl (pv 0)) (pg_name (i := 3) nd rfl (.inl rfl) (.inr rfl)) (pss_cons (ps_set (i := 5) nd rfl (.inl rfl) (pe_fn (ok__law_add T) (hr.mono (by decide)) pass0 (pa_cons (pv 3) (pa_cons (pe_tup (pa_cons (pe_op op_sub pe_int (pe_ix (k_ixt K rfl) (pv 4) pe_int (fun _ _ => rfl))) (pa_cons (pe_ix (k_ixt K rfl) (pv 4) pe_int (fun _ _ => rfl)) pa_nil))) pa_nil))))
      (pss_one (ps_set (i := 2) nd rfl (.inl rfl) (pe_fn (ok__law_add T) (hr.mono (by decide)) pass0 (pa_cons (pv 2) (pa_cons (pe_fn (ok__law_low T) (hr.mono (by decide)) pass0 (pa_cons (pe_op op_mulW (pe_ix (k_ixt K rfl) (pv 5) pe_int (fun _ _ => rfl)) (pe_ix (k_ixt K rfl) (pv 5) pe_int (fun _ _ => rfl))) (pa_cons (pe_op op_mulW (pe_ix (k_ixt K rfl) (pv 5) pe_int (fun _ _ => rfl)) (pe_ix (k_ixt K rfl) (pv 5) pe_int (fun _ _ => rfl))) pa_nil))) pa_nil)))))))
      (pss_one (ps_ret (pv 2))))))), ?_⟩
  refine q_unp (K := K) (er_pair (er_pair er_int er_int) (er_pair er_int er_int)) (fun v722 v723 _ e719 r720 r721 => ?_)
  -- for _law_one in _law_some
  refine q_for (K := K) (src_list (er_var rfl (Rp.mono (SF.of e719) r0))) (fun H1 k σ' H' => ∃ (s_l1 : (Int × Int)) (w725 : V) (y726 : Option V), σ' = [some v0, some w725, some v723, y726, none, none] ∧ s_l1 = (List.take k x0).foldl (fun (s_l1 : (Int × Int)) (one_l1 : (Int × Int)) => ((pls s_l1 one_l1) : (Int × Int))) ((0 : Int), (1 : Int)) ∧ Mus [] H1 H' ∧ Rp.rep K H' w725 s_l1) (fun H1 e => ⟨((0 : Int), (1 : Int)), _, _, rfl, rfl, Mus.refl _, (Rp.mono (SF.of e) r720)⟩) (fun _ _ _ _ h => by obtain ⟨_, _, _, _, _, m, _⟩ := h; exact m.sf) (fun H1 k733 one_l1 σ' H' vone_l1 _ e730 hx729 hP e731 rone_l1 => ?_) (fun H1 σ' H' e730 hP => ?_)
  ·
    obtain ⟨s_l1, w725, y726, rfl, hs727, m732, r734⟩ := hP
    refine s_gn ?_
    have hone_l1 := List.mem_of_getElem? hx729
    have hturn1 := hs727
    refine q_last ?_
    have r736 := (Rp.mono ((((SF.of e719).trans (SF.of e730)).trans m732.sf).trans (SF.of e731)) r0)
    refine q_set (K := K) (er_call2 (er_var rfl (Rp.mono (SF.of e731) r734)) (er_var rfl rone_l1) (by first | exact ⟨by rw [hturn1]; exact (ltot_sz (by rw [List.length_take]; have := hp.2.1; omega) (fun x hx => hp.2.2 x (List.mem_of_mem_take hx))).le (by decide), (hp.2.2 _ hone_l1).le (by decide)⟩ | exact ⟨(hp.2.2 _ hone_l2).le (by decide), (sz_neg0 (lm_sz hp.1 hp.2.1 hp.2.2)).le (by decide)⟩ | exact ⟨by rw [hturn2]; exact (lfold_sz hp (fun x hx => List.mem_of_mem_take hx) (by rw [List.length_take]; have := hp.2.1; omega)).le (by decide), (sz_tms (gap_sz hp (hp.2.2 _ hone_l2)) (gap_sz hp (hp.2.2 _ hone_l2))).le (by decide)⟩)) (fun v739 _ e737 r738 => ?_)
    refine s_nx ?_
    exact ⟨(pls s_l1 one_l1), _, _, rfl, (fold_step hx729 hs727), (((Mus.baseS (Mus.refl _) m732 all0).trans (Mus.of e731)).trans (Mus.of e737)), r738⟩
  ·
    obtain ⟨s_l1, w725, y726, rfl, hs727, m732, r734⟩ := hP
    replace hs727 := fold_all hs727
    subst hs727
    refine q_set (K := K) (er_call2 (er_op (er_var rfl r734) er_int rr_ixP0) (er_op (er_op (er_var rfl r734) er_int rr_ixP1) (er_up (er_len (er_var rfl (Rp.mono (((SF.of e719).trans (SF.of e730)).trans m732.sf) r0)))) (rr_mulW (by first | exact cmulW (k := 89) (ltot_sz hp.2.1 hp.2.2).2.1 (Nat.lt_of_lt_of_le (n_sz hp.1 hp.2.1).2.1 (pow_le2 (by decide))) (by decide) (by decide) | exact cmulW (gap_sz hp (hp.2.2 _ hone_l2)).2.2 (gap_sz hp (hp.2.2 _ hone_l2)).2.2 (by decide) (by decide) | exact cmulW (gap_sz hp (hp.2.2 _ hone_l2)).2.1 (gap_sz hp (hp.2.2 _ hone_l2)).2.1 (by decide) (by decide)))) (by first | exact sz_pre (ltot_sz hp.2.1 hp.2.2) (n_sz hp.1 hp.2.1) (by decide) | exact sz_pre (gap_sz hp (hp.2.2 _ hone_l2)) (gap_sz hp (hp.2.2 _ hone_l2)) (by decide))) (fun v742 _ e740 r741 => ?_)
    have r743 := (Rp.mono ((((SF.of e719).trans (SF.of e730)).trans m732.sf).trans (SF.of e740)) r0)
    -- for _law_one in _law_some
    refine q_for (K := K) (src_list (er_var rfl r743)) (fun H1 k σ' H' => ∃ (s_l2 : (Int × Int)) (w745 : V) (y746 : Option V) (y747 : Option V), σ' = [some v0, some w725, some w745, y746, some v742, y747] ∧ s_l2 = (List.take k x0).foldl (fun (s_l2 : (Int × Int)) (one_l2 : (Int × Int)) => ((pls s_l2 (frI ((pls one_l2 (((0 : Int) - (frI ((List.foldl (fun (s_l1 : (Int × Int)) (one_l1 : (Int × Int)) => ((pls s_l1 one_l1) : (Int × Int))) ((0 : Int), (1 : Int)) x0).1) ((List.foldl (fun (s_l1 : (Int × Int)) (one_l1 : (Int × Int)) => ((pls s_l1 one_l1) : (Int × Int))) ((0 : Int), (1 : Int)) x0).2 * ((x0.length : Nat) : Int))).1), (frI ((List.foldl (fun (s_l1 : (Int × Int)) (one_l1 : (Int × Int)) => ((pls s_l1 one_l1) : (Int × Int))) ((0 : Int), (1 : Int)) x0).1) ((List.foldl (fun (s_l1 : (Int × Int)) (one_l1 : (Int × Int)) => ((pls s_l1 one_l1) : (Int × Int))) ((0 : Int), (1 : Int)) x0).2 * ((x0.length : Nat) : Int))).2)).1 * (pls one_l2 (((0 : Int) - (frI ((List.foldl (fun (s_l1 : (Int × Int)) (one_l1 : (Int × Int)) => ((pls s_l1 one_l1) : (Int × Int))) ((0 : Int), (1 : Int)) x0).1) ((List.foldl (fun (s_l1 : (Int × Int)) (one_l1 : (Int × Int)) => ((pls s_l1 one_l1) : (Int × Int))) ((0 : Int), (1 : Int)) x0).2 * ((x0.length : Nat) : Int))).1), (frI ((List.foldl (fun (s_l1 : (Int × Int)) (one_l1 : (Int × Int)) => ((pls s_l1 one_l1) : (Int × Int))) ((0 : Int), (1 : Int)) x0).1) ((List.foldl (fun (s_l1 : (Int × Int)) (one_l1 : (Int × Int)) => ((pls s_l1 one_l1) : (Int × Int))) ((0 : Int), (1 : Int)) x0).2 * ((x0.length : Nat) : Int))).2)).1) ((pls one_l2 (((0 : Int) - (frI ((List.foldl (fun (s_l1 : (Int × Int)) (one_l1 : (Int × Int)) => ((pls s_l1 one_l1) : (Int × Int))) ((0 : Int), (1 : Int)) x0).1) ((List.foldl (fun (s_l1 : (Int × Int)) (one_l1 : (Int × Int)) => ((pls s_l1 one_l1) : (Int × Int))) ((0 : Int), (1 : Int)) x0).2 * ((x0.length : Nat) : Int))).1), (frI ((List.foldl (fun (s_l1 : (Int × Int)) (one_l1 : (Int × Int)) => ((pls s_l1 one_l1) : (Int × Int))) ((0 : Int), (1 : Int)) x0).1) ((List.foldl (fun (s_l1 : (Int × Int)) (one_l1 : (Int × Int)) => ((pls s_l1 one_l1) : (Int × Int))) ((0 : Int), (1 : Int)) x0).2 * ((x0.length : Nat) : Int))).2)).2 * (pls one_l2 (((0 : Int) - (frI ((List.foldl (fun (s_l1 : (Int × Int)) (one_l1 : (Int × Int)) => ((pls s_l1 one_l1) : (Int × Int))) ((0 : Int), (1 : Int)) x0).1) ((List.foldl (fun (s_l1 : (Int × Int)) (one_l1 : (Int × Int)) => ((pls s_l1 one_l1) : (Int × Int))) ((0 : Int), (1 : Int)) x0).2 * ((x0.length : Nat) : Int))).1), (frI ((List.foldl (fun (s_l1 : (Int × Int)) (one_l1 : (Int × Int)) => ((pls s_l1 one_l1) : (Int × Int))) ((0 : Int), (1 : Int)) x0).1) ((List.foldl (fun (s_l1 : (Int × Int)) (one_l1 : (Int × Int)) => ((pls s_l1 one_l1) : (Int × Int))) ((0 : Int), (1 : Int)) x0).2 * ((x0.length : Nat) : Int))).2)).2))) : (Int × Int))) ((0 : Int), (1 : Int)) ∧ Mus [] H1 H' ∧ Rp.rep K H' w745 s_l2) (fun H1 e => ⟨((0 : Int), (1 : Int)), _, _, _, rfl, rfl, Mus.refl _, (Rp.mono ((((SF.of e730).trans m732.sf).trans (SF.of e740)).trans (SF.of e)) r721)⟩) (fun _ _ _ _ h => by obtain ⟨_, _, _, _, _, _, m, _⟩ := h; exact m.sf) (fun H1 k754 one_l2 σ' H' vone_l2 _ e751 hx750 hP e752 rone_l2 => ?_) (fun H1 σ' H' e751 hP => ?_)
    ·
      obtain ⟨s_l2, w745, y746, y747, rfl, hs748, m753, r755⟩ := hP
      refine s_gn ?_
      have hone_l2 := List.mem_of_getElem? hx750
      have hturn2 := hs748
      have r757 := (Rp.mono ((((SF.of e740).trans (SF.of e751)).trans m753.sf).trans (SF.of e752)) r734)
      refine q_set (K := K) (er_call2 (er_var rfl rone_l2) (er_pair (er_op er_int (er_op (er_var rfl (Rp.mono (((SF.of e751).trans m753.sf).trans (SF.of e752)) r741)) er_int rr_ixP0) rr_sub) (er_op (er_var rfl (Rp.mono (((SF.of e751).trans m753.sf).trans (SF.of e752)) r741)) er_int rr_ixP1)) (by first | exact ⟨by rw [hturn1]; exact (ltot_sz (by rw [List.length_take]; have := hp.2.1; omega) (fun x hx => hp.2.2 x (List.mem_of_mem_take hx))).le (by decide), (hp.2.2 _ hone_l1).le (by decide)⟩ | exact ⟨(hp.2.2 _ hone_l2).le (by decide), (sz_neg0 (lm_sz hp.1 hp.2.1 hp.2.2)).le (by decide)⟩ | exact ⟨by rw [hturn2]; exact (lfold_sz hp (fun x hx => List.mem_of_mem_take hx) (by rw [List.length_take]; have := hp.2.1; omega)).le (by decide), (sz_tms (gap_sz hp (hp.2.2 _ hone_l2)) (gap_sz hp (hp.2.2 _ hone_l2))).le (by decide)⟩)) (fun v760 _ e758 r759 => ?_)
      refine q_last ?_
      have r761 := (Rp.mono ((((SF.of e751).trans m753.sf).trans (SF.of e752)).trans (SF.of e758)) r743)
      have r762 := (Rp.mono ((((SF.of e751).trans m753.sf).trans (SF.of e752)).trans (SF.of e758)) r741)
      refine q_set (K := K) (er_call2 (er_var rfl (Rp.mono ((SF.of e752).trans (SF.of e758)) r755)) (er_call2 (er_op (er_op (er_var rfl r759) er_int rr_ixP0) (er_op (er_var rfl r759) er_int rr_ixP0) (rr_mulW (by first | exact cmulW (k := 89) (ltot_sz hp.2.1 hp.2.2).2.1 (Nat.lt_of_lt_of_le (n_sz hp.1 hp.2.1).2.1 (pow_le2 (by decide))) (by decide) (by decide) | exact cmulW (gap_sz hp (hp.2.2 _ hone_l2)).2.2 (gap_sz hp (hp.2.2 _ hone_l2)).2.2 (by decide) (by decide) | exact cmulW (gap_sz hp (hp.2.2 _ hone_l2)).2.1 (gap_sz hp (hp.2.2 _ hone_l2)).2.1 (by decide) (by decide)))) (er_op (er_op (er_var rfl r759) er_int rr_ixP1) (er_op (er_var rfl r759) er_int rr_ixP1) (rr_mulW (by first | exact cmulW (k := 89) (ltot_sz hp.2.1 hp.2.2).2.1 (Nat.lt_of_lt_of_le (n_sz hp.1 hp.2.1).2.1 (pow_le2 (by decide))) (by decide) (by decide) | exact cmulW (gap_sz hp (hp.2.2 _ hone_l2)).2.2 (gap_sz hp (hp.2.2 _ hone_l2)).2.2 (by decide) (by decide) | exact cmulW (gap_sz hp (hp.2.2 _ hone_l2)).2.1 (gap_sz hp (hp.2.2 _ hone_l2)).2.1 (by decide) (by decide)))) (by first | exact sz_pre (ltot_sz hp.2.1 hp.2.2) (n_sz hp.1 hp.2.1) (by decide) | exact sz_pre (gap_sz hp (hp.2.2 _ hone_l2)) (gap_sz hp (hp.2.2 _ hone_l2)) (by decide))) (by first | exact ⟨by rw [hturn1]; exact (ltot_sz (by rw [List.length_take]; have := hp.2.1; omega) (fun x hx => hp.2.2 x (List.mem_of_mem_take hx))).le (by decide), (hp.2.2 _ hone_l1).le (by decide)⟩ | exact ⟨(hp.2.2 _ hone_l2).le (by decide), (sz_neg0 (lm_sz hp.1 hp.2.1 hp.2.2)).le (by decide)⟩ | exact ⟨by rw [hturn2]; exact (lfold_sz hp (fun x hx => List.mem_of_mem_take hx) (by rw [List.length_take]; have := hp.2.1; omega)).le (by decide), (sz_tms (gap_sz hp (hp.2.2 _ hone_l2)) (gap_sz hp (hp.2.2 _ hone_l2))).le (by decide)⟩)) (fun v765 _ e763 r764 => ?_)
      refine s_nx ?_
      exact ⟨(pls s_l2 (frI ((pls one_l2 (((0 : Int) - (frI ((List.foldl (fun (s_l1 : (Int × Int)) (one_l1 : (Int × Int)) => ((pls s_l1 one_l1) : (Int × Int))) ((0 : Int), (1 : Int)) x0).1) ((List.foldl (fun (s_l1 : (Int × Int)) (one_l1 : (Int × Int)) => ((pls s_l1 one_l1) : (Int × Int))) ((0 : Int), (1 : Int)) x0).2 * ((x0.length : Nat) : Int))).1), (frI ((List.foldl (fun (s_l1 : (Int × Int)) (one_l1 : (Int × Int)) => ((pls s_l1 one_l1) : (Int × Int))) ((0 : Int), (1 : Int)) x0).1) ((List.foldl (fun (s_l1 : (Int × Int)) (one_l1 : (Int × Int)) => ((pls s_l1 one_l1) : (Int × Int))) ((0 : Int), (1 : Int)) x0).2 * ((x0.length : Nat) : Int))).2)).1 * (pls one_l2 (((0 : Int) - (frI ((List.foldl (fun (s_l1 : (Int × Int)) (one_l1 : (Int × Int)) => ((pls s_l1 one_l1) : (Int × Int))) ((0 : Int), (1 : Int)) x0).1) ((List.foldl (fun (s_l1 : (Int × Int)) (one_l1 : (Int × Int)) => ((pls s_l1 one_l1) : (Int × Int))) ((0 : Int), (1 : Int)) x0).2 * ((x0.length : Nat) : Int))).1), (frI ((List.foldl (fun (s_l1 : (Int × Int)) (one_l1 : (Int × Int)) => ((pls s_l1 one_l1) : (Int × Int))) ((0 : Int), (1 : Int)) x0).1) ((List.foldl (fun (s_l1 : (Int × Int)) (one_l1 : (Int × Int)) => ((pls s_l1 one_l1) : (Int × Int))) ((0 : Int), (1 : Int)) x0).2 * ((x0.length : Nat) : Int))).2)).1) ((pls one_l2 (((0 : Int) - (frI ((List.foldl (fun (s_l1 : (Int × Int)) (one_l1 : (Int × Int)) => ((pls s_l1 one_l1) : (Int × Int))) ((0 : Int), (1 : Int)) x0).1) ((List.foldl (fun (s_l1 : (Int × Int)) (one_l1 : (Int × Int)) => ((pls s_l1 one_l1) : (Int × Int))) ((0 : Int), (1 : Int)) x0).2 * ((x0.length : Nat) : Int))).1), (frI ((List.foldl (fun (s_l1 : (Int × Int)) (one_l1 : (Int × Int)) => ((pls s_l1 one_l1) : (Int × Int))) ((0 : Int), (1 : Int)) x0).1) ((List.foldl (fun (s_l1 : (Int × Int)) (one_l1 : (Int × Int)) => ((pls s_l1 one_l1) : (Int × Int))) ((0 : Int), (1 : Int)) x0).2 * ((x0.length : Nat) : Int))).2)).2 * (pls one_l2 (((0 : Int) - (frI ((List.foldl (fun (s_l1 : (Int × Int)) (one_l1 : (Int × Int)) => ((pls s_l1 one_l1) : (Int × Int))) ((0 : Int), (1 : Int)) x0).1) ((List.foldl (fun (s_l1 : (Int × Int)) (one_l1 : (Int × Int)) => ((pls s_l1 one_l1) : (Int × Int))) ((0 : Int), (1 : Int)) x0).2 * ((x0.length : Nat) : Int))).1), (frI ((List.foldl (fun (s_l1 : (Int × Int)) (one_l1 : (Int × Int)) => ((pls s_l1 one_l1) : (Int × Int))) ((0 : Int), (1 : Int)) x0).1) ((List.foldl (fun (s_l1 : (Int × Int)) (one_l1 : (Int × Int)) => ((pls s_l1 one_l1) : (Int × Int))) ((0 : Int), (1 : Int)) x0).2 * ((x0.length : Nat) : Int))).2)).2))), _, _, _, rfl, (fold_step hx750 hs748), ((((Mus.baseS (Mus.refl _) m753 all0).trans (Mus.of e752)).trans (Mus.of e758)).trans (Mus.of e763)), r764⟩
    ·
      obtain ⟨s_l2, w745, y746, y747, rfl, hs748, m753, r755⟩ := hP
      replace hs748 := fold_all hs748
      subst hs748
      exact s_ret (K := K) (er_var rfl r755) (fun u _ e766 rr => q u _ (Mus.same0 ((Mus.baseS (((Mus.baseS (((Mus.refl _).trans (Mus.of e719)).trans (Mus.of e730)) m732 all0).trans (Mus.of e740)).trans (Mus.of e751)) m753 all0).trans (Mus.of e766))) rr)
def m__law_near (x0 : (List (Int × Int))) (x1 : (Int × Int)) : (List (Int × Int)) := (List.foldl (fun (s_l1 : (List (Int × Int))) (low_here_high_l1 : (Int × Int)) => ((s_l1 ++ [(if (m__law_below x1 (low_here_high_l1.1, (1 : Int))) = true then (low_here_high_l1.1, (1 : Int)) else (if (m__law_below (low_here_high_l1.2, (1 : Int)) x1) = true then (low_here_high_l1.2, (1 : Int)) else x1))]) : (List (Int × Int)))) ([] : (List (Int × Int))) x0)
theorem ok__law_near (T : Txt K mg) : Ok P w K mg base CX0 2 "_law_near" ["_law_bounds_here", "_law_number"] (sl2 K ((fun b p => b.length ≤ 8 ∧ (∀ t ∈ b, -50 ≤ t.1 ∧ t.1 ≤ 50 ∧ -50 ≤ t.2 ∧ t.2 ≤ 50) ∧ Sz 2000 p) : (List (Int × Int)) → (Int × Int) → Prop) m__law_near) := by
  refine ok_of T.d__law_near sc__law_near (bi2 fun _ _ _ _ _ _ _ _ => rfl) len_sl2 (fun f cdv A outer s H vs Q E hr h => ?_)
  have nd := sc__law_near.nd
  obtain ⟨v0, v1, x0, x1, rfl, r0, r1, hp, q⟩ := h
  refine ⟨_, (pss_cons (ps_set (i := 2) nd rfl (.inl rfl) (pe_lst pa_nil))
      (pss_cons (ps_for PassesOwn.never rfl (k_pl K rfl (pv 0)) (k_gt K rfl 2 rfl (pgs_cons (pg_name (i := 3) nd rfl (.inl rfl) (.inr rfl)) (pgs_cons (pg_name (i := 4) nd rfl (.inl rfl) (.inr rfl)) pgs_nil))) (pss_one (ps_expr (k_app K rfl (pv 2) (pe_ifExp (pt_val (pe_fn (ok__law_below T) (hr.mono (by decide)) pass0 (pa_cons (pv 1) (pa_cons (pe_tup (pa_cons (pv 3) (pa_cons pe_int pa_nil))) pa_nil)))) (pe_tup (pa_cons (pv 3) (pa_cons pe_int pa_nil))) (pe_ifExp (pt_val (pe_fn (ok__law_below T) (hr.mono (by decide)) pass0 (pa_cons (pe_tup (pa_cons (pv 4) (pa_cons pe_int pa_nil))) (pa_cons (pv 1) pa_nil)))) (pe_tup (pa_cons (pv 4) (pa_cons pe_int pa_nil))) (pv 1)))))))
      (pss_one (ps_ret (pv 2))))), ?_⟩
  refine q_setL (K := K) (erl_lst (α := (Int × Int)) ea_nil) (fun p767 _ _ e768 hn769 h770 rl771 => ?_)
  have f773 := Mus.fresh (Mus.refl _) nin0 hn769
  have u772 := Un.of h770 rl771
  -- for (_law_low_here, _law_high) in _law_bounds_here
  refine q_for (K := K) (src_list (er_var rfl (Rp.mono (SF.of e768) r0))) (fun H1 k σ' H' => ∃ (s_l1 : (List (Int × Int))) (y775 : Option V) (y776 : Option V), σ' = [some v0, some v1, some (.ref p767), y775, y776] ∧ s_l1 = (List.take k x0).foldl (fun (s_l1 : (List (Int × Int))) (low_here_high_l1 : (Int × Int)) => ((s_l1 ++ [(if (m__law_below x1 (low_here_high_l1.1, (1 : Int))) = true then (low_here_high_l1.1, (1 : Int)) else (if (m__law_below (low_here_high_l1.2, (1 : Int)) x1) = true then (low_here_high_l1.2, (1 : Int)) else x1))]) : (List (Int × Int)))) ([] : (List (Int × Int))) ∧ Mus [p767] H1 H' ∧ Un K H' p767 s_l1) (fun H1 e => ⟨([] : (List (Int × Int))), _, _, rfl, rfl, Mus.refl _, (Un.mono e u772)⟩) (fun _ _ _ _ h => by obtain ⟨_, _, _, _, _, m, _⟩ := h; exact m.sf) (fun H1 k783 low_here_high_l1 σ' H' vlow_here_high_l1 _ e780 hx779 hP e781 rlow_here_high_l1 => ?_) (fun H1 σ' H' e780 hP => ?_)
  ·
    obtain ⟨s_l1, y775, y776, rfl, hs777, m782, u784⟩ := hP
    obtain ⟨v786, v787, r788, r789, tg790⟩ := tg_pair (k := 3) (m := 4) rlow_here_high_l1
    refine tg790 _ ?_
    have hlow_here_high_l1 := List.mem_of_getElem? hx779
    have hturn1 := hs777
    refine q_last ?_
    have r791 := (Rp.mono ((((SF.of e768).trans (SF.of e780)).trans m782.sf).trans (SF.of e781)) r0)
    have r792 := (Rp.mono ((((SF.of e768).trans (SF.of e780)).trans m782.sf).trans (SF.of e781)) r1)
    refine q_app (K := K) rfl (Un.mono e781 u784) (er_if (et_B (er_call2 (er_var rfl r792) (er_pair (er_var rfl r788) er_int) (by first | exact ⟨hp.2.2, (sz_one (by have := hp.2.1 _ hlow_here_high_l1; omega)).le (by decide)⟩ | exact ⟨(sz_one (by have := hp.2.1 _ hlow_here_high_l1; omega)).le (by decide), hp.2.2⟩))) (fun _ => (er_pair (er_var rfl r788) er_int)) (fun _ => (er_if (et_B (er_call2 (er_pair (er_var rfl r789) er_int) (er_var rfl r792) (by first | exact ⟨hp.2.2, (sz_one (by have := hp.2.1 _ hlow_here_high_l1; omega)).le (by decide)⟩ | exact ⟨(sz_one (by have := hp.2.1 _ hlow_here_high_l1; omega)).le (by decide), hp.2.2⟩))) (fun _ => (er_pair (er_var rfl r789) er_int)) (fun _ => (er_var rfl r792))))) (by have g1 := fold_growE 1 hturn1 (fun s x _ => by simp); simp only [List.length_take, List.length_nil] at g1; have := hp.1; omega) (fun _ m793 u794 => ?_)
    refine s_nx ?_
    exact ⟨(s_l1 ++ [(if (m__law_below x1 (low_here_high_l1.1, (1 : Int))) = true then (low_here_high_l1.1, (1 : Int)) else (if (m__law_below (low_here_high_l1.2, (1 : Int)) x1) = true then (low_here_high_l1.2, (1 : Int)) else x1))]), _, _, rfl, (fold_step hx779 hs777), (((Mus.baseS (Mus.refl _) m782 (allC (.inr (.head _)) all0)).trans (Mus.of e781)).trans (Mus.mu m793 (.head _))), u794⟩
  ·
    obtain ⟨s_l1, y775, y776, rfl, hs777, m782, u784⟩ := hP
    replace hs777 := fold_all hs777
    subst hs777
    obtain ⟨us, h1, rr⟩ := u784
    exact ⟨.ref p767, rfl, q p767 us _ (Mus.same0 (Mus.baseS (((Mus.refl _).trans (Mus.of e768)).trans (Mus.of e780)) m782 (allC (.inl f773) all0))) f773 h1 rr⟩
end
end BL

set_option Elab.async false
set_option linter.all false
set_option maxRecDepth 100000
set_option maxHeartbeats 2000000
namespace BL
open PySem PySem.Spec PyProof.Rows L2
/-! ### the centre -/
def bR (b : List (Int × Int)) : List (Rat × Rat) := b.map fun p => ((p.1 : Rat), (p.2 : Rat))
theorem cast_le {a b : Int} (h : a ≤ b) : (a : Rat) ≤ (b : Rat) := Rat.intCast_le_intCast.mpr h
theorem bR_ord {b : List (Int × Int)} (h : ∀ p ∈ b, p.1 ≤ p.2) : ∀ p ∈ bR b, p.1 ≤ p.2 := fun q hq => by
  obtain ⟨p, hp, rfl⟩ := List.mem_map.mp hq
  exact cast_le (h p hp)
theorem below_fr (x y : Rat) : m__law_below (fr x) (fr y) = decide (x < y) := fr_lt x y
theorem less_fr (x y : Rat) : m_less (fr x) (fr y) = decide (x < y) := fr_lt x y
theorem clpF_fr (t : Rat) (p : Int × Int) : clpF (fr t) p = fr (clp (p.1 : Rat) (p.2 : Rat) t) := by
  unfold clpF clp
  rw [fr_int, fr_int, less_fr, less_fr]
  simp only [decide_eq_true_eq]
  split
  · rfl
  · split <;> rfl
theorem clip_fr (b : List (Int × Int)) (t : Rat) : m_clipped b (fr t) = (clps (bR b) t).map fr := by
  rw [clipped_map]
  unfold clps bR
  rw [List.map_map, List.map_map]
  exact List.map_congr_left fun p _ => clpF_fr t p
theorem near_fr (b : List (Int × Int)) (t : Rat) : m__law_near b (fr t) = (clps (bR b) t).map fr := by
  rw [← clip_fr, clipped_map]
  unfold m__law_near
  exact fold_app1 (clpF (fr t)) b []
theorem clps_ne {b : List (Int × Int)} (h : b ≠ []) (t : Rat) : clps (bR b) t ≠ [] := by
  unfold clps bR; simpa using h
theorem lmean_fr (l : List Rat) (h : l ≠ []) : lmean (l.map fr) = fr (s1 l / ln l) := by
  have hn : (0 : Int) < ((l.map fr).length : Int) := by rw [List.length_map]; have := List.length_pos_iff.mpr h; omega
  have hp := ln_pos h
  unfold lmean
  have e := fr_tot l 0
  rw [show ((0 : Int), (1 : Int)) = fr 0 from rfl, e, frI_fr (Int.mul_pos (fr_den _) hn)]
  congr 1
  rw [Rat.intCast_mul, List.length_map, ← ln_len]
  have a := fr_val (0 + s1 l)
  have p1 := cast_pos (fr_den (0 + s1 l))
  generalize ((fr (0 + s1 l)).1 : Rat) = u at *
  generalize ((fr (0 + s1 l)).2 : Rat) = v at *
  generalize ln l = n at *
  grind
theorem lsq_fr (l : List Rat) (h : l ≠ []) : m__law_squares (l.map fr) = fr (sq l) := by
  have hp := ln_pos h
  have e : (0 - (lmean (l.map fr)).1, (lmean (l.map fr)).2) = fr (-(s1 l / ln l)) := by rw [Int.zero_sub, lmean_fr l h]; exact fr_neg _
  show (l.map fr).foldl (fun s x => pls s (tms (pls x (0 - (lmean (l.map fr)).1, (lmean (l.map fr)).2)) (pls x (0 - (lmean (l.map fr)).1, (lmean (l.map fr)).2)))) (fr 0) = _
  rw [e, fr_gaps]
  congr 1
  unfold sq vr
  generalize ln l = n at *
  grind
/-! the fixed ones tell how far the sum is off -/
def fA (b : List (Int × Int)) (y : Int) : List Int := mapIf (fun t : Int × Int => decide (t.1 ≥ y)) (fun t => t.1) b
def fB (b : List (Int × Int)) (x : Int) : List Int := mapIf (fun t : Int × Int => decide (t.2 ≤ x)) (fun t => t.2) b
theorem fA_cons (p : Int × Int) (b : List (Int × Int)) (y : Int) : fA (p :: b) y = if p.1 ≥ y then p.1 :: fA b y else fA b y := by
  unfold fA mapIf
  rw [List.filter_cons]
  by_cases h : p.1 ≥ y
  · rw [if_pos (decide_eq_true h), if_pos h]; rfl
  · rw [if_neg (by simpa using h), if_neg h]
theorem fB_cons (p : Int × Int) (b : List (Int × Int)) (x : Int) : fB (p :: b) x = if p.2 ≤ x then p.2 :: fB b x else fB b x := by
  unfold fB mapIf
  rw [List.filter_cons]
  by_cases h : p.2 ≤ x
  · rw [if_pos (decide_eq_true h), if_pos h]; rfl
  · rw [if_neg (by simpa using h), if_neg h]
def off (l : List Int) (t : Rat) : Rat := (l.sum : Rat) - ((l.length : Int) : Rat) * t
theorem off_cons (v : Int) (l : List Int) (t : Rat) : off (v :: l) t = (v : Rat) - t + off l t := by
  unfold off
  rw [List.sum_cons, List.length_cons, Int.natCast_add, Rat.intCast_add, Rat.intCast_add]
  have : (((1 : Nat) : Int) : Rat) = 1 := rfl
  rw [this]; grind
theorem off_app (l r : List Int) (t : Rat) : off (l ++ r) t = off l t + off r t := by
  unfold off
  rw [List.sum_append, List.length_append, Int.natCast_add, Rat.intCast_add, Rat.intCast_add]; grind
theorem off_nil (t : Rat) : off [] t = 0 := by
  show ((0 : Int) : Rat) - ((0 : Int) : Rat) * t = 0
  have : ((0 : Int) : Rat) = 0 := rfl
  rw [this]; grind
theorem fixed_off {x y : Int} {t : Rat} (h1 : (x : Rat) ≤ t) (h2 : t ≤ (y : Rat)) : ∀ {b : List (Int × Int)}, (∀ p ∈ b, p.1 ≤ p.2 ∧ (p.1 ≤ x ∨ y ≤ p.1) ∧ (p.2 ≤ x ∨ y ≤ p.2)) →
    s1 (clps (bR b) t) - ln (clps (bR b) t) * t = off (fA b y) t + off (fB b x) t
  | [], _ => by
    show (0 : Rat) - 0 * t = off [] t + off [] t
    rw [off_nil]; grind
  | p :: b, h => by
    have ih := fixed_off h1 h2 (b := b) fun q hq => h q (List.mem_cons_of_mem _ hq)
    obtain ⟨a1, a2, a3⟩ := h p (List.mem_cons_self ..)
    show clp (p.1 : Rat) (p.2 : Rat) t + s1 (clps (bR b) t) - (ln (clps (bR b) t) + 1) * t = _
    have key : clp (p.1 : Rat) (p.2 : Rat) t - t = (if p.1 ≥ y then (p.1 : Rat) - t else 0) + (if p.2 ≤ x then (p.2 : Rat) - t else 0) := by
      have c1 := cast_le a1
      by_cases q1 : p.1 ≥ y
      · have d1 := cast_le q1
        rw [if_pos q1]
        by_cases q2 : p.2 ≤ x
        · have d2 := cast_le q2
          rw [if_pos q2]; unfold clp; grind
        · rw [if_neg q2]; unfold clp; grind
      · have d1 := cast_le (show p.1 ≤ x by omega)
        rw [if_neg q1]
        by_cases q2 : p.2 ≤ x
        · have d2 := cast_le q2
          rw [if_pos q2]; unfold clp; grind
        · have d2 := cast_le (show y ≤ p.2 by omega)
          rw [if_neg q2]; unfold clp; grind
    rw [fA_cons, fB_cons]
    have e1 : off (if p.1 ≥ y then p.1 :: fA b y else fA b y) t = (if p.1 ≥ y then (p.1 : Rat) - t else 0) + off (fA b y) t := by
      split
      · rw [off_cons]
      · grind
    have e2 : off (if p.2 ≤ x then p.2 :: fB b x else fB b x) t = (if p.2 ≤ x then (p.2 : Rat) - t else 0) + off (fB b x) t := by
      split
      · rw [off_cons]
      · grind
    rw [e1, e2]
    generalize (if p.1 ≥ y then (p.1 : Rat) - t else 0) = g1 at *
    generalize (if p.2 ≤ x then (p.2 : Rat) - t else 0) = g2 at *
    grind
theorem marks_ok {b : List (Int × Int)} (hB : BOk b) {x y : Int} (hm : (x, y) ∈ (marks b).zip ((marks b).drop 1)) : x ≤ y ∧ ∀ p ∈ b, p.1 ≤ p.2 ∧ (p.1 ≤ x ∨ y ≤ p.1) ∧ (p.2 ≤ x ∨ y ≤ p.2) := by
  obtain ⟨h1, _, _, h4⟩ := consec (srt_sorted _) hm
  exact ⟨h1, fun p hp => ⟨(hB.2.2 p hp).2.1, h4 _ (mem_marks hp).1, h4 _ (mem_marks hp).2⟩⟩
theorem fixed_at {b : List (Int × Int)} (hB : BOk b) {x y : Int} (hm : (x, y) ∈ (marks b).zip ((marks b).drop 1)) {t : Rat} (h1 : (x : Rat) ≤ t) (h2 : t ≤ (y : Rat)) : s1 (clps (bR b) t) - ln (clps (bR b) t) * t = off (fixed b x y) t := by
  rw [fixed_off h1 h2 (marks_ok hB hm).2]
  exact (off_app _ _ _).symm
theorem all_low {a : Rat} : ∀ {b : List (Rat × Rat)}, (∀ p ∈ b, p.1 ≤ p.2 ∧ a ≤ p.1) → 0 ≤ s1 (clps b a) - ln (clps b a) * a
  | [], _ => by show (0 : Rat) ≤ 0 - 0 * a; grind
  | p :: b, h => by
    have ih := all_low (b := b) fun q hq => h q (List.mem_cons_of_mem _ hq)
    have h1 := h p (List.mem_cons_self ..)
    have : a ≤ clp p.1 p.2 a := by unfold clp; grind
    show 0 ≤ clp p.1 p.2 a + s1 (clps b a) - (ln (clps b a) + 1) * a
    grind
theorem all_high {a : Rat} : ∀ {b : List (Rat × Rat)}, (∀ p ∈ b, p.1 ≤ p.2 ∧ p.2 ≤ a) → s1 (clps b a) - ln (clps b a) * a ≤ 0
  | [], _ => by show (0 : Rat) - 0 * a ≤ 0; grind
  | p :: b, h => by
    have ih := all_high (b := b) fun q hq => h q (List.mem_cons_of_mem _ hq)
    have h1 := h p (List.mem_cons_self ..)
    have : clp p.1 p.2 a ≤ a := by unfold clp; grind
    show clp p.1 p.2 a + s1 (clps b a) - (ln (clps b a) + 1) * a ≤ 0
    grind
theorem all_in {c : Rat} : ∀ {b : List (Rat × Rat)}, (∀ p ∈ b, p.1 ≤ c ∧ c ≤ p.2) → Cen b c
  | [], _ => by show (0 : Rat) = 0 * c; grind
  | p :: b, h => by
    have ih := all_in (b := b) fun q hq => h q (List.mem_cons_of_mem _ hq)
    have h1 := h p (List.mem_cons_self ..)
    have : clp p.1 p.2 c = c := by unfold clp; grind
    unfold Cen at *
    show clp p.1 p.2 c + s1 (clps b c) = (ln (clps b c) + 1) * c
    grind
/-- the number that is tried between two marks -/
theorem num_fr {b : List (Int × Int)} (hB : BOk b) (hc : ¬ mxl (m_lows b) ≤ mnl (m_highs b)) {x y : Int} (hm : (x, y) ∈ (marks b).zip ((marks b).drop 1)) :
    ∃ t : Rat, frI (fixed b x y).sum (fixed b x y).length = fr t ∧ off (fixed b x y) t = 0 ∧ 0 < (((fixed b x y).length : Int) : Rat) := by
  have h := (num_sz hB hc hm).1
  have hp := cast_pos h
  refine ⟨_, frI_fr h, ?_, hp⟩
  unfold off
  grind
theorem cross_marks {b : List (Int × Int)} (hB : BOk b) : ∃ x y, (x, y) ∈ (marks b).zip ((marks b).drop 1) ∧ 0 ≤ s1 (clps (bR b) (x : Rat)) - ln (clps (bR b) (x : Rat)) * (x : Rat) ∧ s1 (clps (bR b) (y : Rat)) - ln (clps (bR b) (y : Rat)) * (y : Rat) ≤ 0 := by
  have hs := srt_sorted (b.map (fun p => p.1) ++ b.map fun p => p.2)
  have hlen : (marks b).length ≥ 2 := by unfold marks; rw [srt_len, List.length_append, List.length_map, List.length_map]; have := hB.1; omega
  have hmem := fun (p : Int × Int) (hp : p ∈ b) => mem_marks hp
  have hs : (marks b).Pairwise (· ≤ ·) := hs
  generalize marks b = l at *
  cases l with
  | nil => simp at hlen
  | cons a r =>
    have hz : (a :: r).getLast? = some ((a :: r).getLastD 0) := last_atD (by simp)
    refine cross (f := fun m : Int => s1 (clps (bR b) (m : Rat)) - ln (clps (bR b) (m : Rat)) * (m : Rat)) (a := a) rfl hz hlen ?_ ?_
    · refine all_low fun q hq => ?_
      obtain ⟨p, hp, rfl⟩ := List.mem_map.mp hq
      refine ⟨cast_le (hB.2.2 p hp).2.1, cast_le ?_⟩
      rcases List.mem_cons.mp (hmem p hp).1 with e | e
      · omega
      · exact (List.pairwise_cons.mp hs).1 _ e
    · refine all_high fun q hq => ?_
      obtain ⟨p, hp, rfl⟩ := List.mem_map.mp hq
      refine ⟨cast_le (hB.2.2 p hp).2.1, cast_le ?_⟩
      have := sorted_last hs _ (hmem p hp).2
      rw [show (a :: r).getLastD 0 = (a :: r).getD ((a :: r).length - 1) 0 by rw [List.getLastD_eq_getLast?, List.getLast?_eq_getElem?, List.getD_eq_getElem?_getD]]
      exact this
theorem zm' {b : List (Int × Int)} {t : Int × Int} (h : t ∈ (marks b).zip ((marks b).drop 1)) : t ∈ (srt (m_lows b ++ m_highs b)).zip (cutL (srt (m_lows b ++ m_highs b)) (some (1 : Int)) none) := by
  rw [show (1 : Int) = ((1 : Nat) : Int) from rfl, cutL_from]
  exact h
theorem cen_fr {b : List (Int × Int)} (hB : BOk b) : ∃ c : Rat, m_centre_of b = fr c ∧ Cen (bR b) c := by
  unfold m_centre_of
  split
  · rename_i h
    have h := of_decide_eq_true h
    refine ⟨_, fr_int _, all_in fun q hq => ?_⟩
    obtain ⟨p, hp, rfl⟩ := List.mem_map.mp hq
    have h1 : p.1 ≤ mxl (m_lows b) := mxl_le (List.mem_map.mpr ⟨p, hp, rfl⟩)
    have h2 : mnl (m_highs b) ≤ p.2 := mnl_le (List.mem_map.mpr ⟨p, hp, rfl⟩)
    exact ⟨cast_le h1, cast_le (by omega)⟩
  · rename_i hc
    have hc := of_decide_eq_false (Bool.eq_false_iff.mpr hc)
    split
    · rename_i r h
      obtain ⟨u, hu, e⟩ := List.exists_of_findSome?_eq_some h
      obtain ⟨t, e1, e2, e3⟩ := num_fr hB hc (zm hu)
      have e1' : frI ((mapIf (fun (x : Int × Int) => decide (x.1 ≥ u.2)) (fun (x : Int × Int) => x.1) b ++ mapIf (fun (x : Int × Int) => decide (x.2 ≤ u.1)) (fun (x : Int × Int) => x.2) b)).sum ((mapIf (fun (x : Int × Int) => decide (x.1 ≥ u.2)) (fun (x : Int × Int) => x.1) b ++ mapIf (fun (x : Int × Int) => decide (x.2 ≤ u.1)) (fun (x : Int × Int) => x.2) b).length : Int) = fr t := e1
      rw [e1'] at e
      split at e
      · rename_i hcond
        cases e
        refine ⟨t, rfl, ?_⟩
        rw [fr_int, fr_int, less_fr, less_fr, Bool.and_eq_true, Bool.not_eq_true', Bool.not_eq_true'] at hcond
        have b1 := of_decide_eq_false hcond.1
        have b2 := of_decide_eq_false hcond.2
        have := fixed_at hB (zm hu) (t := t) (by grind) (by grind)
        rw [e2] at this
        unfold Cen; grind
      · cases e
    · rename_i h
      exfalso
      obtain ⟨x, y, hm, f1, f2⟩ := cross_marks hB
      have hn := List.findSome?_eq_none_iff.mp h _ (zm' hm)
      obtain ⟨t, e1, e2, e3⟩ := num_fr hB hc hm
      have hxy := cast_le (marks_ok hB hm).1
      rw [fixed_at hB hm (Rat.le_refl) hxy] at f1
      rw [fixed_at hB hm hxy (Rat.le_refl)] at f2
      have tx : (x : Rat) ≤ t := by
        unfold off at f1 e2
        have : 0 ≤ (((fixed b x y).length : Int) : Rat) * (t - x) := by grind
        by_cases q : (x : Rat) ≤ t
        · exact q
        · have := Rat.mul_pos e3 (show 0 < (x : Rat) - t by grind)
          grind
      have ty : t ≤ (y : Rat) := by
        unfold off at f2 e2
        have : 0 ≤ (((fixed b x y).length : Int) : Rat) * (y - t) := by grind
        by_cases q : t ≤ (y : Rat)
        · exact q
        · have := Rat.mul_pos e3 (show 0 < t - (y : Rat) by grind)
          grind
      have e1' : frI ((mapIf (fun (z : Int × Int) => decide (z.1 ≥ (x, y).2)) (fun (z : Int × Int) => z.1) b ++ mapIf (fun (z : Int × Int) => decide (z.2 ≤ (x, y).1)) (fun (z : Int × Int) => z.2) b)).sum ((mapIf (fun (z : Int × Int) => decide (z.1 ≥ (x, y).2)) (fun (z : Int × Int) => z.1) b ++ mapIf (fun (z : Int × Int) => decide (z.2 ≤ (x, y).1)) (fun (z : Int × Int) => z.2) b).length : Int) = fr t := e1
      rw [e1', if_pos] at hn
      · cases hn
      · rw [fr_int, fr_int, less_fr, less_fr, Bool.and_eq_true, Bool.not_eq_true', Bool.not_eq_true']
        exact ⟨decide_eq_false (by show ¬ t < (x : Rat); grind), decide_eq_false (by show ¬ (y : Rat) < t; grind)⟩
section
variable {b : List (Int × Int)}
theorem near_map (b : List (Int × Int)) (p : Int × Int) : m__law_near b p = m_clipped b p := by
  rw [clipped_map]
  unfold m__law_near
  exact fold_app1 (clpF p) b []
theorem near_sz (hB : BOk b) {p : Int × Int} (hp : Sz 10 p) : m__law_near b p ≠ [] ∧ (m__law_near b p).length ≤ 8 ∧ ∀ q ∈ m__law_near b p, Sz 10 q := by rw [near_map]; exact clip_sz hB hp
theorem near_pre (hB : BOk b) {p : Int × Int} (hp : Sz 10 p) : b.length ≤ 8 ∧ (∀ t ∈ b, -50 ≤ t.1 ∧ t.1 ≤ 50 ∧ -50 ≤ t.2 ∧ t.2 ≤ 50) ∧ Sz 2000 p := ⟨by have := hB.2.1; omega, fun t ht => by have := hB.2.2 t ht; omega, hp.le (by decide)⟩
theorem lsq_sz {l : List (Int × Int)} (hp : l ≠ [] ∧ l.length ≤ 8 ∧ ∀ p ∈ l, Sz 10 p) : Sz 1900 (m__law_squares l) := lfold_sz hp (fun _ h => h) hp.2.1
theorem least_sz (hB : BOk b) : Sz 1900 (m_least_squares b) := sam_sz (clip_sz hB (cen_sz hB))
theorem bne (hB : BOk b) : b ≠ [] := fun e => by have := hB.1; rw [e] at this; simp at this
theorem least_fr (hB : BOk b) : ∃ c : Rat, m_centre_of b = fr c ∧ Cen (bR b) c ∧ m_least_squares b = fr (sq (clps (bR b) c)) := by
  obtain ⟨c, e, hc⟩ := cen_fr hB
  refine ⟨c, e, hc, ?_⟩
  unfold m_least_squares
  rw [e, clip_fr, sam_fr _ (clps_ne (bne hB) c)]
theorem one_fr {t u : Int} (hu : 0 < u) : ∃ x : Rat, frI t u = fr x ∧ x = (t : Rat) / (u : Rat) := ⟨_, frI_fr hu, rfl⟩
theorem lsq_near (hB : BOk b) (t : Rat) : m__law_squares (m__law_near b (fr t)) = fr (sq (clps (bR b) t)) := by rw [near_fr, lsq_fr _ (clps_ne (bne hB) t)]
theorem sq_cen (hB : BOk b) {c : Rat} (hc : Cen (bR b) c) (t : Rat) : sq (clps (bR b) c) ≤ sq (clps (bR b) t) :=
  sq_le (ln_clps _ _ _) (clps_ne (bne hB) t) (cen_least hc (bR_ord (ord_of hB)) (fun p => clp p.1 p.2 t) fun p hp => clp_in t (bR_ord (ord_of hB) p hp))
theorem k20_1 (hB : BOk b) {t u : Int} (hu : 0 < u) : m__law_below (m__law_squares (m__law_near b (frI t u))) (m_least_squares b) = false := by
  obtain ⟨x, e, _⟩ := one_fr (t := t) hu
  obtain ⟨c, _, hc, e2⟩ := least_fr hB
  rw [e, lsq_near hB, e2, below_fr]
  exact decide_eq_false (by have := sq_cen hB hc x; grind)
/-! the two lists -/
theorem fold_two {α β : Type} (c : α → Bool) (f : α → β) : ∀ (l : List α) (a : List β × List β), l.foldl (fun s x => if c x = true then (s.1 ++ [f x], s.2) else (s.1, s.2 ++ [f x])) a = (a.1 ++ (l.filter c).map f, a.2 ++ (l.filter fun x => !c x).map f)
  | [], a => by simp
  | x :: l, a => by
    rw [List.foldl_cons, fold_two c f l, List.filter_cons, List.filter_cons]
    by_cases h : c x = true
    · simp [h]
    · simp [h]
theorem getD_el {α : Type} {l : List α} {k : Nat} {d : α} (h : k < l.length) : l.getD k d = l[k] := by rw [List.getD_eq_getElem?_getD, List.getElem?_eq_getElem h]; rfl
theorem adj_none {α : Type} {d : α} {bad : α → α → Bool} {m : List α} (h : m.Pairwise fun x y => bad x y = false) : mapIf (fun k : Nat => bad (m.getD k d) (m.getD ((k : Int) + 1).toNat d)) (fun k => k) (List.range ((m.length : Int) - 1).toNat) = [] := by
  unfold mapIf
  rw [List.map_eq_nil_iff]
  refine List.filter_eq_nil_iff.mpr fun k hk => ?_
  have hk := List.mem_range.mp hk
  have e : ((k : Int) + 1).toNat = k + 1 := by omega
  rw [e, getD_el (by omega), getD_el (by omega), List.pairwise_iff_getElem.mp h k (k + 1) (by omega) (by omega) (by omega)]
  exact Bool.false_ne_true
theorem rgI_pw (lo : Int) (n : Nat) : (rgI lo n).Pairwise (· < ·) := by
  unfold rgI
  rw [List.pairwise_map]
  exact List.Pairwise.imp (fun h => by omega) List.pairwise_lt_range
def ownI (b : List (Int × Int)) (u t : Int) : Int × Int := m__law_squares (m__law_near b (frI (2 * t) u))
theorem div_mono {x y u : Int} (hu : 0 < u) (h : x < y) : ((2 * x : Int) : Rat) / (u : Rat) ≤ ((2 * y : Int) : Rat) / (u : Rat) := by
  have hp := cast_pos hu
  have h1 := cast_le (show 2 * x ≤ 2 * y by omega)
  have h2 := Rat.mul_le_mul_of_nonneg_right h1 (Rat.le_of_lt (Rat.inv_pos.mpr hp))
  rw [Rat.div_def, Rat.div_def]; exact h2
theorem k20_2 (hB : BOk b) {u : Int} (hu : 0 < u) {l : List Int} (hl : l.Pairwise (· < ·)) : (!decide (mapIf (fun k : Nat => m__law_below ((((l.filter fun t => m__law_below (frI (2 * t) u) (m_centre b)).map (ownI b u)).getD k (0, 0))) (((l.filter fun t => m__law_below (frI (2 * t) u) (m_centre b)).map (ownI b u)).getD ((k : Int) + 1).toNat (0, 0))) (fun k => k) (List.range (((((l.filter fun t => m__law_below (frI (2 * t) u) (m_centre b)).map (ownI b u)).length : Int) - 1).toNat)) = [])) = false := by
  refine dead_eq (adj_none (bad := m__law_below) ?_)
  rw [List.pairwise_map, List.pairwise_filter]
  refine List.Pairwise.imp (fun {x y} hxy cx cy => ?_) hl
  obtain ⟨c, e, hc, _⟩ := least_fr hB
  unfold ownI
  rw [frI_fr hu, frI_fr hu, lsq_near hB, lsq_near hB, below_fr]
  have e' : m_centre b = fr c := e
  rw [e', frI_fr hu, below_fr] at cy
  have cy := of_decide_eq_true cy
  have hm := div_mono hu hxy
  have := sq_le (ln_clps (bR b) (((2 * y : Int) : Rat) / (u : Rat)) (((2 * x : Int) : Rat) / (u : Rat))) (clps_ne (bne hB) _) (cut_away (bR_ord (ord_of hB)) (.inl ⟨hm, cen_below hc (bR_ord (ord_of hB)) (Rat.le_of_lt cy)⟩))
  exact decide_eq_false (by grind)
theorem k20_3 (hB : BOk b) {u : Int} (hu : 0 < u) {l : List Int} (hl : l.Pairwise (· < ·)) : (!decide (mapIf (fun k : Nat => m__law_below (((l.filter fun t => !m__law_below (frI (2 * t) u) (m_centre b)).map (ownI b u)).getD ((k : Int) + 1).toNat (0, 0)) ((((l.filter fun t => !m__law_below (frI (2 * t) u) (m_centre b)).map (ownI b u)).getD k (0, 0)))) (fun k => k) (List.range (((((l.filter fun t => !m__law_below (frI (2 * t) u) (m_centre b)).map (ownI b u)).length : Int) - 1).toNat)) = [])) = false := by
  refine dead_eq (adj_none (bad := fun p q => m__law_below q p) ?_)
  rw [List.pairwise_map, List.pairwise_filter]
  refine List.Pairwise.imp (fun {x y} hxy cx cy => ?_) hl
  obtain ⟨c, e, hc, _⟩ := least_fr hB
  unfold ownI
  rw [frI_fr hu, frI_fr hu, lsq_near hB, lsq_near hB, below_fr]
  have e' : m_centre b = fr c := e
  rw [e', frI_fr hu, below_fr, Bool.not_eq_true'] at cx
  have cx := of_decide_eq_false cx
  have hm := div_mono hu hxy
  have := sq_le (ln_clps (bR b) (((2 * x : Int) : Rat) / (u : Rat)) (((2 * y : Int) : Rat) / (u : Rat))) (clps_ne (bne hB) _) (cut_away (bR_ord (ord_of hB)) (.inr ⟨hm, cen_above hc (bR_ord (ord_of hB)) (by grind)⟩))
  exact decide_eq_false (by grind)
theorem k20_4 : (!decide (m__law_near b (m_centre b) = m_nearest_choice b)) = false := dead_eq (near_map b _)
/-! the mean's range -/
theorem s1_lows : ∀ b : List (Int × Int), ((m_lows b).sum : Rat) = s1 ((bR b).map fun p => p.1)
  | [] => rfl
  | p :: b => by
    show ((p.1 + (m_lows b).sum : Int) : Rat) = (p.1 : Rat) + s1 ((bR b).map fun p => p.1)
    rw [Rat.intCast_add, s1_lows b]
theorem s1_highs : ∀ b : List (Int × Int), ((m_highs b).sum : Rat) = s1 ((bR b).map fun p => p.2)
  | [] => rfl
  | p :: b => by
    show ((p.2 + (m_highs b).sum : Int) : Rat) = (p.2 : Rat) + s1 ((bR b).map fun p => p.2)
    rw [Rat.intCast_add, s1_highs b]
theorem s1_le {α : Type} {f g : α → Rat} : ∀ {l : List α}, (∀ x ∈ l, f x ≤ g x) → s1 (l.map f) ≤ s1 (l.map g)
  | [], _ => Rat.le_refl
  | x :: l, h => by
    have ih := s1_le (l := l) fun y hy => h y (List.mem_cons_of_mem _ hy)
    have := h x (List.mem_cons_self ..)
    rw [List.map_cons, List.map_cons, s1c, s1c]; grind
theorem ln_bR (b : List (Int × Int)) (t : Rat) : ln (clps (bR b) t) = ((b.length : Int) : Rat) := by
  rw [ln_len]; unfold clps bR; rw [List.length_map, List.length_map]
theorem mean_in {S n c : Rat} (hp : 0 < n) (h : S ≤ n * c) : ¬ c < S / n := by rw [Rat.lt_div_iff hp]; grind
theorem mean_in2 {S n c : Rat} (hp : 0 < n) (h : n * c ≤ S) : ¬ S / n < c := by rw [Rat.div_lt_iff hp]; grind
theorem cen_sums (hB : BOk b) {c : Rat} (hc : Cen (bR b) c) : ((m_lows b).sum : Rat) ≤ ((b.length : Int) : Rat) * c ∧ ((b.length : Int) : Rat) * c ≤ ((m_highs b).sum : Rat) := by
  have h1 : s1 ((bR b).map fun p => p.1) ≤ s1 ((bR b).map fun p => clp p.1 p.2 c) := s1_le fun p h => (clp_in c (bR_ord (ord_of hB) p h)).1
  have h2 : s1 ((bR b).map fun p => clp p.1 p.2 c) ≤ s1 ((bR b).map fun p => p.2) := s1_le fun p h => (clp_in c (bR_ord (ord_of hB) p h)).2
  have hc' : s1 ((bR b).map fun p => clp p.1 p.2 c) = ((b.length : Int) : Rat) * c := Eq.trans hc (congrArg (fun x => x * c) (ln_bR b c))
  rw [s1_lows, s1_highs, ← hc']
  exact ⟨h1, h2⟩
theorem k20_5 (hB : BOk b) : (m__law_below (m_centre b) (m_mean_range b).1 || m__law_below (m_mean_range b).2 (m_centre b)) = false := by
  obtain ⟨c, e, hc, _⟩ := least_fr hB
  have e' : m_centre b = fr c := e
  have hn : (0 : Int) < (b.length : Int) := by have := hB.1; omega
  have hp := cast_pos hn
  obtain ⟨h1, h2⟩ := cen_sums hB hc
  have a1 : (m_mean_range b).1 = fr (((m_lows b).sum : Rat) / ((b.length : Int) : Rat)) := frI_fr hn
  have a2 : (m_mean_range b).2 = fr (((m_highs b).sum : Rat) / ((b.length : Int) : Rat)) := frI_fr hn
  rw [e', a1, a2, below_fr, below_fr, decide_eq_false (mean_in hp h1), decide_eq_false (mean_in2 hp h2)]; rfl
/-! one more value -/
theorem vr_app (x : Rat) (l : List Rat) : vr (l ++ [x]) = vr (x :: l) := by
  have a : ∀ l : List Rat, s1 (l ++ [x]) = x + s1 l := fun l => by
    induction l with
    | nil => rfl
    | cons y l ih => rw [List.cons_append, s1c, ih, s1c]; grind
  have b : ∀ l : List Rat, s2 (l ++ [x]) = x * x + s2 l := fun l => by
    induction l with
    | nil => rfl
    | cons y l ih => rw [List.cons_append, s2c, ih, s2c]; grind
  have d : ∀ l : List Rat, ln (l ++ [x]) = ln l + 1 := fun l => by
    induction l with
    | nil => rfl
    | cons y l ih => rw [List.cons_append, lnc, ih, lnc]
  unfold vr
  rw [a, b, d, s1c, s2c, lnc]
theorem ln_app (x : Rat) (l : List Rat) : ln (l ++ [x]) = ln l + 1 := by
  induction l with
  | nil => rfl
  | cons y l ih => rw [List.cons_append, lnc, ih, lnc]
theorem sq_more (x : Rat) {l : List Rat} (h : l ≠ []) : sq l ≤ sq (l ++ [x]) := by
  have hp := ln_pos h
  have m := vr_more x l hp
  unfold sq
  rw [vr_app, ln_app]
  have hp1 : 0 < ln l + 1 := by grind
  generalize vr (x :: l) = w at *
  generalize vr l = v at *
  generalize ln l = n at *
  have e : w / (n + 1) - v / n = (w * n - v * (n + 1)) * (n⁻¹ * (n + 1)⁻¹) := by grind
  have q := Rat.mul_nonneg (show 0 ≤ w * n - v * (n + 1) by grind) (Rat.mul_nonneg (Rat.le_of_lt (Rat.inv_pos.mpr hp)) (Rat.le_of_lt (Rat.inv_pos.mpr hp1)))
  grind
theorem k20_6 (hB : BOk b) {v : Int} (hB2 : BOk (b ++ [(v, v)])) {g : Bool} : (g && m__law_below (m_least_squares (b ++ [(v, v)])) (m_least_squares b)) = false := by
  obtain ⟨c, _, hc, e⟩ := least_fr hB
  obtain ⟨d, _, hd, e2⟩ := least_fr hB2
  have h : m__law_below (m_least_squares (b ++ [(v, v)])) (m_least_squares b) = false := by
    rw [e, e2, below_fr]
    refine decide_eq_false ?_
    have e3 : clps (bR (b ++ [(v, v)])) d = clps (bR b) d ++ [clp (v : Rat) (v : Rat) d] := by unfold clps bR; simp
    rw [e3]
    have h1 := sq_cen hB hc d
    have h2 := sq_more (clp (v : Rat) (v : Rat) d) (clps_ne (bne hB) d)
    grind
  rw [h, Bool.and_false]
/-! any choice -/
theorem cen_row {c : Rat} : ∀ (z : List ((Rat × Rat) × Rat)), Cen (z.map (·.1)) c → (∀ q ∈ z, q.1.1 ≤ q.1.2 ∧ q.1.1 ≤ q.2 ∧ q.2 ≤ q.1.2) → vr (clps (z.map (·.1)) c) ≤ vr (z.map (·.2)) := fun z hc hz => by
  have h := vr_key (z.map fun q => (q.2, clp q.1.1 q.1.2 c)) (fun r hr => by
    obtain ⟨q, hq, rfl⟩ := List.mem_map.mp hr
    rw [List.map_map]
    have e : (z.map ((fun x : Rat × Rat => x.2) ∘ fun q => (q.2, clp q.1.1 q.1.2 c))) = clps (z.map (·.1)) c := by unfold clps; rw [List.map_map]; rfl
    rw [e, hc]
    have hn := ln_nn (clps (z.map (·.1)) c)
    have h1 := hz q hq
    show 0 ≤ (q.2 - clp q.1.1 q.1.2 c) * (ln (clps (z.map (·.1)) c) * clp q.1.1 q.1.2 c - ln (clps (z.map (·.1)) c) * c)
    have : 0 ≤ (q.2 - clp q.1.1 q.1.2 c) * (clp q.1.1 q.1.2 c - c) := by
      refine mul_nn_of ?_
      unfold clp; grind
    have := Rat.mul_nonneg hn this
    grind)
  rw [List.map_map, List.map_map] at h
  have e : clps (z.map (·.1)) c = z.map ((fun x : Rat × Rat => x.2) ∘ fun q => (q.2, clp q.1.1 q.1.2 c)) := by unfold clps; rw [List.map_map]; rfl
  rw [e]; exact h
theorem zip_row : ∀ {b : List (Int × Int)} {r : List Int}, inB b r → (∀ p ∈ b, p.1 ≤ p.2) → ∃ z : List ((Rat × Rat) × Rat), z.map (·.1) = bR b ∧ z.map (·.2) = r.map (fun x : Int => (x : Rat)) ∧ ∀ q ∈ z, q.1.1 ≤ q.1.2 ∧ q.1.1 ≤ q.2 ∧ q.2 ≤ q.1.2
  | [], [], _, _ => ⟨[], rfl, rfl, fun _ h => by cases h⟩
  | p :: b, x :: r, h, hb => by
    obtain ⟨z, z1, z2, z3⟩ := zip_row h.2 fun q hq => hb q (List.mem_cons_of_mem _ hq)
    refine ⟨(((p.1 : Rat), (p.2 : Rat)), (x : Rat)) :: z, by rw [List.map_cons, z1]; rfl, by rw [List.map_cons, z2]; rfl, fun q hq => ?_⟩
    rcases List.mem_cons.mp hq with e | hq
    · subst e
      exact ⟨cast_le (hb p (List.mem_cons_self ..)), cast_le h.1.1, cast_le h.1.2⟩
    · exact z3 q hq
  | [], _ :: _, h, _ => h.elim
  | _ :: _, [], h, _ => h.elim
theorem k20_7 (hB : BOk b) : (decide (m__law_squares ((m_widest_squares_choice b).map fun x => (x, (1 : Int))) = m_greatest_squares b) && !m__law_below (m_greatest_squares b) (m_least_squares b)) = true := by
  have hr := wid_in hB
  have hne : (m_widest b).map (fun x : Int => (x : Rat)) ≠ [] := fun e => (row_sz hB hr).1 (by rw [row_fr, e]; rfl)
  have e1 : m_greatest_squares b = fr (sq ((m_widest b).map fun x : Int => (x : Rat))) := by
    unfold m_greatest_squares
    rw [row_fr, sam_fr _ hne]
  have e2 : m__law_squares ((m_widest_squares_choice b).map fun x => (x, (1 : Int))) = fr (sq ((m_widest b).map fun x : Int => (x : Rat))) := by
    show m__law_squares ((m_widest b).map fun x => (x, (1 : Int))) = _
    rw [row_fr, lsq_fr _ hne]
  obtain ⟨c, _, hc, e3⟩ := least_fr hB
  rw [e1, e2, e3, below_fr, decide_eq_true rfl, Bool.true_and, Bool.not_eq_true']
  obtain ⟨z, z1, z2, z3⟩ := zip_row hr (ord_of hB)
  have h := cen_row (c := c) z (by rw [z1]; exact hc) z3
  rw [z1, z2] at h
  have hl : ln (clps (bR b) c) = ln ((m_widest b).map fun x : Int => (x : Rat)) := by rw [← z1, ← z2]; unfold clps; rw [List.map_map]; exact ln_map _ _ z
  have := sq_le hl hne h
  exact decide_eq_false (by grind)
end
section
variable {b : List (Int × Int)}
theorem two_len {α : Type} {c : Int → Bool} {f : Int → α} {l : List Int} {k : Nat} {s : List α × List α} (hs : s = (List.take k l).foldl (fun s x => if c x = true then (s.1 ++ [f x], s.2) else (s.1, s.2 ++ [f x])) ([], [])) (hl : l.length ≤ 61 := by rw [len_rgI]; decide) : s.1.length ≤ 61 ∧ s.2.length ≤ 61 := by
  rw [hs, fold_two c f]
  simp only [List.nil_append, List.length_map]
  have h1 := List.length_filter_le c (l.take k)
  have h2 := List.length_filter_le (fun x => !c x) (l.take k)
  have h3 : (l.take k).length ≤ l.length := by rw [List.length_take]; exact Nat.min_le_right _ _
  omega
theorem two_eq {α : Type} {c : Int → Bool} {f : Int → α} {l : List Int} {s : List α × List α} (hs : s = l.foldl (fun s x => if c x = true then (s.1 ++ [f x], s.2) else (s.1, s.2 ++ [f x])) ([], [])) : s.1 = (l.filter c).map f ∧ s.2 = (l.filter fun x => !c x).map f := by
  rw [hs, fold_two c f]; exact ⟨rfl, rfl⟩
theorem two_sz {α : Type} {P : α → Prop} {c : Int → Bool} {f : Int → α} {l : List Int} {s : List α × List α} (hs : s = l.foldl (fun s x => if c x = true then (s.1 ++ [f x], s.2) else (s.1, s.2 ++ [f x])) ([], [])) (h : ∀ t ∈ l, P (f t)) : (∀ q ∈ s.1, P q) ∧ ∀ q ∈ s.2, P q := by
  rw [hs, fold_two c f]
  simp only [List.nil_append]
  constructor <;> intro q hq <;> obtain ⟨t, ht, rfl⟩ := List.mem_map.mp hq <;> exact h t (List.mem_filter.mp ht).1
theorem mr_sz (hB : BOk b) : Sz 2000 (m_mean_range b).1 ∧ Sz 2000 (m_mean_range b).2 := by
  have hn : (0 : Int) < (b.length : Int) := by have := hB.1; omega
  have hl := hB.2.1
  have h1 := sum_abs (c := 50) (l := m_lows b) fun x hx => by
    obtain ⟨p, hp, rfl⟩ := List.mem_map.mp hx
    have := hB.2.2 p hp; omega
  have h2 := sum_abs (c := 50) (l := m_highs b) fun x hx => by
    obtain ⟨p, hp, rfl⟩ := List.mem_map.mp hx
    have := hB.2.2 p hp; omega
  rw [len_lows] at h1
  rw [len_highs] at h2
  exact ⟨(frI_sz (k := 10) hn (by omega) (by omega)).le (by decide), (frI_sz (k := 10) hn (by omega) (by omega)).le (by decide)⟩
theorem gr_sz (hB : BOk b) : Sz 1900 (m_greatest_squares b) := sam_sz (row_sz hB (wid_in hB))
theorem more_ok {v : Int} (h : BndP 6 b) (hv : v = (b.getD ((0 : Int)).toNat (0, 0)).1) : BOk (b ++ [(v, v)]) := by
  have hB := bnd_bok h (by decide)
  have hm : b.getD 0 (0, 0) ∈ b := List.mem_of_getElem? (getD_at (List.length_pos_iff.mpr (bne hB)))
  have h2 := hB.2.2 _ hm
  have h3 := h.2.1
  have hv : v = (b.getD 0 (0, 0)).1 := hv
  refine ⟨by rw [List.length_append]; have := hB.1; omega, by rw [List.length_append, List.length_singleton]; omega, fun p hp => ?_⟩
  rcases List.mem_append.mp hp with hp | hp
  · exact hB.2.2 p hp
  · rw [List.mem_singleton.mp hp]
    show -50 ≤ v ∧ v ≤ v ∧ v ≤ 50
    omega
end
section
variable {P : Program} {w : World} {K : Fg} {mg : Str → Option Value} {base : Heap}
theorem ok_law (T : Txt K mg) {f : Addr} {fd : FuncData} (F : FunD K "law" "law" (defArgs s_law) (defBody s_law) (defScope s_law) [] [] f fd) : FnOk P w K mg base CX0 8 f fd ["_law_script"] (spLaw K) := by
  refine fnok_of F sc_law len_law (fun cdv A outer s H vs Q E hr h => ?_)
  have nd := sc_law.nd
  obtain ⟨a, ns, rfl, hs, hz, q⟩ := h
  refine ⟨_, (pss_cons (ps_set (i := 1) nd rfl (.inl rfl) (pe_fn (ok__law_start T) (hr.mono (by decide)) pass0 (pa_cons (pv 0) pa_nil)))
      (pss_cons (ps_set (i := 2) nd rfl (.inl rfl) (pe_frz (pe_fn (ok__law_bounds T) (hr.mono (by decide)) pass0 (pa_cons (pv 1) (pa_cons pe_int pa_nil)))))
      (pss_cons (ps_par (i := 3) (j := 4) (by rfl) nd rfl rfl (by decide) rfl rfl (pa_cons (pe_fn (ok_least_squares T) (hr.mono (by decide)) pass0 (pa_cons (pv 2) pa_nil)) (pa_cons (pe_fn (ok_centre T) (hr.mono (by decide)) pass0 (pa_cons (pv 2) pa_nil)) pa_nil)) (by rfl))
      (pss_cons (ps_set (i := 5) nd rfl (.inl rfl) (pe_op op_add pe_int (pe_fn (ok__law_draw T) (hr.mono (by decide)) pass0 (pa_cons (pv 1) (pa_cons pe_int pa_nil)))))
      (pss_cons (ps_asg (pe_tup (pa_cons (pe_lst pa_nil) (pa_cons (pe_lst pa_nil) pa_nil))) (k_gt K rfl 2 rfl (pgs_cons (pg_name (i := 6) nd rfl (.inr rfl) (.inl rfl)) (pgs_cons (pg_name (i := 7) nd rfl (.inr rfl) (.inl rfl)) pgs_nil))))
      (pss_cons (ps_for PassesOwn.never rfl (pi_range2 (by rfl) T.n_range (pa_cons (pe_op op_sub pe_int pe_int) (pa_cons pe_int pa_nil))) (pg_name (i := 8) nd rfl (.inl rfl) (.inr rfl)) (pss_cons (ps_set (i := 9) nd rfl (.inl rfl) (pe_fn (ok__law_low T) (hr.mono (by decide)) pass0 (pa_cons (pe_op op_mul pe_int (pv 8)) (pa_cons (pv 5) pa_nil))))
      (pss_cons (ps_set (i := 10) nd rfl (.inl rfl) (pe_fn (ok__law_squares T) (hr.mono (by decide)) pass0 (pa_cons (pe_frz (pe_fn (ok__law_near T) (hr.mono (by decide)) pass0 (pa_cons (pv 2) (pa_cons (pv 9) pa_nil)))) pa_nil)))
      (pss_cons (ps_if (pt_val (pe_fn (ok__law_below T) (hr.mono (by decide)) pass0 (pa_cons (pv 10) (pa_cons (pv 3) pa_nil)))) (pss_one (ps_ret pe_bl)) pss_nil)
      (pss_one (ps_if (pt_val (pe_fn (ok__law_below T) (hr.mono (by decide)) pass0 (pa_cons (pv 9) (pa_cons (pv 4) pa_nil)))) (pss_one (ps_expr (k_app K rfl (pv 6) (pv 10)))) (pss_one (ps_expr (k_app K rfl (pv 7) (pv 10))))))))))
      (pss_frz 6 (pss_frz 7 (pss_cons (ps_if (pt_cmpR (k_neD K rfl hr.units) (pe_frz (pe_lc (own := [("_law_k", 11)]) rfl nd (pi_range1 (by rfl) T.n_range (pa_cons (pe_op op_sub (pe_callB (k_len K rfl) (by rfl) T.n_len PySem.boot_len (pa_cons (pv 6) pa_nil)) pe_int) pa_nil)) (blkOk_by (N := N_law) (sc := defScope s_law) (by decide +kernel)) (fun _ _ _ _ _ => (pg_name (i := 11) nd rfl (.inl rfl) (.inr rfl))) (fun _ _ _ _ _ => (pts_one (pt_val (pe_fn (ok__law_below T) (hr.mono (by decide)) pass0 (pa_cons (pe_ix (k_ixl K rfl) (pv 6) (pv 11) (fun _ _ => rfl)) (pa_cons (pe_ix (k_ixl K rfl) (pv 6) (pe_op op_add (pv 11) pe_int) (fun _ _ => rfl)) pa_nil)))))) (fun _ _ _ _ _ => (pv 11)))) (pe_frz (pe_lst pa_nil)) (nomark _)) (pss_one (ps_ret pe_bl)) pss_nil)
      (pss_cons (ps_if (pt_cmpR (k_neD K rfl hr.units) (pe_frz (pe_lc (own := [("_law_k", 11)]) rfl nd (pi_range1 (by rfl) T.n_range (pa_cons (pe_op op_sub (pe_callB (k_len K rfl) (by rfl) T.n_len PySem.boot_len (pa_cons (pv 7) pa_nil)) pe_int) pa_nil)) (blkOk_by (N := N_law) (sc := defScope s_law) (by decide +kernel)) (fun _ _ _ _ _ => (pg_name (i := 11) nd rfl (.inl rfl) (.inr rfl))) (fun _ _ _ _ _ => (pts_one (pt_val (pe_fn (ok__law_below T) (hr.mono (by decide)) pass0 (pa_cons (pe_ix (k_ixl K rfl) (pv 7) (pe_op op_add (pv 11) pe_int) (fun _ _ => rfl)) (pa_cons (pe_ix (k_ixl K rfl) (pv 7) (pv 11) (fun _ _ => rfl)) pa_nil)))))) (fun _ _ _ _ _ => (pv 11)))) (pe_frz (pe_lst pa_nil)) (nomark _)) (pss_one (ps_ret pe_bl)) pss_nil)
      (pss_cons (ps_if (pt_cmpR (k_neD K rfl hr.units) (pe_frz (pe_fn (ok__law_near T) (hr.mono (by decide)) pass0 (pa_cons (pv 2) (pa_cons (pv 4) pa_nil)))) (pe_frz (pe_fn (ok_nearest_choice T) (hr.mono (by decide)) pass0 (pa_cons (pv 2) pa_nil))) (nomark _)) (pss_one (ps_ret pe_bl)) pss_nil)
      (pss_cons (ps_asg (pe_fn (ok_mean_range T) (hr.mono (by decide)) pass0 (pa_cons (pv 2) pa_nil)) (k_gt K rfl 2 rfl (pgs_cons (pg_name (i := 12) nd rfl (.inl rfl) (.inr rfl)) (pgs_cons (pg_name (i := 13) nd rfl (.inl rfl) (.inr rfl)) pgs_nil))))
      (pss_cons (ps_if (PW.pt (pw_or (pt_val (pe_fn (ok__law_below T) (hr.mono (by decide)) pass0 (pa_cons (pv 4) (pa_cons (pv 12) pa_nil)))) (pw_or1 (pt_val (pe_fn (ok__law_below T) (hr.mono (by decide)) pass0 (pa_cons (pv 13) (pa_cons (pv 4) pa_nil))))))) (pss_one (ps_ret pe_bl)) pss_nil)
      (pss_cons (ps_set (i := 14) nd rfl (.inl rfl) (pe_ix (k_ixt K rfl) (pe_ix (k_ixl K rfl) (pv 2) pe_int (fun _ _ => rfl)) pe_int (fun _ _ => rfl)))
      (pss_cons (ps_set (i := 15) nd rfl (.inl rfl) (pe_frz (pe_op op_catR (pv 2) (pe_frz (pe_lst (pa_cons (pe_tup (pa_cons (pv 14) (pa_cons (pv 14) pa_nil))) pa_nil))))))
      (pss_cons (ps_if (PW.pt (pw_and (pt_cmpR op_lt (pe_callB (k_len K rfl) (by rfl) T.n_len PySem.boot_len (pa_cons (pv 15) pa_nil)) pe_int (nomark _)) (pw_and1 (pt_val (pe_fn (ok__law_below T) (hr.mono (by decide)) pass0 (pa_cons (pe_fn (ok_least_squares T) (hr.mono (by decide)) pass0 (pa_cons (pv 15) pa_nil)) (pa_cons (pv 3) pa_nil))))))) (pss_one (ps_ret pe_bl)) pss_nil)
      (pss_cons (ps_set (i := 16) nd rfl (.inl rfl) (pe_fn (ok_widest_squares_choice T) (hr.mono (by decide)) pass0 (pa_cons (pv 2) pa_nil)))
      (pss_one (ps_ret (pe_and (pe_cmpR (k_eqD K rfl hr.units) (pe_fn (ok__law_squares T) (hr.mono (by decide)) pass0 (pa_cons (pe_frz (pe_lc (own := [("_law_one", 9)]) rfl nd (k_pl K rfl (pv 16)) (blkOk_by (N := N_law) (sc := defScope s_law) (by decide +kernel)) (fun _ _ _ _ _ => (pg_name (i := 9) nd rfl (.inl rfl) (.inr rfl))) (fun _ _ _ _ _ => pts_nil) (fun _ _ _ _ _ => (pe_tup (pa_cons (pv 9) (pa_cons pe_int pa_nil)))))) pa_nil)) (pe_fn (ok_greatest_squares T) (hr.mono (by decide)) pass0 (pa_cons (pv 2) pa_nil)) (nomark _)) (pe_one (pe_not (pe_fn (ok__law_below T) (hr.mono (by decide)) pass0 (pa_cons (pe_fn (ok_greatest_squares T) (hr.mono (by decide)) pass0 (pa_cons (pv 2) pa_nil)) (pa_cons (pv 3) pa_nil))))))))))))))))))))))))), ?_⟩
  refine q_start (K := K) rfl hs hz (fun pd pn _ e810 dr0 => ?_)
  have hpdpn : pd ≠ pn := by obtain ⟨_, _, _, _, _, _, _, h⟩ := dr0; exact h
  refine q_setP (K := K) dr0 (ep_frz (epl_draws (fun _ m811 => er_int) (sub_dr rfl) (by decide))) (fun v813 _ bounds_here_b m815 dr816 hbounds_here_b r814 => ?_)
  have hB := bnd_bok hbounds_here_b (by decide)
  refine q_par (K := K) (er_call1 (er_var rfl r814) (by first | exact hB | exact hB2)) (er_call1 (er_var rfl r814) (by exact hB)) (fun v821 v822 _ e818 r819 r820 => ?_)
  refine q_setP (K := K) (Dr.mono e818 dr816) (ep_op (ep_of (fun _ m823 => er_int)) (fun _ _ => (ep_draw (fun _ m824 => er_int) (sub_dr rfl) (by decide) (by decide))) (fun _ _ _ _ => rr_add)) (fun v826 _ x825 m828 dr829 h830 r827 => ?_)
  obtain ⟨_, under_d, rfl, hunder_d, rfl⟩ := h830
  have hone : ∀ t : Int, 0 - 30 ≤ t ∧ t < 0 - 30 + ((31 - (0 - 30) : Int).toNat : Int) → Sz 10 (frI (2 * t) (1 + under_d)) := fun t ht => frI_sz (by omega) (by omega) (by omega)
  have htlen : ∀ (s : List (Int × Int) × List (Int × Int)) {k : Nat}, s = List.foldl (fun s t => if m__law_below (frI (2 * t) (1 + under_d)) (m_centre bounds_here_b) = true then (s.1 ++ [ownI bounds_here_b (1 + under_d) t], s.2) else (s.1, s.2 ++ [ownI bounds_here_b (1 + under_d) t])) ([], []) (List.take k (rgI (0 - 30) (31 - (0 - 30) : Int).toNat)) → s.1.length ≤ 61 ∧ s.2.length ≤ 61 := fun s k hs => two_len hs
  refine q_unpL (K := K) (erl_lst (α := (Int × Int)) ea_nil) (erl_lst (α := (Int × Int)) ea_nil) (fun p836 p837 _ _ _ _ e838 e839 n840 n841 h842 l844 h843 l845 => ?_)
  have n848 := Dr.pd_ne dr829 n840
  have n849 := Dr.pn_ne dr829 n840
  have u846 := Un.of h842 l844
  have n850 : p836 ≠ p837 := Un.nep u846 n841
  have n851 := Dr.pd_ne (Dr.mono e838 dr829) n841
  have n852 := Dr.pn_ne (Dr.mono e838 dr829) n841
  have u847 := Un.of h843 l845
  have r853 := (Rp.mono ((((SF.of e818).trans m828.sf).trans (SF.of e838)).trans (SF.of e839)) r814)
  -- for _law_top in range(0 - 30, 31)
  refine q_for (K := K) (src_range2 (er_op er_int er_int rr_sub) er_int (by first | decide | omega | (have := htlen _ hturn1; omega) | (rw [List.length_range]; have := hfl; omega) | (have := hfl; omega) | (have := hB.2.1; simp; omega) | (have := inB_len (wid_in hB); have := hB.2.1; show (m_widest bounds_here_b).length ≤ 1000000; omega)) (by first | decide | omega | (have := htlen _ hturn1; omega) | (rw [List.length_range]; have := hfl; omega) | (have := hfl; omega) | (have := hB.2.1; simp; omega) | (have := inB_len (wid_in hB); have := hB.2.1; show (m_widest bounds_here_b).length ≤ 1000000; omega))) (fun H1 k σ' H' => ∃ (s_l1 : ((List (Int × Int)) × (List (Int × Int)))) (y855 : Option V) (y856 : Option V) (y857 : Option V), σ' = [some (.ref a), some (.ref pd), some v813, some v821, some v822, some v826, some (.ref p836), some (.ref p837), y855, y856, y857, none, none, none, none, none, none] ∧ s_l1 = (List.take k (rgI ((0 : Int) - (30 : Int)) ((31 : Int) - ((0 : Int) - (30 : Int))).toNat)).foldl (fun (s_l1 : ((List (Int × Int)) × (List (Int × Int)))) (top : Int) => ((if (m__law_below (frI ((2 : Int) * top) ((1 : Int) + under_d)) (m_centre bounds_here_b)) = true then ((s_l1.1 ++ [(m__law_squares (m__law_near bounds_here_b (frI ((2 : Int) * top) ((1 : Int) + under_d))))]), s_l1.2) else (s_l1.1, (s_l1.2 ++ [(m__law_squares (m__law_near bounds_here_b (frI ((2 : Int) * top) ((1 : Int) + under_d))))]))) : ((List (Int × Int)) × (List (Int × Int))))) (([] : (List (Int × Int))), ([] : (List (Int × Int)))) ∧ Mus [p836, p837] H1 H' ∧ Un K H' p836 s_l1.1 ∧ Un K H' p837 s_l1.2) (fun H1 e => ⟨(([] : (List (Int × Int))), ([] : (List (Int × Int)))), _, _, _, rfl, rfl, Mus.refl _, (Un.mono e (Un.mono e839 u846)), (Un.mono e u847)⟩) (fun _ _ _ _ h => by obtain ⟨_, _, _, _, _, _, m, _, _⟩ := h; exact m.sf) (fun H1 k864 top σ' H' vtop _ e861 hx860 hP e862 rtop => ?_) (fun H1 σ' H' e861 hP => ?_)
  ·
    obtain ⟨s_l1, y855, y856, y857, rfl, hs858, m863, u865, u866⟩ := hP
    refine s_gn ?_
    have htop := List.mem_of_getElem? hx860
    have hturn1 := hs858
    have r868 := (Rp.mono (((((m828.sf.trans (SF.of e838)).trans (SF.of e839)).trans (SF.of e861)).trans m863.sf).trans (SF.of e862)) r819)
    have r869 := (Rp.mono (((((m828.sf.trans (SF.of e838)).trans (SF.of e839)).trans (SF.of e861)).trans m863.sf).trans (SF.of e862)) r820)
    have r870 := (Rp.mono (((((SF.of e838).trans (SF.of e839)).trans (SF.of e861)).trans m863.sf).trans (SF.of e862)) r827)
    have dr871 := (Dr.mono e862 (Dr.mus m863 (nin n848 (nin n851 nin0)) (nin n849 (nin n852 nin0)) (Dr.mono e861 (Dr.mono e839 (Dr.mono e838 dr829)))))
    refine q_set (K := K) (er_call2 (er_op er_int (er_var rfl rtop) (rr_mul (by exact .inl ⟨by decide, by decide⟩))) (er_var rfl r870) (by exact small_pre (by omega) (by omega))) (fun v874 _ e872 r873 => ?_)
    have r875 := (Rp.mono ((((SF.of e861).trans m863.sf).trans (SF.of e862)).trans (SF.of e872)) r853)
    refine q_set (K := K) (er_call1 (er_frz (erl_call2 (er_var rfl r875) (er_var rfl r873) (by first | exact near_pre hB (hone top (mem_rgI.mp htop)) | exact near_pre hB (cen_sz hB)))) (by first | exact near_sz hB (hone top (mem_rgI.mp htop)) | exact row_sz hB (wid_in hB))) (fun v878 _ e876 r877 => ?_)
    -- 1: _law_below(_law_own, _law_least)
    refine q_not (K := K) (et_B (er_call2 (er_var rfl r877) (er_var rfl (Rp.mono ((SF.of e872).trans (SF.of e876)) r868)) (by first | exact ⟨(lsq_sz (near_sz hB (hone top (mem_rgI.mp htop)))).le (by decide), (least_sz hB).le (by decide)⟩ | exact ⟨(hone top (mem_rgI.mp htop)).le (by decide), (cen_sz hB).le (by decide)⟩ | exact ⟨hsz1 _ (by have := List.mem_range.mp (by assumption); omega), hsz1 _ (by have := List.mem_range.mp (by assumption); omega)⟩ | exact ⟨hsz2 _ (by have := List.mem_range.mp (by assumption); omega), hsz2 _ (by have := List.mem_range.mp (by assumption); omega)⟩ | exact ⟨(cen_sz hB).le (by decide), (mr_sz hB).1⟩ | exact ⟨(mr_sz hB).2, (cen_sz hB).le (by decide)⟩ | exact ⟨(least_sz hB2).le (by decide), (least_sz hB).le (by decide)⟩ | exact ⟨(gr_sz hB).le (by decide), (least_sz hB).le (by decide)⟩))) (by exact k20_1 hB (by omega)) (fun _ e879 => ?_)
    refine q_last ?_
    have u880 := (Un.mono e879 (Un.mono e876 (Un.mono e872 (Un.mono e862 u865))))
    have u881 := (Un.mono e879 (Un.mono e876 (Un.mono e872 (Un.mono e862 u866))))
    refine q_if (K := K) (et_B (er_call2 (er_var rfl (Rp.mono ((SF.of e876).trans (SF.of e879)) r873)) (er_var rfl (Rp.mono (((SF.of e872).trans (SF.of e876)).trans (SF.of e879)) r869)) (by first | exact ⟨(lsq_sz (near_sz hB (hone top (mem_rgI.mp htop)))).le (by decide), (least_sz hB).le (by decide)⟩ | exact ⟨(hone top (mem_rgI.mp htop)).le (by decide), (cen_sz hB).le (by decide)⟩ | exact ⟨hsz1 _ (by have := List.mem_range.mp (by assumption); omega), hsz1 _ (by have := List.mem_range.mp (by assumption); omega)⟩ | exact ⟨hsz2 _ (by have := List.mem_range.mp (by assumption); omega), hsz2 _ (by have := List.mem_range.mp (by assumption); omega)⟩ | exact ⟨(cen_sz hB).le (by decide), (mr_sz hB).1⟩ | exact ⟨(mr_sz hB).2, (cen_sz hB).le (by decide)⟩ | exact ⟨(least_sz hB2).le (by decide), (least_sz hB).le (by decide)⟩ | exact ⟨(gr_sz hB).le (by decide), (least_sz hB).le (by decide)⟩))) (fun hc883 _ e882 => ?_) (fun hc883 _ e882 => ?_)
    ·
      refine q_last ?_
      have r884 := (Rp.mono ((((SF.of e872).trans (SF.of e876)).trans (SF.of e879)).trans (SF.of e882)) r868)
      have r885 := (Rp.mono ((((SF.of e872).trans (SF.of e876)).trans (SF.of e879)).trans (SF.of e882)) r869)
      have r886 := (Rp.mono ((((SF.of e872).trans (SF.of e876)).trans (SF.of e879)).trans (SF.of e882)) r870)
      have r887 := (Rp.mono ((((SF.of e872).trans (SF.of e876)).trans (SF.of e879)).trans (SF.of e882)) rtop)
      have dr888 := (Dr.mono e882 (Dr.mono e879 (Dr.mono e876 (Dr.mono e872 dr871))))
      refine q_app (K := K) rfl (Un.mono e882 u880) (er_var rfl (Rp.mono ((SF.of e879).trans (SF.of e882)) r877)) (by first | decide | omega | (have := htlen _ hturn1; omega) | (rw [List.length_range]; have := hfl; omega) | (have := hfl; omega) | (have := hB.2.1; simp; omega) | (have := inB_len (wid_in hB); have := hB.2.1; show (m_widest bounds_here_b).length ≤ 1000000; omega)) (fun _ m889 u890 => ?_)
      refine s_nxz ?_
      refine s_nx ?_
      exact ⟨((s_l1.1 ++ [(m__law_squares (m__law_near bounds_here_b (frI ((2 : Int) * top) ((1 : Int) + under_d))))]), s_l1.2), _, _, _, rfl, (Eq.trans (show ((s_l1.1 ++ [(m__law_squares (m__law_near bounds_here_b (frI ((2 : Int) * top) ((1 : Int) + under_d))))]), s_l1.2) = (if (m__law_below (frI ((2 : Int) * top) ((1 : Int) + under_d)) (m_centre bounds_here_b)) = true then ((s_l1.1 ++ [(m__law_squares (m__law_near bounds_here_b (frI ((2 : Int) * top) ((1 : Int) + under_d))))]), s_l1.2) else (s_l1.1, (s_l1.2 ++ [(m__law_squares (m__law_near bounds_here_b (frI ((2 : Int) * top) ((1 : Int) + under_d))))]))) from by rw [if_pos hc883]) (fold_step hx860 hs858)), (((((((Mus.baseS (Mus.refl _) m863 (allC (.inr (.head _)) (allC (.inr (.tail _ (.head _))) all0))).trans (Mus.of e862)).trans (Mus.of e872)).trans (Mus.of e876)).trans (Mus.of e879)).trans (Mus.of e882)).trans (Mus.mu m889 (.head _))), u890, (Un.ne m889 n850.symm (Un.mono e882 u881))⟩
    ·
      refine q_last ?_
      have r891 := (Rp.mono ((((SF.of e872).trans (SF.of e876)).trans (SF.of e879)).trans (SF.of e882)) r868)
      have r892 := (Rp.mono ((((SF.of e872).trans (SF.of e876)).trans (SF.of e879)).trans (SF.of e882)) r869)
      have r893 := (Rp.mono ((((SF.of e872).trans (SF.of e876)).trans (SF.of e879)).trans (SF.of e882)) r870)
      have r894 := (Rp.mono ((((SF.of e872).trans (SF.of e876)).trans (SF.of e879)).trans (SF.of e882)) rtop)
      have dr895 := (Dr.mono e882 (Dr.mono e879 (Dr.mono e876 (Dr.mono e872 dr871))))
      refine q_app (K := K) rfl (Un.mono e882 u881) (er_var rfl (Rp.mono ((SF.of e879).trans (SF.of e882)) r877)) (by first | decide | omega | (have := htlen _ hturn1; omega) | (rw [List.length_range]; have := hfl; omega) | (have := hfl; omega) | (have := hB.2.1; simp; omega) | (have := inB_len (wid_in hB); have := hB.2.1; show (m_widest bounds_here_b).length ≤ 1000000; omega)) (fun _ m896 u897 => ?_)
      refine s_nxz ?_
      refine s_nx ?_
      exact ⟨(s_l1.1, (s_l1.2 ++ [(m__law_squares (m__law_near bounds_here_b (frI ((2 : Int) * top) ((1 : Int) + under_d))))])), _, _, _, rfl, (Eq.trans (show (s_l1.1, (s_l1.2 ++ [(m__law_squares (m__law_near bounds_here_b (frI ((2 : Int) * top) ((1 : Int) + under_d))))])) = (if (m__law_below (frI ((2 : Int) * top) ((1 : Int) + under_d)) (m_centre bounds_here_b)) = true then ((s_l1.1 ++ [(m__law_squares (m__law_near bounds_here_b (frI ((2 : Int) * top) ((1 : Int) + under_d))))]), s_l1.2) else (s_l1.1, (s_l1.2 ++ [(m__law_squares (m__law_near bounds_here_b (frI ((2 : Int) * top) ((1 : Int) + under_d))))]))) from by rw [if_neg (nff hc883)]) (fold_step hx860 hs858)), (((((((Mus.baseS (Mus.refl _) m863 (allC (.inr (.head _)) (allC (.inr (.tail _ (.head _))) all0))).trans (Mus.of e862)).trans (Mus.of e872)).trans (Mus.of e876)).trans (Mus.of e879)).trans (Mus.of e882)).trans (Mus.mu m896 (.tail _ (.head _)))), (Un.ne m896 n850 (Un.mono e882 u880)), u897⟩
  ·
    obtain ⟨s_l1, y855, y856, y857, rfl, hs858, m863, u865, u866⟩ := hP
    replace hs858 := fold_all hs858
    have hfold1 := hs858
    refine q_frz (K := K) rfl u865 (fun _ m898 r899 => ?_)
    refine q_frz (K := K) rfl (Un.ne m898 n850.symm u866) (fun _ m900 r901 => ?_)
    have htwo := two_eq (c := fun t => m__law_below (frI (2 * t) (1 + under_d)) (m_centre bounds_here_b)) (f := ownI bounds_here_b (1 + under_d)) hfold1
    have hfl : s_l1.1.length ≤ 61 ∧ s_l1.2.length ≤ 61 := htlen _ (k := 61) (hfold1.trans (by rw [List.take_of_length_le (by rw [len_rgI]; decide)]; rfl))
    have hsz := two_sz (P := fun q => Sz 2000 q) hfold1 fun t ht => (lsq_sz (near_sz hB (hone t (mem_rgI.mp ht)))).le (by decide)
    have hsz1 : ∀ i, i < s_l1.1.length → Sz 2000 (s_l1.1.getD i (0, 0)) := fun i hi => hsz.1 _ (List.mem_of_getElem? (getD_at hi))
    have hsz2 : ∀ i, i < s_l1.2.length → Sz 2000 (s_l1.2.getD i (0, 0)) := fun i hi => hsz.2 _ (List.mem_of_getElem? (getD_at hi))
    have r902 := (Rp.mono ((((SF.of e861).trans m863.sf).trans m898.sf).trans m900.sf) r853)
    have r903 := (Rp.mono ((((((m828.sf.trans (SF.of e838)).trans (SF.of e839)).trans (SF.of e861)).trans m863.sf).trans m898.sf).trans m900.sf) r819)
    have r904 := (Rp.mono ((((((m828.sf.trans (SF.of e838)).trans (SF.of e839)).trans (SF.of e861)).trans m863.sf).trans m898.sf).trans m900.sf) r820)
    have r905 := (Rp.mono ((((((SF.of e838).trans (SF.of e839)).trans (SF.of e861)).trans m863.sf).trans m898.sf).trans m900.sf) r827)
    have dr906 := (Dr.of_mu m900 n851 n852 (Dr.of_mu m898 n848 n849 (Dr.mus m863 (nin n848 (nin n851 nin0)) (nin n849 (nin n852 nin0)) (Dr.mono e861 (Dr.mono e839 (Dr.mono e838 dr829))))))
    -- 2: [_law_k for _law_k in range(len(_law_before) - 1) if _law_below(_law_before[_law_k], _law_before[_law_k + 1])] != []
    refine q_not (K := K) (et_test (er_op (er_frz (erl_lc1 (c := fun (x908 : Nat) => (m__law_below ((s_l1.1).getD (x908) (0, 0)) ((s_l1.1).getD ((((x908 : Nat) : Int) + (1 : Int))).toNat (0, 0)))) (f := fun (x908 : Nat) => x908) (src_range1I (er_op (er_up (er_len (er_var rfl (Rp.mono m900.sf r899)))) er_int rr_sub) (by first | decide | omega | (have := htlen _ hturn1; omega) | (rw [List.length_range]; have := hfl; omega) | (have := hfl; omega) | (have := hB.2.1; simp; omega) | (have := inB_len (wid_in hB); have := hB.2.1; show (m_widest bounds_here_b).length ≤ 1000000; omega))) (by first | decide | omega | (have := htlen _ hturn1; omega) | (rw [List.length_range]; have := hfl; omega) | (have := hfl; omega) | (have := hB.2.1; simp; omega) | (have := inB_len (wid_in hB); have := hB.2.1; show (m_widest bounds_here_b).length ≤ 1000000; omega)) (by intros; rfl) (fun x908 hx909 v910 _ e907 r911 => ⟨(et_B (er_call2 (er_op (er_var rfl (Rp.mono (SF.of e907) (Rp.mono m900.sf r899))) (er_up (er_var rfl r911)) (rr_ixL (x := ((s_l1.1).getD (x908) (0, 0))) (by first | exact getD_at (List.length_pos_iff.mpr (bne hB)) | exact getD_at (by have := List.mem_range.mp (by assumption); omega)))) (er_op (er_var rfl (Rp.mono (SF.of e907) (Rp.mono m900.sf r899))) (er_op (er_up (er_var rfl r911)) er_int rr_add) (rr_ixI (x := ((s_l1.1).getD ((((x908 : Nat) : Int) + (1 : Int))).toNat (0, 0))) (n := ((((x908 : Nat) : Int) + (1 : Int))).toNat) (by first | rfl | omega) (by first | exact getD_at (List.length_pos_iff.mpr (bne hB)) | exact getD_at (by have := List.mem_range.mp (by assumption); omega)))) (by first | exact ⟨(lsq_sz (near_sz hB (hone top (mem_rgI.mp htop)))).le (by decide), (least_sz hB).le (by decide)⟩ | exact ⟨(hone top (mem_rgI.mp htop)).le (by decide), (cen_sz hB).le (by decide)⟩ | exact ⟨hsz1 _ (by have := List.mem_range.mp (by assumption); omega), hsz1 _ (by have := List.mem_range.mp (by assumption); omega)⟩ | exact ⟨hsz2 _ (by have := List.mem_range.mp (by assumption); omega), hsz2 _ (by have := List.mem_range.mp (by assumption); omega)⟩ | exact ⟨(cen_sz hB).le (by decide), (mr_sz hB).1⟩ | exact ⟨(mr_sz hB).2, (cen_sz hB).le (by decide)⟩ | exact ⟨(least_sz hB2).le (by decide), (least_sz hB).le (by decide)⟩ | exact ⟨(gr_sz hB).le (by decide), (least_sz hB).le (by decide)⟩))), fun _ => (er_var rfl r911)⟩))) (er_frz (erl_lst (α := Nat) ea_nil)) rr_neT)) (by rw [htwo.1]; exact k20_2 hB (by omega) (rgI_pw _ _)) (fun _ e912 => ?_)
    -- 3: [_law_k for _law_k in range(len(_law_after) - 1) if _law_below(_law_after[_law_k + 1], _law_after[_law_k])] != []
    refine q_not (K := K) (et_test (er_op (er_frz (erl_lc1 (c := fun (x914 : Nat) => (m__law_below ((s_l1.2).getD ((((x914 : Nat) : Int) + (1 : Int))).toNat (0, 0)) ((s_l1.2).getD (x914) (0, 0)))) (f := fun (x914 : Nat) => x914) (src_range1I (er_op (er_up (er_len (er_var rfl (Rp.mono (SF.of e912) r901)))) er_int rr_sub) (by first | decide | omega | (have := htlen _ hturn1; omega) | (rw [List.length_range]; have := hfl; omega) | (have := hfl; omega) | (have := hB.2.1; simp; omega) | (have := inB_len (wid_in hB); have := hB.2.1; show (m_widest bounds_here_b).length ≤ 1000000; omega))) (by first | decide | omega | (have := htlen _ hturn1; omega) | (rw [List.length_range]; have := hfl; omega) | (have := hfl; omega) | (have := hB.2.1; simp; omega) | (have := inB_len (wid_in hB); have := hB.2.1; show (m_widest bounds_here_b).length ≤ 1000000; omega)) (by intros; rfl) (fun x914 hx915 v916 _ e913 r917 => ⟨(et_B (er_call2 (er_op (er_var rfl (Rp.mono (SF.of e913) (Rp.mono (SF.of e912) r901))) (er_op (er_up (er_var rfl r917)) er_int rr_add) (rr_ixI (x := ((s_l1.2).getD ((((x914 : Nat) : Int) + (1 : Int))).toNat (0, 0))) (n := ((((x914 : Nat) : Int) + (1 : Int))).toNat) (by first | rfl | omega) (by first | exact getD_at (List.length_pos_iff.mpr (bne hB)) | exact getD_at (by have := List.mem_range.mp (by assumption); omega)))) (er_op (er_var rfl (Rp.mono (SF.of e913) (Rp.mono (SF.of e912) r901))) (er_up (er_var rfl r917)) (rr_ixL (x := ((s_l1.2).getD (x914) (0, 0))) (by first | exact getD_at (List.length_pos_iff.mpr (bne hB)) | exact getD_at (by have := List.mem_range.mp (by assumption); omega)))) (by first | exact ⟨(lsq_sz (near_sz hB (hone top (mem_rgI.mp htop)))).le (by decide), (least_sz hB).le (by decide)⟩ | exact ⟨(hone top (mem_rgI.mp htop)).le (by decide), (cen_sz hB).le (by decide)⟩ | exact ⟨hsz1 _ (by have := List.mem_range.mp (by assumption); omega), hsz1 _ (by have := List.mem_range.mp (by assumption); omega)⟩ | exact ⟨hsz2 _ (by have := List.mem_range.mp (by assumption); omega), hsz2 _ (by have := List.mem_range.mp (by assumption); omega)⟩ | exact ⟨(cen_sz hB).le (by decide), (mr_sz hB).1⟩ | exact ⟨(mr_sz hB).2, (cen_sz hB).le (by decide)⟩ | exact ⟨(least_sz hB2).le (by decide), (least_sz hB).le (by decide)⟩ | exact ⟨(gr_sz hB).le (by decide), (least_sz hB).le (by decide)⟩))), fun _ => (er_var rfl r917)⟩))) (er_frz (erl_lst (α := Nat) ea_nil)) rr_neT)) (by rw [htwo.2]; exact k20_3 hB (by omega) (rgI_pw _ _)) (fun _ e918 => ?_)
    -- 4: _law_near(_law_bounds_here, _law_number) != nearest_choice(_law_bounds_here)
    refine q_not (K := K) (et_test (er_op (er_frz (erl_call2 (er_var rfl (Rp.mono ((SF.of e912).trans (SF.of e918)) r902)) (er_var rfl (Rp.mono ((SF.of e912).trans (SF.of e918)) r904)) (by first | exact near_pre hB (hone top (mem_rgI.mp htop)) | exact near_pre hB (cen_sz hB)))) (er_frz (erl_call1 (er_var rfl (Rp.mono ((SF.of e912).trans (SF.of e918)) r902)) (by exact hB))) rr_neT)) (by exact k20_4) (fun _ e919 => ?_)
    have r920 := (Rp.mono (((m900.sf.trans (SF.of e912)).trans (SF.of e918)).trans (SF.of e919)) r899)
    refine q_unp (K := K) (er_call1 (er_var rfl (Rp.mono (((SF.of e912).trans (SF.of e918)).trans (SF.of e919)) r902)) (by exact hB)) (fun v924 v925 _ e921 r922 r923 => ?_)
    have r926 := (Rp.mono ((((SF.of e912).trans (SF.of e918)).trans (SF.of e919)).trans (SF.of e921)) r902)
    have r927 := (Rp.mono ((((SF.of e912).trans (SF.of e918)).trans (SF.of e919)).trans (SF.of e921)) r903)
    have r928 := (Rp.mono ((((SF.of e912).trans (SF.of e918)).trans (SF.of e919)).trans (SF.of e921)) r904)
    have r929 := (Rp.mono ((((SF.of e912).trans (SF.of e918)).trans (SF.of e919)).trans (SF.of e921)) r905)
    have r930 := (Rp.mono ((((SF.of e912).trans (SF.of e918)).trans (SF.of e919)).trans (SF.of e921)) r901)
    have dr931 := (Dr.mono e921 (Dr.mono e919 (Dr.mono e918 (Dr.mono e912 dr906))))
    -- 5: _law_below(_law_number, _law_lower) or _law_below(_law_upper, _law_number)
    refine q_not (K := K) (et_or (et_B (er_call2 (er_var rfl r928) (er_var rfl r922) (by first | exact ⟨(lsq_sz (near_sz hB (hone top (mem_rgI.mp htop)))).le (by decide), (least_sz hB).le (by decide)⟩ | exact ⟨(hone top (mem_rgI.mp htop)).le (by decide), (cen_sz hB).le (by decide)⟩ | exact ⟨hsz1 _ (by have := List.mem_range.mp (by assumption); omega), hsz1 _ (by have := List.mem_range.mp (by assumption); omega)⟩ | exact ⟨hsz2 _ (by have := List.mem_range.mp (by assumption); omega), hsz2 _ (by have := List.mem_range.mp (by assumption); omega)⟩ | exact ⟨(cen_sz hB).le (by decide), (mr_sz hB).1⟩ | exact ⟨(mr_sz hB).2, (cen_sz hB).le (by decide)⟩ | exact ⟨(least_sz hB2).le (by decide), (least_sz hB).le (by decide)⟩ | exact ⟨(gr_sz hB).le (by decide), (least_sz hB).le (by decide)⟩))) (fun hsc => (et_B (er_call2 (er_var rfl r923) (er_var rfl r928) (by first | exact ⟨(lsq_sz (near_sz hB (hone top (mem_rgI.mp htop)))).le (by decide), (least_sz hB).le (by decide)⟩ | exact ⟨(hone top (mem_rgI.mp htop)).le (by decide), (cen_sz hB).le (by decide)⟩ | exact ⟨hsz1 _ (by have := List.mem_range.mp (by assumption); omega), hsz1 _ (by have := List.mem_range.mp (by assumption); omega)⟩ | exact ⟨hsz2 _ (by have := List.mem_range.mp (by assumption); omega), hsz2 _ (by have := List.mem_range.mp (by assumption); omega)⟩ | exact ⟨(cen_sz hB).le (by decide), (mr_sz hB).1⟩ | exact ⟨(mr_sz hB).2, (cen_sz hB).le (by decide)⟩ | exact ⟨(least_sz hB2).le (by decide), (least_sz hB).le (by decide)⟩ | exact ⟨(gr_sz hB).le (by decide), (least_sz hB).le (by decide)⟩))))) (by exact k20_5 hB) (fun _ e932 => ?_)
    refine q_set (K := K) (er_op (er_op (er_var rfl (Rp.mono (SF.of e932) r926)) er_int (rr_ixI (x := ((bounds_here_b).getD ((0 : Int)).toNat (0, 0))) (n := ((0 : Int)).toNat) (by first | rfl | omega) (by first | exact getD_at (List.length_pos_iff.mpr (bne hB)) | exact getD_at (by have := List.mem_range.mp (by assumption); omega)))) er_int rr_ixP0) (fun v935 _ e933 r934 => ?_)
    obtain ⟨value_936, hvalue_936⟩ : ∃ z, z = ((bounds_here_b).getD ((0 : Int)).toNat (0, 0)).1 := ⟨_, rfl⟩
    replace r934 := Rp.cong r934 hvalue_936
    have hB2v := more_ok hbounds_here_b hvalue_936
    refine q_set (K := K) (er_frz (erl_cat (er_var rfl (Rp.mono ((SF.of e932).trans (SF.of e933)) r926)) (er_frz (erl_lst (ea_cons (er_pair (er_var rfl r934) (er_var rfl r934)) ea_nil))) (by first | decide | omega | (have := htlen _ hturn1; omega) | (rw [List.length_range]; have := hfl; omega) | (have := hfl; omega) | (have := hB.2.1; simp; omega) | (have := inB_len (wid_in hB); have := hB.2.1; show (m_widest bounds_here_b).length ≤ 1000000; omega)))) (fun v939 _ e937 r938 => ?_)
    obtain ⟨more_940, hmore_940⟩ : ∃ z, z = (bounds_here_b ++ [(value_936, value_936)]) := ⟨_, rfl⟩
    replace r938 := Rp.cong r938 hmore_940
    have hmore := hmore_940
    have hB2 : BOk more_940 := by rw [hmore_940]; exact hB2v
    have r941 := (Rp.mono ((((SF.of e921).trans (SF.of e932)).trans (SF.of e933)).trans (SF.of e937)) r920)
    -- 6: len(_law_more) < 8 and _law_below(least_squares(_law_more), _law_least)
    refine q_not (K := K) (et_and (et_test (er_op (er_up (er_len (er_var rfl r938))) er_int rr_lt)) (fun hsc => (et_B (er_call2 (er_call1 (er_var rfl r938) (by first | exact hB | exact hB2)) (er_var rfl (Rp.mono (((SF.of e932).trans (SF.of e933)).trans (SF.of e937)) r927)) (by first | exact ⟨(lsq_sz (near_sz hB (hone top (mem_rgI.mp htop)))).le (by decide), (least_sz hB).le (by decide)⟩ | exact ⟨(hone top (mem_rgI.mp htop)).le (by decide), (cen_sz hB).le (by decide)⟩ | exact ⟨hsz1 _ (by have := List.mem_range.mp (by assumption); omega), hsz1 _ (by have := List.mem_range.mp (by assumption); omega)⟩ | exact ⟨hsz2 _ (by have := List.mem_range.mp (by assumption); omega), hsz2 _ (by have := List.mem_range.mp (by assumption); omega)⟩ | exact ⟨(cen_sz hB).le (by decide), (mr_sz hB).1⟩ | exact ⟨(mr_sz hB).2, (cen_sz hB).le (by decide)⟩ | exact ⟨(least_sz hB2).le (by decide), (least_sz hB).le (by decide)⟩ | exact ⟨(gr_sz hB).le (by decide), (least_sz hB).le (by decide)⟩))))) (by rw [hmore]; exact k20_6 hB hB2v) (fun _ e942 => ?_)
    have r943 := (Rp.mono ((((SF.of e932).trans (SF.of e933)).trans (SF.of e937)).trans (SF.of e942)) r926)
    have r944 := (Rp.mono ((((SF.of e932).trans (SF.of e933)).trans (SF.of e937)).trans (SF.of e942)) r927)
    have r945 := (Rp.mono ((((SF.of e932).trans (SF.of e933)).trans (SF.of e937)).trans (SF.of e942)) r928)
    have r946 := (Rp.mono ((((SF.of e932).trans (SF.of e933)).trans (SF.of e937)).trans (SF.of e942)) r929)
    have r947 := (Rp.mono ((((SF.of e932).trans (SF.of e933)).trans (SF.of e937)).trans (SF.of e942)) r930)
    have r948 := (Rp.mono ((((SF.of e932).trans (SF.of e933)).trans (SF.of e937)).trans (SF.of e942)) r922)
    have r949 := (Rp.mono ((((SF.of e932).trans (SF.of e933)).trans (SF.of e937)).trans (SF.of e942)) r923)
    have dr950 := (Dr.mono e942 (Dr.mono e937 (Dr.mono e933 (Dr.mono e932 dr931))))
    refine q_set (K := K) (er_call1 (er_var rfl r943) (by exact hB)) (fun v953 _ e951 r952 => ?_)
    -- end: _law_squares([(_law_one, 1) for _law_one in _law_row]) == greatest_squares(_law_bounds_here) and (not _law_below(greatest_squares(_law_bounds_here), _law_least))
    exact s_true (K := K) (er_andV (er_op (er_call1 (er_frz (erl_lm1 (f := fun (x955 : Int) => (x955, (1 : Int))) (src_list (er_var rfl r952)) (by first | decide | omega | (have := htlen _ hturn1; omega) | (rw [List.length_range]; have := hfl; omega) | (have := hfl; omega) | (have := hB.2.1; simp; omega) | (have := inB_len (wid_in hB); have := hB.2.1; show (m_widest bounds_here_b).length ≤ 1000000; omega)) (by intros; rfl) (fun x955 hx956 v957 _ e954 r958 => (er_pair (er_var rfl r958) er_int)))) (by first | exact near_sz hB (hone top (mem_rgI.mp htop)) | exact row_sz hB (wid_in hB))) (er_call1 (er_var rfl (Rp.mono (SF.of e951) r943)) (by exact hB)) rr_eqT) (fun hsc => (er_notV (er_call2 (er_call1 (er_var rfl (Rp.mono (SF.of e951) r943)) (by exact hB)) (er_var rfl (Rp.mono (SF.of e951) r944)) (by first | exact ⟨(lsq_sz (near_sz hB (hone top (mem_rgI.mp htop)))).le (by decide), (least_sz hB).le (by decide)⟩ | exact ⟨(hone top (mem_rgI.mp htop)).le (by decide), (cen_sz hB).le (by decide)⟩ | exact ⟨hsz1 _ (by have := List.mem_range.mp (by assumption); omega), hsz1 _ (by have := List.mem_range.mp (by assumption); omega)⟩ | exact ⟨hsz2 _ (by have := List.mem_range.mp (by assumption); omega), hsz2 _ (by have := List.mem_range.mp (by assumption); omega)⟩ | exact ⟨(cen_sz hB).le (by decide), (mr_sz hB).1⟩ | exact ⟨(mr_sz hB).2, (cen_sz hB).le (by decide)⟩ | exact ⟨(least_sz hB2).le (by decide), (least_sz hB).le (by decide)⟩ | exact ⟨(gr_sz hB).le (by decide), (least_sz hB).le (by decide)⟩))))) (by exact k20_7 hB) q
end
end BL

set_option Elab.async false
set_option linter.all false
set_option maxRecDepth 100000
set_option maxHeartbeats 0
namespace BL
open PySem PySem.Spec PyProof.Rows L2
def dd_is_int : He.DefD := ⟨("is_int", none), "is_int", "is_int", defArgs s_is_int, defBody s_is_int, defScope s_is_int, [], []⟩
def dd_is_bound : He.DefD := ⟨("is_bound", none), "is_bound", "is_bound", defArgs s_is_bound, defBody s_is_bound, defScope s_is_bound, [], []⟩
def dd_is_bounds : He.DefD := ⟨("is_bounds", none), "is_bounds", "is_bounds", defArgs s_is_bounds, defBody s_is_bounds, defScope s_is_bounds, [], []⟩
def dd_check_bounds : He.DefD := ⟨("check_bounds", none), "check_bounds", "check_bounds", defArgs s_check_bounds, defBody s_check_bounds, defScope s_check_bounds, [], []⟩
def dd_common_divisor : He.DefD := ⟨("common_divisor", none), "common_divisor", "common_divisor", defArgs s_common_divisor, defBody s_common_divisor, defScope s_common_divisor, [], []⟩
def dd_lowest : He.DefD := ⟨("lowest", none), "lowest", "lowest", defArgs s_lowest, defBody s_lowest, defScope s_lowest, [], []⟩
def dd_plus : He.DefD := ⟨("plus", none), "plus", "plus", defArgs s_plus, defBody s_plus, defScope s_plus, [], []⟩
def dd_minus : He.DefD := ⟨("minus", none), "minus", "minus", defArgs s_minus, defBody s_minus, defScope s_minus, [], []⟩
def dd_times : He.DefD := ⟨("times", none), "times", "times", defArgs s_times, defBody s_times, defScope s_times, [], []⟩
def dd_less : He.DefD := ⟨("less", none), "less", "less", defArgs s_less, defBody s_less, defScope s_less, [], []⟩
def dd_total : He.DefD := ⟨("total", none), "total", "total", defArgs s_total, defBody s_total, defScope s_total, [], []⟩
def dd_squares_about_mean : He.DefD := ⟨("squares_about_mean", none), "squares_about_mean", "squares_about_mean", defArgs s_squares_about_mean, defBody s_squares_about_mean, defScope s_squares_about_mean, [], []⟩
def dd_lows : He.DefD := ⟨("lows", none), "lows", "lows", defArgs s_lows, defBody s_lows, defScope s_lows, [], []⟩
def dd_highs : He.DefD := ⟨("highs", none), "highs", "highs", defArgs s_highs, defBody s_highs, defScope s_highs, [], []⟩
def dd_mean_range : He.DefD := ⟨("mean_range", none), "mean_range", "mean_range", defArgs s_mean_range, defBody s_mean_range, defScope s_mean_range, [], []⟩
def dd_corner_choices : He.DefD := ⟨("corner_choices", none), "corner_choices", "corner_choices", defArgs s_corner_choices, defBody s_corner_choices, defScope s_corner_choices, [], []⟩
def dd_widest : He.DefD := ⟨("widest", none), "widest", "widest", defArgs s_widest, defBody s_widest, defScope s_widest, [], []⟩
def dd_greatest_squares : He.DefD := ⟨("greatest_squares", none), "greatest_squares", "greatest_squares", defArgs s_greatest_squares, defBody s_greatest_squares, defScope s_greatest_squares, [], []⟩
def dd_widest_squares_choice : He.DefD := ⟨("widest_squares_choice", none), "widest_squares_choice", "widest_squares_choice", defArgs s_widest_squares_choice, defBody s_widest_squares_choice, defScope s_widest_squares_choice, [], []⟩
def dd_clipped : He.DefD := ⟨("clipped", none), "clipped", "clipped", defArgs s_clipped, defBody s_clipped, defScope s_clipped, [], []⟩
def dd_centre_of : He.DefD := ⟨("centre_of", none), "centre_of", "centre_of", defArgs s_centre_of, defBody s_centre_of, defScope s_centre_of, [], []⟩
def dd_centre : He.DefD := ⟨("centre", none), "centre", "centre", defArgs s_centre, defBody s_centre, defScope s_centre, [], []⟩
def dd_nearest_choice : He.DefD := ⟨("nearest_choice", none), "nearest_choice", "nearest_choice", defArgs s_nearest_choice, defBody s_nearest_choice, defScope s_nearest_choice, [], []⟩
def dd_least_squares : He.DefD := ⟨("least_squares", none), "least_squares", "least_squares", defArgs s_least_squares, defBody s_least_squares, defScope s_least_squares, [], []⟩
def dd__law_start : He.DefD := ⟨("_law_start", none), "_law_start", "_law_start", defArgs s__law_start, defBody s__law_start, defScope s__law_start, [], []⟩
def dd__law_draw : He.DefD := ⟨("_law_draw", none), "_law_draw", "_law_draw", defArgs s__law_draw, defBody s__law_draw, defScope s__law_draw, [], []⟩
def dd__law_pick : He.DefD := ⟨("_law_pick", none), "_law_pick", "_law_pick", defArgs s__law_pick, defBody s__law_pick, defScope s__law_pick, [], []⟩
def dd__law_bounds : He.DefD := ⟨("_law_bounds", none), "_law_bounds", "_law_bounds", defArgs s__law_bounds, defBody s__law_bounds, defScope s__law_bounds, [], []⟩
def dd__law_low : He.DefD := ⟨("_law_low", none), "_law_low", "_law_low", defArgs s__law_low, defBody s__law_low, defScope s__law_low, [], []⟩
def dd__law_add : He.DefD := ⟨("_law_add", none), "_law_add", "_law_add", defArgs s__law_add, defBody s__law_add, defScope s__law_add, [], []⟩
def dd__law_below : He.DefD := ⟨("_law_below", none), "_law_below", "_law_below", defArgs s__law_below, defBody s__law_below, defScope s__law_below, [], []⟩
def dd__law_squares : He.DefD := ⟨("_law_squares", none), "_law_squares", "_law_squares", defArgs s__law_squares, defBody s__law_squares, defScope s__law_squares, [], []⟩
def dd__law_near : He.DefD := ⟨("_law_near", none), "_law_near", "_law_near", defArgs s__law_near, defBody s__law_near, defScope s__law_near, [], []⟩
def dd_law : He.DefD := ⟨("law", none), "law", "law", defArgs s_law, defBody s_law, defScope s_law, [], []⟩
def fnD : List He.DefD := [dd_is_int, dd_is_bound, dd_is_bounds, dd_check_bounds, dd_common_divisor, dd_lowest, dd_plus, dd_minus, dd_times, dd_less, dd_total, dd_squares_about_mean, dd_lows, dd_highs, dd_mean_range, dd_corner_choices, dd_widest, dd_greatest_squares, dd_widest_squares_choice, dd_clipped, dd_centre_of, dd_centre, dd_nearest_choice, dd_least_squares, dd__law_start, dd__law_draw, dd__law_pick, dd__law_bounds, dd__law_low, dd__law_add, dd__law_below, dd__law_squares, dd__law_near, dd_law]
def faD : List He.Fa := [.glo "is_int", .glo "is_bound", .glo "is_bounds", .glo "check_bounds", .glo "common_divisor", .glo "lowest", .glo "plus", .glo "minus", .glo "times", .glo "less", .glo "total", .glo "squares_about_mean", .glo "lows", .glo "highs", .glo "mean_range", .glo "corner_choices", .glo "widest", .glo "greatest_squares", .glo "widest_squares_choice", .glo "clipped", .glo "centre_of", .glo "centre", .glo "nearest_choice", .glo "least_squares", .glo "_law_start", .glo "_law_draw", .glo "_law_pick", .glo "_law_bounds", .glo "_law_low", .glo "_law_add", .glo "_law_below", .glo "_law_squares", .glo "_law_near", .glo "law", .free "abs", .free "all", .free "bool", .free "int", .free "isinstance", .free "len", .free "list", .free "max", .free "min", .free "range", .free "sorted", .free "sum", .free "tuple", .free "zip", .int "MOST_BOUND" 50, .int "MOST_VALUES" 7]
abbrev rowR : PySem.W.OpenRow := PySem.W.OpenLaw.row PySem.Challenge.rw_boundstats_k20_whole_centres
def exD (K : Fg) : Bool := true
abbrev hkD : PySem.W.Hook := hookB 4 faD fnD exD
def obD (s : PySem.W.SharedT) : He.AlD × Bool := (He.obsDG 4 faD fnD (HandSHeadRun.getT s), exD (He.frG (HandSHeadRun.getT s) (He.asD (HandSHeadRun.getT s) 4)))
theorem obD_eq (s : PySem.W.SharedT) : obD s = hkD.obs s.abs := hookB_eq (HandSHeadRun.getT_eq s)
def looseD0 : List Str := ["BoundError", "BadBounds", "MOST_VALUES", "MOST_BOUND", "is_int", "is_bound", "is_bounds", "check_bounds", "common_divisor", "lowest", "plus", "minus", "times", "less", "total", "squares_about_mean", "lows", "highs", "mean_range", "corner_choices"]
def looseD1 : List Str := ["greatest_squares", "widest", "widest_squares_choice", "clipped", "centre_of", "centre", "nearest_choice", "least_squares", "_law_start", "_law_draw", "_law_pick", "_law_bounds", "_law_low", "_law_add", "_law_below", "_law_squares", "_law_near"]
def looseD : List Str := looseD0 ++ looseD1
theorem runD (w : World) : HandSHeadRun.RunEq rowR (PySem.W.view rowR.prog [42]) hkD obD 3000 looseD w := by
  intro os
  kernel_rfl
theorem txt_of {K : Fg} {h : Heap} {mg : Str → Option Value} (X : K.In h) (G : h.Ns mainGlobals mg) (c : He.SaysD faD fnD K) (cx : exD K = true) : Txt K mg where
  d_is_int := by
    obtain ⟨fd, F⟩ := c.def_ 0 (d := dd_is_int) rfl
    exact ⟨_, fd, F, He.glo_ok X G (c.fact 0 (f := .glo "is_int") rfl)⟩
  d_is_bound := by
    obtain ⟨fd, F⟩ := c.def_ 1 (d := dd_is_bound) rfl
    exact ⟨_, fd, F, He.glo_ok X G (c.fact 1 (f := .glo "is_bound") rfl)⟩
  d_is_bounds := by
    obtain ⟨fd, F⟩ := c.def_ 2 (d := dd_is_bounds) rfl
    exact ⟨_, fd, F, He.glo_ok X G (c.fact 2 (f := .glo "is_bounds") rfl)⟩
  d_check_bounds := by
    obtain ⟨fd, F⟩ := c.def_ 3 (d := dd_check_bounds) rfl
    exact ⟨_, fd, F, He.glo_ok X G (c.fact 3 (f := .glo "check_bounds") rfl)⟩
  d_common_divisor := by
    obtain ⟨fd, F⟩ := c.def_ 4 (d := dd_common_divisor) rfl
    exact ⟨_, fd, F, He.glo_ok X G (c.fact 4 (f := .glo "common_divisor") rfl)⟩
  d_lowest := by
    obtain ⟨fd, F⟩ := c.def_ 5 (d := dd_lowest) rfl
    exact ⟨_, fd, F, He.glo_ok X G (c.fact 5 (f := .glo "lowest") rfl)⟩
  d_plus := by
    obtain ⟨fd, F⟩ := c.def_ 6 (d := dd_plus) rfl
    exact ⟨_, fd, F, He.glo_ok X G (c.fact 6 (f := .glo "plus") rfl)⟩
  d_minus := by
    obtain ⟨fd, F⟩ := c.def_ 7 (d := dd_minus) rfl
    exact ⟨_, fd, F, He.glo_ok X G (c.fact 7 (f := .glo "minus") rfl)⟩
  d_times := by
    obtain ⟨fd, F⟩ := c.def_ 8 (d := dd_times) rfl
    exact ⟨_, fd, F, He.glo_ok X G (c.fact 8 (f := .glo "times") rfl)⟩
  d_less := by
    obtain ⟨fd, F⟩ := c.def_ 9 (d := dd_less) rfl
    exact ⟨_, fd, F, He.glo_ok X G (c.fact 9 (f := .glo "less") rfl)⟩
  d_total := by
    obtain ⟨fd, F⟩ := c.def_ 10 (d := dd_total) rfl
    exact ⟨_, fd, F, He.glo_ok X G (c.fact 10 (f := .glo "total") rfl)⟩
  d_squares_about_mean := by
    obtain ⟨fd, F⟩ := c.def_ 11 (d := dd_squares_about_mean) rfl
    exact ⟨_, fd, F, He.glo_ok X G (c.fact 11 (f := .glo "squares_about_mean") rfl)⟩
  d_lows := by
    obtain ⟨fd, F⟩ := c.def_ 12 (d := dd_lows) rfl
    exact ⟨_, fd, F, He.glo_ok X G (c.fact 12 (f := .glo "lows") rfl)⟩
  d_highs := by
    obtain ⟨fd, F⟩ := c.def_ 13 (d := dd_highs) rfl
    exact ⟨_, fd, F, He.glo_ok X G (c.fact 13 (f := .glo "highs") rfl)⟩
  d_mean_range := by
    obtain ⟨fd, F⟩ := c.def_ 14 (d := dd_mean_range) rfl
    exact ⟨_, fd, F, He.glo_ok X G (c.fact 14 (f := .glo "mean_range") rfl)⟩
  d_corner_choices := by
    obtain ⟨fd, F⟩ := c.def_ 15 (d := dd_corner_choices) rfl
    exact ⟨_, fd, F, He.glo_ok X G (c.fact 15 (f := .glo "corner_choices") rfl)⟩
  d_widest := by
    obtain ⟨fd, F⟩ := c.def_ 16 (d := dd_widest) rfl
    exact ⟨_, fd, F, He.glo_ok X G (c.fact 16 (f := .glo "widest") rfl)⟩
  d_greatest_squares := by
    obtain ⟨fd, F⟩ := c.def_ 17 (d := dd_greatest_squares) rfl
    exact ⟨_, fd, F, He.glo_ok X G (c.fact 17 (f := .glo "greatest_squares") rfl)⟩
  d_widest_squares_choice := by
    obtain ⟨fd, F⟩ := c.def_ 18 (d := dd_widest_squares_choice) rfl
    exact ⟨_, fd, F, He.glo_ok X G (c.fact 18 (f := .glo "widest_squares_choice") rfl)⟩
  d_clipped := by
    obtain ⟨fd, F⟩ := c.def_ 19 (d := dd_clipped) rfl
    exact ⟨_, fd, F, He.glo_ok X G (c.fact 19 (f := .glo "clipped") rfl)⟩
  d_centre_of := by
    obtain ⟨fd, F⟩ := c.def_ 20 (d := dd_centre_of) rfl
    exact ⟨_, fd, F, He.glo_ok X G (c.fact 20 (f := .glo "centre_of") rfl)⟩
  d_centre := by
    obtain ⟨fd, F⟩ := c.def_ 21 (d := dd_centre) rfl
    exact ⟨_, fd, F, He.glo_ok X G (c.fact 21 (f := .glo "centre") rfl)⟩
  d_nearest_choice := by
    obtain ⟨fd, F⟩ := c.def_ 22 (d := dd_nearest_choice) rfl
    exact ⟨_, fd, F, He.glo_ok X G (c.fact 22 (f := .glo "nearest_choice") rfl)⟩
  d_least_squares := by
    obtain ⟨fd, F⟩ := c.def_ 23 (d := dd_least_squares) rfl
    exact ⟨_, fd, F, He.glo_ok X G (c.fact 23 (f := .glo "least_squares") rfl)⟩
  d__law_start := by
    obtain ⟨fd, F⟩ := c.def_ 24 (d := dd__law_start) rfl
    exact ⟨_, fd, F, He.glo_ok X G (c.fact 24 (f := .glo "_law_start") rfl)⟩
  d__law_draw := by
    obtain ⟨fd, F⟩ := c.def_ 25 (d := dd__law_draw) rfl
    exact ⟨_, fd, F, He.glo_ok X G (c.fact 25 (f := .glo "_law_draw") rfl)⟩
  d__law_pick := by
    obtain ⟨fd, F⟩ := c.def_ 26 (d := dd__law_pick) rfl
    exact ⟨_, fd, F, He.glo_ok X G (c.fact 26 (f := .glo "_law_pick") rfl)⟩
  d__law_bounds := by
    obtain ⟨fd, F⟩ := c.def_ 27 (d := dd__law_bounds) rfl
    exact ⟨_, fd, F, He.glo_ok X G (c.fact 27 (f := .glo "_law_bounds") rfl)⟩
  d__law_low := by
    obtain ⟨fd, F⟩ := c.def_ 28 (d := dd__law_low) rfl
    exact ⟨_, fd, F, He.glo_ok X G (c.fact 28 (f := .glo "_law_low") rfl)⟩
  d__law_add := by
    obtain ⟨fd, F⟩ := c.def_ 29 (d := dd__law_add) rfl
    exact ⟨_, fd, F, He.glo_ok X G (c.fact 29 (f := .glo "_law_add") rfl)⟩
  d__law_below := by
    obtain ⟨fd, F⟩ := c.def_ 30 (d := dd__law_below) rfl
    exact ⟨_, fd, F, He.glo_ok X G (c.fact 30 (f := .glo "_law_below") rfl)⟩
  d__law_squares := by
    obtain ⟨fd, F⟩ := c.def_ 31 (d := dd__law_squares) rfl
    exact ⟨_, fd, F, He.glo_ok X G (c.fact 31 (f := .glo "_law_squares") rfl)⟩
  d__law_near := by
    obtain ⟨fd, F⟩ := c.def_ 32 (d := dd__law_near) rfl
    exact ⟨_, fd, F, He.glo_ok X G (c.fact 32 (f := .glo "_law_near") rfl)⟩
  d_law := by
    obtain ⟨fd, F⟩ := c.def_ 33 (d := dd_law) rfl
    exact ⟨_, fd, F, He.glo_ok X G (c.fact 33 (f := .glo "law") rfl)⟩
  n_abs := He.free_ok X G (c.fact 34 (f := .free "abs") rfl)
  n_all := He.free_ok X G (c.fact 35 (f := .free "all") rfl)
  n_bool := He.free_ok X G (c.fact 36 (f := .free "bool") rfl)
  n_int := He.free_ok X G (c.fact 37 (f := .free "int") rfl)
  n_isinstance := He.free_ok X G (c.fact 38 (f := .free "isinstance") rfl)
  n_len := He.free_ok X G (c.fact 39 (f := .free "len") rfl)
  n_list := He.free_ok X G (c.fact 40 (f := .free "list") rfl)
  n_max := He.free_ok X G (c.fact 41 (f := .free "max") rfl)
  n_min := He.free_ok X G (c.fact 42 (f := .free "min") rfl)
  n_range := He.free_ok X G (c.fact 43 (f := .free "range") rfl)
  n_sorted := He.free_ok X G (c.fact 44 (f := .free "sorted") rfl)
  n_sum := He.free_ok X G (c.fact 45 (f := .free "sum") rfl)
  n_tuple := He.free_ok X G (c.fact 46 (f := .free "tuple") rfl)
  n_zip := He.free_ok X G (c.fact 47 (f := .free "zip") rfl)
  c_MOST_BOUND := He.int_ok X G (c.fact 48 (f := .int "MOST_BOUND" 50) rfl)
  c_MOST_VALUES := He.int_ok X G (c.fact 49 (f := .int "MOST_VALUES" 7) rfl)
theorem endD {P : Program} {w : World} {K : Fg} {h : Heap} {mg : Str → Option Value} {f : Addr} (X : K.In h) (G : h.Ns mainGlobals mg) (hfa : mg ("law" : Str) = some (.ref f)) (c : He.SaysD faD fnD K) (cx : exD K = true) :
    ∃ fd : FuncData, (∀ (s : Shared) (v : Value), BindsTo s fd ⟨[v], []⟩ [("_law_script", v)]) ∧ ∀ base : Heap, K.In base → base.Ns mainGlobals mg → FnOk P w K mg base CX0 8 f fd ["_law_script"] (spLaw K) := by
  have T := txt_of X G c cx
  obtain ⟨fd, F⟩ := c.def_ 33 (d := dd_law) rfl
  have e := hfa.symm.trans (He.glo_ok X G (c.fact 33 (f := .glo "law") rfl))
  cases e
  have b := FunD.bindsA (ps := ["_law_script"]) F fun _ _ _ _ _ _ us hl => match us, hl with | [_], _ => rfl
  exact ⟨fd, fun s v => b s [v] rfl, fun base _ _ => ok_law T F⟩
end BL
open PySem PySem.W PySem.Calls PyProof.Rows
set_option maxRecDepth 100000 in
set_option maxHeartbeats 0 in
theorem PySem.Challenge.cw_boundstats_k20_whole_centres_holds : PySem.Challenge.rw_boundstats_k20_whole_centres.Holds := by
  w_on; o_law
  refine HandSHeadRun.head_any (r := OpenLaw.row PySem.Challenge.rw_boundstats_k20_whole_centres) (q := view (OpenLaw.row PySem.Challenge.rw_boundstats_k20_whole_centres).prog [42]) (H := BL.hkD) (ob := BL.obD) (M := 3000) (loose := BL.looseD) (d := HandSHeadRun.topDef (OpenLaw.row PySem.Challenge.rw_boundstats_k20_whole_centres).prog 42) (kwd := []) BL.obD_eq
    (by kernel_rfl) (fun s => by kernel_rfl) BL.runD (by kernel_rfl) (by kernel_rfl) (by kernel_rfl) (by rfl) (by first | assumption | decide +kernel) (by decide +kernel) ⟨rfl, rfl, rfl, rfl, rfl, by decide +kernel⟩ ?hw ?hc
  case hw => w_witness2
  case hc =>
    refine L2.walk_ofE (l := PySem.Challenge.rw_boundstats_k20_whole_centres) (n := 63) (k := 8) (x := "_law_script") (CX := L2.CX0) rfl (by decide) (by kernel_rfl) ⟨rfl, by decide, by decide⟩ ?F (fun _ _ _ _ z => z)
    intro w mg fa h Y G hmg0
    obtain ⟨K, KX, c, cx⟩ := Y
    have hmg : mg ("law" : PySem.Str) = some (.ref fa) := by
      have e : (HandSHeadRun.topDef (OpenLaw.row PySem.Challenge.rw_boundstats_k20_whole_centres).prog 42).name = ("law" : PySem.Str) := by kernel_rfl
      rw [← e]
      exact hmg0
    obtain ⟨fd, hb, hF⟩ := BL.endD (P := (PySem.Challenge.rw_boundstats_k20_whole_centres).prog) (w := w) KX G hmg c cx
    exact ⟨K, fd, BL.spLaw K, KX, hb, fun H a ns hl _ hS => ⟨a, ns, rfl, hS, hl, fun _ => rfl⟩, hF⟩
#print axioms PySem.Challenge.cw_boundstats_k20_whole_centres_holds
