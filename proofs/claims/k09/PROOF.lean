import PyProof.Rows.All
import Wide.All
import OpenK.AllK
import Wide.FinOn
import HandS.ForMost
import HandS.Evl
import HandS.Walk
import HandS.SortInts
import HandS.Wide
import HandS.IsInst
import HandS.Style
import HandS.Defaults
import HandS.Deep
import HandS.Conv
import HandS.NoneIn
import HandS.More
import HandS.Head0
import HandS.Head1
import HandS.Head2
import HandS.HeadEnd
import HandS.HeadHook1
import HandS.HeadHook2
import HandS.Steps
import KE.KStateDown
import Lean
import HandS.WordsExc
import PySem.Challenge.RW_boundstats_k09_whole_compared
set_option Elab.async false
set_option linter.all false
set_option maxRecDepth 100000
set_option maxHeartbeats 2000000
/-! typed readings: values as plain data, lists locked once made -/
namespace BL
open PySem PySem.Spec PyProof.Rows L2
abbrev Fg := PySem.W.Frag
/-! ### what stays: tuples, locked things -/
inductive Sta : HO → Prop
  | tup (xs : List V) : Sta (.tup xs)
  | frz (o : Obj) (u : HO) : Sta (.frz o u)
theorem sta_lst {xs : List V} : ¬ Sta (.lst xs) := fun h => nomatch h
def SF (H H' : Hp) : Prop := ∀ a o, Sta o → H a = some o → H' a = some o
section
variable {H H1 H2 H' : Hp} {p a : Addr} {o u : HO} {xs ys : List V} {K : Fg}
theorem SF.refl (H : Hp) : SF H H := fun _ _ _ h => h
theorem SF.trans (a : SF H H1) (b : SF H1 H2) : SF H H2 := fun x o s h => b x o s (a x o s h)
theorem SF.of (e : Same H H') : SF H H' := fun a o _ h => e a o h
theorem SF.new (h : H p = none) : SF H (upd H p o) := fun a u _ e => by
  rw [upd_ne (ne_of_none e h)]; exact e
theorem SF.chg (h : H p = some u) (n : ¬ Sta u) : SF H (upd H p o) := fun a w s e => by
  by_cases q : a = p
  · subst q; rw [h] at e; cases e; exact absurd s n
  · rw [upd_ne q]; exact e
theorem SF.lst (h : H p = some (.lst xs)) : SF H (upd H p o) := SF.chg h sta_lst
theorem same_new (h : H p = none) : Same H (upd H p o) := fun a u e => by
  rw [upd_ne (ne_of_none e h)]; exact e
/-- what H does not know may change -/
theorem same_mut (e : Same H H') (h : H p = none) : Same H (upd H' p o) := fun a u ha => by
  rw [upd_ne (ne_of_none ha h)]; exact e a u ha
theorem sf_mut (e : SF H H') (h : H p = none) : SF H (upd H' p o) := fun a u s ha => by
  rw [upd_ne (ne_of_none ha h)]; exact e a u s ha
theorem none_back (e : Same H H') (h : H' p = none) : H p = none := e.free h
theorem upd_get (h : H a = some u) (n : a ≠ p) : upd H p o a = some u := by rw [upd_ne n]; exact h
def Fz (H : Hp) (a : Addr) (xs : List V) : Prop := ∃ o, H a = some (.frz o (.lst xs))
theorem Fz.seq (h : Fz H a xs) : SqL K H a xs := by
  obtain ⟨o, h⟩ := h; exact .inl (.inr ⟨o, h⟩)
theorem Fz.sf (e : SF H H') (h : Fz H a xs) : Fz H' a xs := by
  obtain ⟨o, h⟩ := h; exact ⟨o, e _ _ (.frz _ _) h⟩
theorem sqt_sf (e : SF H H') (h : SqT K H a xs) : SqT K H' a xs := by
  rcases h with (h | ⟨o, h⟩) | h
  · exact .inl (.inl (e _ _ (.tup _) h))
  · exact .inl (.inr ⟨o, e _ _ (.frz _ _) h⟩)
  · exact .inr h
theorem sq_lst (h : H a = some (.lst xs)) : SqL K H a xs := .inl (.inl h)
theorem sq_tup (h : H a = some (.tup xs)) : SqT K H a xs := .inl (.inl h)
end
theorem paired_mono {α β : Type} {F G : α → β → Prop} (h : ∀ a b, F a b → G a b) : ∀ {l : List α} {r : List β}, Paired F l r → Paired G l r
  | _, _, .nil => .nil
  | _, _, .cons a b => .cons (h _ _ a) (paired_mono h b)
theorem paired_len {α β : Type} {F : α → β → Prop} {l : List α} {r : List β} (h : Paired F l r) : l.length = r.length := Paired.length h
theorem paired_app {α β : Type} {F : α → β → Prop} : ∀ {l l' : List α} {r r' : List β}, Paired F l r → Paired F l' r' → Paired F (l ++ l') (r ++ r')
  | _, _, _, _, .nil, h => h
  | _, _, _, _, .cons a b, h => .cons a (paired_app b h)
theorem paired_get {α β : Type} {F : α → β → Prop} : ∀ {l : List α} {r : List β} {i : Nat} {y : β}, Paired F l r → r[i]? = some y → ∃ x, l[i]? = some x ∧ F x y
  | _, _, i, _, .nil, e => by simp at e
  | _, _, 0, _, .cons a _, e => by simp at e; subst e; exact ⟨_, rfl, a⟩
  | _, _, i + 1, y, .cons _ b, e => by
    obtain ⟨x, h1, h2⟩ := paired_get (i := i) (y := y) b (by simpa using e)
    exact ⟨x, by simpa using h1, h2⟩
theorem paired_get2 {α β : Type} {F : α → β → Prop} : ∀ {l : List α} {r : List β} {i : Nat} {x : α}, Paired F l r → l[i]? = some x → ∃ y, r[i]? = some y ∧ F x y
  | _, _, i, _, .nil, e => by simp at e
  | _, _, 0, _, .cons a _, e => by simp at e; subst e; exact ⟨_, rfl, a⟩
  | _, _, i + 1, y, .cons _ b, e => by
    obtain ⟨x, h1, h2⟩ := paired_get2 (i := i) (x := y) b (by simpa using e)
    exact ⟨x, by simpa using h1, h2⟩
theorem paired_set {α β : Type} {F : α → β → Prop} {x : α} {y : β} (f : F x y) : ∀ {l : List α} {r : List β} (i : Nat), Paired F l r → Paired F (l.set i x) (r.set i y)
  | _, _, _, .nil => .nil
  | _, _, 0, .cons _ b => .cons f b
  | _, _, i + 1, .cons a b => .cons a (paired_set f i b)
theorem paired_take {α β : Type} {F : α → β → Prop} : ∀ {l : List α} {r : List β} (n : Nat), Paired F l r → Paired F (l.take n) (r.take n)
  | _, _, 0, _ => .nil
  | _, _, _ + 1, .nil => .nil
  | _, _, n + 1, .cons a b => .cons a (paired_take n b)
theorem paired_drop {α β : Type} {F : α → β → Prop} : ∀ {l : List α} {r : List β} (n : Nat), Paired F l r → Paired F (l.drop n) (r.drop n)
  | _, _, 0, h => h
  | _, _, _ + 1, .nil => .nil
  | _, _, n + 1, .cons a b => paired_drop n b

/-! ### data -/
class Rp (α : Type) where
  rep : Fg → Hp → V → α → Prop
  mono : ∀ {K : Fg} {H H' : Hp} {v : V} {x : α}, SF H H' → rep K H v x → rep K H' v x
/-- a triple -/
structure T3 (α β γ : Type) where
  a : α
  b : β
  c : γ
  deriving DecidableEq
instance : Rp Int := ⟨fun _ _ v i => v = .int i, fun _ h => h⟩
instance : Rp Nat := ⟨fun _ _ v i => v = .int (i : Int), fun _ h => h⟩
instance : Rp Bool := ⟨fun _ _ v b => v = .bl b, fun _ h => h⟩
instance : Rp Str := ⟨fun _ _ v b => v = .str b, fun _ h => h⟩
instance : Rp Unit := ⟨fun _ _ v _ => v = .non, fun _ h => h⟩
instance {α β : Type} [Rp α] [Rp β] : Rp (α × β) := ⟨fun K H v p => ∃ a v1 v2, v = .ref a ∧ SqT K H a [v1, v2] ∧ Rp.rep K H v1 p.1 ∧ Rp.rep K H v2 p.2,
  fun e h => by obtain ⟨a, v1, v2, h1, h2, h3, h4⟩ := h; exact ⟨a, v1, v2, h1, sqt_sf e h2, Rp.mono e h3, Rp.mono e h4⟩⟩
instance {α β γ : Type} [Rp α] [Rp β] [Rp γ] : Rp (T3 α β γ) := ⟨fun K H v p => ∃ a v1 v2 v3, v = .ref a ∧ SqT K H a [v1, v2, v3] ∧ Rp.rep K H v1 p.a ∧ Rp.rep K H v2 p.b ∧ Rp.rep K H v3 p.c,
  fun e h => by obtain ⟨a, v1, v2, v3, h1, h2, h3, h4, h5⟩ := h; exact ⟨a, v1, v2, v3, h1, sqt_sf e h2, Rp.mono e h3, Rp.mono e h4, Rp.mono e h5⟩⟩
abbrev RL {α : Type} [Rp α] (K : Fg) (H : Hp) (vs : List V) (l : List α) : Prop := Paired (Rp.rep K H) vs l
theorem RL.mono {α : Type} [Rp α] {K : Fg} {H H' : Hp} {vs : List V} {l : List α} (e : SF H H') (h : RL K H vs l) : RL K H' vs l := paired_mono (fun _ _ => Rp.mono e) h
instance {α : Type} [Rp α] : Rp (List α) := ⟨fun K H v l => ∃ a vs, v = .ref a ∧ Fz H a vs ∧ RL K H vs l,
  fun e h => by obtain ⟨a, vs, h1, h2, h3⟩ := h; exact ⟨a, vs, h1, h2.sf e, h3.mono e⟩⟩
/-- None, or a thing that is not None -/
instance {α : Type} [Rp α] : Rp (Option α) := ⟨fun K H v o => match o with
  | none => v = .non
  | some x => v ≠ .non ∧ Rp.rep K H v x, fun {K H H' v o} e h => by
    cases o with
    | none => exact h
    | some x => exact ⟨h.1, Rp.mono e h.2⟩⟩
instance {α β : Type} [Rp α] [Rp β] : Rp (Sum α β) := ⟨fun K H v o => match o with
  | .inl x => Rp.rep K H v x
  | .inr x => Rp.rep K H v x, fun {K H H' v o} e h => by
    cases o with
    | inl x => exact Rp.mono e h
    | inr x => exact Rp.mono e h⟩
/-- a tuple of any length -/
structure Tp (α : Type) where
  l : List α
  deriving DecidableEq
instance {α : Type} [Rp α] : Rp (Tp α) := ⟨fun K H v t => ∃ a vs, v = .ref a ∧ SqT K H a vs ∧ RL K H vs t.l,
  fun e h => by obtain ⟨a, vs, h1, h2, h3⟩ := h; exact ⟨a, vs, h1, sqt_sf e h2, h3.mono e⟩⟩
section
variable {K : Fg} {H H' : Hp}
theorem rep_int {v : V} {i : Int} : Rp.rep K H v i ↔ v = .int i := Iff.rfl
theorem rl_ints : ∀ {vs : List V} {l : List Int}, RL K H vs l → vs = l.map V.int
  | _, _, .nil => rfl
  | _, _, .cons a b => by rw [List.map_cons, ← rl_ints b, rep_int.mp a]
theorem rl_nats : ∀ {vs : List V} {l : List Nat}, RL K H vs l → vs = (l.map fun n : Nat => (n : Int)).map V.int
  | _, _, .nil => rfl
  | _, _, .cons a b => by
    have e : _ = V.int _ := a
    rw [List.map_cons, List.map_cons, ← rl_nats b, e]
theorem rl_bools : ∀ {vs : List V} {l : List Bool}, RL K H vs l → vs = l.map V.bl
  | _, _, .nil => rfl
  | _, _, .cons a b => by
    have e : _ = V.bl _ := a
    rw [List.map_cons, ← rl_bools b, e]
theorem rl_strs : ∀ {vs : List V} {l : List Str}, RL K H vs l → vs = l.map V.str
  | _, _, .nil => rfl
  | _, _, .cons a b => by
    have e : _ = V.str _ := a
    rw [List.map_cons, ← rl_strs b, e]
theorem rl_of_ints : ∀ (l : List Int), RL K H (l.map V.int) l
  | [] => .nil
  | _ :: r => .cons rfl (rl_of_ints r)
theorem rl_of_nats : ∀ (l : List Nat), RL K H ((l.map fun n : Nat => (n : Int)).map V.int) l
  | [] => .nil
  | _ :: r => .cons rfl (rl_of_nats r)
theorem rl_of_bools : ∀ (l : List Bool), RL K H (l.map V.bl) l
  | [] => .nil
  | _ :: r => .cons rfl (rl_of_bools r)
theorem rl_of_strs : ∀ (l : List Str), RL K H (l.map V.str) l
  | [] => .nil
  | _ :: r => .cons rfl (rl_of_strs r)
end

/-! ### data compared: == of any depth -/
class Rq (α : Type) [Rp α] where
  toD : α → PyData
  dp : ∀ {K : Fg} {H : Hp} {v : V} {x : α}, Rp.rep K H v x → Dp K H v (toD x)
  ok : α → Prop
  dep : Nat
  lay : ∀ x, ok x → (toD x).canLay0 = true
  deep : ∀ x, (toD x).depth ≤ dep
  eqv : ∀ x y : α, PyData.eqv (toD x) (toD y) = true ↔ x = y
class Rt (α : Type) [Rp α] [Rq α] where
  all : ∀ x : α, Rq.ok x
theorem dp_all {α : Type} [Rp α] [Rq α] {K : Fg} {H : Hp} : ∀ {vs : List V} {l : List α}, RL K H vs l → DpAll K H vs (l.map Rq.toD)
  | _, _, .nil => .nil
  | _, _, .cons a b => .cons (Rq.dp a) (dp_all b)
theorem lay_all {α : Type} [Rp α] [Rq α] : ∀ {l : List α}, (∀ x ∈ l, Rq.ok x) → PyData.canLayAll0 (l.map Rq.toD) = true
  | [], _ => rfl
  | x :: r, h => by
    show (PyData.canLay0 (Rq.toD x) && PyData.canLayAll0 (r.map Rq.toD)) = true
    rw [Rq.lay x (h x (List.mem_cons_self ..)), lay_all (l := r) fun y hy => h y (List.mem_cons_of_mem _ hy)]; rfl
theorem deep_all {α : Type} [Rp α] [Rq α] : ∀ {l : List α}, PyData.depthAll (l.map Rq.toD) ≤ Rq.dep α
  | [] => Nat.zero_le _
  | x :: r => by
    show max (PyData.depth (Rq.toD x)) (PyData.depthAll (r.map Rq.toD)) ≤ _
    exact Nat.max_le.mpr ⟨Rq.deep x, deep_all⟩
theorem eqv_all {α : Type} [Rp α] [Rq α] : ∀ {l r : List α}, PyData.eqvAll (l.map Rq.toD) (r.map Rq.toD) = true ↔ l = r
  | [], [] => by simp [PyData.eqvAll]
  | [], _ :: _ => by simp [PyData.eqvAll]
  | _ :: _, [] => by simp [PyData.eqvAll]
  | x :: l, y :: r => by
    show (PyData.eqv (Rq.toD x) (Rq.toD y) && PyData.eqvAll (l.map Rq.toD) (r.map Rq.toD)) = true ↔ _
    rw [Bool.and_eq_true, Rq.eqv, eqv_all, List.cons.injEq]
instance : Rq Int := ⟨.int, fun {K H v x} h => by cases (show v = .int x from h); exact .int _, fun _ => True, 1, fun _ _ => rfl, fun _ => by show PyData.depth _ ≤ 1; simp [PyData.depth], fun x y => by simp [PyData.eqv]⟩
instance : Rq Nat := ⟨fun n => .int (n : Int), fun {K H v x} h => by cases (show v = .int (x : Int) from h); exact .int _, fun _ => True, 1, fun _ _ => rfl, fun _ => by show PyData.depth _ ≤ 1; simp [PyData.depth], fun x y => by simp [PyData.eqv]; omega⟩
instance : Rq Bool := ⟨.bool, fun {K H v x} h => by cases (show v = .bl x from h); exact .bl _, fun _ => True, 1, fun _ _ => rfl, fun _ => by show PyData.depth _ ≤ 1; simp [PyData.depth], fun x y => by simp [PyData.eqv]⟩
instance : Rq Str := ⟨.str, fun {K H v x} h => by cases (show v = .str x from h); exact .str _, fun x => (PyData.str x).canLay0 = true, 1, fun _ h => h, fun _ => by show PyData.depth _ ≤ 1; simp [PyData.depth], fun x y => by simp [PyData.eqv]⟩
instance {α β : Type} [Rp α] [Rp β] [Rq α] [Rq β] : Rq (α × β) := ⟨fun p => .tuple [Rq.toD p.1, Rq.toD p.2], fun {K H v x} h => by
    obtain ⟨a, v1, v2, rfl, h2, h3, h4⟩ := h; exact .tup h2 (.cons (Rq.dp h3) (.cons (Rq.dp h4) .nil)), fun p => Rq.ok p.1 ∧ Rq.ok p.2, max (Rq.dep α) (Rq.dep β) + 1,
  fun p h => by simp [PyData.canLay0, PyData.canLayAll0, Rq.lay p.1 h.1, Rq.lay p.2 h.2],
  fun p => by have := Rq.deep p.1; have := Rq.deep p.2; simp only [PyData.depth, PyData.depthAll]; omega,
  fun p q => by obtain ⟨p1, p2⟩ := p; obtain ⟨q1, q2⟩ := q; simp [PyData.eqv, PyData.eqvAll, Rq.eqv]⟩
instance {α β γ : Type} [Rp α] [Rp β] [Rp γ] [Rq α] [Rq β] [Rq γ] : Rq (T3 α β γ) := ⟨fun p => .tuple [Rq.toD p.a, Rq.toD p.b, Rq.toD p.c], fun {K H v x} h => by
    obtain ⟨a, v1, v2, v3, rfl, h2, h3, h4, h5⟩ := h; exact .tup h2 (.cons (Rq.dp h3) (.cons (Rq.dp h4) (.cons (Rq.dp h5) .nil))), fun p => Rq.ok p.a ∧ Rq.ok p.b ∧ Rq.ok p.c, max (Rq.dep α) (max (Rq.dep β) (Rq.dep γ)) + 1,
  fun p h => by simp [PyData.canLay0, PyData.canLayAll0, Rq.lay p.a h.1, Rq.lay p.b h.2.1, Rq.lay p.c h.2.2],
  fun p => by have := Rq.deep p.a; have := Rq.deep p.b; have := Rq.deep p.c; simp only [PyData.depth, PyData.depthAll]; omega,
  fun p q => by obtain ⟨p1, p2, p3⟩ := p; obtain ⟨q1, q2, q3⟩ := q; simp [PyData.eqv, PyData.eqvAll, Rq.eqv]⟩
instance {α : Type} [Rp α] [Rq α] : Rq (List α) := ⟨fun l => .list (l.map Rq.toD), fun {K H v x} h => by
    obtain ⟨a, vs, rfl, h2, h3⟩ := h; exact .lst h2.seq (dp_all h3), fun l => ∀ x ∈ l, Rq.ok x, Rq.dep α + 1,
  fun p h => by simp only [PyData.canLay0]; exact lay_all h,
  fun p => by have := deep_all (l := p); simp only [PyData.depth]; omega,
  fun p q => by simp only [PyData.eqv]; exact eqv_all⟩
instance {α : Type} [Rp α] [Rq α] : Rq (Tp α) := ⟨fun l => .tuple (l.l.map Rq.toD), fun {K H v x} h => by
    obtain ⟨a, vs, rfl, h2, h3⟩ := h; exact .tup h2 (dp_all h3), fun l => ∀ x ∈ l.l, Rq.ok x, Rq.dep α + 1,
  fun p h => by simp only [PyData.canLay0]; exact lay_all h,
  fun p => by have := deep_all (l := p.l); simp only [PyData.depth]; omega,
  fun p q => by obtain ⟨p⟩ := p; obtain ⟨q⟩ := q; simp only [PyData.eqv, Tp.mk.injEq]; exact eqv_all⟩
instance : Rt Int := ⟨fun _ => trivial⟩
instance : Rt Nat := ⟨fun _ => trivial⟩
instance : Rt Bool := ⟨fun _ => trivial⟩
instance {α β : Type} [Rp α] [Rp β] [Rq α] [Rq β] [Rt α] [Rt β] : Rt (α × β) := ⟨fun p => ⟨Rt.all p.1, Rt.all p.2⟩⟩
instance {α β γ : Type} [Rp α] [Rp β] [Rp γ] [Rq α] [Rq β] [Rq γ] [Rt α] [Rt β] [Rt γ] : Rt (T3 α β γ) := ⟨fun p => ⟨Rt.all p.a, Rt.all p.b, Rt.all p.c⟩⟩
instance {α : Type} [Rp α] [Rq α] [Rt α] : Rt (List α) := ⟨fun _ x _ => Rt.all x⟩
instance {α : Type} [Rp α] [Rq α] [Rt α] : Rt (Tp α) := ⟨fun _ x _ => Rt.all x⟩
theorem shaped_of {α : Type} [Rp α] [Rq α] {x : α} (h : Rq.ok x) (hd : Rq.dep α ≤ 64) : SeqAt.shaped (Rq.toD x) = true := by
  show (PyData.canLay0 (Rq.toD x) && decide (PyData.depth (Rq.toD x) ≤ 64)) = true
  rw [Rq.lay x h, decide_eq_true (Nat.le_trans (Rq.deep x) hd)]; rfl
end BL

set_option Elab.async false
set_option linter.all false
set_option maxRecDepth 100000
set_option maxHeartbeats 2000000
namespace BL
open PySem PySem.Spec PyProof.Rows L2
/-! lists, locked or not, joined and repeated -/
def rCatR : R2 := fun x y H Q => ∃ l b xs zs, x = .ref l ∧ y = .ref b ∧ L2.Rd H l (.lst xs) ∧ L2.Rd H b (.lst zs) ∧ xs.length + zs.length ≤ sizeLine ∧ ∀ p, H p = none → Q (.ref p) (upd H p (.lst (xs ++ zs)))
theorem rd_lst {X : Cx} {pins : List (Addr × Obj)} {σ : L2.St} {H : Hp} {s : Shared} {a : Addr} {xs : List V} (I : Inv X pins σ H s) (h : L2.Rd H a (.lst xs)) :
    xs.length ≤ sizeLine ∧ ∃ (its : List Value) (n : Nat), Vals xs its ∧ xs.length = its.length ∧ s.heap.get? a = some { cls := .type "list", data := .seq its.toArray n } := by
  obtain ⟨z, its, n, r, e⟩ := h.ok I.hok
  exact ⟨z, its, n, r, r.length, e⟩
theorem op_catR {X : Cx} : OpR X (binaryOp .Add) rCatR := by
  intro pins s σ H x y v u Q I rx ry h
  obtain ⟨l, b, xs, zs, rfl, rfl, hH, hB, hz, q⟩ := h
  cases rx
  cases ry
  obtain ⟨z, its, n, r, hl, e⟩ := rd_lst I hH
  obtain ⟨z2, its2, n2, r2, hl2, e2⟩ := rd_lst I hB
  refine PySem.P.add_list e e2 ?_ (by rw [List.size_toArray, List.size_toArray]; omega)
  have ea : its.toArray ++ its2.toArray = (its ++ its2).toArray := by simp
  rw [ea]
  exact ⟨.ref _, _, I.lnew (t' := s.toks) (r.append r2) (by rw [List.length_append]; omega), rfl, q _ I.fresh⟩
/-! ### readings: what an expression gives, all that was tracked kept -/
def Er (K : Fg) (te : TE) (σ : L2.St) (H : Hp) {α : Type} [Rp α] (x : α) : Prop := ∀ H1, Same H H1 → ∀ Q : VK, (∀ v H2, Same H1 H2 → Rp.rep K H2 v x → Q v H2) → te σ H1 Q
/-- a new list, not yet locked -/
def ErL (K : Fg) (te : TE) (σ : L2.St) (H : Hp) {α : Type} [Rp α] (l : List α) : Prop := ∀ H1, Same H H1 → ∀ Q : VK, (∀ p vs H2, Same H1 H2 → H1 p = none → H2 p = some (.lst vs) → RL K H2 vs l → Q (.ref p) H2) → te σ H1 Q
def Et (K : Fg) (tt : TT) (σ : L2.St) (H : Hp) (b : Bool) : Prop := ∀ H1, Same H H1 → ∀ Q : Bool → Hp → Prop, (∀ H2, Same H1 H2 → Q b H2) → tt σ H1 Q
def Ea (K : Fg) (ta : TA) (σ : L2.St) (H : Hp) {α : Type} [Rp α] (l : List α) : Prop := ∀ H1, Same H H1 → ∀ Q : List V → Hp → Prop, (∀ vs H2, Same H1 H2 → RL K H2 vs l → Q vs H2) → ta σ H1 Q
def tFrz (t : TE) : TE := fun σ H Q => t σ H fun v H1 => ∃ a xs, v = .ref a ∧ H1 a = some (.lst xs) ∧ ∀ od, Q v (upd H1 a (.frz od (.lst xs)))
theorem pe_frz {X : Cx} {e : Expr} {t : TE} (h : PE X e t) : PE X e (tFrz t) := ⟨fun pins s σ H Q I q => thn (h.run pins s σ H _ I q) fun u s1 hh => by
  obtain ⟨v, H1, I1, r, a, xs, ev, ha, q⟩ := hh
  obtain ⟨od, I2⟩ := I1.lock ha trivial
  exact ⟨v, _, I2, r, q od⟩⟩
section
variable {K : Fg} {σ : L2.St} {H H' H1 : Hp} {ta tb tc te : TE} {tt uu : TT} {α β γ δ : Type} [Rp α] [Rp β] [Rp γ] [Rp δ] {x : α} {y : β} {z : γ} {v u : V} {r r' : R2} {b c : Bool} {i j : Int}
theorem Er.mono (e : Same H H') (h : Er K te σ H x) : Er K te σ H' x := fun H1 a Q q => h H1 (e.trans a) Q q
theorem Et.mono (e : Same H H') (h : Et K tt σ H b) : Et K tt σ H' b := fun H1 a Q q => h H1 (e.trans a) Q q
theorem Er.to {x' : α} (h : Er K te σ H x) (e : x = x') : Er K te σ H x' := e ▸ h
theorem ErL.to {l l' : List α} (h : ErL K te σ H l) (e : l = l') : ErL K te σ H l' := e ▸ h
theorem Et.to {b' : Bool} (h : Et K tt σ H b) (e : b = b') : Et K tt σ H b' := e ▸ h
theorem er_var {k : Nat} (hv : σ[k]? = some (some v)) (h : Rp.rep K H v x) : Er K (tVar k) σ H x := fun H1 e Q q => ⟨v, hv, q v H1 (Same.refl _) (Rp.mono (SF.of e) h)⟩
/-- a constant -/
theorem er_c (h : ∀ H, Rp.rep K H v x) : Er K (tC v) σ H x := fun H1 _ Q q => q v H1 (Same.refl _) (h H1)
theorem er_int : Er K (tC (.int i)) σ H i := er_c fun _ => rfl
theorem er_str {s : Str} : Er K (tC (.str s)) σ H s := er_c fun _ => rfl
theorem er_bl : Er K (tC (.bl b)) σ H b := er_c fun _ => rfl
theorem er_non : Er K (tC .non) σ H () := er_c fun _ => rfl
/-- a place as a number -/
theorem er_up {n : Nat} (h : Er K te σ H n) : Er K te σ H (n : Int) := h
theorem er_dn {n : Nat} (h : Er K te σ H i) (e : i = (n : Int)) : Er K te σ H n := by subst e; exact h
theorem er_frz {l : List α} (h : ErL K te σ H l) : Er K (tFrz te) σ H l := fun H1 e Q q => h H1 e _ fun p vs H2 e2 hp h2 r =>
  ⟨p, vs, rfl, h2, fun od => q (.ref p) _ (same_mut e2 hp) ⟨p, vs, rfl, ⟨od, upd_same⟩, r.mono (SF.lst h2)⟩⟩
/-! operators by values -/
def R2r (K : Fg) (r : R2) (x : α) (y : β) (z : γ) : Prop := ∀ H v u, Rp.rep K H v x → Rp.rep K H u y → ∀ Q : VK, (∀ w H', Same H H' → Rp.rep K H' w z → Q w H') → r v u H Q
theorem er_op (ha : Er K ta σ H x) (hb : Er K tb σ H y) (hr : R2r K r x y z) : Er K (tOp r ta tb) σ H z := fun H1 e Q q =>
  ha H1 e _ fun v H2 e2 r2 => hb H2 (e.trans e2) _ fun u H3 e3 r3 => hr H3 v u (Rp.mono (SF.of e3) r2) r3 Q fun w H4 e4 r4 => q w H4 ((e2.trans e3).trans e4) r4
theorem rr_add : R2r K (rI0 fun i j => .int (i + j)) i j (i + j) := fun H v u e1 e2 Q q => ⟨i, j, e1, e2, q _ H (Same.refl _) rfl⟩
theorem rr_sub : R2r K (rI0 fun i j => .int (i - j)) i j (i - j) := fun H v u e1 e2 Q q => ⟨i, j, e1, e2, q _ H (Same.refl _) rfl⟩
theorem rr_mul (h : CMul i j) : R2r K (rI CMul fun i j => .int (i * j)) i j (i * j) := fun H v u e1 e2 Q q => ⟨i, j, e1, e2, h, q _ H (Same.refl _) rfl⟩
theorem rr_mulW (h : CMulW i j) : R2r K (rI CMulW fun i j => .int (i * j)) i j (i * j) := fun H v u e1 e2 Q q => ⟨i, j, e1, e2, h, q _ H (Same.refl _) rfl⟩
theorem rr_mod (h : 0 < j) : R2r K (rI (fun _ j => 0 < j) fun i j => .int (i % j)) i j (i % j) := fun H v u e1 e2 Q q => ⟨i, j, e1, e2, h, q _ H (Same.refl _) rfl⟩
theorem rr_div (h : CDiv i j) : R2r K (rI CDiv fun i j => .int (i / j)) i j (i / j) := fun H v u e1 e2 Q q => ⟨i, j, e1, e2, h, q _ H (Same.refl _) rfl⟩
theorem rr_divW (h : CDivW i j) : R2r K (rI CDivW fun i j => .int (i / j)) i j (i / j) := fun H v u e1 e2 Q q => ⟨i, j, e1, e2, h, q _ H (Same.refl _) rfl⟩
theorem rr_pow (h : CPow i j) : R2r K (rI CPow fun i j => .int (i ^ j.toNat)) i j (i ^ j.toNat) := fun H v u e1 e2 Q q => ⟨i, j, e1, e2, h, q _ H (Same.refl _) rfl⟩
theorem rr_lt : R2r K (rI0 fun i j => .bl (decide (i < j))) i j (decide (i < j)) := fun H v u e1 e2 Q q => ⟨i, j, e1, e2, q _ H (Same.refl _) rfl⟩
theorem rr_le : R2r K (rI0 fun i j => .bl (decide (i ≤ j))) i j (decide (i ≤ j)) := fun H v u e1 e2 Q q => ⟨i, j, e1, e2, q _ H (Same.refl _) rfl⟩
theorem rr_gt : R2r K (rI0 fun i j => .bl (decide (j < i))) i j (decide (j < i)) := fun H v u e1 e2 Q q => ⟨i, j, e1, e2, q _ H (Same.refl _) rfl⟩
theorem rr_ge : R2r K (rI0 fun i j => .bl (decide (j ≤ i))) i j (decide (j ≤ i)) := fun H v u e1 e2 Q q => ⟨i, j, e1, e2, q _ H (Same.refl _) rfl⟩
theorem rr_eqI : R2r K rEq i j (decide (i = j)) := fun H v u e1 e2 Q q => by
  cases (show v = .int i from e1); cases (show u = .int j from e2)
  exact ⟨rfl, q _ H (Same.refl _) (by show V.bl _ = V.bl _; simp)⟩
theorem rr_neI : R2r K rNe i j (!decide (i = j)) := fun H v u e1 e2 Q q => by
  cases (show v = .int i from e1); cases (show u = .int j from e2)
  exact ⟨rfl, q _ H (Same.refl _) (by show V.bl _ = V.bl _; simp)⟩
theorem rr_eqB : R2r K rEq b c (decide (b = c)) := fun H v u e1 e2 Q q => by
  cases (show v = .bl b from e1); cases (show u = .bl c from e2)
  exact ⟨rfl, q _ H (Same.refl _) (by show V.bl _ = V.bl _; simp)⟩
theorem rr_neB : R2r K rNe b c (!decide (b = c)) := fun H v u e1 e2 Q q => by
  cases (show v = .bl b from e1); cases (show u = .bl c from e2)
  exact ⟨rfl, q _ H (Same.refl _) (by show V.bl _ = V.bl _; simp)⟩
theorem rr_eqS {s t : Str} : R2r K rEq s t (decide (s = t)) := fun H v u e1 e2 Q q => by
  cases (show v = .str s from e1); cases (show u = .str t from e2)
  exact ⟨rfl, q _ H (Same.refl _) (by show V.bl _ = V.bl _; simp)⟩
theorem rr_neS {s t : Str} : R2r K rNe s t (!decide (s = t)) := fun H v u e1 e2 Q q => by
  cases (show v = .str s from e1); cases (show u = .str t from e2)
  exact ⟨rfl, q _ H (Same.refl _) (by show V.bl _ = V.bl _; simp)⟩
theorem eqv_dec [Rq α] [DecidableEq α] (x y : α) : PyData.eqv (Rq.toD x) (Rq.toD y) = decide (x = y) := by
  by_cases h : x = y
  · rw [(Rq.eqv x y).mpr h, decide_eq_true h]
  · rw [decide_eq_false h]
    cases e : PyData.eqv (Rq.toD x) (Rq.toD y) with
    | false => rfl
    | true => exact absurd ((Rq.eqv x y).mp e) h
theorem rr_eqD [Rq α] [DecidableEq α] {x y : α} (hx : Rq.ok x) (hy : Rq.ok y) (hd : Rq.dep α ≤ 64 := by decide) : R2r K (rEqD K) x y (decide (x = y)) := fun H v u e1 e2 Q q =>
  ⟨_, _, Rq.dp e1, Rq.dp e2, shaped_of hx hd, shaped_of hy hd, by rw [eqv_dec]; exact q _ H (Same.refl _) rfl⟩
theorem rr_neD [Rq α] [DecidableEq α] {x y : α} (hx : Rq.ok x) (hy : Rq.ok y) (hd : Rq.dep α ≤ 64 := by decide) : R2r K (rNeD K) x y (!decide (x = y)) := fun H v u e1 e2 Q q =>
  ⟨_, _, Rq.dp e1, Rq.dp e2, shaped_of hx hd, shaped_of hy hd, by rw [eqv_dec]; exact q _ H (Same.refl _) rfl⟩
theorem rr_eqT [Rq α] [Rt α] [DecidableEq α] {x y : α} (hd : Rq.dep α ≤ 64 := by decide) : R2r K (rEqD K) x y (decide (x = y)) := rr_eqD (Rt.all x) (Rt.all y) hd
theorem rr_neT [Rq α] [Rt α] [DecidableEq α] {x y : α} (hd : Rq.dep α ≤ 64 := by decide) : R2r K (rNeD K) x y (!decide (x = y)) := rr_neD (Rt.all x) (Rt.all y) hd
theorem rr_isB : R2r K (fun x y H Q => ∃ a b : Bool, x = .bl a ∧ y = .bl b ∧ Q (.bl (decide (a = b))) H) b c (decide (b = c)) := fun H v u e1 e2 Q q => ⟨b, c, e1, e2, q _ H (Same.refl _) rfl⟩
theorem rr_notB : R2r K (fun x y H Q => ∃ a b : Bool, x = .bl a ∧ y = .bl b ∧ Q (.bl (!decide (a = b))) H) b c (!decide (b = c)) := fun H v u e1 e2 Q q => ⟨b, c, e1, e2, q _ H (Same.refl _) rfl⟩
/-! items -/
theorem rr_ixL {l : List α} {n : Nat} {x : α} (hx : l[n]? = some x) : R2r K (rIxL K) l (n : Int) x := fun H v u e1 e2 Q q => by
  obtain ⟨a, vs, rfl, h2, h3⟩ := e1
  cases (show u = .int (n : Int) from e2)
  obtain ⟨w, hw, rw⟩ := paired_get h3 hx
  exact ⟨a, vs, n, w, rfl, rfl, h2.seq, atI_nat hw, q w H (Same.refl _) rw⟩
theorem rr_ixI {l : List α} {n : Nat} {x : α} (hi : i = (n : Int)) (hx : l[n]? = some x) : R2r K (rIxL K) l i x := by subst hi; exact rr_ixL hx
theorem rr_ixLast {l : List α} {x : α} (hx : l.getLast? = some x) : R2r K (rIxL K) l (-1 : Int) x := fun H v u e1 e2 Q q => by
  obtain ⟨a, vs, rfl, h2, h3⟩ := e1
  cases (show u = .int (-1) from e2)
  have hn : 0 < l.length := by cases l with
    | nil => cases hx
    | cons _ _ => exact Nat.succ_pos _
  rw [List.getLast?_eq_getElem?] at hx
  obtain ⟨w, hw, rw'⟩ := paired_get h3 hx
  have hl := paired_len h3
  refine ⟨a, vs, -1, w, rfl, rfl, h2.seq, ?_, q w H (Same.refl _) rw'⟩
  rw [← hl] at hw
  unfold atI ixN
  rw [if_neg (by omega), if_pos (by omega)]
  have e : ((-1 : Int) + (vs.length : Int)).toNat = vs.length - 1 := by omega
  rw [e]
  exact hw
theorem rr_ixP0 {p : α × β} : R2r K (rIxT K) p (0 : Int) p.1 := fun H v u e1 e2 Q q => by
  obtain ⟨a, v1, v2, rfl, h2, h3, h4⟩ := e1
  cases (show u = .int 0 from e2)
  exact ⟨a, _, 0, v1, rfl, rfl, h2, atI_nat (j := 0) rfl, q _ H (Same.refl _) h3⟩
theorem rr_ixP1 {p : α × β} : R2r K (rIxT K) p (1 : Int) p.2 := fun H v u e1 e2 Q q => by
  obtain ⟨a, v1, v2, rfl, h2, h3, h4⟩ := e1
  cases (show u = .int 1 from e2)
  exact ⟨a, _, 1, v2, rfl, rfl, h2, atI_nat (j := 1) rfl, q _ H (Same.refl _) h4⟩
theorem rr_ixA {p : T3 α β γ} : R2r K (rIxT K) p (0 : Int) p.a := fun H v u e1 e2 Q q => by
  obtain ⟨a, v1, v2, v3, rfl, h2, h3, h4, h5⟩ := e1
  cases (show u = .int 0 from e2)
  exact ⟨a, _, 0, v1, rfl, rfl, h2, atI_nat (j := 0) rfl, q _ H (Same.refl _) h3⟩
theorem rr_ixB {p : T3 α β γ} : R2r K (rIxT K) p (1 : Int) p.b := fun H v u e1 e2 Q q => by
  obtain ⟨a, v1, v2, v3, rfl, h2, h3, h4, h5⟩ := e1
  cases (show u = .int 1 from e2)
  exact ⟨a, _, 1, v2, rfl, rfl, h2, atI_nat (j := 1) rfl, q _ H (Same.refl _) h4⟩
theorem rr_ixC {p : T3 α β γ} : R2r K (rIxT K) p (2 : Int) p.c := fun H v u e1 e2 Q q => by
  obtain ⟨a, v1, v2, v3, rfl, h2, h3, h4, h5⟩ := e1
  cases (show u = .int 2 from e2)
  exact ⟨a, _, 2, v3, rfl, rfl, h2, atI_nat (j := 2) rfl, q _ H (Same.refl _) h5⟩
/-! one operand -/
theorem er_neg (h : Er K te σ H i) : Er K (tUn (rU fun i => .int (-i)) te) σ H (-i) := fun H1 e Q q => h H1 e _ fun v H2 e2 r => ⟨i, r, q _ H2 e2 rfl⟩
/-! chains, tests -/
theorem er_chain {b b' : Bool} (ha : Er K ta σ H x) (hb : Er K tb σ H y) (hc : Er K tc σ H z) (h1 : R2r K r x y b) (h2 : R2r K r' y z b') : Er K (tChain r r' ta tb tc) σ H (b && b') := fun H1 e Q q =>
  ha H1 e _ fun v H2 e2 r2 => hb H2 (e.trans e2) _ fun u H3 e3 r3 => h1 H3 v u (Rp.mono (SF.of e3) r2) r3 _ fun w H4 e4 r4 => ⟨b, r4, by
    cases b with
    | true =>
      refine iteT ?_
      exact hc H4 (((e.trans e2).trans e3).trans e4) _ fun w' H5 e5 r5 => h2 H5 u w' (Rp.mono (SF.of (e4.trans e5)) r3) r5 Q fun w2 H6 e6 r6 => q w2 H6 ((((e2.trans e3).trans e4).trans e5).trans e6) r6
    | false =>
      refine iteF ?_
      exact q _ H4 ((e2.trans e3).trans e4) rfl⟩
theorem et_test (h : Er K te σ H b) : Et K (tTest te) σ H b := fun H1 e _ q => h H1 e _ fun v H2 e2 r => ⟨b, r, q H2 e2⟩
theorem et_B (h : Er K te σ H b) : Et K (tB te) σ H b := fun H1 e _ q => h H1 e _ fun v H2 e2 r => ⟨b, r, q H2 e2⟩
theorem et_and (h1 : Et K tt σ H b) (h2 : b = true → Et K uu σ H c) : Et K (tAnd tt uu) σ H (b && c) := fun H1 e Q q => h1 H1 e _ fun H2 e2 => by
  cases b with
  | true => exact iteT (h2 rfl H2 (e.trans e2) Q fun H3 e3 => q H3 (e2.trans e3))
  | false => exact iteF (q H2 e2)
theorem et_or (h1 : Et K tt σ H b) (h2 : b = false → Et K uu σ H c) : Et K (tOr tt uu) σ H (b || c) := fun H1 e Q q => h1 H1 e _ fun H2 e2 => by
  cases b with
  | true => exact iteT (q H2 e2)
  | false => exact iteF (h2 rfl H2 (e.trans e2) Q fun H3 e3 => q H3 (e2.trans e3))
theorem et_not (h1 : Et K tt σ H b) : Et K (tNot tt) σ H (!b) := fun H1 e _ q => h1 H1 e _ fun H2 e2 => q H2 e2
theorem et_yes : Et K tYes σ H true := fun H1 e _ q => q H1 (Same.refl _)
theorem er_andV (h1 : Er K ta σ H b) (h2 : b = true → Er K tb σ H c) : Er K (tAndV ta tb) σ H (b && c) := fun H1 e Q q => h1 H1 e _ fun v H2 e2 r => ⟨b, r, by
  cases b with
  | true => exact iteT (h2 rfl H2 (e.trans e2) Q fun v H3 e3 r3 => q v H3 (e2.trans e3) r3)
  | false => exact iteF (q _ H2 e2 rfl)⟩
theorem er_orV (h1 : Er K ta σ H b) (h2 : b = false → Er K tb σ H c) : Er K (tOrV ta tb) σ H (b || c) := fun H1 e Q q => h1 H1 e _ fun v H2 e2 r => ⟨b, r, by
  cases b with
  | true => exact iteT (q _ H2 e2 rfl)
  | false => exact iteF (h2 rfl H2 (e.trans e2) Q fun v H3 e3 r3 => q v H3 (e2.trans e3) r3)⟩
theorem er_notV (h1 : Er K ta σ H b) : Er K (tNotV ta) σ H (!b) := fun H1 e Q q => h1 H1 e _ fun v H2 e2 r => ⟨b, r, q _ H2 e2 rfl⟩
theorem er_if {x' : α} (h : Et K tt σ H b) (h1 : b = true → Er K ta σ H x) (h2 : b = false → Er K tb σ H x') : Er K (tIf tt ta tb) σ H (if b = true then x else x') := fun H1 e Q q => h H1 e _ fun H2 e2 => by
  cases b with
  | true => exact iteT (h1 rfl H2 (e.trans e2) Q fun v H3 e3 r3 => q v H3 (e2.trans e3) (by rw [if_pos rfl]; exact r3))
  | false => exact iteF (h2 rfl H2 (e.trans e2) Q fun v H3 e3 r3 => q v H3 (e2.trans e3) (by rw [if_neg Bool.false_ne_true]; exact r3))
theorem erl_if {l l' : List α} (h : Et K tt σ H b) (h1 : b = true → ErL K ta σ H l) (h2 : b = false → ErL K tb σ H l') : ErL K (tIf tt ta tb) σ H (if b = true then l else l') := fun H1 e Q q => h H1 e _ fun H2 e2 => by
  cases b with
  | true => exact iteT (h1 rfl H2 (e.trans e2) Q fun p vs H3 e3 hp h3 r3 => q p vs H3 (e2.trans e3) (e2.free hp) h3 (by rw [if_pos rfl]; exact r3))
  | false => exact iteF (h2 rfl H2 (e.trans e2) Q fun p vs H3 e3 hp h3 r3 => q p vs H3 (e2.trans e3) (e2.free hp) h3 (by rw [if_neg Bool.false_ne_true]; exact r3))
/-! displays -/
theorem er_pair (h1 : Er K ta σ H x) (h2 : Er K tb σ H y) : Er K (tTup (tCons ta (tCons tb tNil))) σ H (x, y) := fun H1 e Q q =>
  h1 H1 e _ fun v H2 e2 r2 => h2 H2 (e.trans e2) _ fun u H3 e3 r3 => ⟨by show 2 ≤ sizeLine; decide, fun p hp =>
    q (.ref p) _ ((e2.trans e3).trans (same_new hp)) ⟨p, v, u, rfl, sq_tup upd_same, Rp.mono (SF.of (e3.trans (same_new hp))) r2, Rp.mono (SF.new hp) r3⟩⟩
theorem er_three (h1 : Er K ta σ H x) (h2 : Er K tb σ H y) (h3 : Er K tc σ H z) : Er K (tTup (tCons ta (tCons tb (tCons tc tNil)))) σ H (T3.mk x y z) := fun H1 e Q q =>
  h1 H1 e _ fun v H2 e2 r2 => h2 H2 (e.trans e2) _ fun u H3 e3 r3 => h3 H3 ((e.trans e2).trans e3) _ fun w H4 e4 r4 => ⟨by show 3 ≤ sizeLine; decide, fun p hp =>
    q (.ref p) _ (((e2.trans e3).trans e4).trans (same_new hp)) ⟨p, v, u, w, rfl, sq_tup upd_same, Rp.mono (SF.of ((e3.trans e4).trans (same_new hp))) r2, Rp.mono (SF.of (e4.trans (same_new hp))) r3, Rp.mono (SF.new hp) r4⟩⟩
theorem ea_nil : Ea K tNil σ H ([] : List α) := fun H1 _ _ q => q [] H1 (Same.refl _) .nil
theorem ea_cons {tr : TA} {l : List α} (h : Er K ta σ H x) (hr : Ea K tr σ H l) : Ea K (tCons ta tr) σ H (x :: l) := fun H1 e _ q =>
  h H1 e _ fun v H2 e2 r2 => hr H2 (e.trans e2) _ fun vs H3 e3 r3 => q _ H3 (e2.trans e3) (.cons (Rp.mono (SF.of e3) r2) r3)
theorem sz1000 {n : Nat} (h : n ≤ 1000000) : n ≤ sizeLine := Nat.le_trans h (by decide)
theorem erl_lst {t : TA} {l : List α} (h : Ea K t σ H l) (hz : l.length ≤ 1000000 := by first | decide | simp) : ErL K (tLst t) σ H l := fun H1 e Q q =>
  h H1 e _ fun vs H2 e2 r2 => ⟨by rw [paired_len r2]; exact sz1000 hz, fun p hp => q p vs _ (e2.trans (same_new hp)) (e2.free hp) upd_same (r2.mono (SF.new hp))⟩
theorem er_tuple {t : TA} {l : List α} (h : Ea K t σ H l) (hz : l.length ≤ 1000000 := by first | decide | simp) : Er K (tTup t) σ H (Tp.mk l) := fun H1 e Q q =>
  h H1 e _ fun vs H2 e2 r2 => ⟨by rw [paired_len r2]; exact sz1000 hz, fun p hp => q (.ref p) _ (e2.trans (same_new hp)) ⟨p, vs, rfl, sq_tup upd_same, r2.mono (SF.new hp)⟩⟩
theorem erl_cat {l l' : List α} (h1 : Er K ta σ H l) (h2 : Er K tb σ H l') (hz : l.length + l'.length ≤ 1000000) : ErL K (tOp rCatR ta tb) σ H (l ++ l') := fun H1 e Q q =>
  h1 H1 e _ fun v H2 e2 r2 => h2 H2 (e.trans e2) _ fun u H3 e3 r3 => by
    obtain ⟨a, vs, rfl, f1, p1⟩ := Rp.mono (SF.of e3) r2
    obtain ⟨b, us, rfl, f2, p2⟩ := r3
    refine ⟨a, b, vs, us, rfl, rfl, .inr f1, .inr f2, ?_, fun p hp => q p _ _ ((e2.trans e3).trans (same_new hp)) ((e2.trans e3).free hp) upd_same (RL.mono (SF.new hp) (paired_app p1 p2))⟩
    rw [paired_len p1, paired_len p2]; exact sz1000 hz
theorem paired_rep {F : V → α → Prop} {vs : List V} {l : List α} (h : Paired F vs l) : ∀ n : Nat, Paired F (List.replicate n vs).flatten (List.replicate n l).flatten
  | 0 => .nil
  | n + 1 => by
    rw [List.replicate_succ, List.replicate_succ, List.flatten_cons, List.flatten_cons]
    exact paired_app h (paired_rep h n)
theorem erl_rep {l : List α} {k : Int} (h1 : ErL K ta σ H l) (h2 : ∀ H', Same H H' → Er K tb σ H' k) (hk : -1000000 ≤ k ∧ k ≤ 1000000) (hz : l.length * k.toNat ≤ 1000000) : ErL K (tOp rRep ta tb) σ H (List.replicate k.toNat l).flatten := fun H1 e Q q =>
  h1 H1 e _ fun a vs H2 e2 hp h2' p1 => h2 H2 (e.trans e2) H2 (Same.refl _) _ fun u H3 e3 r3 => by
    cases (show u = .int k from r3)
    refine ⟨a, k, vs, rfl, rfl, e3 _ _ h2', by omega, by omega, ?_, fun p hp => q p _ _ ((e2.trans e3).trans (same_new hp)) ((e2.trans e3).free hp) upd_same (RL.mono ((SF.of e3).trans (SF.new hp)) (paired_rep p1 k.toNat))⟩
    rw [paired_len p1]; exact sz1000 hz
end
end BL

set_option Elab.async false
set_option linter.all false
set_option maxRecDepth 100000
set_option maxHeartbeats 2000000
namespace BL
open PySem PySem.Spec PyProof.Rows L2
/-! ### plain functions that the built-ins answer by -/
def mxl : List Int → Int
  | [] => 0
  | [x] => x
  | x :: y :: r => max x (mxl (y :: r))
def mnl : List Int → Int
  | [] => 0
  | [x] => x
  | x :: y :: r => min x (mnl (y :: r))
theorem mxl_mem : ∀ {l : List Int}, l ≠ [] → mxl l ∈ l
  | [x], _ => List.mem_singleton.mpr rfl
  | x :: y :: r, _ => by
    have ih := mxl_mem (l := y :: r) (by simp)
    show max x (mxl (y :: r)) ∈ _
    rcases Int.le_total x (mxl (y :: r)) with h | h
    · rw [Int.max_eq_right h]; exact List.mem_cons_of_mem _ ih
    · rw [Int.max_eq_left h]; exact List.mem_cons_self ..
theorem mxl_le : ∀ {l : List Int} {x : Int}, x ∈ l → x ≤ mxl l
  | [y], x, h => by rw [List.mem_singleton.mp h]; exact Int.le_refl _
  | y :: z :: r, x, h => by
    show x ≤ max y (mxl (z :: r))
    rcases List.mem_cons.mp h with h | h
    · subst h; exact Int.le_max_left ..
    · exact Int.le_trans (mxl_le h) (Int.le_max_right ..)
theorem mnl_mem : ∀ {l : List Int}, l ≠ [] → mnl l ∈ l
  | [x], _ => List.mem_singleton.mpr rfl
  | x :: y :: r, _ => by
    have ih := mnl_mem (l := y :: r) (by simp)
    show min x (mnl (y :: r)) ∈ _
    rcases Int.le_total x (mnl (y :: r)) with h | h
    · rw [Int.min_eq_left h]; exact List.mem_cons_self ..
    · rw [Int.min_eq_right h]; exact List.mem_cons_of_mem _ ih
theorem mnl_le : ∀ {l : List Int} {x : Int}, x ∈ l → mnl l ≤ x
  | [y], x, h => by rw [List.mem_singleton.mp h]; exact Int.le_refl _
  | y :: z :: r, x, h => by
    show min y (mnl (z :: r)) ≤ x
    rcases List.mem_cons.mp h with h | h
    · subst h; exact Int.min_le_left ..
    · exact Int.le_trans (Int.min_le_right ..) (mnl_le h)
theorem mxl_eq {l : List Int} {m : Int} (h1 : m ∈ l) (h2 : ∀ y ∈ l, y ≤ m) : m = mxl l := by
  have h3 := h2 _ (mxl_mem (l := l) (by rintro rfl; cases h1))
  have h4 := mxl_le h1
  omega
theorem mnl_eq {l : List Int} {m : Int} (h1 : m ∈ l) (h2 : ∀ y ∈ l, m ≤ y) : m = mnl l := by
  have h3 := h2 _ (mnl_mem (l := l) (by rintro rfl; cases h1))
  have h4 := mnl_le h1
  omega
/-- sorted, ascending -/
def ins (x : Int) : List Int → List Int
  | [] => [x]
  | y :: r => if x ≤ y then x :: y :: r else y :: ins x r
def srt : List Int → List Int
  | [] => []
  | x :: r => ins x (srt r)
theorem ins_perm (x : Int) : ∀ l : List Int, (ins x l).Perm (x :: l)
  | [] => .refl _
  | y :: r => by
    unfold ins
    split
    · exact .refl _
    · exact ((ins_perm x r).cons y).trans (.swap ..)
theorem srt_perm : ∀ l : List Int, (srt l).Perm l
  | [] => .refl _
  | x :: r => (ins_perm x (srt r)).trans ((srt_perm r).cons x)
theorem ins_sorted (x : Int) : ∀ {l : List Int}, l.Pairwise (· ≤ ·) → (ins x l).Pairwise (· ≤ ·)
  | [], _ => by simp [ins]
  | y :: r, h => by
    obtain ⟨h1, h2⟩ := List.pairwise_cons.mp h
    unfold ins
    split
    · rename_i hxy
      refine List.pairwise_cons.mpr ⟨fun z hz => ?_, h⟩
      rcases List.mem_cons.mp hz with hz | hz
      · subst hz; exact hxy
      · exact Int.le_trans hxy (h1 z hz)
    · rename_i hxy
      refine List.pairwise_cons.mpr ⟨fun z hz => ?_, ins_sorted x h2⟩
      rcases List.mem_cons.mp ((ins_perm x r).mem_iff.mp hz) with hz | hz
      · subst hz; omega
      · exact h1 z hz
theorem srt_sorted : ∀ l : List Int, (srt l).Pairwise (· ≤ ·)
  | [] => .nil
  | x :: r => ins_sorted x (srt_sorted r)
theorem srt_uniq : ∀ {l r : List Int}, l.Perm r → l.Pairwise (· ≤ ·) → r.Pairwise (· ≤ ·) → l = r
  | [], r, h, _, _ => (List.Perm.nil_eq h)
  | x :: l, [], h, _, _ => absurd h.length_eq (by simp)
  | x :: l, y :: r, h, h1, h2 => by
    obtain ⟨a1, a2⟩ := List.pairwise_cons.mp h1
    obtain ⟨b1, b2⟩ := List.pairwise_cons.mp h2
    have e : x = y := by
      have m1 : x ∈ y :: r := h.mem_iff.mp (List.mem_cons_self ..)
      have m2 : y ∈ x :: l := h.mem_iff.mpr (List.mem_cons_self ..)
      have q1 : y ≤ x := by
        rcases List.mem_cons.mp m1 with m | m
        · omega
        · exact b1 x m
      have q2 : x ≤ y := by
        rcases List.mem_cons.mp m2 with m | m
        · omega
        · exact a1 y m
      omega
    subst e
    rw [srt_uniq (List.Perm.cons_inv h) a2 b2]
theorem srt_eq {l r : List Int} (h : l.Perm r) (hs : l.Pairwise (· ≤ ·)) : l = srt r := srt_uniq (h.trans (srt_perm r).symm) hs (srt_sorted r)
theorem srt_len (l : List Int) : (srt l).length = l.length := (srt_perm l).length_eq
def iabs (i : Int) : Int := if i < 0 then -i else i
section
variable {K : Fg} {σ : L2.St} {H H' H1 : Hp} {ta tb tc td te : TE} {tt uu : TT} {α β γ δ : Type} [Rp α] [Rp β] [Rp γ] [Rp δ] {x : α} {y : β} {z : γ} {v u : V} {i j : Int} {b c : Bool}
/-! ### built-ins -/
theorem er_cb1 {r : List V → Hp → VK → Prop} (h : Er K ta σ H x) (hr : ∀ H v, Rp.rep K H v x → ∀ Q : VK, (∀ w H', Same H H' → Rp.rep K H' w y → Q w H') → r [v] H Q) : Er K (tCB r (tCons ta tNil)) σ H y := fun H1 e Q q =>
  h H1 e _ fun v H2 e2 r2 => hr H2 v r2 Q fun w H3 e3 r3 => q w H3 (e2.trans e3) r3
theorem er_cb2 {r : List V → Hp → VK → Prop} (h : Er K ta σ H x) (h' : Er K tb σ H y) (hr : ∀ H v u, Rp.rep K H v x → Rp.rep K H u y → ∀ Q : VK, (∀ w H', Same H H' → Rp.rep K H' w z → Q w H') → r [v, u] H Q) : Er K (tCB r (tCons ta (tCons tb tNil))) σ H z := fun H1 e Q q =>
  h H1 e _ fun v H2 e2 r2 => h' H2 (e.trans e2) _ fun u H3 e3 r3 => hr H3 v u (Rp.mono (SF.of e3) r2) r3 Q fun w H4 e4 r4 => q w H4 ((e2.trans e3).trans e4) r4
theorem erl_cb1 {r : List V → Hp → VK → Prop} {l : List β} (h : Er K ta σ H x) (hr : ∀ H v, Rp.rep K H v x → ∀ Q : VK, (∀ p vs H', Same H H' → H p = none → H' p = some (.lst vs) → RL K H' vs l → Q (.ref p) H') → r [v] H Q) : ErL K (tCB r (tCons ta tNil)) σ H l := fun H1 e Q q =>
  h H1 e _ fun v H2 e2 r2 => hr H2 v r2 Q fun p vs H3 e3 hp h3 r3 => q p vs H3 (e2.trans e3) (e2.free hp) h3 r3
theorem er_sum {l : List Int} (h : Er K ta σ H l) : Er K (tCB (rSum K) (tCons ta tNil)) σ H l.sum := er_cb1 h fun H v r Q q => by
  obtain ⟨a, vs, rfl, h2, h3⟩ := r
  exact ⟨a, l, rfl, by rw [← rl_ints h3]; exact h2.seq, q _ H (Same.refl _) rfl⟩
abbrev rLenC (K : Fg) : List V → Hp → VK → Prop := fun xs H Q => ∃ p ys, xs = [.ref p] ∧ (SqL K H p ys ∨ SqT K H p ys) ∧ Q (.int (ys.length : Int)) H
theorem er_len {l : List α} (h : Er K ta σ H l) : Er K (tCB (rLenC K) (tCons ta tNil)) σ H l.length := er_cb1 h fun H v r Q q => by
  obtain ⟨a, vs, rfl, h2, h3⟩ := r
  exact ⟨a, vs, rfl, .inl h2.seq, by rw [paired_len h3]; exact q _ H (Same.refl _) rfl⟩
theorem er_lenP {p : α × β} (h : Er K ta σ H p) : Er K (tCB (rLenC K) (tCons ta tNil)) σ H (2 : Int) := er_cb1 h fun H v r Q q => by
  obtain ⟨a, v1, v2, rfl, h2, _⟩ := r
  exact ⟨a, _, rfl, .inr h2, q _ H (Same.refl _) rfl⟩
theorem er_lenT {t : Tp α} (h : Er K ta σ H t) : Er K (tCB (rLenC K) (tCons ta tNil)) σ H t.l.length := er_cb1 h fun H v r Q q => by
  obtain ⟨a, vs, rfl, h2, h3⟩ := r
  exact ⟨a, vs, rfl, .inr h2, by rw [paired_len h3]; exact q _ H (Same.refl _) rfl⟩
theorem er_max {l : List Int} (h : Er K ta σ H l) (hn : l ≠ []) : Er K (tCB (rMax K) (tCons ta tNil)) σ H (mxl l) := er_cb1 h fun H v r Q q => by
  obtain ⟨a, vs, rfl, h2, h3⟩ := r
  exact ⟨a, l, rfl, by rw [← rl_ints h3]; exact h2.seq, List.length_pos_iff.mpr hn, fun m h1 h2 => q _ H (Same.refl _) (by rw [← mxl_eq h1 h2]; rfl)⟩
theorem er_min {l : List Int} (h : Er K ta σ H l) (hn : l ≠ []) : Er K (tCB (rMin K) (tCons ta tNil)) σ H (mnl l) := er_cb1 h fun H v r Q q => by
  obtain ⟨a, vs, rfl, h2, h3⟩ := r
  exact ⟨a, l, rfl, by rw [← rl_ints h3]; exact h2.seq, List.length_pos_iff.mpr hn, fun m h1 h2 => q _ H (Same.refl _) (by rw [← mnl_eq h1 h2]; rfl)⟩
abbrev rMax2C : List V → Hp → VK → Prop := fun xs H Q => ∃ i j, xs = [.int i, .int j] ∧ Q (.int (if j > i then j else i)) H
abbrev rMin2C : List V → Hp → VK → Prop := fun xs H Q => ∃ i j, xs = [.int i, .int j] ∧ Q (.int (if j < i then j else i)) H
abbrev rAbsC : List V → Hp → VK → Prop := fun xs H Q => ∃ i, xs = [.int i] ∧ Q (.int (if i < 0 then -i else i)) H
theorem er_max2 (h : Er K ta σ H i) (h' : Er K tb σ H j) : Er K (tCB rMax2C (tCons ta (tCons tb tNil))) σ H (max i j) := er_cb2 h h' fun H v u e1 e2 Q q => by
  cases (show v = .int i from e1); cases (show u = .int j from e2)
  refine ⟨i, j, rfl, q _ H (Same.refl _) (congrArg V.int ?_)⟩
  split <;> omega
theorem er_min2 (h : Er K ta σ H i) (h' : Er K tb σ H j) : Er K (tCB rMin2C (tCons ta (tCons tb tNil))) σ H (min i j) := er_cb2 h h' fun H v u e1 e2 Q q => by
  cases (show v = .int i from e1); cases (show u = .int j from e2)
  refine ⟨i, j, rfl, q _ H (Same.refl _) (congrArg V.int ?_)⟩
  split <;> omega
theorem er_abs (h : Er K ta σ H i) : Er K (tCB rAbsC (tCons ta tNil)) σ H (iabs i) := er_cb1 h fun H v e1 Q q => by
  cases (show v = .int i from e1)
  exact ⟨i, rfl, q _ H (Same.refl _) rfl⟩
theorem erl_sorted {l : List Int} (h : Er K ta σ H l) : ErL K (tCB (rSortedI K) (tCons ta tNil)) σ H (srt l) := erl_cb1 h fun H v r Q q => by
  obtain ⟨a, vs, rfl, h2, h3⟩ := r
  refine ⟨a, l, rfl, by rw [← rl_ints h3]; exact h2.seq, fun ns' p hp hs hn => q p _ _ (same_new hn) hn upd_same ?_⟩
  rw [srt_eq hp hs]; exact rl_of_ints _
theorem er_all {l : List Bool} (h : Er K ta σ H l) : Er K (tCB (rAll K) (tCons ta tNil)) σ H (l.all id) := er_cb1 h fun H v r Q q => by
  obtain ⟨a, vs, rfl, h2, h3⟩ := r
  exact ⟨a, l, rfl, by rw [← rl_bools h3]; exact h2.seq, q _ H (Same.refl _) rfl⟩
theorem er_any {l : List Bool} (h : Er K ta σ H l) : Er K (tCB (rAny K) (tCons ta tNil)) σ H (l.any id) := er_cb1 h fun H v r Q q => by
  obtain ⟨a, vs, rfl, h2, h3⟩ := r
  exact ⟨a, l, rfl, by rw [← rl_bools h3]; exact h2.seq, q _ H (Same.refl _) rfl⟩
abbrev rListC (K : Fg) : List V → Hp → VK → Prop := fun xs H Q => ∃ p ys, xs = [.ref p] ∧ (SqL K H p ys ∨ SqT K H p ys) ∧ ∀ l, H l = none → Q (.ref l) (upd H l (.lst ys))
theorem erl_list {l : List α} (h : Er K ta σ H l) : ErL K (tCB (rListC K) (tCons ta tNil)) σ H l := erl_cb1 h fun H v r Q q => by
  obtain ⟨a, vs, rfl, h2, h3⟩ := r
  exact ⟨a, vs, rfl, .inl h2.seq, fun p hp => q p vs _ (same_new hp) hp upd_same (h3.mono (SF.new hp))⟩
theorem erl_listT {t : Tp α} (h : Er K ta σ H t) : ErL K (tCB (rListC K) (tCons ta tNil)) σ H t.l := erl_cb1 h fun H v r Q q => by
  obtain ⟨a, vs, rfl, h2, h3⟩ := r
  exact ⟨a, vs, rfl, .inr h2, fun p hp => q p vs _ (same_new hp) hp upd_same (h3.mono (SF.new hp))⟩
/-! ### isinstance -/
class Ty (α : Type) [Rp α] where
  n : α → String
  ty : ∀ {K : Fg} {H : Hp} {v : V} {x : α}, Rp.rep K H v x → TyX K H v (.type (n x))
instance : Ty Int := ⟨fun _ => "int", fun {K H v x} h => by cases (show v = .int x from h); exact .base (.int _)⟩
instance : Ty Nat := ⟨fun _ => "int", fun {K H v x} h => by cases (show v = .int (x : Int) from h); exact .base (.int _)⟩
instance : Ty Bool := ⟨fun _ => "bool", fun {K H v x} h => by cases (show v = .bl x from h); exact .base (.bl _)⟩
instance : Ty Str := ⟨fun _ => "str", fun {K H v x} h => by cases (show v = .str x from h); exact .base (.str _)⟩
instance : Ty Unit := ⟨fun _ => "NoneType", fun {K H v x} h => by cases (show v = .non from h); exact .base .non⟩
theorem ty_tup {a : Addr} {vs : List V} (h : SqT K H a vs) : TyX K H (.ref a) (.type "tuple") := by
  rcases h with (h | ⟨o, h⟩) | ⟨o, its, n, h, hc, _⟩
  · exact .base (.tup h)
  · exact .fTuple h
  · exact .kTuple h hc
instance {α : Type} [Rp α] : Ty (List α) := ⟨fun _ => "list", fun {K H v x} h => by obtain ⟨a, vs, rfl, ⟨o, h2⟩, _⟩ := h; exact .base (.frz h2)⟩
instance {α β : Type} [Rp α] [Rp β] : Ty (α × β) := ⟨fun _ => "tuple", fun {K H v x} h => by obtain ⟨a, v1, v2, rfl, h2, _⟩ := h; exact ty_tup h2⟩
instance {α β γ : Type} [Rp α] [Rp β] [Rp γ] : Ty (T3 α β γ) := ⟨fun _ => "tuple", fun {K H v x} h => by obtain ⟨a, v1, v2, v3, rfl, h2, _⟩ := h; exact ty_tup h2⟩
instance {α : Type} [Rp α] : Ty (Tp α) := ⟨fun _ => "tuple", fun {K H v x} h => by obtain ⟨a, vs, rfl, h2, _⟩ := h; exact ty_tup h2⟩
theorem er_isi [Ty α] {s : String} {b : Bool} (h : Er K ta σ H x) (hb : kitB (Ty.n x) s = some b) : Er K (tCB (rIsi K) (tCons ta (tCons (tC (.ty s)) tNil))) σ H b := fun H1 e Q q =>
  h H1 e _ fun v H2 e2 r2 => ⟨v, .ty s, .type (Ty.n x), .type s, b, rfl, .ty s, Ty.ty r2, kit_ty hb, q _ H2 e2 rfl⟩
/-! ### slices -/
theorem paired_cut {F : V → α → Prop} {vs : List V} {l : List α} (h : Paired F vs l) (n m : Nat) : Paired F ((vs.drop n).take m) ((l.drop n).take m) := paired_take m (paired_drop n h)
def Eo (K : Fg) (to : TO) (σ : L2.St) (H : Hp) (o : Option Int) : Prop := ∀ H1, Same H H1 → ∀ Q : Option Int → Hp → Prop, (∀ H2, Same H1 H2 → Q o H2) → to σ H1 Q
theorem eo_none : Eo K tNoPart σ H none := fun H1 _ _ q => q H1 (Same.refl _)
theorem eo_some (h : Er K te σ H i) : Eo K (tPart te) σ H (some i) := fun H1 e _ q => h H1 e _ fun v H2 e2 r => ⟨i, r, q H2 e2⟩
def cutL (l : List α) (lo hi : Option Int) : List α := (l.drop (HT.sIx l.length 0 lo)).take (HT.sIx l.length l.length hi - HT.sIx l.length 0 lo)
theorem erl_sl {tl th : TO} {l : List α} {lo hi : Option Int} (h : Er K te σ H l) (h1 : Eo K tl σ H lo) (h2 : Eo K th σ H hi) : ErL K (tSl (rSlL K) te tl th) σ H (cutL l lo hi) := fun H1 e Q q =>
  h H1 e _ fun v H2 e2 r2 => h1 H2 (e.trans e2) _ fun H3 e3 => h2 H3 ((e.trans e2).trans e3) _ fun H4 e4 => by
    obtain ⟨a, vs, rfl, f, p⟩ := r2
    have f4 : Fz H4 a vs := f.sf (SF.of (e3.trans e4))
    have p4 : RL K H4 vs l := p.mono (SF.of (e3.trans e4))
    refine ⟨a, vs, rfl, f4.seq, fun n hn => q n _ _ (((e2.trans e3).trans e4).trans (same_new hn)) (((e2.trans e3).trans e4).free hn) upd_same ?_⟩
    have hc : RL K H4 (cutV vs lo hi) (cutL l lo hi) := by
      unfold cutV cutL
      rw [paired_len p4]
      exact paired_cut p4 _ _
    exact hc.mono (SF.new hn)
theorem cutL_from (l : List α) (n : Nat) : cutL l (some (n : Int)) none = l.drop n := by
  unfold cutL
  rw [HT.sIx_nat, HT.sIx_none]
  by_cases h : n ≤ l.length
  · rw [Nat.min_eq_left h, List.take_of_length_le (by rw [List.length_drop]; omega)]
  · rw [Nat.min_eq_right (by omega), List.drop_of_length_le (Nat.le_refl _), List.drop_of_length_le (by omega)]; simp
theorem cutL_to (l : List α) (n : Nat) : cutL l none (some (n : Int)) = l.take n := by
  unfold cutL
  rw [HT.sIx_nat, HT.sIx_none, List.drop_zero, Nat.sub_zero]
  by_cases h : n ≤ l.length
  · rw [Nat.min_eq_left h]
  · rw [Nat.min_eq_right (by omega), List.take_of_length_le (Nat.le_refl _), List.take_of_length_le (by omega)]
/-! ### promises: n arguments that stand for data, an answer, all that was tracked kept -/
def ansV (K : Fg) (y : β) (H : Hp) (Q : VK) : Prop := ∀ u H', Same H H' → Rp.rep K H' u y → Q u H'
def ansL (K : Fg) (l : List β) (H : Hp) (Q : VK) : Prop := ∀ p us H', Same H H' → H p = none → H' p = some (.lst us) → RL K H' us l → Q (.ref p) H'
def sp1 (K : Fg) (pre : α → Prop) (f : α → β) : Sp := fun vs H Q _ => ∃ v x, vs = [v] ∧ Rp.rep K H v x ∧ pre x ∧ ansV K (f x) H Q
def sp2 (K : Fg) (pre : α → β → Prop) (f : α → β → γ) : Sp := fun vs H Q _ => ∃ v u x y, vs = [v, u] ∧ Rp.rep K H v x ∧ Rp.rep K H u y ∧ pre x y ∧ ansV K (f x y) H Q
def sp3 (K : Fg) (pre : α → β → γ → Prop) (f : α → β → γ → δ) : Sp := fun vs H Q _ => ∃ v u w x y z, vs = [v, u, w] ∧ Rp.rep K H v x ∧ Rp.rep K H u y ∧ Rp.rep K H w z ∧ pre x y z ∧ ansV K (f x y z) H Q
def sl1 (K : Fg) (pre : α → Prop) (f : α → List β) : Sp := fun vs H Q _ => ∃ v x, vs = [v] ∧ Rp.rep K H v x ∧ pre x ∧ ansL K (f x) H Q
def sl2 (K : Fg) (pre : α → β → Prop) (f : α → β → List γ) : Sp := fun vs H Q _ => ∃ v u x y, vs = [v, u] ∧ Rp.rep K H v x ∧ Rp.rep K H u y ∧ pre x y ∧ ansL K (f x y) H Q
def sl3 (K : Fg) (pre : α → β → γ → Prop) (f : α → β → γ → List δ) : Sp := fun vs H Q _ => ∃ v u w x y z, vs = [v, u, w] ∧ Rp.rep K H v x ∧ Rp.rep K H u y ∧ Rp.rep K H w z ∧ pre x y z ∧ ansL K (f x y z) H Q
theorem er_call1 {pre : α → Prop} {f : α → β} {E : XK} (h : Er K ta σ H x) (hp : pre x) : Er K (tCall (sp1 K pre f) [] E (tCons ta tNil)) σ H (f x) := fun H1 e Q q =>
  h H1 e _ fun v H2 e2 r2 => ⟨v, x, rfl, r2, hp, fun u H3 e3 r3 => q u H3 (e2.trans e3) r3⟩
theorem er_call2 {pre : α → β → Prop} {f : α → β → γ} {E : XK} (h : Er K ta σ H x) (h' : Er K tb σ H y) (hp : pre x y) : Er K (tCall (sp2 K pre f) [] E (tCons ta (tCons tb tNil))) σ H (f x y) := fun H1 e Q q =>
  h H1 e _ fun v H2 e2 r2 => h' H2 (e.trans e2) _ fun u H3 e3 r3 => ⟨v, u, x, y, rfl, Rp.mono (SF.of e3) r2, r3, hp, fun u H4 e4 r4 => q u H4 ((e2.trans e3).trans e4) r4⟩
theorem er_call3 {pre : α → β → γ → Prop} {f : α → β → γ → δ} {E : XK} (h : Er K ta σ H x) (h' : Er K tb σ H y) (h'' : Er K tc σ H z) (hp : pre x y z) : Er K (tCall (sp3 K pre f) [] E (tCons ta (tCons tb (tCons tc tNil)))) σ H (f x y z) := fun H1 e Q q =>
  h H1 e _ fun v H2 e2 r2 => h' H2 (e.trans e2) _ fun u H3 e3 r3 => h'' H3 ((e.trans e2).trans e3) _ fun w H4 e4 r4 =>
    ⟨v, u, w, x, y, z, rfl, Rp.mono (SF.of (e3.trans e4)) r2, Rp.mono (SF.of e4) r3, r4, hp, fun u H5 e5 r5 => q u H5 (((e2.trans e3).trans e4).trans e5) r5⟩
theorem erl_call1 {pre : α → Prop} {f : α → List β} {E : XK} (h : Er K ta σ H x) (hp : pre x) : ErL K (tCall (sl1 K pre f) [] E (tCons ta tNil)) σ H (f x) := fun H1 e Q q =>
  h H1 e _ fun v H2 e2 r2 => ⟨v, x, rfl, r2, hp, fun p us H3 e3 hn h3 r3 => q p us H3 (e2.trans e3) (e2.free hn) h3 r3⟩
theorem erl_call2 {pre : α → β → Prop} {f : α → β → List γ} {E : XK} (h : Er K ta σ H x) (h' : Er K tb σ H y) (hp : pre x y) : ErL K (tCall (sl2 K pre f) [] E (tCons ta (tCons tb tNil))) σ H (f x y) := fun H1 e Q q =>
  h H1 e _ fun v H2 e2 r2 => h' H2 (e.trans e2) _ fun u H3 e3 r3 => ⟨v, u, x, y, rfl, Rp.mono (SF.of e3) r2, r3, hp, fun p us H4 e4 hn h4 r4 => q p us H4 ((e2.trans e3).trans e4) ((e2.trans e3).free hn) h4 r4⟩
theorem erl_call3 {pre : α → β → γ → Prop} {f : α → β → γ → List δ} {E : XK} (h : Er K ta σ H x) (h' : Er K tb σ H y) (h'' : Er K tc σ H z) (hp : pre x y z) : ErL K (tCall (sl3 K pre f) [] E (tCons ta (tCons tb (tCons tc tNil)))) σ H (f x y z) := fun H1 e Q q =>
  h H1 e _ fun v H2 e2 r2 => h' H2 (e.trans e2) _ fun u H3 e3 r3 => h'' H3 ((e.trans e2).trans e3) _ fun w H4 e4 r4 =>
    ⟨v, u, w, x, y, z, rfl, Rp.mono (SF.of (e3.trans e4)) r2, Rp.mono (SF.of e4) r3, r4, hp, fun p us H5 e5 hn h5 r5 => q p us H5 (((e2.trans e3).trans e4).trans e5) (((e2.trans e3).trans e4).free hn) h5 r5⟩
/-! ### statements -/
variable {D : Ends} {tu tw tz : TS} {g : TG}
theorem s_set {k : Nat} (h : Er K te σ H x) (q : ∀ v H1, Same H H1 → Rp.rep K H1 v x → D.nx (σ.set k (some v)) H1) : tAsg te (gName k) D σ H := h H (Same.refl _) _ q
theorem s_setL {k : Nat} {l : List α} (h : ErL K te σ H l) (q : ∀ p vs H1, Same H H1 → H p = none → H1 p = some (.lst vs) → RL K H1 vs l → D.nx (σ.set k (some (.ref p))) H1) : tAsg te (gName k) D σ H := h H (Same.refl _) _ q
theorem q_set {k : Nat} (h : Er K te σ H x) (q : ∀ v H1, Same H H1 → Rp.rep K H1 v x → tz D (σ.set k (some v)) H1) : tSeq (tAsg te (gName k)) tz D σ H := h H (Same.refl _) _ q
theorem q_setL {k : Nat} {l : List α} (h : ErL K te σ H l) (q : ∀ p vs H1, Same H H1 → H p = none → H1 p = some (.lst vs) → RL K H1 vs l → tz D (σ.set k (some (.ref p))) H1) : tSeq (tAsg te (gName k)) tz D σ H := h H (Same.refl _) _ q
theorem s_drop (h : Er K te σ H x) (q : ∀ H1, Same H H1 → D.nx σ H1) : tDrop te D σ H := h H (Same.refl _) _ fun _ H1 e _ => q H1 e
theorem q_drop (h : Er K te σ H x) (q : ∀ H1, Same H H1 → tz D σ H1) : tSeq (tDrop te) tz D σ H := h H (Same.refl _) _ fun _ H1 e _ => q H1 e
theorem s_par {k m : Nat} (h : Er K ta σ H x) (h' : Er K tb σ H y) (q : ∀ v u H1, Same H H1 → Rp.rep K H1 v x → Rp.rep K H1 u y → D.nx ((σ.set k (some v)).set m (some u)) H1) : tPar k m (tCons ta (tCons tb tNil)) D σ H :=
  h H (Same.refl _) _ fun v H1 e r => h' H1 e _ fun u H2 e2 r2 => ⟨v, u, rfl, q v u H2 (e.trans e2) (Rp.mono (SF.of e2) r) r2⟩
theorem q_par {k m : Nat} (h : Er K ta σ H x) (h' : Er K tb σ H y) (q : ∀ v u H1, Same H H1 → Rp.rep K H1 v x → Rp.rep K H1 u y → tz D ((σ.set k (some v)).set m (some u)) H1) : tSeq (tPar k m (tCons ta (tCons tb tNil))) tz D σ H :=
  s_par (D := { D with nx := tz D }) h h' q
theorem tg_pair {p : α × β} {k m : Nat} (h : Rp.rep K H v p) : ∃ v1 v2, Rp.rep K H v1 p.1 ∧ Rp.rep K H v2 p.2 ∧ ∀ Q : L2.St → Hp → Prop, Q ((σ.set k (some v1)).set m (some v2)) H → gTup K 2 (gCons (gName k) (gCons (gName m) gNil)) v σ H Q := by
  obtain ⟨a, v1, v2, rfl, h2, h3, h4⟩ := h
  exact ⟨v1, v2, h3, h4, fun Q q => ⟨a, _, rfl, h2, rfl, v1, _, rfl, v2, _, rfl, rfl, q⟩⟩
theorem tg_three {p : T3 α β γ} {k m n : Nat} (h : Rp.rep K H v p) : ∃ v1 v2 v3, Rp.rep K H v1 p.a ∧ Rp.rep K H v2 p.b ∧ Rp.rep K H v3 p.c ∧ ∀ Q : L2.St → Hp → Prop, Q (((σ.set k (some v1)).set m (some v2)).set n (some v3)) H → gTup K 3 (gCons (gName k) (gCons (gName m) (gCons (gName n) gNil))) v σ H Q := by
  obtain ⟨a, v1, v2, v3, rfl, h2, h3, h4, h5⟩ := h
  exact ⟨v1, v2, v3, h3, h4, h5, fun Q q => ⟨a, _, rfl, h2, rfl, v1, _, rfl, v2, _, rfl, v3, _, rfl, rfl, q⟩⟩
theorem s_unp {p : α × β} {k m : Nat} (h : Er K te σ H p) (q : ∀ v u H1, Same H H1 → Rp.rep K H1 v p.1 → Rp.rep K H1 u p.2 → D.nx ((σ.set k (some v)).set m (some u)) H1) : tAsg te (gTup K 2 (gCons (gName k) (gCons (gName m) gNil))) D σ H :=
  h H (Same.refl _) _ fun v H1 e r => by
    obtain ⟨v1, v2, r1, r2, f⟩ := tg_pair (σ := σ) (k := k) (m := m) r
    exact f _ (q v1 v2 H1 e r1 r2)
theorem q_unp {p : α × β} {k m : Nat} (h : Er K te σ H p) (q : ∀ v u H1, Same H H1 → Rp.rep K H1 v p.1 → Rp.rep K H1 u p.2 → tz D ((σ.set k (some v)).set m (some u)) H1) : tSeq (tAsg te (gTup K 2 (gCons (gName k) (gCons (gName m) gNil)))) tz D σ H :=
  s_unp (D := { D with nx := tz D }) h q
theorem s_ret (h : Er K te σ H x) (q : ∀ v H1, Same H H1 → Rp.rep K H1 v x → D.rt v H1) : tRet te D σ H := h H (Same.refl _) _ q
theorem s_retL {l : List α} (h : ErL K te σ H l) (q : ∀ p vs H1, Same H H1 → H p = none → H1 p = some (.lst vs) → RL K H1 vs l → D.rt (.ref p) H1) : tRet te D σ H := h H (Same.refl _) _ q
theorem s_if (h : Et K tt σ H b) (h1 : b = true → ∀ H1, Same H H1 → tu D σ H1) (h2 : b = false → ∀ H1, Same H H1 → tw D σ H1) : tIfS tt tu tw D σ H := h H (Same.refl _) _ fun H1 e => by
  cases b with
  | true => exact iteT (h1 rfl H1 e)
  | false => exact iteF (h2 rfl H1 e)
theorem q_if (h : Et K tt σ H b) (h1 : b = true → ∀ H1, Same H H1 → tu { D with nx := tz D } σ H1) (h2 : b = false → ∀ H1, Same H H1 → tw { D with nx := tz D } σ H1) : tSeq (tIfS tt tu tw) tz D σ H := s_if (D := { D with nx := tz D }) h h1 h2
theorem q_when (h : Et K tt σ H b) (h1 : b = true → ∀ H1, Same H H1 → tu { D with nx := tz D } σ H1) (h2 : b = false → ∀ H1, Same H H1 → tz D σ H1) : tSeq (tIfS tt tu tNext) tz D σ H := s_if (D := { D with nx := tz D }) h h1 h2
/-- the test is known not to hold -/
theorem q_not (h : Et K tt σ H b) (hb : b = false) (q : ∀ H1, Same H H1 → tz D σ H1) : tSeq (tIfS tt tu tNext) tz D σ H := q_when h (fun e => by rw [hb] at e; cases e) fun _ => q
theorem s_not (h : Et K tt σ H b) (hb : b = false) (q : ∀ H1, Same H H1 → D.nx σ H1) : tIfS tt tu tNext D σ H := s_if h (fun e => by rw [hb] at e; cases e) fun _ => q
/-! lists not locked yet -/
def Un (K : Fg) (H : Hp) (p : Addr) (l : List α) : Prop := ∃ vs, H p = some (.lst vs) ∧ RL K H vs l
theorem Un.of {p : Addr} {vs : List V} {l : List α} (h : H p = some (.lst vs)) (r : RL K H vs l) : Un K H p l := ⟨vs, h, r⟩
theorem Un.mono {p : Addr} {l : List α} (e : Same H H') (h : Un K H p l) : Un K H' p l := by
  obtain ⟨vs, h, r⟩ := h; exact ⟨vs, e _ _ h, r.mono (SF.of e)⟩
/-- from H to H' the list at p alone has changed, new things are there -/
structure Mu (p : Addr) (H H' : Hp) : Prop where
  sf : SF H H'
  ne : ∀ q o, q ≠ p → H q = some o → H' q = some o
theorem Mu.base {p : Addr} {H0 : Hp} (m : Mu p H H') (e : Same H0 H) (h : H0 p = none) : Same H0 H' := fun a o ha => m.ne a o (ne_of_none ha h) (e a o ha)
theorem Mu.trans {p : Addr} {H2 : Hp} (m : Mu p H H') (n : Mu p H' H2) : Mu p H H2 := ⟨m.sf.trans n.sf, fun q o h e => n.ne q o h (m.ne q o h e)⟩
theorem Mu.of {p : Addr} (e : Same H H') : Mu p H H' := ⟨SF.of e, fun q o _ h => e q o h⟩
theorem mu_upd {p : Addr} {vs : List V} {o : HO} (e : Same H H1) (h : H p = some (.lst vs)) : Mu p H (upd H1 p o) := ⟨(SF.of e).trans (SF.lst (e _ _ h)), fun q u n hq => by rw [upd_ne n]; exact e _ _ hq⟩
theorem Un.ne {p q : Addr} {l : List α} (m : Mu p H H') (n : q ≠ p) (h : Un K H q l) : Un K H' q l := by
  obtain ⟨vs, h, r⟩ := h; exact ⟨vs, m.ne _ _ n h, r.mono m.sf⟩
theorem s_app {k : Nat} {p : Addr} {l : List α} (hσ : σ[k]? = some (some (.ref p))) (hu : Un K H p l) (h : Er K te σ H x) (hz : l.length < 1000000) (q : ∀ H2, Mu p H H2 → Un K H2 p (l ++ [x]) → D.nx σ H2) :
    tDrop (tBM K "list" rAppend (tVar k) (tCons te tNil)) D σ H := by
  obtain ⟨vs, hp, r⟩ := hu
  refine ⟨.ref p, hσ, Or.inl ⟨rfl, vs, sq_lst hp⟩, ?_⟩
  refine h H (Same.refl _) _ fun v H2 e2 r2 => ⟨p, vs, v, rfl, rfl, e2 _ _ hp, ?_, q _ (mu_upd e2 hp) ⟨_, upd_same, RL.mono (SF.lst (e2 _ _ hp)) (paired_app (r.mono (SF.of e2)) (.cons r2 .nil))⟩⟩
  rw [paired_len r]; exact Nat.lt_of_lt_of_le hz (by decide)
theorem q_app {k : Nat} {p : Addr} {l : List α} (hσ : σ[k]? = some (some (.ref p))) (hu : Un K H p l) (h : Er K te σ H x) (hz : l.length < 1000000) (q : ∀ H2, Mu p H H2 → Un K H2 p (l ++ [x]) → tz D σ H2) :
    tSeq (tDrop (tBM K "list" rAppend (tVar k) (tCons te tNil))) tz D σ H := s_app (D := { D with nx := tz D }) hσ hu h hz q
theorem s_setI {k : Nat} {p : Addr} {l : List α} {n : Nat} (hσ : σ[k]? = some (some (.ref p))) (hu : Un K H p l) (h : Er K te σ H x) (hi : Er K tb σ H n) (hn : n < l.length) (q : ∀ H2, Mu p H H2 → Un K H2 p (l.set n x) → D.nx σ H2) :
    tAsg te (gSub (tVar k) tb rSetL) D σ H := by
  obtain ⟨vs, hp, r⟩ := hu
  refine h H (Same.refl _) _ fun v H2 e2 r2 => ⟨.ref p, hσ, hi H2 e2 _ fun u H3 e3 r3 => ?_⟩
  cases (show u = .int (n : Int) from r3)
  refine ⟨p, vs, (n : Int), n, rfl, rfl, (e2.trans e3) _ _ hp, ?_, q _ (mu_upd (e2.trans e3) hp) ⟨_, upd_same, RL.mono (SF.lst ((e2.trans e3) _ _ hp)) (paired_set (Rp.mono (SF.of e3) r2) n (r.mono (SF.of (e2.trans e3))))⟩⟩
  rw [paired_len r]
  unfold ixN
  rw [if_pos (by omega), if_pos (by omega)]; simp
theorem q_setI {k : Nat} {p : Addr} {l : List α} {n : Nat} (hσ : σ[k]? = some (some (.ref p))) (hu : Un K H p l) (h : Er K te σ H x) (hi : Er K tb σ H n) (hn : n < l.length) (q : ∀ H2, Mu p H H2 → Un K H2 p (l.set n x) → tz D σ H2) :
    tSeq (tAsg te (gSub (tVar k) tb rSetL)) tz D σ H := s_setI (D := { D with nx := tz D }) hσ hu h hi hn q
theorem er_ixU {k : Nat} {p : Addr} {l : List α} {n : Nat} {x : α} (hσ : σ[k]? = some (some (.ref p))) (hu : Un K H p l) (hi : Er K tb σ H (n : Int)) (hx : l[n]? = some x) : Er K (tOp (rIxL K) (tVar k) tb) σ H x := fun H1 e Q q => by
  obtain ⟨vs, hp, r⟩ := hu
  refine ⟨.ref p, hσ, hi H1 e _ fun u H2 e2 r2 => ?_⟩
  cases (show u = .int (n : Int) from r2)
  obtain ⟨w, hw, rw'⟩ := paired_get r hx
  exact ⟨p, vs, n, w, rfl, rfl, sq_lst ((e.trans e2) _ _ hp), atI_nat hw, q w H2 e2 (Rp.mono (SF.of (e.trans e2)) rw')⟩
theorem er_lenU {k : Nat} {p : Addr} {l : List α} (hσ : σ[k]? = some (some (.ref p))) (hu : Un K H p l) : Er K (tCB (rLenC K) (tCons (tVar k) tNil)) σ H l.length := fun H1 e Q q => by
  obtain ⟨vs, hp, r⟩ := hu
  exact ⟨.ref p, hσ, p, vs, rfl, .inl (sq_lst (e _ _ hp)), by rw [paired_len r]; exact q _ H1 (Same.refl _) rfl⟩
/-- the list in a slot is locked from here on -/
def tFzS (k : Nat) (t : TS) : TS := fun D σ H => ∃ p vs, σ[k]? = some (some (.ref p)) ∧ H p = some (.lst vs) ∧ ∀ od, t D σ (upd H p (.frz od (.lst vs)))
theorem pss_frz {X : Cx} {rest : List Stmt} {t : TS} (k : Nat) (h : PSs X rest t) : PSs X rest (tFzS k t) := ⟨fun pins s σ H D I q => by
  obtain ⟨p, vs, hs, hp, q⟩ := q
  obtain ⟨od, I2⟩ := I.lock hp trivial
  exact h.run pins s σ _ D I2 (q od)⟩
theorem q_frz {k : Nat} {p : Addr} {l : List α} (hσ : σ[k]? = some (some (.ref p))) (hu : Un K H p l) (q : ∀ H2, Mu p H H2 → Rp.rep K H2 (.ref p) l → tz D σ H2) : tFzS k tz D σ H := by
  obtain ⟨vs, hp, r⟩ := hu
  exact ⟨p, vs, hσ, hp, fun od => q _ (mu_upd (Same.refl _) hp) ⟨p, vs, rfl, ⟨od, upd_same⟩, r.mono (SF.lst hp)⟩⟩
theorem s_aug {k : Nat} {f : Int → Int → Int} (hσ : σ[k]? = some (some (.int i))) (h : Er K te σ H j) (q : ∀ H1, Same H H1 → D.nx (σ.set k (some (.int (f i j)))) H1) : tAug k te (ipI f) D σ H :=
  ⟨.int i, hσ, h H (Same.refl _) _ fun v H1 e r => ⟨i, j, rfl, r, q H1 e⟩⟩
theorem q_aug {k : Nat} {f : Int → Int → Int} (hσ : σ[k]? = some (some (.int i))) (h : Er K te σ H j) (q : ∀ H1, Same H H1 → tz D (σ.set k (some (.int (f i j)))) H1) : tSeq (tAug k te (ipI f)) tz D σ H := s_aug (D := { D with nx := tz D }) hσ h q
end
end BL

set_option Elab.async false
set_option linter.all false
set_option maxRecDepth 100000
set_option maxHeartbeats 2000000
namespace BL
open PySem PySem.Spec PyProof.Rows L2
/-! ### what is walked -/
def Src (K : Fg) (wi : TI) (σ : L2.St) (H : Hp) {α : Type} [Rp α] (l : List α) : Prop := ∀ H1, Same H H1 → ∀ RR : It → Hp → Prop,
  (∀ (J : It) (H2 : Hp) (G : Hp → Prop) (Y : Nat → Hp → V → Hp → Prop), Same H1 H2 → Walk J l.length G Y → (∀ H', SF H2 H' → G H') →
    (∀ i x, l[i]? = some x → ∀ H', SF H2 H' → ∀ v H'', Y i H' v H'' → Same H' H'' ∧ Rp.rep K H'' v x) → RR J H2) → wi σ H1 RR
def enumL {α : Type} (l : List α) : List (Nat × α) := (List.range l.length).zip l
def rgI (lo : Int) (n : Nat) : List Int := (List.range n).map fun k : Nat => lo + (k : Int)
section
variable {K : Fg} {σ : L2.St} {H H' H1 : Hp} {ta tb tc td te : TE} {tt uu : TT} {α β γ δ : Type} [Rp α] [Rp β] [Rp γ] [Rp δ] {x : α} {y : β} {z : γ} {v u : V} {i j : Int} {b c : Bool}
theorem src_list {l : List α} (h : Er K te σ H l) : Src K (iList K te) σ H l := fun H1 e RR k => h H1 e _ fun v H2 e2 r => by
  obtain ⟨a, vs, rfl, f, p⟩ := r
  refine ⟨a, rfl, ⟨vs, f.seq⟩, k _ H2 (fun H => SqL K H a vs) (YAt vs) e2 (by rw [← paired_len p]; exact walk_list) (fun H' s => (f.sf s).seq) fun i x hx H' s v H'' y => ?_⟩
  obtain ⟨rfl, hv⟩ := y
  obtain ⟨w, hw, r⟩ := paired_get p hx
  rw [hv] at hw; cases hw
  exact ⟨Same.refl _, Rp.mono s r⟩
theorem src_tup {t : Tp α} (h : Er K te σ H t) : Src K (iTup K te) σ H t.l := fun H1 e RR k => h H1 e _ fun v H2 e2 r => by
  obtain ⟨a, vs, rfl, f, p⟩ := r
  refine ⟨a, rfl, ⟨vs, f⟩, k _ H2 (fun H => SqT K H a vs) (YAt vs) e2 (by rw [← paired_len p]; exact walk_tup) (fun H' s => sqt_sf s f) fun i x hx H' s v H'' y => ?_⟩
  obtain ⟨rfl, hv⟩ := y
  obtain ⟨w, hw, r⟩ := paired_get p hx
  rw [hv] at hw; cases hw
  exact ⟨Same.refl _, Rp.mono s r⟩
theorem src_two {p : α × α} (h : Er K te σ H p) : Src K (iTup K te) σ H [p.1, p.2] := src_tup (t := ⟨[p.1, p.2]⟩) fun H1 e Q q => h H1 e Q fun v H2 e2 r => q v H2 e2 (by
  obtain ⟨a, v1, v2, rfl, h2, h3, h4⟩ := r
  exact ⟨a, _, rfl, h2, .cons h3 (.cons h4 .nil)⟩)
theorem src_range1 {n : Nat} (h : Er K te σ H n) (hz : n ≤ 1000000) : Src K (iRng1 (tCons te tNil)) σ H (List.range n) := fun H1 e RR k => h H1 e _ fun v H2 e2 r => by
  cases (show v = .int (n : Int) from r)
  refine ⟨(n : Int), rfl, by omega, by omega, k _ H2 (fun _ => True) (YFn fun i => .int (0 + i)) e2 ?_ (fun _ _ => trivial) fun i x hx H' s v H'' y => ?_⟩
  · rw [List.length_range, Int.toNat_natCast]; exact walk_range
  · obtain ⟨rfl, rfl⟩ := y
    have hi : i < n := by
      have := (List.getElem?_eq_some_iff.mp hx).1
      rwa [List.length_range] at this
    rw [List.getElem?_range hi] at hx
    cases hx
    exact ⟨Same.refl _, by show V.int _ = V.int _; rw [Int.zero_add]⟩
theorem src_range2 {lo hi : Int} (h : Er K ta σ H lo) (h' : Er K tb σ H hi) (h1 : -1000000 ≤ lo ∧ lo ≤ 1000000) (h2 : -1000000 ≤ hi ∧ hi ≤ 1000000) : Src K (iRng2 (tCons ta (tCons tb tNil))) σ H (rgI lo (hi - lo).toNat) := fun H1 e RR k =>
  h H1 e _ fun v H2 e2 r2 => h' H2 (e.trans e2) _ fun u H3 e3 r3 => by
  cases (show v = .int lo from r2)
  cases (show u = .int hi from r3)
  refine ⟨lo, hi, rfl, ⟨by omega, by omega, by omega, by omega⟩, k _ H3 (fun _ => True) (YFn fun i => .int (lo + i)) (e2.trans e3) ?_ (fun _ _ => trivial) fun i x hx H' s v H'' y => ?_⟩
  · unfold rgI; rw [List.length_map, List.length_range]; exact walk_range
  · obtain ⟨rfl, rfl⟩ := y
    have hi : i < (hi - lo).toNat := by
      have := (List.getElem?_eq_some_iff.mp hx).1
      unfold rgI at this
      rwa [List.length_map, List.length_range] at this
    unfold rgI at hx
    rw [List.getElem?_map, List.getElem?_range hi] at hx
    cases hx
    exact ⟨Same.refl _, rfl⟩
theorem enumL_get {l : List α} {i : Nat} {p : Nat × α} (h : (enumL l)[i]? = some p) : l[i]? = some p.2 ∧ p.1 = i := by
  unfold enumL at h
  rw [List.getElem?_zip_eq_some] at h
  obtain ⟨h1, h2⟩ := h
  have hi : i < l.length := (List.getElem?_eq_some_iff.mp h2).1
  rw [List.getElem?_range hi] at h1
  exact ⟨h2, (Option.some.inj h1).symm⟩
theorem enumL_len (l : List α) : (enumL l).length = l.length := by unfold enumL; rw [List.length_zip, List.length_range, Nat.min_self]
theorem src_enum {l : List α} (h : Er K te σ H l) : Src K (iEnum K (tCons te tNil)) σ H (enumL l) := fun H1 e RR k => h H1 e _ fun v H2 e2 r => by
  obtain ⟨a, vs, rfl, f, p⟩ := r
  refine ⟨a, vs, rfl, f.seq, k _ H2 (fun H => SqL K H a vs) _ e2 (by rw [enumL_len, ← paired_len p]; exact walk_enum) (fun H' s => (f.sf s).seq) fun i x hx H' s v H'' y => ?_⟩
  obtain ⟨T, w1, w2, rfl, hT, rfl, h1, h2⟩ := y
  obtain ⟨g1, g2⟩ := enumL_get hx
  obtain ⟨w, hw, r⟩ := paired_get p g1
  have h2' : vs[i]? = some w2 := h2
  rw [h2'] at hw; cases hw
  refine ⟨same_new hT, T, w1, w2, rfl, sq_tup upd_same, ?_, Rp.mono (s.trans (SF.new hT)) r⟩
  cases h1
  show V.int _ = V.int _
  rw [g2]
theorem src_zip {l : List α} {m : List β} (h : Er K ta σ H l) (h' : Er K tb σ H m) : Src K (iZip K (tCons ta (tCons tb tNil))) σ H (l.zip m) := fun H1 e RR k => h H1 e _ fun v H2 e2 r2 => h' H2 (e.trans e2) _ fun u H3 e3 r3 => by
  obtain ⟨a, vs, rfl, f, p⟩ := r2
  obtain ⟨b, us, rfl, f', p'⟩ := r3
  have f3 := f.sf (SF.of e3)
  have p3 := p.mono (SF.of e3)
  refine ⟨a, b, vs, us, rfl, f3.seq, f'.seq, k _ H3 (fun H => SqL K H a vs ∧ SqL K H b us) _ (e2.trans e3) (walk_zip (by rw [List.length_zip, paired_len p, paired_len p'])) (fun H' s => ⟨(f3.sf s).seq, (f'.sf s).seq⟩) fun i x hx H' s v H'' y => ?_⟩
  obtain ⟨T, w1, w2, rfl, hT, rfl, h1, h2⟩ := y
  rw [List.getElem?_zip_eq_some] at hx
  obtain ⟨w, hw, r⟩ := paired_get p3 hx.1
  obtain ⟨w', hw', r'⟩ := paired_get p' hx.2
  have h1' : vs[i]? = some w1 := h1
  have h2' : us[i]? = some w2 := h2
  rw [h1'] at hw; cases hw
  rw [h2'] at hw'; cases hw'
  exact ⟨same_new hT, T, w1, w2, rfl, sq_tup upd_same, Rp.mono (s.trans (SF.new hT)) r, Rp.mono (s.trans (SF.new hT)) r'⟩
/-! ### for -/
variable {D : Ends} {tu tw tz : TS} {g : TG} {wi : TI}
theorem s_for {l : List α} (hs : Src K wi σ H l) (Pv : Hp → Nat → L2.St → Hp → Prop) (h0 : ∀ H1, Same H H1 → Pv H1 0 σ H1) (hf : ∀ H1 k σ' H', Pv H1 k σ' H' → SF H1 H')
    (turn : ∀ H1 k x σ' H' v H'', Same H H1 → l[k]? = some x → Pv H1 k σ' H' → Same H' H'' → Rp.rep K H'' v x → g v σ' H'' fun σ2 H2 => tu { D with nx := Pv H1 (k + 1), ct := Pv H1 (k + 1), bk := D.nx } σ2 H2)
    (hd : ∀ H1 σ' H', Same H H1 → Pv H1 l.length σ' H' → D.nx σ' H') : tFor wi g tu D σ H := hs H (Same.refl _) _ fun J H2 G Y e2 w hG hY =>
  for_it w (Pv H2) (h0 H2 e2) (fun k σ' H' _ p => hG H' (hf _ _ _ _ p)) (fun k v σ' H' H'' hk p y => by
    obtain ⟨x, hx⟩ : ∃ x, l[k]? = some x := ⟨l[k], List.getElem?_eq_getElem hk⟩
    obtain ⟨s, r⟩ := hY k x hx H' (hf _ _ _ _ p) v H'' y
    exact turn H2 k x σ' H' v H'' e2 hx p s r) fun σ' H' p => hd H2 σ' H' e2 p
theorem q_for {l : List α} (hs : Src K wi σ H l) (Pv : Hp → Nat → L2.St → Hp → Prop) (h0 : ∀ H1, Same H H1 → Pv H1 0 σ H1) (hf : ∀ H1 k σ' H', Pv H1 k σ' H' → SF H1 H')
    (turn : ∀ H1 k x σ' H' v H'', Same H H1 → l[k]? = some x → Pv H1 k σ' H' → Same H' H'' → Rp.rep K H'' v x → g v σ' H'' fun σ2 H2 => tu { D with nx := Pv H1 (k + 1), ct := Pv H1 (k + 1), bk := tz D } σ2 H2)
    (hd : ∀ H1 σ' H', Same H H1 → Pv H1 l.length σ' H' → tz D σ' H') : tSeq (tFor wi g tu) tz D σ H := s_for (D := { D with nx := tz D }) hs Pv h0 hf turn hd
theorem s_while (Pv : L2.St → Hp → Prop) (μ : L2.St → Hp → Nat) (h0 : Pv σ H)
    (hs : ∀ σ' H', Pv σ' H' → ∃ b, Et K tt σ' H' b ∧ (b = true → ∀ H1, Same H' H1 → tu { D with nx := fun σ2 H2 => Pv σ2 H2 ∧ μ σ2 H2 < μ σ' H', ct := fun σ2 H2 => Pv σ2 H2 ∧ μ σ2 H2 < μ σ' H', bk := D.nx } σ' H1) ∧ (b = false → ∀ H1, Same H' H1 → D.nx σ' H1)) : tWhile tt tu D σ H := by
  refine ⟨fun m σ H => m = μ σ H ∧ Pv σ H, ⟨_, rfl, h0⟩, ?_⟩
  rintro m σ' H' ⟨rfl, p⟩
  obtain ⟨b, hb, h1, h2⟩ := hs σ' H' p
  refine hb H' (Same.refl _) _ fun H2 e => ?_
  cases b with
  | true => exact ⟨_, fun σ2 H2 ⟨p', l⟩ => ⟨_, l, rfl, p'⟩, h1 rfl H2 e⟩
  | false => exact h2 rfl H2 e
theorem q_while (Pv : L2.St → Hp → Prop) (μ : L2.St → Hp → Nat) (h0 : Pv σ H)
    (hs : ∀ σ' H', Pv σ' H' → ∃ b, Et K tt σ' H' b ∧ (b = true → ∀ H1, Same H' H1 → tu { D with nx := fun σ2 H2 => Pv σ2 H2 ∧ μ σ2 H2 < μ σ' H', ct := fun σ2 H2 => Pv σ2 H2 ∧ μ σ2 H2 < μ σ' H', bk := tz D } σ' H1) ∧ (b = false → ∀ H1, Same H' H1 → tz D σ' H1)) : tSeq (tWhile tt tu) tz D σ H :=
  s_while (D := { D with nx := tz D }) Pv μ h0 hs
/-! ### comprehensions -/
def mapIf (c : α → Bool) (f : α → β) (l : List α) : List β := (l.filter c).map f
theorem erl_lc {l : List α} {vs : List Nat} {c : α → Bool} {f : α → β} (hs : Src K wi σ H l) (hz : l.length ≤ 1000000)
    (turn : ∀ x, x ∈ l → ∀ v H1, Same H H1 → Rp.rep K H1 v x → ∃ σ2, (∀ Q : L2.St → Hp → Prop, Q σ2 H1 → g v (wipe σ vs) H1 Q) ∧ wipe σ2 vs = wipe σ vs ∧ Et K tt σ2 H1 (c x) ∧ (c x = true → Er K te σ2 H1 (f x))) :
    ErL K (tLc wi g tt te vs) σ H (mapIf c f l) := fun H1 e Q q => hs H1 e _ fun J H2 G Y e2 w hG hY D hD => by
  refine lc_it w (fun k H' => Same H2 H' ∧ ∃ us, H' D = some (.lst us) ∧ RL K H' us (mapIf c f (l.take k))) ⟨same_new hD, [], upd_same, .nil⟩ (fun k H' _ p => hG H' (SF.of p.1)) (fun k v H' H'' hk p y => ?_) fun H' p => ?_
  · obtain ⟨p1, us, p2, p3⟩ := p
    have hx : l[k]? = some l[k] := List.getElem?_eq_getElem hk
    obtain ⟨s, r⟩ := hY k _ hx H' (SF.of p1) v H'' y
    obtain ⟨σ2, hg, hw, ht, he⟩ := turn l[k] (List.mem_of_getElem? hx) v H'' ((e.trans e2).trans (p1.trans s)) r
    refine hg _ ⟨hw, ht H'' (Same.refl _) _ fun H3 e3 => ?_⟩
    have htake : l.take (k + 1) = l.take k ++ [l[k]] := by rw [List.take_add_one, hx]; rfl
    cases hc : c l[k] with
    | true =>
      refine iteT (he hc H3 e3 _ fun w' H4 e4 r4 => ?_)
      have hm : mapIf c f (l.take (k + 1)) = mapIf c f (l.take k) ++ [f l[k]] := by
        unfold mapIf
        rw [htake, List.filter_append, List.map_append]; simp [hc]
      refine ⟨us, (s.trans (e3.trans e4)) _ _ p2, ?_, same_mut (p1.trans (s.trans (e3.trans e4))) hD, us ++ [w'], upd_same, ?_⟩
      · rw [paired_len p3]
        have : (mapIf c f (l.take k)).length ≤ l.length := by
          unfold mapIf
          rw [List.length_map]
          exact Nat.le_trans (List.length_filter_le _ _) (by rw [List.length_take]; exact Nat.min_le_right _ _)
        exact Nat.lt_of_le_of_lt (Nat.le_trans this hz) (by decide)
      · rw [hm]
        exact RL.mono (SF.lst ((s.trans (e3.trans e4)) _ _ p2)) (paired_app (p3.mono (SF.of (s.trans (e3.trans e4)))) (.cons r4 .nil))
    | false =>
      refine iteF ?_
      have hm : mapIf c f (l.take (k + 1)) = mapIf c f (l.take k) := by
        unfold mapIf
        rw [htake, List.filter_append, List.map_append]; simp [hc]
      exact ⟨p1.trans (s.trans e3), us, (s.trans e3) _ _ p2, by rw [hm]; exact p3.mono (SF.of (s.trans e3))⟩
  · obtain ⟨p1, us, p2, p3⟩ := p
    rw [List.take_length] at p3
    exact q D us H' (e2.trans p1) (e2.free hD) p2 p3
/-- for x in ..: one name -/
theorem erl_lc1 {l : List α} {vs : List Nat} {k : Nat} {c : α → Bool} {f : α → β} (hs : Src K wi σ H l) (hz : l.length ≤ 1000000) (hw : ∀ v : V, wipe ((wipe σ vs).set k (some v)) vs = wipe σ vs)
    (turn : ∀ x, x ∈ l → ∀ v H1, Same H H1 → Rp.rep K H1 v x → Et K tt ((wipe σ vs).set k (some v)) H1 (c x) ∧ (c x = true → Er K te ((wipe σ vs).set k (some v)) H1 (f x))) :
    ErL K (tLc wi (gName k) tt te vs) σ H (mapIf c f l) := erl_lc hs hz fun x hx v H1 e r => ⟨_, fun Q q => q, hw v, turn x hx v H1 e r⟩
/-- for x, y in .. -/
theorem erl_lc2 {l : List (α × β)} {vs : List Nat} {k m : Nat} {c : α × β → Bool} {f : α × β → γ} (hs : Src K wi σ H l) (hz : l.length ≤ 1000000) (hw : ∀ v u : V, wipe (((wipe σ vs).set k (some v)).set m (some u)) vs = wipe σ vs)
    (turn : ∀ x, x ∈ l → ∀ v u H1, Same H H1 → Rp.rep K H1 v x.1 → Rp.rep K H1 u x.2 → Et K tt (((wipe σ vs).set k (some v)).set m (some u)) H1 (c x) ∧ (c x = true → Er K te (((wipe σ vs).set k (some v)).set m (some u)) H1 (f x))) :
    ErL K (tLc wi (gTup K 2 (gCons (gName k) (gCons (gName m) gNil))) tt te vs) σ H (mapIf c f l) := erl_lc hs hz fun x hx v H1 e r => by
  obtain ⟨v1, v2, r1, r2, f⟩ := tg_pair (σ := wipe σ vs) (k := k) (m := m) r
  exact ⟨_, f, hw v1 v2, turn x hx v1 v2 H1 e r1 r2⟩
theorem mapIf_all {f : α → β} {l : List α} : mapIf (fun _ => true) f l = l.map f := by unfold mapIf; rw [List.filter_eq_self.mpr fun _ _ => rfl]
/-- no test -/
theorem erl_lm1 {l : List α} {vs : List Nat} {k : Nat} {f : α → β} (hs : Src K wi σ H l) (hz : l.length ≤ 1000000) (hw : ∀ v : V, wipe ((wipe σ vs).set k (some v)) vs = wipe σ vs)
    (turn : ∀ x, x ∈ l → ∀ v H1, Same H H1 → Rp.rep K H1 v x → Er K te ((wipe σ vs).set k (some v)) H1 (f x)) :
    ErL K (tLc wi (gName k) tYes te vs) σ H (l.map f) := (erl_lc1 (c := fun _ => true) hs hz hw fun x hx v H1 e r => ⟨et_yes, fun _ => turn x hx v H1 e r⟩).to mapIf_all
theorem erl_lm2 {l : List (α × β)} {vs : List Nat} {k m : Nat} {f : α × β → γ} (hs : Src K wi σ H l) (hz : l.length ≤ 1000000) (hw : ∀ v u : V, wipe (((wipe σ vs).set k (some v)).set m (some u)) vs = wipe σ vs)
    (turn : ∀ x, x ∈ l → ∀ v u H1, Same H H1 → Rp.rep K H1 v x.1 → Rp.rep K H1 u x.2 → Er K te (((wipe σ vs).set k (some v)).set m (some u)) H1 (f x)) :
    ErL K (tLc wi (gTup K 2 (gCons (gName k) (gCons (gName m) gNil))) tYes te vs) σ H (l.map f) := (erl_lc2 (c := fun _ => true) hs hz hw fun x hx v u H1 e r r' => ⟨et_yes, fun _ => turn x hx v u H1 e r r'⟩).to mapIf_all
end
/-! ### the rules that name the written part, the part given by name (a comprehension's block has the same) -/
section
variable {X : Cx} (K : Fg) (h : X.K = K)
include h
theorem k_ixl : IxR X (rIxL K) := by subst h; exact ix_list
theorem k_ixt : IxR X (rIxT K) := by subst h; exact ix_tup
theorem k_sum (hc : X.calm = true) : CallR X (.builtin "sum") (rSum K) := by subst h; exact cr_sum hc
theorem k_max (hc : X.calm = true) : CallR X (.builtin "max") (rMax K) := by subst h; exact cr_max hc
theorem k_min (hc : X.calm = true) : CallR X (.builtin "min") (rMin K) := by subst h; exact cr_min hc
theorem k_all (hc : X.calm = true) : CallR X (.builtin "all") (rAll K) := by subst h; exact cr_all hc
theorem k_any (hc : X.calm = true) : CallR X (.builtin "any") (rAny K) := by subst h; exact cr_any hc
theorem k_sorted : CallR X (.builtin "sorted") (rSortedI K) := by subst h; exact cr_sortedI
theorem k_len : CallR X (.builtin "len") (rLenC K) := by subst h; exact call_len_seq
theorem k_list : CallR X (.type "list") (rListC K) := by subst h; exact call_list_of
theorem k_isi : CallR X (.builtin "isinstance") (rIsi K) := by subst h; exact call_isi
theorem k_eqD (hu : X.A.units + 64 < cLine) : OpR X (compareOp .Eq) (rEqD K) := by subst h; exact op_eqD hu
theorem k_neD (hu : X.A.units + 64 < cLine) : OpR X (compareOp .NotEq) (rNeD K) := by subst h; exact op_neD hu
theorem k_in : OpR X (compareOp .In) (rIn K false) := by subst h; exact op_in_seq
theorem k_notIn : OpR X (compareOp .NotIn) (rIn K true) := by subst h; exact op_notIn_seq
theorem k_sl : SlR X (rSlL K) := by subst h; exact sl_list
theorem k_pl {tg l : Expr} {tl : TE} (hl : PE X l tl) : PI X tg l (iList K tl) := by subst h; exact pi_list hl
theorem k_pt {tg l : Expr} {tl : TE} (hl : PE X l tl) : PI X tg l (iTup K tl) := by subst h; exact pi_tup hl
theorem k_pe {e : Expr} {ta : TA} {p pos tpos : Pos} {elts : List Expr} {kk : Nat} (hg : Gl X "enumerate") (hm : X.mg "enumerate" = none) (ha : PA X [e] ta) (hs : starEach [e] X.env = [(false, eval e X.env)] := by rfl) :
    PI X (.Tuple elts kk tpos) (.Call (.Name "enumerate" p) [e] [] pos) (iEnum K ta) := by subst h; exact pi_enum hg hm ha hs
theorem k_pz {e e2 : Expr} {ta : TA} {p pos tpos : Pos} {elts : List Expr} {kk : Nat} (hg : Gl X "zip") (hm : X.mg "zip" = none) (ha : PA X [e, e2] ta)
    (hs : starEach [e, e2] X.env = (false, eval e X.env) :: starEach [e2] X.env := by rfl) (hpl : (backTo pos (starEach [e2] X.env)).any (·.1) = false := by rfl) :
    PI X (.Tuple elts kk tpos) (.Call (.Name "zip" p) [e, e2] [] pos) (iZip K ta) := by subst h; exact pi_zip hg hm ha hs hpl
theorem k_gt (n : Nat) {es : List Expr} {k : Nat} {t : TGs} {pos : Pos} (hc : X.calm = true) (hp : PGs X es t)
    (hn : (assignEach es X.env).length = n := by rfl) (hst : (assignEach es X.env).findIdx? (·.1) = none := by rfl) : PG X (.Tuple es k pos) (gTup K n t) := by subst h; exact pg_tup hc hp hn hst
theorem k_app {o e : Expr} {to te : TE} {apos cpos : Pos} (ho : PE X o to) (he : PE X e te)
    (hbase : attributeBase o "append" X.env (eval o X.env) = eval o X.env := by rfl)
    (hfew : ((backTo cpos (starEach [e] X.env)).all (fun x => !x.1) && (backToKw cpos (keywordEach [] X.env)).all (fun x => x.1.isSome)
      && decide ([e].length + ([] : List Keyword).length + (if ([] : List Keyword).isEmpty then 0 else 1) < 30)) = true := by rfl)
    (hline : (apos.endLine == cpos.line) = true := by rfl) (hs : starEach [e] X.env = (false, eval e X.env) :: starEach [] X.env := by rfl) (hplain : (backTo cpos (starEach [] X.env)).any (·.1) = false := by rfl) :
    PE X (.Call (.Attribute o "append" apos) [e] [] cpos) (tBM K "list" rAppend to (tCons te tNil)) := by
  subst h; exact pe_bm PySem.F.plainAttrs_list PySem.F.slot_list_append PySem.F.type_list_append mt_append ho (pa_cons he pa_nil hs) hbase hfew hline hs hplain
end
/-! ### a def by its name -/
def Ok (P : Program) (w : World) (K : Fg) (mg : Str → Option Value) (base : Heap) (CX : CXT) (k : Nat) (x : Str) (ps : List Str) (sp : Sp) : Prop :=
  ∃ f fd, mg x = some (.ref f) ∧ PySem.W.keepIn K (.ref f) = true ∧ Binds K fd ps [] ∧ FnOk P w K mg base CX k f fd ps sp
section
variable {X : Cx} {CX : CXT} {k : Nat} {x : Str} {ps : List Str} {sp : Sp} {E : XK} {t : TA} {e : Expr} {es : List Expr} {p pos : Pos}
theorem pe_fn (G : Ok X.prog X.w X.K X.mg X.base CX k x ps sp) (hr : Room k X.A) (hx : Passes CX X E) (ha : PA X (e :: es) t) (hg : Gl X x := by rfl) (hdb : (x == ("__debug__" : Str)) = false := by decide)
    (he : starEach (e :: es) X.env = (false, eval e X.env) :: starEach es X.env := by rfl) (hpl : (backTo pos (starEach es X.env)).any (·.1) = false := by rfl) : PE X (.Call (.Name x p) (e :: es) [] pos) (tCall sp [] E t) := by
  obtain ⟨f, fd, h1, h2, h3, h4⟩ := G
  exact pe_call h4 hr hg h1 h2 h3 .nil hx ha hdb he hpl
theorem pe_fn0 (G : Ok X.prog X.w X.K X.mg X.base CX k x ps sp) (hr : Room k X.A) (hx : Passes CX X E) (hg : Gl X x := by rfl) (hdb : (x == ("__debug__" : Str)) = false := by decide) : PE X (.Call (.Name x p) [] [] pos) (tCall sp [] E tNil) := by
  obtain ⟨f, fd, h1, h2, h3, h4⟩ := G
  exact pe_call0 h4 hr hg h1 h2 h3 .nil hx hdb
end
theorem Ok.mono {P : Program} {w : World} {K : Fg} {mg : Str → Option Value} {base : Heap} {CX : CXT} {j k : Nat} {x : Str} {ps : List Str} {sp : Sp} (F : Ok P w K mg base CX j x ps sp) (h : j ≤ k) : Ok P w K mg base CX k x ps sp := by
  obtain ⟨f, fd, h1, h2, h3, h4⟩ := F
  exact ⟨f, fd, h1, h2, h3, h4.mono h⟩
/-- a module's number -/
theorem pe_gint {X : Cx} {x : Str} {i : Int} {pos : Pos} (h : ∃ t, X.mg x = some (.int i t)) (hg : Gl X x := by rfl) (hd : (x == ("__debug__" : Str)) = false := by decide) : PE X (.Name x pos) (tC (.int i)) := by
  obtain ⟨t, h⟩ := h
  exact pe_glob hg h ⟨t, rfl⟩ hd
/-- a def of the text: what the head tells -/
def Fd (K : Fg) (mg : Str → Option Value) (x : Str) (st : Stmt) : Prop := ∃ f fd, FunD K x x (defArgs st) (defBody st) (defScope st) [] [] f fd ∧ mg x = some (.ref f)
section
variable {P : Program} {w : World} {K : Fg} {mg : Str → Option Value} {base : Heap}
theorem fnok_of {x : Str} {st : Stmt} {N ps : List Str} {k : Nat} {sp : Sp} {f : Addr} {fd : FuncData} (F : FunD K x x (defArgs st) (defBody st) (defScope st) [] [] f fd) (S : FnScope N ps (defScope st))
    (len : ∀ vs H Q E, sp vs H Q E → vs.length = ps.length)
    (hbody : ∀ (cdv : Value) (A : Around) (outer : List Env) (s : Shared) (H : Hp) (vs : List V) (Q : VK) (E : XK), Room k (A.deeper (envOfC x (defScope st) s.heap.objs.size f cdv)) → sp vs H Q E →
      ∃ t, PSs (cxOf CX0 P w K mg base N x (defScope st) f cdv A outer s H E).nox (defBody st) t ∧ t { nx := fun _ H' => Q .non H', rt := Q } (start N vs) H) : FnOk P w K mg base CX0 (k + 1) f fd ps sp :=
  F.ok S len fun cdv A outer s H vs Q E hr h => by
    obtain ⟨t, h1, h2⟩ := hbody cdv A outer s H vs Q E hr h
    exact ⟨t, PSs.nox h1, h2⟩
/-- a def keeps its promise: its body as a term of rules, and the reading of that term; nothing it raises leaves it -/
theorem ok_of {x : Str} {st : Stmt} {N ps : List Str} {k : Nat} {sp : Sp} (F : Fd K mg x st) (S : FnScope N ps (defScope st))
    (hb : ∀ (kV doc pm : Value) (an : Option Addr) (cdv ct : Value) (us : List Value), us.length = ps.length → bindArgs (PySem.W.fnOf x x (defArgs st) (defBody st) (defScope st) .none kV doc pm an cdv ct) ⟨us, []⟩ = pure (ps.zip us))
    (len : ∀ vs H Q E, sp vs H Q E → vs.length = ps.length)
    (hbody : ∀ (f : Addr) (cdv : Value) (A : Around) (outer : List Env) (s : Shared) (H : Hp) (vs : List V) (Q : VK) (E : XK), Room k (A.deeper (envOfC x (defScope st) s.heap.objs.size f cdv)) → sp vs H Q E →
      ∃ t, PSs (cxOf CX0 P w K mg base N x (defScope st) f cdv A outer s H E).nox (defBody st) t ∧ t { nx := fun _ H' => Q .non H', rt := Q } (start N vs) H) : Ok P w K mg base CX0 (k + 1) x ps sp := by
  obtain ⟨f, fd, F, g⟩ := F
  refine ⟨f, fd, g, F.kp, ?_, F.ok S len fun cdv A outer s H vs Q E hr h => ?_⟩
  · exact F.bindsN hb
  · obtain ⟨t, h1, h2⟩ := hbody f cdv A outer s H vs Q E hr h
    exact ⟨t, PSs.nox h1, h2⟩
end
section
variable {K : Fg} {α β γ δ : Type} [Rp α] [Rp β] [Rp γ] [Rp δ]
theorem len_sp1 {pre : α → Prop} {f : α → β} : ∀ vs H Q E, sp1 K pre f vs H Q E → vs.length = 1 := fun vs H Q E h => by obtain ⟨_, _, rfl, _⟩ := h; rfl
theorem len_sp2 {pre : α → β → Prop} {f : α → β → γ} : ∀ vs H Q E, sp2 K pre f vs H Q E → vs.length = 2 := fun vs H Q E h => by obtain ⟨_, _, _, _, rfl, _⟩ := h; rfl
theorem len_sp3 {pre : α → β → γ → Prop} {f : α → β → γ → δ} : ∀ vs H Q E, sp3 K pre f vs H Q E → vs.length = 3 := fun vs H Q E h => by obtain ⟨_, _, _, _, _, _, rfl, _⟩ := h; rfl
theorem len_sl1 {pre : α → Prop} {f : α → List β} : ∀ vs H Q E, sl1 K pre f vs H Q E → vs.length = 1 := fun vs H Q E h => by obtain ⟨_, _, rfl, _⟩ := h; rfl
theorem len_sl2 {pre : α → β → Prop} {f : α → β → List γ} : ∀ vs H Q E, sl2 K pre f vs H Q E → vs.length = 2 := fun vs H Q E h => by obtain ⟨_, _, _, _, rfl, _⟩ := h; rfl
theorem len_sl3 {pre : α → β → γ → Prop} {f : α → β → γ → List δ} : ∀ vs H Q E, sl3 K pre f vs H Q E → vs.length = 3 := fun vs H Q E h => by obtain ⟨_, _, _, _, _, _, rfl, _⟩ := h; rfl
end
theorem bi1 {x : Str} {a : Arguments} {b : List Stmt} {sc : Scope} {p : Str} (h : ∀ (kV doc pm : Value) (an : Option Addr) (cdv ct u : Value), bindArgs (PySem.W.fnOf x x a b sc .none kV doc pm an cdv ct) ⟨[u], []⟩ = pure [(p, u)]) :
    ∀ (kV doc pm : Value) (an : Option Addr) (cdv ct : Value) (us : List Value), us.length = [p].length → bindArgs (PySem.W.fnOf x x a b sc .none kV doc pm an cdv ct) ⟨us, []⟩ = pure ([p].zip us)
  | kV, doc, pm, an, cdv, ct, [u], _ => h kV doc pm an cdv ct u
theorem bi2 {x : Str} {a : Arguments} {b : List Stmt} {sc : Scope} {p q : Str} (h : ∀ (kV doc pm : Value) (an : Option Addr) (cdv ct u v : Value), bindArgs (PySem.W.fnOf x x a b sc .none kV doc pm an cdv ct) ⟨[u, v], []⟩ = pure [(p, u), (q, v)]) :
    ∀ (kV doc pm : Value) (an : Option Addr) (cdv ct : Value) (us : List Value), us.length = [p, q].length → bindArgs (PySem.W.fnOf x x a b sc .none kV doc pm an cdv ct) ⟨us, []⟩ = pure ([p, q].zip us)
  | kV, doc, pm, an, cdv, ct, [u, v], _ => h kV doc pm an cdv ct u v
theorem bi3 {x : Str} {a : Arguments} {b : List Stmt} {sc : Scope} {p q r : Str} (h : ∀ (kV doc pm : Value) (an : Option Addr) (cdv ct u v w : Value), bindArgs (PySem.W.fnOf x x a b sc .none kV doc pm an cdv ct) ⟨[u, v, w], []⟩ = pure [(p, u), (q, v), (r, w)]) :
    ∀ (kV doc pm : Value) (an : Option Addr) (cdv ct : Value) (us : List Value), us.length = [p, q, r].length → bindArgs (PySem.W.fnOf x x a b sc .none kV doc pm an cdv ct) ⟨us, []⟩ = pure ([p, q, r].zip us)
  | kV, doc, pm, an, cdv, ct, [u, v, w], _ => h kV doc pm an cdv ct u v w
end BL

set_option Elab.async false
set_option linter.all false
set_option maxRecDepth 100000
set_option maxHeartbeats 2000000
namespace BL
open PySem PySem.Spec PyProof.Rows L2
/-! ### draws: the list of numbers at pn and the count, in the list at pd; nothing else changes -/
def Dr (H : Hp) (pd pn : Addr) : Prop := ∃ (ns : List Int) (k : Int), H pd = some (.lst [.ref pn, .int k]) ∧ H pn = some (.lst (ns.map V.int)) ∧ 0 < ns.length ∧ ns.length ≤ 1000 ∧ 0 ≤ k ∧ pd ≠ pn
structure DM (pd pn : Addr) (H H' : Hp) : Prop where
  sf : SF H H'
  ne : ∀ q o, q ≠ pd → q ≠ pn → H q = some o → H' q = some o
section
variable {K : Fg} {σ : L2.St} {H H' H1 : Hp} {pd pn : Addr} {ta tb tc td te : TE} {tt uu : TT} {α β γ δ : Type} [Rp α] [Rp β] [Rp γ] [Rp δ] {x : α} {y : β} {z : γ} {v u : V} {i j : Int} {b c : Bool}
theorem Dr.mono (e : Same H H') (h : Dr H pd pn) : Dr H' pd pn := by
  obtain ⟨ns, k, h1, h2, h3⟩ := h; exact ⟨ns, k, e _ _ h1, e _ _ h2, h3⟩
theorem DM.of (e : Same H H') : DM pd pn H H' := ⟨SF.of e, fun q o _ _ h => e q o h⟩
theorem DM.refl (H : Hp) : DM pd pn H H := DM.of (Same.refl H)
theorem DM.trans {H2 : Hp} (a : DM pd pn H H1) (b : DM pd pn H1 H2) : DM pd pn H H2 := ⟨a.sf.trans b.sf, fun q o n m h => b.ne q o n m (a.ne q o n m h)⟩
theorem Dr.of_mu {p : Addr} (m : Mu p H H') (h1 : pd ≠ p) (h2 : pn ≠ p) (h : Dr H pd pn) : Dr H' pd pn := by
  obtain ⟨ns, k, g1, g2, g3⟩ := h; exact ⟨ns, k, m.ne _ _ h1 g1, m.ne _ _ h2 g2, g3⟩
theorem Dr.pd_ne {p : Addr} (h : Dr H pd pn) (n : H p = none) : pd ≠ p := by obtain ⟨_, _, g1, _⟩ := h; exact ne_of_none g1 n
theorem Dr.pn_ne {p : Addr} (h : Dr H pd pn) (n : H p = none) : pn ≠ p := by obtain ⟨_, _, _, g1, _⟩ := h; exact ne_of_none g1 n
theorem Un.dm {p : Addr} {l : List α} (m : DM pd pn H H') (h1 : p ≠ pd) (h2 : p ≠ pn) (h : Un K H p l) : Un K H' p l := by
  obtain ⟨vs, g, r⟩ := h; exact ⟨vs, m.ne _ _ h1 h2 g, r.mono m.sf⟩
theorem DM.free (m : DM pd pn H H') (dr : Dr H pd pn) {p : Addr} (h : H' p = none) (dr' : Dr H' pd pn) : H p = none := by
  have h1 : p ≠ pd := (dr'.pd_ne h).symm
  have h2 : p ≠ pn := (dr'.pn_ne h).symm
  cases e : H p with
  | none => rfl
  | some o => rw [m.ne p o h1 h2 e] at h; cases h
/-! an expression that may draw: P tells what it can be -/
def Ep (K : Fg) (pd pn : Addr) (te : TE) (σ : L2.St) (H : Hp) {α : Type} [Rp α] (P : α → Prop) : Prop := ∀ H1, DM pd pn H H1 → Dr H1 pd pn → ∀ Q : VK, (∀ v H2 x, DM pd pn H1 H2 → Dr H2 pd pn → P x → Rp.rep K H2 v x → Q v H2) → te σ H1 Q
def EpL (K : Fg) (pd pn : Addr) (te : TE) (σ : L2.St) (H : Hp) {α : Type} [Rp α] (P : List α → Prop) : Prop := ∀ H1, DM pd pn H H1 → Dr H1 pd pn → ∀ Q : VK, (∀ p vs H2 l, DM pd pn H1 H2 → Dr H2 pd pn → P l → H1 p = none → H2 p = some (.lst vs) → RL K H2 vs l → Q (.ref p) H2) → te σ H1 Q
theorem ep_of (h : ∀ H1, DM pd pn H H1 → Er K te σ H1 x) : Ep K pd pn te σ H (fun y => y = x) := fun H1 m dr Q q => h H1 m H1 (Same.refl _) Q fun v H2 e r => q v H2 x (DM.of e) (dr.mono e) rfl r
theorem epl_of {l : List α} (h : ∀ H1, DM pd pn H H1 → ErL K te σ H1 l) : EpL K pd pn te σ H (fun y => y = l) := fun H1 m dr Q q => h H1 m H1 (Same.refl _) Q fun p vs H2 e hp h2 r => q p vs H2 l (DM.of e) (dr.mono e) rfl hp h2 r
theorem dm_frz {p : Addr} {vs : List V} {od : Obj} (m : DM pd pn H H') (dr : Dr H pd pn) (h : H p = none) : DM pd pn H (upd H' p (.frz od (.lst vs))) := ⟨sf_mut m.sf h, fun q o n1 n2 e => by rw [upd_ne (ne_of_none e h)]; exact m.ne q o n1 n2 e⟩
theorem ep_frz {P : List α → Prop} (h : EpL K pd pn te σ H P) : Ep K pd pn (tFrz te) σ H P := fun H1 m dr Q q => h H1 m dr _ fun p vs H2 l m2 dr2 hP hp h2 r => ⟨p, vs, rfl, h2, fun od => by
  have n1 := dr.pd_ne hp
  have n2 := dr.pn_ne hp
  refine q (.ref p) _ l (dm_frz m2 dr hp) ?_ hP ⟨p, vs, rfl, ⟨od, upd_same⟩, RL.mono (SF.lst h2) r⟩
  obtain ⟨ns, k, g1, g2, g3⟩ := dr2
  exact ⟨ns, k, upd_get g1 n1, upd_get g2 n2, g3⟩⟩
theorem ep_op {r : R2} {P : α → Prop} {P2 : α → β → Prop} {f : α → β → γ} (ha : Ep K pd pn ta σ H P) (hb : ∀ x, P x → Ep K pd pn tb σ H (P2 x)) (hr : ∀ x y, P x → P2 x y → R2r K r x y (f x y)) : Ep K pd pn (tOp r ta tb) σ H (fun z => ∃ x y, P x ∧ P2 x y ∧ z = f x y) := fun H1 m dr Q q =>
  ha H1 m dr _ fun v H2 x m2 dr2 hx r2 => hb x hx H2 (m.trans m2) dr2 _ fun u H3 y m3 dr3 hy r3 => hr x y hx hy H3 v u (Rp.mono m3.sf r2) r3 Q fun w H4 e4 r4 => q w H4 _ ((m2.trans m3).trans (DM.of e4)) (dr3.mono e4) ⟨x, y, hx, hy, rfl⟩ r4
theorem ep_pair {P : α → Prop} {P2 : α → β → Prop} (ha : Ep K pd pn ta σ H P) (hb : ∀ x, P x → Ep K pd pn tb σ H (P2 x)) : Ep K pd pn (tTup (tCons ta (tCons tb tNil))) σ H (fun z : α × β => P z.1 ∧ P2 z.1 z.2) := fun H1 m dr Q q =>
  ha H1 m dr _ fun v H2 x m2 dr2 hx r2 => hb x hx H2 (m.trans m2) dr2 _ fun u H3 y m3 dr3 hy r3 => ⟨by show 2 ≤ sizeLine; decide, fun p hp =>
    q (.ref p) _ (x, y) ((m2.trans m3).trans (DM.of (same_new hp))) (dr3.mono (same_new hp)) ⟨hx, hy⟩ ⟨p, v, u, rfl, sq_tup upd_same, Rp.mono (m3.sf.trans (SF.new hp)) r2, Rp.mono (SF.new hp) r3⟩⟩
theorem Ep.imp {P P' : α → Prop} (h : Ep K pd pn te σ H P) (hi : ∀ x, P x → P' x) : Ep K pd pn te σ H P' := fun H1 m dr Q q => h H1 m dr Q fun v H2 x m2 dr2 hx r => q v H2 x m2 dr2 (hi x hx) r
variable {D : Ends} {tu tw tz : TS} {g : TG}
theorem q_setP {k : Nat} {P : α → Prop} (dr : Dr H pd pn) (h : Ep K pd pn te σ H P) (q : ∀ v H1 x, DM pd pn H H1 → Dr H1 pd pn → P x → Rp.rep K H1 v x → tz D (σ.set k (some v)) H1) : tSeq (tAsg te (gName k)) tz D σ H := h H (DM.refl _) dr _ fun v H1 x m d p r => q v H1 x m d p r
theorem q_parP {k n : Nat} {P : α → Prop} {P2 : α → β → Prop} (dr : Dr H pd pn) (h : Ep K pd pn ta σ H P) (h' : ∀ x, P x → Ep K pd pn tb σ H (P2 x)) (q : ∀ v u H1 x y, DM pd pn H H1 → Dr H1 pd pn → P x → P2 x y → Rp.rep K H1 v x → Rp.rep K H1 u y → tz D ((σ.set k (some v)).set n (some u)) H1) :
    tSeq (tPar k n (tCons ta (tCons tb tNil))) tz D σ H := h H (DM.refl _) dr _ fun v H1 x m d p r => h' x p H1 m d _ fun u H2 y m2 d2 p2 r2 => ⟨v, u, rfl, q v u H2 x y (m.trans m2) d2 p p2 (Rp.mono m2.sf r) r2⟩
theorem s_retP {P : α → Prop} (dr : Dr H pd pn) (h : Ep K pd pn te σ H P) (q : ∀ v H1 x, DM pd pn H H1 → Dr H1 pd pn → P x → Rp.rep K H1 v x → D.rt v H1) : tRet te D σ H := h H (DM.refl _) dr _ fun v H1 x m d p r => q v H1 x m d p r
/-! the promises of the draws' defs -/
def spDraw : Sp := fun vs H Q _ => ∃ (pd pn : Addr) (lim : Int), vs = [.ref pd, .int lim] ∧ Dr H pd pn ∧ 0 < lim ∧ lim < 1000000 ∧ ∀ (d : Int) H', 0 ≤ d → d < lim → DM pd pn H H' → Dr H' pd pn → Q (.int d) H'
def spStart (K : Fg) : Sp := fun vs H Q _ => ∃ (a : Addr) (ns : List Int), vs = [.ref a] ∧ SqL K H a (ns.map V.int) ∧ ns.length ≤ 63 ∧ ∀ (pd pn : Addr) H', Same H H' → H pd = none → H pn = none → Dr H' pd pn → Q (.ref pd) H'
def spPick (K : Fg) {α : Type} [Rp α] : Sp := fun vs H Q _ => ∃ (pd pn : Addr) (v : V) (l : List α), vs = [.ref pd, v] ∧ Dr H pd pn ∧ Rp.rep K H v l ∧ 0 < l.length ∧ l.length < 1000000 ∧ ∀ (x : α) u H', x ∈ l → DM pd pn H H' → Dr H' pd pn → Rp.rep K H' u x → Q u H'
/-- a def that draws a list: P of its number tells what comes -/
def spDraws (K : Fg) {α : Type} [Rp α] (pre : Int → Prop) (P : Int → List α → Prop) : Sp := fun vs H Q _ => ∃ (pd pn : Addr) (n : Int), vs = [.ref pd, .int n] ∧ Dr H pd pn ∧ pre n ∧ ∀ p us l H', P n l → DM pd pn H H' → Dr H' pd pn → H p = none → H' p = some (.lst us) → RL K H' us l → Q (.ref p) H'
theorem ep_draw {E : XK} (h : ∀ H1, DM pd pn H H1 → Er K tb σ H1 i) (hσ : ∃ k : Nat, ta = tVar k ∧ σ[k]? = some (some (.ref pd))) (h0 : 0 < i) (h1 : i < 1000000) : Ep K pd pn (tCall spDraw [] E (tCons ta (tCons tb tNil))) σ H (fun d : Int => 0 ≤ d ∧ d < i) := fun H1 m dr Q q => by
  obtain ⟨k, rfl, hk⟩ := hσ
  refine ⟨.ref pd, hk, h H1 m H1 (Same.refl _) _ fun u H2 e r => ?_⟩
  cases (show u = .int i from r)
  exact ⟨pd, pn, i, rfl, dr.mono e, h0, h1, fun d H3 a b m3 d3 => q (.int d) H3 d ((DM.of e).trans m3) d3 ⟨a, b⟩ rfl⟩
theorem ep_pick {E : XK} {l : List α} (h : ∀ H1, DM pd pn H H1 → Er K tb σ H1 l) (hσ : ∃ k : Nat, ta = tVar k ∧ σ[k]? = some (some (.ref pd))) (h0 : 0 < l.length) (h1 : l.length < 1000000) : Ep K pd pn (tCall (spPick K (α := α)) [] E (tCons ta (tCons tb tNil))) σ H (fun x => x ∈ l) := fun H1 m dr Q q => by
  obtain ⟨k, rfl, hk⟩ := hσ
  refine ⟨.ref pd, hk, h H1 m H1 (Same.refl _) _ fun u H2 e r => ?_⟩
  exact ⟨pd, pn, u, l, rfl, dr.mono e, r, h0, h1, fun x w H3 a m3 d3 r3 => q w H3 x ((DM.of e).trans m3) d3 a r3⟩
/-- .. the list's items drawn too -/
theorem ep_pickP {E : XK} {P : List α → Prop} (h : Ep K pd pn tb σ H P) (hσ : ∃ k : Nat, ta = tVar k ∧ σ[k]? = some (some (.ref pd))) (h0 : ∀ l, P l → 0 < l.length ∧ l.length < 1000000) : Ep K pd pn (tCall (spPick K (α := α)) [] E (tCons ta (tCons tb tNil))) σ H (fun x => ∃ l, P l ∧ x ∈ l) := fun H1 m dr Q q => by
  obtain ⟨k, rfl, hk⟩ := hσ
  refine ⟨.ref pd, hk, h H1 m dr _ fun u H2 l m2 d2 hl r => ?_⟩
  exact ⟨pd, pn, u, l, rfl, d2, r, (h0 l hl).1, (h0 l hl).2, fun x w H3 a m3 d3 r3 => q w H3 x (m2.trans m3) d3 ⟨l, hl, a⟩ r3⟩
theorem epl_draws {E : XK} {pre : Int → Prop} {P : Int → List α → Prop} (h : ∀ H1, DM pd pn H H1 → Er K tb σ H1 i) (hσ : ∃ k : Nat, ta = tVar k ∧ σ[k]? = some (some (.ref pd))) (hp : pre i) : EpL K pd pn (tCall (spDraws K pre P) [] E (tCons ta (tCons tb tNil))) σ H (P i) := fun H1 m dr Q q => by
  obtain ⟨k, rfl, hk⟩ := hσ
  refine ⟨.ref pd, hk, h H1 m H1 (Same.refl _) _ fun u H2 e r => ?_⟩
  cases (show u = .int i from r)
  exact ⟨pd, pn, i, rfl, dr.mono e, hp, fun p us l H3 hl m3 d3 hn h3 r3 => q p us H3 l ((DM.of e).trans m3) d3 hl (e.free hn) h3 r3⟩
theorem s_appP {k : Nat} {p : Addr} {l : List α} {P : α → Prop} (dr : Dr H pd pn) (hσ : σ[k]? = some (some (.ref p))) (hu : Un K H p l) (n1 : p ≠ pd) (n2 : p ≠ pn) (h : Ep K pd pn te σ H P) (hz : l.length < 1000000)
    (q : ∀ H2 x, (∀ H0, DM pd pn H0 H → H0 p = none → DM pd pn H0 H2) → Dr H2 pd pn → P x → Un K H2 p (l ++ [x]) → D.nx σ H2) : tDrop (tBM K "list" rAppend (tVar k) (tCons te tNil)) D σ H := by
  obtain ⟨vs, hp, r⟩ := hu
  refine ⟨.ref p, hσ, Or.inl ⟨rfl, vs, sq_lst hp⟩, ?_⟩
  refine h H (DM.refl _) dr _ fun v H2 x m2 d2 hx r2 => ⟨p, vs, v, rfl, rfl, m2.ne _ _ n1 n2 hp, ?_, q _ x (fun H0 m0 h0 => ?_) ?_ hx ⟨_, upd_same, RL.mono (SF.lst (m2.ne _ _ n1 n2 hp)) (paired_app (r.mono m2.sf) (.cons r2 .nil))⟩⟩
  · rw [paired_len r]; exact Nat.lt_of_lt_of_le hz (by decide)
  · exact ⟨sf_mut (m0.sf.trans m2.sf) h0, fun q o a b e => by rw [upd_ne (ne_of_none e h0)]; exact (m0.trans m2).ne q o a b e⟩
  · obtain ⟨ns, k, g1, g2, g3⟩ := d2
    exact ⟨ns, k, upd_get g1 n1.symm, upd_get g2 n2.symm, g3⟩
theorem q_appP {k : Nat} {p : Addr} {l : List α} {P : α → Prop} (dr : Dr H pd pn) (hσ : σ[k]? = some (some (.ref p))) (hu : Un K H p l) (n1 : p ≠ pd) (n2 : p ≠ pn) (h : Ep K pd pn te σ H P) (hz : l.length < 1000000)
    (q : ∀ H2 x, (∀ H0, DM pd pn H0 H → H0 p = none → DM pd pn H0 H2) → Dr H2 pd pn → P x → Un K H2 p (l ++ [x]) → tz D σ H2) : tSeq (tDrop (tBM K "list" rAppend (tVar k) (tCons te tNil))) tz D σ H := s_appP (D := { D with nx := tz D }) dr hσ hu n1 n2 h hz q
/-- for k in range(e), e drawn -/
theorem s_forR {k : Nat} {P : Int → Prop} (dr : Dr H pd pn) (h : Ep K pd pn te σ H P) (hz : ∀ x, P x → -1000000 ≤ x ∧ x ≤ 1000000) (Pv : Int → Nat → L2.St → Hp → Prop) (h0 : ∀ x H1, DM pd pn H H1 → Dr H1 pd pn → P x → Pv x 0 σ H1)
    (turn : ∀ (x : Int) (i : Nat) σ' H', P x → (i : Int) < x → Pv x i σ' H' → tu { D with nx := Pv x (i + 1), ct := Pv x (i + 1), bk := D.nx } (σ'.set k (some (.int (i : Int)))) H') (hd : ∀ x σ' H', P x → Pv x x.toNat σ' H' → D.nx σ' H') : tFor (iRng1 (tCons te tNil)) (gName k) tu D σ H :=
  h H (DM.refl _) dr _ fun v H1 x m d hx r => by
    cases (show v = .int x from r)
    refine ⟨x, rfl, by have := hz x hx; omega, by have := hz x hx; omega, for_range (lo := 0) (n := x.toNat) (Pv x) (h0 x H1 m d hx) (fun i σ' H' hi p => ?_) fun σ' H' p => hd x σ' H' hx p⟩
    have e : (0 : Int) + (i : Int) = (i : Int) := Int.zero_add _
    show tu { D with nx := Pv x (i + 1), ct := Pv x (i + 1), bk := D.nx } (σ'.set k (some (.int ((0 : Int) + (i : Int))))) H'
    rw [e]
    exact turn x i σ' H' hx (by omega) p
theorem q_forR {k : Nat} {P : Int → Prop} (dr : Dr H pd pn) (h : Ep K pd pn te σ H P) (hz : ∀ x, P x → -1000000 ≤ x ∧ x ≤ 1000000) (Pv : Int → Nat → L2.St → Hp → Prop) (h0 : ∀ x H1, DM pd pn H H1 → Dr H1 pd pn → P x → Pv x 0 σ H1)
    (turn : ∀ (x : Int) (i : Nat) σ' H', P x → (i : Int) < x → Pv x i σ' H' → tu { D with nx := Pv x (i + 1), ct := Pv x (i + 1), bk := tz D } (σ'.set k (some (.int (i : Int)))) H') (hd : ∀ x σ' H', P x → Pv x x.toNat σ' H' → tz D σ' H') : tSeq (tFor (iRng1 (tCons te tNil)) (gName k) tu) tz D σ H :=
  s_forR (D := { D with nx := tz D }) dr h hz Pv h0 turn hd
theorem epl_lst2 {P : α → Prop} {P2 : α → α → Prop} (ha : Ep K pd pn ta σ H P) (hb : ∀ x, P x → Ep K pd pn tb σ H (P2 x)) : EpL K pd pn (tLst (tCons ta (tCons tb tNil))) σ H (fun l => ∃ x y, P x ∧ P2 x y ∧ l = [x, y]) := fun H1 m dr Q q =>
  ha H1 m dr _ fun v H2 x m2 dr2 hx r2 => hb x hx H2 (m.trans m2) dr2 _ fun u H3 y m3 dr3 hy r3 => ⟨by show 2 ≤ sizeLine; decide, fun p hp =>
    q p _ _ [x, y] ((m2.trans m3).trans (DM.of (same_new hp))) (dr3.mono (same_new hp)) ⟨x, y, hx, hy, rfl⟩ ((m2.trans m3).free dr hp dr3) upd_same (.cons (Rp.mono (m3.sf.trans (SF.new hp)) r2) (.cons (Rp.mono (SF.new hp) r3) .nil))⟩
/-- the law's own promise -/
def spLaw (K : Fg) : Sp := fun vs H Q _ => ∃ (a : Addr) (ns : List Int), vs = [.ref a] ∧ SqL K H a (ns.map V.int) ∧ ns.length ≤ 63 ∧ ∀ H', Q (.bl true) H'
theorem len_law : ∀ vs H Q E, spLaw K vs H Q E → vs.length = 1 := fun vs H Q E h => by obtain ⟨_, _, rfl, _⟩ := h; rfl
/-- _law_draws = _law_start(_law_script) -/
theorem q_start {k m : Nat} {E : XK} {a : Addr} {ns : List Int} (hσ : σ[m]? = some (some (.ref a))) (hs : SqL K H a (ns.map V.int)) (hz : ns.length ≤ 63) (q : ∀ pd pn H1, Same H H1 → Dr H1 pd pn → tz D (σ.set k (some (.ref pd))) H1) :
    tSeq (tAsg (tCall (spStart K) [] E (tCons (tVar m) tNil)) (gName k)) tz D σ H := ⟨.ref a, hσ, a, ns, rfl, hs, hz, fun pd pn H1 e _ _ d => q pd pn H1 e d⟩
theorem s_true {D : Ends} (h : Er K te σ H b) (hb : b = true) (hQ : ∀ H', D.rt (.bl true) H') : tRet te D σ H := h H (Same.refl _) _ fun v H1 e r => by
  cases (show v = .bl b from r); rw [hb]; exact hQ H1
theorem sub_dr {k : Nat} (h : σ[k]? = some (some (.ref pd))) : ∃ m : Nat, tVar k = tVar m ∧ σ[m]? = some (some (.ref pd)) := ⟨k, rfl, h⟩
end
end BL

set_option Elab.async false
set_option linter.all false
set_option maxRecDepth 100000
set_option maxHeartbeats 2000000
namespace BL
open PySem PySem.Spec PyProof.Rows L2
/-! ### a <= b <= c <= d -/
def tTest3 (r r' r'' : R2) (ta tb tc td : TE) : TT := fun σ H Q => ta σ H fun x H1 => tb σ H1 fun y H2 => r x y H2 fun z H3 => ∃ k, z = .bl k ∧
  (if k = true then tc σ H3 fun x' H4 => r' y x' H4 fun z' H5 => ∃ k', z' = .bl k' ∧ (if k' = true then td σ H5 fun w' H6 => r'' x' w' H6 fun z2 H7 => ∃ k2, z2 = .bl k2 ∧ Q k2 H7 else Q false H5) else Q false H3)
theorem pt_chain3 {X : Cx} {a b c d : Expr} {ta tb tc td : TE} {pos : Pos} {op op' op'' : CmpOp} {r r' r'' : R2} (ho : OpR X (compareOp op) r) (ho' : OpR X (compareOp op') r') (ho'' : OpR X (compareOp op'') r'') (ha : PE X a ta) (hb : PE X b tb) (hc : PE X c tc) (hd : PE X d td)
    (hm : lastMarks [op, op', op''] [b, c, d] = false := by with_unfolding_all rfl) : PT X (.Compare a [op, op', op''] [b, c, d] pos) (tTest3 r r' r'' ta tb tc td) := by
  refine ⟨fun pins s σ H Q I h => ?_⟩
  refine isTrue_chain (thn (ha.run pins s σ H _ I h) fun v s1 ⟨x, H1, I1, r1, q1⟩ => test_link (thn (hb.run pins s1 σ H1 _ I1 q1) fun u s2 ⟨y, H2, I2, r2, q2⟩ =>
    thn (ho pins s2 σ H2 x y v u _ I2 r1 r2 q2) fun d s3 ⟨z, H3, I3, r3, k, e, q3⟩ => ?_)) hm
  subst e
  cases r3
  refine wpAny_truthy_bool ?_
  cases k with
  | false => exact ite_ff ⟨H3, I3, q3⟩
  | true =>
    refine ite_tt (test_link (thn (hc.run pins s3 σ H3 _ I3 q3) fun w' s4 ⟨z', H4, I4, r4, q4⟩ => thn (ho' pins s4 σ H4 y z' u w' _ I4 r2 r4 q4) fun d' s5 ⟨z2, H5, I5, r5, k2, e2, q5⟩ => ?_))
    subst e2
    cases r5
    refine wpAny_truthy_bool ?_
    cases k2 with
    | false => exact ite_ff ⟨H5, I5, q5⟩
    | true =>
      refine ite_tt (test_last (thn (hd.run pins s5 σ H5 _ I5 q5) fun w2 s6 ⟨z3, H6, I6, r6, q6⟩ => thn (ho'' pins s6 σ H6 z' z3 w' w2 _ I6 r4 r6 q6) fun d2 s7 ⟨z4, H7, I7, r7, k3, e3, q7⟩ => ?_))
      subst e3
      cases r7
      exact wpAny_truthy_bool ⟨H7, I7, q7⟩
section
variable {K : Fg} {σ : L2.St} {H H' H1 : Hp} {ta tb tc td te : TE} {tt uu : TT} {α β γ δ : Type} [Rp α] [Rp β] [Rp γ] [Rp δ] {x : α} {y : β} {z : γ} {z2 : δ} {v u : V} {i j : Int} {b c : Bool} {r r' r'' : R2}
theorem et_chain3 {b b' b'' : Bool} (ha : Er K ta σ H x) (hb : Er K tb σ H y) (hc : Er K tc σ H z) (hd : Er K td σ H z2) (h1 : R2r K r x y b) (h2 : R2r K r' y z b') (h3 : R2r K r'' z z2 b'') : Et K (tTest3 r r' r'' ta tb tc td) σ H (b && (b' && b'')) := fun H1 e Q q =>
  ha H1 e _ fun v H2 e2 r2 => hb H2 (e.trans e2) _ fun u H3 e3 r3 => h1 H3 v u (Rp.mono (SF.of e3) r2) r3 _ fun w H4 e4 r4 => ⟨b, r4, by
    have c4 := ((e.trans e2).trans e3).trans e4
    cases b with
    | false => exact iteF (q H4 ((e2.trans e3).trans e4))
    | true =>
      refine iteT (hc H4 c4 _ fun w' H5 e5 r5 => h2 H5 u w' (Rp.mono (SF.of (e4.trans e5)) r3) r5 _ fun w2 H6 e6 r6 => ⟨b', r6, ?_⟩)
      cases b' with
      | false => exact iteF (q H6 (((e2.trans e3).trans e4).trans (e5.trans e6)))
      | true =>
        refine iteT (hd H6 (c4.trans (e5.trans e6)) _ fun w3 H7 e7 r7 => h3 H7 w' w3 (Rp.mono (SF.of (e6.trans e7)) r5) r7 _ fun w4 H8 e8 r8 => ⟨b'', r8, ?_⟩)
        exact q H8 ((((e2.trans e3).trans e4).trans (e5.trans e6)).trans (e7.trans e8))⟩
/-! ### in -/
theorem flat_bls (l : List Bool) : (l.map V.bl).all flatV = true := by rw [List.all_map, List.all_eq_true]; intro x _; rfl
theorem flat_ints (l : List Int) : (l.map V.int).all flatV = true := by rw [List.all_map, List.all_eq_true]; intro x _; rfl
theorem flat_strs' (l : List Str) : (l.map V.str).all flatV = true := by rw [List.all_map, List.all_eq_true]; intro x _; rfl
theorem inV_bl (b : Bool) (l : List Bool) : inV (.bl b) (l.map V.bl) = decide (b ∈ l) := by
  unfold inV
  rw [List.any_map]
  induction l with
  | nil => rfl
  | cons x r ih =>
    rw [List.any_cons, ih]
    show ((x == b) || _) = _
    by_cases e : b = x
    · subst e; simp
    · simp [e]; intro h; exact absurd h.symm e
theorem inV_int (b : Int) (l : List Int) : inV (.int b) (l.map V.int) = decide (b ∈ l) := by
  unfold inV
  rw [List.any_map]
  induction l with
  | nil => rfl
  | cons x r ih =>
    rw [List.any_cons, ih]
    show ((x == b) || _) = _
    by_cases e : b = x
    · subst e; simp
    · simp [e]; intro h; exact absurd h.symm e
theorem inV_str (b : Str) (l : List Str) : inV (.str b) (l.map V.str) = decide (b ∈ l) := by
  unfold inV
  rw [List.any_map]
  induction l with
  | nil => rfl
  | cons x r ih =>
    rw [List.any_cons, ih]
    show ((x == b) || _) = _
    by_cases e : b = x
    · subst e; simp
    · simp [e]; intro h; exact absurd h.symm e
def neg (n b : Bool) : Bool := if n then !b else b
theorem rr_inB {n : Bool} {l : List Bool} : R2r K (rIn K n) b l (neg n (decide (b ∈ l))) := fun H v u e1 e2 Q q => by
  obtain ⟨a, vs, rfl, h2, h3⟩ := e2
  cases (show v = .bl b from e1)
  rw [rl_bools h3] at h2
  exact ⟨a, _, rfl, .inl h2.seq, rfl, flat_bls l, by rw [inV_bl]; exact q _ H (Same.refl _) (by cases n <;> rfl)⟩
theorem rr_inI {n : Bool} {l : List Int} : R2r K (rIn K n) i l (neg n (decide (i ∈ l))) := fun H v u e1 e2 Q q => by
  obtain ⟨a, vs, rfl, h2, h3⟩ := e2
  cases (show v = .int i from e1)
  rw [rl_ints h3] at h2
  exact ⟨a, _, rfl, .inl h2.seq, rfl, flat_ints l, by rw [inV_int]; exact q _ H (Same.refl _) (by cases n <;> rfl)⟩
theorem rr_inS {n : Bool} {s : Str} {l : List Str} : R2r K (rIn K n) s l (neg n (decide (s ∈ l))) := fun H v u e1 e2 Q q => by
  obtain ⟨a, vs, rfl, h2, h3⟩ := e2
  cases (show v = .str s from e1)
  rw [rl_strs h3] at h2
  exact ⟨a, _, rfl, .inl h2.seq, rfl, flat_strs' l, by rw [inV_str]; exact q _ H (Same.refl _) (by cases n <;> rfl)⟩
theorem rr_inST {n : Bool} {s : Str} {t : Tp Str} : R2r K (rIn K n) s t (neg n (decide (s ∈ t.l))) := fun H v u e1 e2 Q q => by
  obtain ⟨a, vs, rfl, h2, h3⟩ := e2
  cases (show v = .str s from e1)
  rw [rl_strs h3] at h2
  exact ⟨a, _, rfl, .inr h2, rfl, flat_strs' t.l, by rw [inV_str]; exact q _ H (Same.refl _) (by cases n <;> rfl)⟩
theorem any_eqv [Rq α] [DecidableEq α] (x : α) (l : List α) : ((l.map Rq.toD).any fun w => PyData.eqv w (Rq.toD x)) = decide (x ∈ l) := by
  rw [List.any_map]
  induction l with
  | nil => rfl
  | cons y r ih =>
    rw [List.any_cons, ih]
    show (PyData.eqv (Rq.toD y) (Rq.toD x) || _) = _
    rw [eqv_dec]
    by_cases e : x = y
    · subst e; simp
    · simp [e]; intro h; exact absurd h.symm e
theorem rr_inD [Rq α] [Rt α] [DecidableEq α] {l : List α} (hd : Rq.dep α + 1 ≤ 64 := by decide) : R2r K (rInD K) x l (decide (x ∈ l)) := fun H v u e1 e2 Q q => by
  have h2 : Dp K H u (.list (l.map Rq.toD)) := Rq.dp e2
  exact ⟨_, _, Rq.dp e1, h2, shaped_of (Rt.all x) (by omega), shaped_of (α := List α) (Rt.all l) hd, by rw [any_eqv]; exact q _ H (Same.refl _) rfl⟩
theorem rr_ninD [Rq α] [Rt α] [DecidableEq α] {l : List α} (hd : Rq.dep α + 1 ≤ 64 := by decide) : R2r K (rNotInD K) x l (!decide (x ∈ l)) := fun H v u e1 e2 Q q => by
  have h2 : Dp K H u (.list (l.map Rq.toD)) := Rq.dp e2
  exact ⟨_, _, Rq.dp e1, h2, shaped_of (Rt.all x) (by omega), shaped_of (α := List α) (Rt.all l) hd, by rw [any_eqv]; exact q _ H (Same.refl _) rfl⟩
/-- a constant tuple of the module -/
theorem er_kt {t : Tp α} {a : Addr} (h : ∀ H, Rp.rep K H (.ref a) t) : Er K (tC (.ref a)) σ H t := er_c h
/-! ### the if's answer is known -/
theorem er_ifT (h : Et K tt σ H true) (ha : Er K ta σ H x) : Er K (tIf tt ta tb) σ H x := fun H1 e Q q => h H1 e _ fun H2 e2 => iteT (ha H2 (e.trans e2) Q fun v H3 e3 r => q v H3 (e2.trans e3) r)
theorem er_ifF (h : Et K tt σ H false) (hb : Er K tb σ H x) : Er K (tIf tt ta tb) σ H x := fun H1 e Q q => h H1 e _ fun H2 e2 => iteF (hb H2 (e.trans e2) Q fun v H3 e3 r => q v H3 (e2.trans e3) r)
/-! ### a list not locked, handed through a check -/
def spThru (K : Fg) (pre : List α → Prop) : Sp := fun vs H Q _ => ∃ (p : Addr) (us : List V) (l : List α), vs = [.ref p] ∧ H p = some (.lst us) ∧ RL K H us l ∧ pre l ∧ ∀ H', Same H H' → Q (.ref p) H'
theorem erl_thru {E : XK} {pre : List α → Prop} {l : List α} (h : ErL K ta σ H l) (hp : pre l) : ErL K (tCall (spThru K pre) [] E (tCons ta tNil)) σ H l := fun H1 e Q q =>
  h H1 e _ fun p vs H2 e2 hn h2 r2 => ⟨p, vs, l, rfl, h2, r2, hp, fun H3 e3 => q p vs H3 (e2.trans e3) hn (e3 _ _ h2) (r2.mono (SF.of e3))⟩
theorem s_retThru {E : XK} {pre : List α → Prop} {l : List α} {D : Ends} {k : Nat} {p : Addr} (hσ : σ[k]? = some (some (.ref p))) (hu : Un K H p l) (hp : pre l) (q : ∀ H1 us, Same H H1 → H1 p = some (.lst us) → RL K H1 us l → D.rt (.ref p) H1) :
    tRet (tCall (spThru K pre) [] E (tCons (tVar k) tNil)) D σ H := by
  obtain ⟨us, h1, r⟩ := hu
  exact ⟨.ref p, hσ, p, us, l, rfl, h1, r, hp, fun H1 e => q H1 us e (e _ _ h1) (r.mono (SF.of e))⟩
/-- a check that runs while its list is locked -/
theorem q_lockd {p : Addr} {us : List V} {l : List α} {D : Ends} {tu tz : TS} (hp : H p = some (.lst us)) (hr : RL K H us l)
    (q : ∀ (od : Obj), Rp.rep K (upd H p (.frz od (.lst us))) (.ref p) l → tu ⟨fun σ' H' => H' p = some (.frz od (.lst us)) ∧ tz D σ' (upd H' p (.lst us)), fun v H' => H' p = some (.frz od (.lst us)) ∧ D.rt v (upd H' p (.lst us)), fun σ' H' => H' p = some (.frz od (.lst us)) ∧ D.bk σ' (upd H' p (.lst us)), fun σ' H' => H' p = some (.frz od (.lst us)) ∧ D.ct σ' (upd H' p (.lst us))⟩ σ (upd H p (.frz od (.lst us)))) :
    tSeq (tLock tu) tz D σ H := ⟨p, .lst us, hp, trivial, fun od => q od ⟨p, us, rfl, ⟨od, upd_same⟩, hr.mono (SF.lst hp)⟩⟩
theorem same_lock {p : Addr} {us : List V} {od : Obj} (hp : H p = some (.lst us)) (e : Same (upd H p (.frz od (.lst us))) H1) : Same H (upd H1 p (.lst us)) := fun a o h => by
  by_cases n : a = p
  · subst n; rw [upd_same]; rw [hp] at h; exact h
  · rw [upd_ne n]; exact e a o (by rw [upd_ne n]; exact h)
/-- a, b = a list of two -/
theorem tg_unl {l : List α} {k m : Nat} {d : α} (h : Rp.rep K H v l) (hl : l.length = 2) : ∃ v1 v2, Rp.rep K H v1 (l.getD 0 d) ∧ Rp.rep K H v2 (l.getD 1 d) ∧ ∀ Q : L2.St → Hp → Prop, Q ((σ.set k (some v1)).set m (some v2)) H → gUnl K 2 (gCons (gName k) (gCons (gName m) gNil)) v σ H Q := by
  obtain ⟨a, vs, rfl, h2, h3⟩ := h
  match l, hl with
  | [x, y], _ =>
    cases h3 with
    | cons r1 h4 =>
      cases h4 with
      | cons r2 h5 =>
        cases h5
        exact ⟨_, _, r1, r2, fun Q q => ⟨a, _, rfl, h2.seq, rfl, _, _, rfl, _, _, rfl, rfl, q⟩⟩
theorem q_unl {l : List α} {k m : Nat} {d : α} {D : Ends} {tz : TS} (h : Er K te σ H l) (hl : l.length = 2) (q : ∀ v u H1, Same H H1 → Rp.rep K H1 v (l.getD 0 d) → Rp.rep K H1 u (l.getD 1 d) → tz D ((σ.set k (some v)).set m (some u)) H1) : tSeq (tAsg te (gUnl K 2 (gCons (gName k) (gCons (gName m) gNil)))) tz D σ H :=
  h H (Same.refl _) _ fun v H1 e r => by
    obtain ⟨v1, v2, r1, r2, f⟩ := tg_unl (σ := σ) (k := k) (m := m) (d := d) r hl
    exact f _ (q v1 v2 H1 e r1 r2)
end
section
variable {X : Cx} (K : Fg) (h : X.K = K)
include h
theorem k_gl (n : Nat) {es : List Expr} {k : Nat} {t : TGs} {pos : Pos} (hc : X.calm = true) (hp : PGs X es t)
    (hn : (assignEach es X.env).length = n := by rfl) (hst : (assignEach es X.env).findIdx? (·.1) = none := by rfl) : PG X (.Tuple es k pos) (gUnl K n t) := by subst h; exact pg_unl hc hp hn hst
theorem k_inD (hu : X.A.units + 65 < cLine) : OpR X (compareOp .In) (rInD K) := by subst h; exact op_inD hu
theorem k_ninD (hu : X.A.units + 65 < cLine) : OpR X (compareOp .NotIn) (rNotInD K) := by subst h; exact op_notInD hu
end
theorem u65 {k : Nat} {A : Around} (r : Room k A) : A.units + 65 < cLine := by have := r.un; omega
/-! ### the head's facts, with tables -/
def hookB (n : Nat) (fa : List He.Fa) (fn : List He.DefD) (ex : Fg → Bool) : PySem.W.Hook where
  α := He.AlD × Bool
  obs := fun s => (He.obsDG n fa fn s.heap.get?, ex (He.frG s.heap.get? (He.asD s.heap.get? n)))
  val := fun _ => (He.valD fn, true)
  says := fun _ h => ∃ K : Fg, K.In h ∧ He.SaysD fa fn K ∧ ex K = true
  of := fun _ _ e => ⟨_, He.frG_in, congrArg Prod.fst e, congrArg Prod.snd e⟩
  keeps := fun _ _ _ ⟨K, hK, c⟩ k => ⟨K, PySem.W.Frag.In.keeps hK k, c⟩
theorem hookB_eq {n : Nat} {fa : List He.Fa} {fn : List He.DefD} {ex : Fg → Bool} {g : Addr → Option Obj} {s : Shared} (h : ∀ a, g a = s.heap.get? a) : ((He.obsDG n fa fn g, ex (He.frG g (He.asD g n))) : He.AlD × Bool) = (hookB n fa fn ex).obs s := by
  have e : g = s.heap.get? := funext h
  rw [e] <;> rfl
theorem rl_dv (K : Fg) (H : Hp) : ∀ l : List Str, RL K H ((l.map He.Dv.str).map (He.Dv.v K)) l
  | [] => .nil
  | _ :: r => .cons rfl (rl_dv K H r)
theorem tup_of {K : Fg} {x : Str} {l : List Str} (h : He.tupB K x (l.map He.Dv.str) = true) (H : Hp) : Rp.rep K H (.ref (He.ga K x)) (Tp.mk l) := ⟨_, _, rfl, He.tupB_ok h H, rl_dv K H l⟩
end BL

set_option Elab.async false
set_option linter.all false
set_option maxRecDepth 100000
set_option maxHeartbeats 2000000
namespace BL
open PySem PySem.Spec PyProof.Rows L2
/-! ### some lists change, nothing else -/
structure Mus (ps : List Addr) (H H' : Hp) : Prop where
  sf : SF H H'
  ne : ∀ q o, q ∉ ps → H q = some o → H' q = some o
section
variable {K : Fg} {σ : L2.St} {H H' H0 H1 H2 : Hp} {pd pn p q : Addr} {ps qs : List Addr} {ta tb tc td te : TE} {tt uu : TT} {α β γ δ : Type} [Rp α] [Rp β] [Rp γ] [Rp δ] {x : α} {y : β} {z : γ} {v u : V} {i j : Int} {b c : Bool}
theorem Mus.of (e : Same H H') : Mus ps H H' := ⟨SF.of e, fun q o _ h => e q o h⟩
theorem Mus.refl (H : Hp) : Mus ps H H := Mus.of (Same.refl H)
theorem Mus.trans (a : Mus ps H H1) (b : Mus ps H1 H2) : Mus ps H H2 := ⟨a.sf.trans b.sf, fun q o n h => b.ne q o n (a.ne q o n h)⟩
theorem Mus.mu (m : Mu p H H') (h : p ∈ ps) : Mus ps H H' := ⟨m.sf, fun q o n e => m.ne q o (fun c => n (c ▸ h)) e⟩
theorem Mus.dm (m : DM pd pn H H') (h1 : pd ∈ ps) (h2 : pn ∈ ps) : Mus ps H H' := ⟨m.sf, fun q o n e => m.ne q o (fun c => n (c ▸ h1)) (fun c => n (c ▸ h2)) e⟩
theorem Mus.sub (m : Mus ps H H') (h : ∀ x ∈ ps, x ∈ qs) : Mus qs H H' := ⟨m.sf, fun q o n e => m.ne q o (fun c => n (h q c)) e⟩
theorem Mus.same0 (m : Mus [] H H') : Same H H' := fun q o e => m.ne q o (by simp) e
theorem Mus.to_dm (m : Mus [pd, pn] H H') : DM pd pn H H' := ⟨m.sf, fun q o n1 n2 e => m.ne q o (by simp [n1, n2]) e⟩
/-- p is new since H0 -/
theorem Mus.fresh (B : Mus ps H0 H) (n : p ∉ ps) (h : H p = none) : H0 p = none := by
  cases e : H0 p with
  | none => rfl
  | some o => rw [B.ne p o n e] at h; cases h
theorem Mus.mut (B : Mus ps H0 H) (h : H0 p = none) (m : Mu p H H') : Mus ps H0 H' := ⟨B.sf.trans m.sf, fun q o n e => m.ne q o (ne_of_none e h) (B.ne q o n e)⟩
theorem Mus.cut (B : Mus ps H0 H) (h : H0 p = none) (m : Mus (p :: ps) H H') : Mus ps H0 H' := ⟨B.sf.trans m.sf, fun q o n e => m.ne q o (fun c => by
  rcases List.mem_cons.mp c with c | c
  · exact ne_of_none e h c
  · exact n c) (B.ne q o n e)⟩
/-- all that changes is new since H0 -/
theorem Mus.base (B : Mus [] H0 H) (m : Mus ps H H') (h : ∀ p ∈ ps, H0 p = none) : Mus [] H0 H' := ⟨B.sf.trans m.sf, fun q o _ e => m.ne q o (fun c => by rw [h q c] at e; cases e) (B.ne q o (by simp) e)⟩
theorem Mus.baseS (B : Mus qs H0 H) (m : Mus ps H H') (h : ∀ p ∈ ps, H0 p = none ∨ p ∈ qs) : Mus qs H0 H' := ⟨B.sf.trans m.sf, fun q o n e => m.ne q o (fun c => by
  rcases h q c with h | h
  · rw [h] at e; cases e
  · exact n h) (B.ne q o n e)⟩
theorem nin0 : p ∉ ([] : List Addr) := by simp
theorem nin (h : p ≠ q) (n : p ∉ ps) : p ∉ q :: ps := fun c => by
  rcases List.mem_cons.mp c with c | c
  · exact h c
  · exact n c
theorem all0 {F : Addr → Prop} : ∀ p ∈ ([] : List Addr), F p := fun _ h => by cases h
theorem allC {F : Addr → Prop} (h : F q) (n : ∀ p ∈ ps, F p) : ∀ p ∈ q :: ps, F p := fun x c => by
  rcases List.mem_cons.mp c with c | c
  · subst c; exact h
  · exact n x c
theorem Un.mus {l : List α} (m : Mus ps H H') (n : p ∉ ps) (h : Un K H p l) : Un K H' p l := by
  obtain ⟨vs, g, r⟩ := h; exact ⟨vs, m.ne _ _ n g, r.mono m.sf⟩
theorem Dr.mus (m : Mus ps H H') (n1 : pd ∉ ps) (n2 : pn ∉ ps) (h : Dr H pd pn) : Dr H' pd pn := by
  obtain ⟨ns, k, g1, g2, g3⟩ := h; exact ⟨ns, k, m.ne _ _ n1 g1, m.ne _ _ n2 g2, g3⟩
theorem Un.nep {l : List α} (h : Un K H q l) (n : H p = none) : q ≠ p := by obtain ⟨_, g, _⟩ := h; exact ne_of_none g n
/-! ### a loop's fold -/
theorem fold_step {l : List α} {f : β → α → β} {a s : β} {k : Nat} {x : α} (hx : l[k]? = some x) (hs : s = (l.take k).foldl f a) : f s x = (l.take (k + 1)).foldl f a := by
  rw [List.take_add_one, hx, List.foldl_append, hs]; rfl
theorem fold_all {l : List α} {f : β → α → β} {a s : β} (hs : s = (l.take l.length).foldl f a) : s = l.foldl f a := by rw [hs, List.take_length]
theorem fold_app1 {γ : Type} (f : α → γ) : ∀ (l : List α) (a : List γ), l.foldl (fun s x => s ++ [f x]) a = a ++ l.map f
  | [], a => by simp
  | x :: l, a => by rw [List.foldl_cons, fold_app1 f l]; simp
theorem fold_app2 {γ δ : Type} (f : α → γ) (g : α → δ) : ∀ (l : List α) (a : List γ × List δ), l.foldl (fun s x => (s.1 ++ [f x], s.2 ++ [g x])) a = (a.1 ++ l.map f, a.2 ++ l.map g)
  | [], a => by simp
  | x :: l, a => by rw [List.foldl_cons, fold_app2 f g l]; simp
/-! ### if: one name is set -/
variable {D : Ends} {tu tw tz : TS}
theorem set_same' {k : Nat} (h : σ[k]? = some (some v)) : σ.set k (some v) = σ := by
  refine List.ext_getElem? fun i => ?_
  rw [List.getElem?_set]
  split
  · rename_i e; subst e
    rw [h]
    split
    · rfl
    · rename_i hn; rw [List.getElem?_eq_none (by omega)] at h; cases h
  · rfl
theorem q_ifset {k : Nat} {x y : α} (hc : Et K tt σ H c) (h1 : c = true → ∀ H1, Same H H1 → Er K te σ H1 y) (hold : σ[k]? = some (some v)) (r0 : Rp.rep K H v x)
    (q : ∀ w H1, Same H H1 → Rp.rep K H1 w (if c = true then y else x) → tz D (σ.set k (some w)) H1) : tSeq (tIfS tt (tAsg te (gName k)) tNext) tz D σ H :=
  q_when hc (fun e H1 s => h1 e H1 s H1 (Same.refl _) _ fun w H2 e2 r2 => q w H2 (s.trans e2) (by rw [if_pos e]; exact r2)) fun e H1 s => by
    have := q v H1 s (by rw [if_neg (by rw [e]; exact Bool.false_ne_true)]; exact Rp.mono (SF.of s) r0)
    rwa [set_same' hold] at this
theorem q_ifset2 {k : Nat} {x y : α} (hc : Et K tt σ H c) (h1 : c = true → ∀ H1, Same H H1 → Er K ta σ H1 y) (h2 : c = false → ∀ H1, Same H H1 → Er K tb σ H1 x)
    (q : ∀ w H1, Same H H1 → Rp.rep K H1 w (if c = true then y else x) → tz D (σ.set k (some w)) H1) : tSeq (tIfS tt (tAsg ta (gName k)) (tAsg tb (gName k))) tz D σ H :=
  q_if hc (fun e H1 s => h1 e H1 s H1 (Same.refl _) _ fun w H2 e2 r2 => q w H2 (s.trans e2) (by rw [if_pos e]; exact r2))
    fun e H1 s => h2 e H1 s H1 (Same.refl _) _ fun w H2 e2 r2 => q w H2 (s.trans e2) (by rw [if_neg (by rw [e]; exact Bool.false_ne_true)]; exact r2)
/-! ### None or a value -/
theorem er_O0 : Er K (tC .non) σ H (none : Option α) := er_c (x := (none : Option α)) fun _ => rfl
class Nn (α : Type) [Rp α] : Prop where
  n : ∀ {K : Fg} {H : Hp} {v : V} {x : α}, Rp.rep K H v x → v ≠ .non
instance : Nn Int := ⟨fun h => by cases h; exact V.noConfusion⟩
instance : Nn Nat := ⟨fun h => by cases h; exact V.noConfusion⟩
instance : Nn Bool := ⟨fun h => by cases h; exact V.noConfusion⟩
instance : Nn Str := ⟨fun h => by cases h; exact V.noConfusion⟩
instance {α : Type} [Rp α] : Nn (List α) := ⟨fun h => by obtain ⟨_, _, rfl, _⟩ := h; exact V.noConfusion⟩
instance {α β : Type} [Rp α] [Rp β] : Nn (α × β) := ⟨fun h => by obtain ⟨_, _, _, rfl, _⟩ := h; exact V.noConfusion⟩
instance {α β γ : Type} [Rp α] [Rp β] [Rp γ] : Nn (T3 α β γ) := ⟨fun h => by obtain ⟨_, _, _, _, rfl, _⟩ := h; exact V.noConfusion⟩
theorem er_O1 [Nn α] (h : Er K te σ H x) : Er K te σ H (some x) := fun H1 e Q q => h H1 e Q fun v H2 e2 r => q v H2 e2 ⟨Nn.n r, r⟩
theorem er_Oget {o : Option α} (h : Er K te σ H o) (ho : o = some x) : Er K te σ H x := fun H1 e Q q => h H1 e Q fun v H2 e2 r => by
  rw [ho] at r; exact q v H2 e2 r.2
theorem opt_non {o : Option α} (h : Rp.rep K H v o) : decide (v = .non) = o.isNone := by
  cases o with
  | none => cases (show v = .non from h); rfl
  | some x => exact decide_eq_false h.1
theorem er_isN {o : Option α} (h : Er K te σ H o) : Er K (tOp rIsN te (tC .non)) σ H o.isNone := fun H1 e Q q => h H1 e _ fun v H2 e2 r => ⟨rfl, q _ H2 e2 (by show V.bl _ = V.bl _; rw [opt_non r])⟩
theorem er_notN {o : Option α} (h : Er K te σ H o) : Er K (tOp rNotN te (tC .non)) σ H (!o.isNone) := fun H1 e Q q => h H1 e _ fun v H2 e2 r => ⟨rfl, q _ H2 e2 (by show V.bl _ = V.bl _; rw [opt_non r])⟩
/-! ### names that count -/
theorem q_augI {k : Nat} {f : Int → Int → Int} (hσ : σ[k]? = some (some v)) (r : Rp.rep K H v i) (h : Er K te σ H j) (q : ∀ w H1, Same H H1 → Rp.rep K H1 w (f i j) → tz D (σ.set k (some w)) H1) : tSeq (tAug k te (ipI f)) tz D σ H := by
  cases (show v = .int i from r)
  exact q_aug hσ h fun H1 e => q _ H1 e rfl
theorem s_ext {k : Nat} {l m : List α} (hσ : σ[k]? = some (some (.ref p))) (hu : Un K H p l) (h : ErL K te σ H m) (hz : l.length + m.length ≤ 1000000) (q : ∀ H2, Mu p H H2 → Un K H2 p (l ++ m) → D.nx σ H2) :
    tAug k te rExt2 D σ H := by
  obtain ⟨vs, hp, r⟩ := hu
  refine ⟨.ref p, hσ, h H (Same.refl _) _ fun b us H2 e2 hn h2 r2 => ?_⟩
  have hp2 := e2 _ _ hp
  refine ⟨p, b, vs, us, rfl, rfl, hp2, h2, ?_, ?_⟩
  · rw [paired_len r, paired_len r2]; exact Nat.le_trans hz (by decide)
  · have e : σ.set k (some (.ref p)) = σ := set_same' hσ
    show D.nx (σ.set k (some (.ref p))) _
    rw [e]
    exact q _ (mu_upd e2 hp) ⟨_, upd_same, RL.mono (SF.lst hp2) (paired_app (r.mono (SF.of e2)) r2)⟩
theorem q_ext {k : Nat} {l m : List α} (hσ : σ[k]? = some (some (.ref p))) (hu : Un K H p l) (h : ErL K te σ H m) (hz : l.length + m.length ≤ 1000000) (q : ∀ H2, Mu p H H2 → Un K H2 p (l ++ m) → tz D σ H2) :
    tSeq (tAug k te rExt2) tz D σ H := s_ext (D := { D with nx := tz D }) hσ hu h hz q
end
section
variable {K : Fg} {σ : L2.St} {H : Hp} {pd pn : Addr} {ta tb tc : TE} {α β : Type} [Rp α] [Rp β] {D : Ends} {tz : TS}
theorem q_parL {k m : Nat} {l : List α} {l' : List β} (h : ErL K ta σ H l) (h' : ErL K tb σ H l')
    (q : ∀ p p' vs vs' H1 H2, Same H H1 → Same H1 H2 → H p = none → H1 p' = none → H1 p = some (.lst vs) → RL K H1 vs l → H2 p' = some (.lst vs') → RL K H2 vs' l' → tz D ((σ.set k (some (.ref p))).set m (some (.ref p'))) H2) : tSeq (tPar k m (tCons ta (tCons tb tNil))) tz D σ H :=
  h H (Same.refl _) _ fun p vs H1 e hp h1 r => h' H1 e _ fun p' vs' H2 e2 hp' h2 r2 => ⟨.ref p, .ref p', rfl, q p p' vs vs' H1 H2 e e2 hp hp' h1 r h2 r2⟩
theorem q_unpL {k m : Nat} {l : List α} {l' : List β} (h : ErL K ta σ H l) (h' : ErL K tb σ H l')
    (q : ∀ p p' vs vs' H1 H2, Same H H1 → Same H1 H2 → H p = none → H1 p' = none → H1 p = some (.lst vs) → RL K H1 vs l → H2 p' = some (.lst vs') → RL K H2 vs' l' → tz D ((σ.set k (some (.ref p))).set m (some (.ref p'))) H2) : tSeq (tAsg (tTup (tCons ta (tCons tb tNil))) (gTup K 2 (gCons (gName k) (gCons (gName m) gNil)))) tz D σ H :=
  h H (Same.refl _) _ fun p vs H1 e hp h1 r => h' H1 e _ fun p' vs' H2 e2 hp' h2 r2 => ⟨by show 2 ≤ sizeLine; decide, fun t ht => ⟨t, _, rfl, sq_tup upd_same, rfl, .ref p, _, rfl, .ref p', _, rfl, rfl, q p p' vs vs' H1 _ e (e2.trans (same_new ht)) hp hp' h1 r ((same_new ht) _ _ h2) (r2.mono (SF.new ht))⟩⟩
theorem epl_lst3 {P : α → Prop} {P2 : α → α → Prop} {P3 : α → α → α → Prop} (ha : Ep K pd pn ta σ H P) (hb : ∀ x, P x → Ep K pd pn tb σ H (P2 x)) (hc : ∀ x y, P x → P2 x y → Ep K pd pn tc σ H (P3 x y)) : EpL K pd pn (tLst (tCons ta (tCons tb (tCons tc tNil)))) σ H (fun l => ∃ x y z, P x ∧ P2 x y ∧ P3 x y z ∧ l = [x, y, z]) := fun H1 m dr Q q =>
  ha H1 m dr _ fun v H2 x m2 dr2 hx r2 => hb x hx H2 (m.trans m2) dr2 _ fun u H3 y m3 dr3 hy r3 => hc x y hx hy H3 ((m.trans m2).trans m3) dr3 _ fun w H4 z m4 dr4 hz r4 => ⟨by show 3 ≤ sizeLine; decide, fun p hp =>
    q p _ _ [x, y, z] (((m2.trans m3).trans m4).trans (DM.of (same_new hp))) (dr4.mono (same_new hp)) ⟨x, y, z, hx, hy, hz, rfl⟩ (((m2.trans m3).trans m4).free dr hp dr4) upd_same (.cons (Rp.mono ((m3.sf.trans m4.sf).trans (SF.new hp)) r2) (.cons (Rp.mono (m4.sf.trans (SF.new hp)) r3) (.cons (Rp.mono (SF.new hp) r4) .nil)))⟩
end
section
variable {K : Fg} {σ : L2.St} {H : Hp} {ta tb tc td : TE} {α β γ δ ε : Type} [Rp α] [Rp β] [Rp γ] [Rp δ] [Rp ε] {x : α} {y : β} {z : γ} {w : δ}
def sp4 (K : Fg) (pre : α → β → γ → δ → Prop) (f : α → β → γ → δ → ε) : Sp := fun vs H Q _ => ∃ v0 v1 v2 v3 x0 x1 x2 x3, vs = [v0, v1, v2, v3] ∧ Rp.rep K H v0 x0 ∧ Rp.rep K H v1 x1 ∧ Rp.rep K H v2 x2 ∧ Rp.rep K H v3 x3 ∧ pre x0 x1 x2 x3 ∧ ansV K (f x0 x1 x2 x3) H Q
theorem er_call4 {pre : α → β → γ → δ → Prop} {f : α → β → γ → δ → ε} {E : XK} (h0 : Er K ta σ H x) (h1 : Er K tb σ H y) (h2 : Er K tc σ H z) (h3 : Er K td σ H w) (hp : pre x y z w) : Er K (tCall (sp4 K pre f) [] E (tCons ta (tCons tb (tCons tc (tCons td tNil))))) σ H (f x y z w) := fun H1 e Q q =>
  h0 H1 e _ fun v0 H2 e2 r0 => h1 H2 (e.trans e2) _ fun v1 H3 e3 r1 => h2 H3 ((e.trans e2).trans e3) _ fun v2 H4 e4 r2 => h3 H4 (((e.trans e2).trans e3).trans e4) _ fun v3 H5 e5 r3 =>
    ⟨v0, v1, v2, v3, x, y, z, w, rfl, Rp.mono (SF.of ((e3.trans e4).trans e5)) r0, Rp.mono (SF.of (e4.trans e5)) r1, Rp.mono (SF.of e5) r2, r3, hp, fun u H6 e6 r6 => q u H6 ((((e2.trans e3).trans e4).trans e5).trans e6) r6⟩
theorem len_sp4 {pre : α → β → γ → δ → Prop} {f : α → β → γ → δ → ε} : ∀ vs H Q E, sp4 K pre f vs H Q E → vs.length = 4 := fun vs H Q E h => by obtain ⟨_, _, _, _, _, _, _, _, rfl, _⟩ := h; rfl
end
theorem bi4 {x : Str} {a : Arguments} {b : List Stmt} {sc : Scope} {p q r t : Str} (h : ∀ (kV doc pm : Value) (an : Option Addr) (cdv ct u v w z : Value), bindArgs (PySem.W.fnOf x x a b sc .none kV doc pm an cdv ct) ⟨[u, v, w, z], []⟩ = pure [(p, u), (q, v), (r, w), (t, z)]) :
    ∀ (kV doc pm : Value) (an : Option Addr) (cdv ct : Value) (us : List Value), us.length = [p, q, r, t].length → bindArgs (PySem.W.fnOf x x a b sc .none kV doc pm an cdv ct) ⟨us, []⟩ = pure ([p, q, r, t].zip us)
  | kV, doc, pm, an, cdv, ct, [u, v, w, z], _ => h kV doc pm an cdv ct u v w z
theorem dead_eq {α : Type} [DecidableEq α] {a b : α} (h : a = b) : (!decide (a = b)) = false := by rw [decide_eq_true h]; rfl
theorem q_last {t : TS} {D : Ends} {σ : L2.St} {H : Hp} (h : tSeq t tNext D σ H) : t D σ H := h
theorem s_gn {k : Nat} {v : V} {σ : L2.St} {H : Hp} {Q : L2.St → Hp → Prop} (h : Q (σ.set k (some v)) H) : gName k v σ H Q := h
theorem s_nx {D : Ends} {σ : L2.St} {H : Hp} (h : D.nx σ H) : tNext D σ H := h
theorem s_nxz {tz : TS} {D : Ends} {σ : L2.St} {H : Hp} (h : tz D σ H) : tNext { D with nx := tz D } σ H := h
theorem Rp.cong {α : Type} [Rp α] {K : Fg} {H : Hp} {v : V} {x y : α} (h : Rp.rep K H v y) (e : x = y) : Rp.rep K H v x := by rw [e]; exact h
theorem find_none {α β : Type} {l : List α} {f : α → Option β} {k : Nat} {x : α} (hx : l[k]? = some x) (hs : (l.take k).findSome? f = none) (hn : f x = none) : (l.take (k + 1)).findSome? f = none := by
  rw [List.take_add_one, hx, List.findSome?_append, hs]; simp [hn]
theorem find_at {α β : Type} {l : List α} {f : α → Option β} {k : Nat} {x : α} {y : β} (hx : l[k]? = some x) (hs : (l.take k).findSome? f = none) (hn : f x = some y) : l.findSome? f = some y := by
  conv => lhs; rw [← List.take_append_drop (k + 1) l, List.take_add_one, hx]
  rw [List.findSome?_append, List.findSome?_append, hs]; simp [hn]
theorem find_all {α β : Type} {l : List α} {f : α → Option β} (hs : (l.take l.length).findSome? f = none) : l.findSome? f = none := by rw [List.take_length] at hs; exact hs
theorem ip_ext {X : Cx} : PIp X .Add rExt2 := fun pins s σ H x y v u Q I r1 r2 h => iop_ext pins s σ H x y v u Q I r1 r2 h
end BL

set_option Elab.async false
set_option linter.all false
set_option maxRecDepth 100000
set_option maxHeartbeats 2000000
namespace BL
open PySem PySem.Spec PyProof.Rows L2
/-! ### the mathematics that all laws share -/
/-- bounds as they are asked -/
def BOk (b : List (Int × Int)) : Prop := 1 ≤ b.length ∧ b.length ≤ 7 ∧ ∀ p ∈ b, -50 ≤ p.1 ∧ p.1 ≤ p.2 ∧ p.2 ≤ 50
theorem getD_at {α : Type} {l : List α} {n : Nat} {d : α} (h : n < l.length) : l[n]? = some (l.getD n d) := by
  rw [List.getElem?_eq_getElem h, List.getD_eq_getElem?_getD, List.getElem?_eq_getElem h]; rfl
/-- what the laws draw: few values with few choices -/
def SmallP (n : Int) (b : List (Int × Int)) : Prop := 1 ≤ b.length ∧ (b.length : Int) ≤ n ∧ ∀ t ∈ b, -4 ≤ t.1 ∧ t.1 < 4 ∧ t.1 ≤ t.2 ∧ t.2 < t.1 + 4
theorem iabs_nat (i : Int) : iabs i = (i.natAbs : Int) := by unfold iabs; split <;> omega
def gcdI (a b : Int) : Int := (Int.gcd a b : Int)
/-- a fraction in lowest terms -/
def frI (a b : Int) : Int × Int := (a / gcdI a b, b / gcdI a b)
theorem gcdI_pos {a b : Int} (h : 0 < b) : 0 < gcdI a b := by
  unfold gcdI
  have := Int.gcd_pos_of_ne_zero_right a (show b ≠ 0 by omega)
  omega
theorem gcdI_le {a b : Int} (h : 0 < b) : gcdI a b ≤ b := by
  unfold gcdI
  have h1 : Int.gcd a b ∣ b.natAbs := Nat.gcd_dvd_right _ _
  have := Nat.le_of_dvd (by omega) h1
  omega
theorem gcd_turn {a b : Nat} (h : b ≠ 0) : Nat.gcd b (a % b) = Nat.gcd a b := by
  rw [Nat.gcd_comm a b, Nat.gcd_rec b a, Nat.gcd_comm (a % b) b]
theorem nat_mod_int (a b : Nat) : ((a : Int) % (b : Int)) = ((a % b : Nat) : Int) := by omega
def BndP (n : Int) (b : List (Int × Int)) : Prop := 1 ≤ b.length ∧ (b.length : Int) ≤ n ∧ ∀ t ∈ b, -30 ≤ t.1 ∧ t.1 < 30 ∧ t.1 ≤ t.2 ∧ t.2 < t.1 + 20
theorem bnd_bok {n : Int} {b : List (Int × Int)} (h : BndP n b) (hn : n ≤ 7) : BOk b := ⟨h.1, by have := h.2.1; omega, fun p hp => by have := h.2.2 p hp; omega⟩
theorem ord_of {b : List (Int × Int)} (h : BOk b) : ∀ p ∈ b, p.1 ≤ p.2 := fun p hp => (h.2.2 p hp).2.1
/-! ### lists below one another, place by place -/
def leL : List Int → List Int → Prop
  | [], [] => True
  | x :: l, y :: r => x ≤ y ∧ leL l r
  | _, _ => False
theorem leL_refl : ∀ l : List Int, leL l l
  | [] => trivial
  | _ :: l => ⟨Int.le_refl _, leL_refl l⟩
theorem leL_len : ∀ {l r : List Int}, leL l r → l.length = r.length
  | [], [], _ => rfl
  | _ :: l, _ :: r, h => by rw [List.length_cons, List.length_cons, leL_len h.2]
  | [], _ :: _, h => h.elim
  | _ :: _, [], h => h.elim
theorem leL_trans : ∀ {l r s : List Int}, leL l r → leL r s → leL l s
  | [], [], [], _, _ => trivial
  | _ :: _, _ :: _, _ :: _, h, k => ⟨Int.le_trans h.1 k.1, leL_trans h.2 k.2⟩
  | [], _ :: _, _, h, _ => h.elim
  | _ :: _, [], _, h, _ => h.elim
  | [], [], _ :: _, _, h => h.elim
  | _ :: _, _ :: _, [], _, h => h.elim
theorem leL_sum : ∀ {l r : List Int}, leL l r → l.sum ≤ r.sum
  | [], [], _ => Int.le_refl _
  | _ :: l, _ :: r, h => by rw [List.sum_cons, List.sum_cons]; have := leL_sum h.2; have := h.1; omega
  | [], _ :: _, h => h.elim
  | _ :: _, [], h => h.elim
theorem leL_getD : ∀ {l r : List Int} (n : Nat), leL l r → l.getD n 0 ≤ r.getD n 0
  | [], [], _, _ => Int.le_refl _
  | _ :: _, _ :: _, 0, h => h.1
  | _ :: l, _ :: r, n + 1, h => by
    rw [List.getD_cons_succ, List.getD_cons_succ]; exact leL_getD n h.2
  | [], _ :: _, _, h => h.elim
  | _ :: _, [], _, h => h.elim
theorem ins_head {x : Int} {l : List Int} (h : (x :: l).Pairwise (· ≤ ·)) : ins x l = x :: l := by
  cases l with
  | nil => rfl
  | cons y r =>
    unfold ins
    rw [if_pos ((List.pairwise_cons.mp h).1 y (List.mem_cons_self ..))]
theorem leL_ins : ∀ {l r : List Int} {x y : Int}, l.Pairwise (· ≤ ·) → r.Pairwise (· ≤ ·) → leL l r → x ≤ y → leL (ins x l) (ins y r)
  | [], [], x, y, _, _, _, h => ⟨h, trivial⟩
  | a :: l, b :: r, x, y, hl, hr, hlr, h => by
    obtain ⟨h1, h2⟩ := hlr
    have hl2 := (List.pairwise_cons.mp hl).2
    have hr2 := (List.pairwise_cons.mp hr).2
    unfold ins
    by_cases c1 : x ≤ a
    · rw [if_pos c1]
      by_cases c2 : y ≤ b
      · rw [if_pos c2]; exact ⟨h, h1, h2⟩
      · rw [if_neg c2]
        refine ⟨by omega, ?_⟩
        rw [← ins_head hl]
        exact leL_ins hl2 hr2 h2 (by omega)
    · rw [if_neg c1]
      by_cases c2 : y ≤ b
      · rw [if_pos c2]
        refine ⟨by omega, ?_⟩
        rw [← ins_head hr]
        exact leL_ins hl2 hr2 h2 (by omega)
      · rw [if_neg c2]
        exact ⟨h1, leL_ins hl2 hr2 h2 h⟩
  | [], _ :: _, _, _, _, _, h, _ => h.elim
  | _ :: _, [], _, _, _, _, h, _ => h.elim
theorem leL_srt : ∀ {l r : List Int}, leL l r → leL (srt l) (srt r)
  | [], [], _ => trivial
  | _ :: l, _ :: r, h => leL_ins (srt_sorted l) (srt_sorted r) (leL_srt h.2) h.1
  | [], _ :: _, h => h.elim
  | _ :: _, [], h => h.elim
theorem leL_above (c : Int) : ∀ {l r : List Int}, leL l r → (l.filter fun v => decide (v > c)).length ≤ (r.filter fun v => decide (v > c)).length
  | [], [], _ => Nat.le_refl _
  | x :: l, y :: r, h => by
    have ih := leL_above c h.2
    have h1 := h.1
    rw [List.filter_cons, List.filter_cons]
    by_cases c1 : x > c
    · rw [if_pos (decide_eq_true c1), if_pos (decide_eq_true (show y > c by omega)), List.length_cons, List.length_cons]; omega
    · rw [if_neg (by simp; omega)]
      split
      · rw [List.length_cons]; omega
      · exact ih
  | [], _ :: _, h => h.elim
  | _ :: _, [], h => h.elim
theorem srt_zero {l : List Int} (h : l ≠ []) : (srt l).getD 0 0 = mnl l := by
  have hl : 0 < (srt l).length := by rw [srt_len]; exact List.length_pos_iff.mpr h
  refine mnl_eq ?_ fun y hy => ?_
  · refine (srt_perm l).mem_iff.mp ?_
    cases e : srt l with
    | nil => rw [e] at hl; cases hl
    | cons x r => exact List.mem_cons_self ..
  · have hs := srt_sorted l
    have hy := (srt_perm l).mem_iff.mpr hy
    cases e : srt l with
    | nil => rw [e] at hl; cases hl
    | cons x r =>
      rw [e] at hs hy
      rcases List.mem_cons.mp hy with q | q
      · subst q; exact Int.le_refl _
      · exact (List.pairwise_cons.mp hs).1 y q
theorem sorted_last : ∀ {l : List Int}, l.Pairwise (· ≤ ·) → ∀ y ∈ l, y ≤ l.getD (l.length - 1) 0
  | [x], _, y, h => by rw [List.mem_singleton.mp h]; exact Int.le_refl _
  | x :: z :: r, hs, y, h => by
    have h2 := (List.pairwise_cons.mp hs).2
    have e : (x :: z :: r).getD ((x :: z :: r).length - 1) 0 = (z :: r).getD ((z :: r).length - 1) 0 := by simp [List.getD_cons_succ]
    rw [e]
    rcases List.mem_cons.mp h with q | q
    · subst q
      exact Int.le_trans ((List.pairwise_cons.mp hs).1 z (List.mem_cons_self ..)) (sorted_last h2 z (List.mem_cons_self ..))
    · exact sorted_last h2 y q
theorem getD_mem {l : List Int} {n : Nat} (h : n < l.length) : l.getD n 0 ∈ l := List.mem_of_getElem? (getD_at h)
theorem srt_last {l : List Int} (h : l ≠ []) : (srt l).getD (l.length - 1) 0 = mxl l := by
  have hl : 0 < (srt l).length := by rw [srt_len]; exact List.length_pos_iff.mpr h
  refine mxl_eq ?_ fun y hy => ?_
  · exact (srt_perm l).mem_iff.mp (getD_mem (by rw [srt_len] at hl ⊢; omega))
  · have := sorted_last (srt_sorted l) y ((srt_perm l).mem_iff.mpr hy)
    rw [srt_len] at this
    exact this
/-! ### fractions in lowest terms, compared -/
theorem frI_spec {x n : Int} (h : 0 < n) : ∃ g, 0 < g ∧ x = (frI x n).1 * g ∧ n = (frI x n).2 * g ∧ 0 < (frI x n).2 := by
  have hg := gcdI_pos (a := x) h
  have d1 : gcdI x n ∣ x := Int.gcd_dvd_left ..
  have d2 : gcdI x n ∣ n := Int.gcd_dvd_right ..
  refine ⟨gcdI x n, hg, (Int.ediv_mul_cancel d1).symm, (Int.ediv_mul_cancel d2).symm, ?_⟩
  exact Int.ediv_pos_of_pos_of_dvd h (Int.le_of_lt hg) d2
theorem frI_le {x n : Int} (h : 0 < n) : 0 < (frI x n).2 ∧ (frI x n).2 ≤ n := by
  obtain ⟨g, h1, h2, h3, h4⟩ := frI_spec (x := x) h
  refine ⟨h4, ?_⟩
  have : (frI x n).2 * 1 ≤ (frI x n).2 * g := Int.mul_le_mul_of_nonneg_left (by omega) (by omega)
  omega
/-- a fraction a / b below another, as their whole numbers tell -/
theorem frI_lt {x y n m : Int} (hn : 0 < n) (hm : 0 < m) : (frI x n).1 * (frI y m).2 < (frI y m).1 * (frI x n).2 ↔ x * m < y * n := by
  obtain ⟨g, g1, g2, g3, g4⟩ := frI_spec (x := x) hn
  obtain ⟨k, k1, k2, k3, k4⟩ := frI_spec (x := y) hm
  have e1 : x * m = (frI x n).1 * (frI y m).2 * (g * k) := by
    calc x * m = ((frI x n).1 * g) * ((frI y m).2 * k) := by rw [← g2, ← k3]
      _ = _ := by simp only [Int.mul_assoc, Int.mul_left_comm, Int.mul_comm]
  have e2 : y * n = (frI y m).1 * (frI x n).2 * (g * k) := by
    calc y * n = ((frI y m).1 * k) * ((frI x n).2 * g) := by rw [← k2, ← g3]
      _ = _ := by simp only [Int.mul_assoc, Int.mul_left_comm, Int.mul_comm]
  rw [e1, e2]
  have hp : 0 < g * k := Int.mul_pos g1 k1
  exact ⟨fun h => Int.mul_lt_mul_of_pos_right h hp, fun h => Int.lt_of_mul_lt_mul_right h (Int.le_of_lt hp)⟩
/-! ### all choices of integers, one after another -/
def rowExt (p : Int × Int) (r : List Int) : List (List Int) := (rgI p.1 (p.2 + 1 - p.1).toNat).map fun v => r ++ [v]
def rowsFrom (acc : List (List Int)) (b : List (Int × Int)) : List (List Int) := b.foldl (fun a p => a.flatMap (rowExt p)) acc
def rowsOf (b : List (Int × Int)) : List (List Int) := rowsFrom [[]] b
def inB : List (Int × Int) → List Int → Prop
  | [], [] => True
  | p :: b, x :: r => (p.1 ≤ x ∧ x ≤ p.2) ∧ inB b r
  | _, _ => False
theorem mem_rgI {lo : Int} {n : Nat} {x : Int} : x ∈ rgI lo n ↔ lo ≤ x ∧ x < lo + n := by
  unfold rgI
  rw [List.mem_map]
  constructor
  · rintro ⟨k, hk, rfl⟩
    have := List.mem_range.mp hk
    omega
  · rintro ⟨h1, h2⟩
    exact ⟨(x - lo).toNat, List.mem_range.mpr (by omega), by omega⟩
theorem len_rgI (lo : Int) (n : Nat) : (rgI lo n).length = n := by unfold rgI; rw [List.length_map, List.length_range]
theorem mem_rowsFrom : ∀ {b : List (Int × Int)} {acc : List (List Int)} {r : List Int}, r ∈ rowsFrom acc b ↔ ∃ r0 ∈ acc, ∃ r1, r = r0 ++ r1 ∧ inB b r1
  | [], acc, r => by
    constructor
    · intro h; exact ⟨r, h, [], (List.append_nil r).symm, trivial⟩
    · rintro ⟨r0, h0, r1, rfl, h1⟩
      cases r1 with
      | nil => rw [List.append_nil]; exact h0
      | cons _ _ => exact h1.elim
  | p :: b, acc, r => by
    show r ∈ rowsFrom (acc.flatMap (rowExt p)) b ↔ _
    rw [mem_rowsFrom]
    constructor
    · rintro ⟨r0, h0, r1, rfl, h1⟩
      obtain ⟨a, ha, h2⟩ := List.mem_flatMap.mp h0
      obtain ⟨v, hv, rfl⟩ := List.mem_map.mp h2
      have hv := mem_rgI.mp hv
      exact ⟨a, ha, v :: r1, by simp, by omega, h1⟩
    · rintro ⟨r0, h0, r1, rfl, h1⟩
      cases r1 with
      | nil => exact h1.elim
      | cons v r1 =>
        refine ⟨r0 ++ [v], List.mem_flatMap.mpr ⟨r0, h0, List.mem_map.mpr ⟨v, mem_rgI.mpr ?_, rfl⟩⟩, r1, by simp, h1.2⟩
        have := h1.1
        omega
theorem mem_rows {b : List (Int × Int)} {r : List Int} : r ∈ rowsOf b ↔ inB b r := by
  unfold rowsOf
  rw [mem_rowsFrom]
  constructor
  · rintro ⟨r0, h0, r1, rfl, h1⟩
    rw [List.mem_singleton.mp h0]; exact h1
  · intro h; exact ⟨[], List.mem_singleton.mpr rfl, r, rfl, h⟩
theorem inB_len : ∀ {b : List (Int × Int)} {r : List Int}, inB b r → r.length = b.length
  | [], [], _ => rfl
  | _ :: b, _ :: r, h => by rw [List.length_cons, List.length_cons, inB_len h.2]
  | [], _ :: _, h => h.elim
  | _ :: _, [], h => h.elim
theorem rows_take {b : List (Int × Int)} {k : Nat} {p : Int × Int} (h : b[k]? = some p) : rowsOf (b.take (k + 1)) = (rowsOf (b.take k)).flatMap (rowExt p) := by
  unfold rowsOf rowsFrom
  rw [List.take_add_one, h, List.foldl_append]; rfl
theorem flat_len {α β : Type} {f : α → List β} {n : Nat} : ∀ {l : List α}, (∀ x ∈ l, (f x).length ≤ n) → (l.flatMap f).length ≤ l.length * n
  | [], _ => by simp
  | x :: l, h => by
    rw [List.flatMap_cons, List.length_append, List.length_cons, Nat.add_mul, Nat.one_mul, Nat.add_comm]
    exact Nat.add_le_add (flat_len fun y hy => h y (List.mem_cons_of_mem _ hy)) (h x (List.mem_cons_self ..))
theorem rows_card : ∀ {b : List (Int × Int)} {acc : List (List Int)} {m : Nat}, (∀ p ∈ b, p.2 + 1 - p.1 ≤ (m : Int)) → (rowsFrom acc b).length ≤ acc.length * m ^ b.length
  | [], acc, m, _ => by show acc.length ≤ acc.length * m ^ 0; rw [Nat.pow_zero, Nat.mul_one]; exact Nat.le_refl _
  | p :: b, acc, m, h => by
    have ih := rows_card (b := b) (acc := acc.flatMap (rowExt p)) (m := m) fun q hq => h q (List.mem_cons_of_mem _ hq)
    have h1 : (acc.flatMap (rowExt p)).length ≤ acc.length * m := flat_len fun r _ => by
      unfold rowExt
      rw [List.length_map, len_rgI]
      have := h p (List.mem_cons_self ..)
      omega
    show (rowsFrom (acc.flatMap (rowExt p)) b).length ≤ acc.length * m ^ (b.length + 1)
    refine Nat.le_trans ih ?_
    rw [Nat.pow_succ, Nat.mul_comm (m ^ b.length) m, ← Nat.mul_assoc]
    exact Nat.mul_le_mul_right _ h1
/-- few bounds of few choices -/
def Few (b : List (Int × Int)) : Prop := b.length ≤ 7 ∧ ∀ p ∈ b, -1000 ≤ p.1 ∧ p.1 ≤ p.2 ∧ p.2 < p.1 + 4 ∧ p.2 ≤ 1000
theorem few_card {b : List (Int × Int)} (h : Few b) (k : Nat) : (rowsOf (b.take k)).length ≤ 16384 := by
  have h1 := rows_card (b := b.take k) (acc := [[]]) (m := 4) fun p hp => by have := h.2 p (List.mem_of_mem_take hp); omega
  have h2 : (b.take k).length ≤ 7 := Nat.le_trans (by rw [List.length_take]; exact Nat.min_le_right _ _) h.1
  have h3 : 4 ^ (b.take k).length ≤ 4 ^ 7 := Nat.pow_le_pow_right (by decide) h2
  have h4 : (4 : Nat) ^ 7 = 16384 := by decide
  have h5 : ([[]] : List (List Int)).length = 1 := rfl
  unfold rowsOf
  exact Nat.le_trans h1 (by rw [h5, Nat.one_mul]; exact Nat.le_trans h3 (by decide))
theorem ext_card {p : Int × Int} (h : p.2 < p.1 + 4) {l : List (List Int)} : (l.flatMap (rowExt p)).length ≤ l.length * 4 := flat_len fun r _ => by
  unfold rowExt
  rw [List.length_map, len_rgI]; omega
def topS (i : Nat) : Stmt := PySem.Challenge.pw_boundstats_k09_whole_compared.main.body.getD i (.Pass ⟨0, 0, 0, 0⟩)
abbrev s_is_int : Stmt := topS 6
abbrev N_is_int : List Str := ["value", "low", "high"]
theorem sc_is_int : FnScope N_is_int ["value", "low", "high"] (defScope s_is_int) := ⟨rfl, rfl, rfl, by decide +kernel, rfl, by decide +kernel, by decide +kernel⟩
abbrev s_is_bound : Stmt := topS 7
abbrev N_is_bound : List Str := ["value"]
theorem sc_is_bound : FnScope N_is_bound ["value"] (defScope s_is_bound) := ⟨rfl, rfl, rfl, by decide +kernel, rfl, by decide +kernel, by decide +kernel⟩
abbrev s_is_bounds : Stmt := topS 8
abbrev N_is_bounds : List Str := ["value", "one"]
theorem sc_is_bounds : FnScope N_is_bounds ["value"] (defScope s_is_bounds) := ⟨rfl, rfl, rfl, by decide +kernel, rfl, by decide +kernel, by decide +kernel⟩
abbrev s_check_bounds : Stmt := topS 9
abbrev N_check_bounds : List Str := ["value"]
theorem sc_check_bounds : FnScope N_check_bounds ["value"] (defScope s_check_bounds) := ⟨rfl, rfl, rfl, by decide +kernel, rfl, by decide +kernel, by decide +kernel⟩
abbrev s_common_divisor : Stmt := topS 11
abbrev N_common_divisor : List Str := ["one", "other"]
theorem sc_common_divisor : FnScope N_common_divisor ["one", "other"] (defScope s_common_divisor) := ⟨rfl, rfl, rfl, by decide +kernel, rfl, by decide +kernel, by decide +kernel⟩
abbrev s_lowest : Stmt := topS 12
abbrev N_lowest : List Str := ["top", "below", "divisor"]
theorem sc_lowest : FnScope N_lowest ["top", "below"] (defScope s_lowest) := ⟨rfl, rfl, rfl, by decide +kernel, rfl, by decide +kernel, by decide +kernel⟩
abbrev s_less : Stmt := topS 13
abbrev N_less : List Str := ["one", "other"]
theorem sc_less : FnScope N_less ["one", "other"] (defScope s_less) := ⟨rfl, rfl, rfl, by decide +kernel, rfl, by decide +kernel, by decide +kernel⟩
abbrev s_lows : Stmt := topS 15
abbrev N_lows : List Str := ["bounds", "low", "high"]
theorem sc_lows : FnScope N_lows ["bounds"] (defScope s_lows) := ⟨rfl, rfl, rfl, by decide +kernel, rfl, by decide +kernel, by decide +kernel⟩
abbrev s_highs : Stmt := topS 16
abbrev N_highs : List Str := ["bounds", "low", "high"]
theorem sc_highs : FnScope N_highs ["bounds"] (defScope s_highs) := ⟨rfl, rfl, rfl, by decide +kernel, rfl, by decide +kernel, by decide +kernel⟩
abbrev s_sum_range : Stmt := topS 17
abbrev N_sum_range : List Str := ["bounds"]
theorem sc_sum_range : FnScope N_sum_range ["bounds"] (defScope s_sum_range) := ⟨rfl, rfl, rfl, by decide +kernel, rfl, by decide +kernel, by decide +kernel⟩
abbrev s_mean_range : Stmt := topS 18
abbrev N_mean_range : List Str := ["bounds"]
theorem sc_mean_range : FnScope N_mean_range ["bounds"] (defScope s_mean_range) := ⟨rfl, rfl, rfl, by decide +kernel, rfl, by decide +kernel, by decide +kernel⟩
abbrev s_middle : Stmt := topS 19
abbrev N_middle : List Str := ["values", "ordered", "size"]
theorem sc_middle : FnScope N_middle ["values"] (defScope s_middle) := ⟨rfl, rfl, rfl, by decide +kernel, rfl, by decide +kernel, by decide +kernel⟩
abbrev s_median_range : Stmt := topS 20
abbrev N_median_range : List Str := ["bounds"]
theorem sc_median_range : FnScope N_median_range ["bounds"] (defScope s_median_range) := ⟨rfl, rfl, rfl, by decide +kernel, rfl, by decide +kernel, by decide +kernel⟩
abbrev s_least_range : Stmt := topS 21
abbrev N_least_range : List Str := ["bounds"]
theorem sc_least_range : FnScope N_least_range ["bounds"] (defScope s_least_range) := ⟨rfl, rfl, rfl, by decide +kernel, rfl, by decide +kernel, by decide +kernel⟩
abbrev s_greatest_range : Stmt := topS 22
abbrev N_greatest_range : List Str := ["bounds"]
theorem sc_greatest_range : FnScope N_greatest_range ["bounds"] (defScope s_greatest_range) := ⟨rfl, rfl, rfl, by decide +kernel, rfl, by decide +kernel, by decide +kernel⟩
abbrev s_as_fractions : Stmt := topS 25
abbrev N_as_fractions : List Str := ["pair", "one"]
theorem sc_as_fractions : FnScope N_as_fractions ["pair"] (defScope s_as_fractions) := ⟨rfl, rfl, rfl, by decide +kernel, rfl, by decide +kernel, by decide +kernel⟩
abbrev s_figure_range : Stmt := topS 26
abbrev N_figure_range : List Str := ["bounds", "figure"]
theorem sc_figure_range : FnScope N_figure_range ["bounds", "figure"] (defScope s_figure_range) := ⟨rfl, rfl, rfl, by decide +kernel, rfl, by decide +kernel, by decide +kernel⟩
abbrev s_check_figure : Stmt := topS 27
abbrev N_check_figure : List Str := ["figure"]
theorem sc_check_figure : FnScope N_check_figure ["figure"] (defScope s_check_figure) := ⟨rfl, rfl, rfl, by decide +kernel, rfl, by decide +kernel, by decide +kernel⟩
abbrev s_verdict : Stmt := topS 28
abbrev N_verdict : List Str := ["low", "high", "other_low", "other_high"]
theorem sc_verdict : FnScope N_verdict ["low", "high", "other_low", "other_high"] (defScope s_verdict) := ⟨rfl, rfl, rfl, by decide +kernel, rfl, by decide +kernel, by decide +kernel⟩
abbrev s_is_more : Stmt := topS 29
abbrev N_is_more : List Str := ["one", "other", "figure", "first", "last"]
theorem sc_is_more : FnScope N_is_more ["one", "other", "figure"] (defScope s_is_more) := ⟨rfl, rfl, rfl, by decide +kernel, rfl, by decide +kernel, by decide +kernel⟩
abbrev s_can_reach : Stmt := topS 30
abbrev N_can_reach : List Str := ["bounds", "figure", "number", "part", "low", "high"]
theorem sc_can_reach : FnScope N_can_reach ["bounds", "figure", "number"] (defScope s_can_reach) := ⟨rfl, rfl, rfl, by decide +kernel, rfl, by decide +kernel, by decide +kernel⟩
abbrev s_best_figures : Stmt := topS 31
abbrev N_best_figures : List Str := ["lists", "figure", "bounds", "ranges", "k", "one", "other"]
theorem sc_best_figures : FnScope N_best_figures ["lists", "figure"] (defScope s_best_figures) := ⟨rfl, rfl, rfl, by decide +kernel, rfl, by decide +kernel, by decide +kernel⟩
abbrev s__law_start : Stmt := topS 33
abbrev N__law_start : List Str := ["_law_script"]
theorem sc__law_start : FnScope N__law_start ["_law_script"] (defScope s__law_start) := ⟨rfl, rfl, rfl, by decide +kernel, rfl, by decide +kernel, by decide +kernel⟩
abbrev s__law_draw : Stmt := topS 34
abbrev N__law_draw : List Str := ["_law_draws", "_law_limit", "_law_numbers", "_law_at", "_law_cell", "_law_mixed"]
theorem sc__law_draw : FnScope N__law_draw ["_law_draws", "_law_limit"] (defScope s__law_draw) := ⟨rfl, rfl, rfl, by decide +kernel, rfl, by decide +kernel, by decide +kernel⟩
abbrev s__law_pick : Stmt := topS 35
abbrev N__law_pick : List Str := ["_law_draws", "_law_choices_here"]
theorem sc__law_pick : FnScope N__law_pick ["_law_draws", "_law_choices_here"] (defScope s__law_pick) := ⟨rfl, rfl, rfl, by decide +kernel, rfl, by decide +kernel, by decide +kernel⟩
abbrev s__law_true : Stmt := topS 36
abbrev N__law_true : List Str := ["_law_value", "_law_expected"]
theorem sc__law_true : FnScope N__law_true ["_law_value", "_law_expected"] (defScope s__law_true) := ⟨rfl, rfl, rfl, by decide +kernel, rfl, by decide +kernel, by decide +kernel⟩
abbrev s__law_choices : Stmt := topS 37
abbrev N__law_choices : List Str := ["_law_bounds", "_law_found", "_law_low_here", "_law_high", "_law_longer_rows", "_law_row", "_law_value"]
theorem sc__law_choices : FnScope N__law_choices ["_law_bounds"] (defScope s__law_choices) := ⟨rfl, rfl, rfl, by decide +kernel, rfl, by decide +kernel, by decide +kernel⟩
abbrev s__law_small : Stmt := topS 38
abbrev N__law_small : List Str := ["_law_draws", "_law_most", "_law_found", "_law_k", "_law_low_here"]
theorem sc__law_small : FnScope N__law_small ["_law_draws", "_law_most"] (defScope s__law_small) := ⟨rfl, rfl, rfl, by decide +kernel, rfl, by decide +kernel, by decide +kernel⟩
abbrev s__law_low : Stmt := topS 39
abbrev N__law_low : List Str := ["_law_top", "_law_under", "_law_one", "_law_other"]
theorem sc__law_low : FnScope N__law_low ["_law_top", "_law_under"] (defScope s__law_low) := ⟨rfl, rfl, rfl, by decide +kernel, rfl, by decide +kernel, by decide +kernel⟩
abbrev s__law_middle : Stmt := topS 40
abbrev N__law_middle : List Str := ["_law_values", "_law_ordered", "_law_size"]
theorem sc__law_middle : FnScope N__law_middle ["_law_values"] (defScope s__law_middle) := ⟨rfl, rfl, rfl, by decide +kernel, rfl, by decide +kernel, by decide +kernel⟩
abbrev s__law_figure : Stmt := topS 41
abbrev N__law_figure : List Str := ["_law_row", "_law_figure_here"]
theorem sc__law_figure : FnScope N__law_figure ["_law_row", "_law_figure_here"] (defScope s__law_figure) := ⟨rfl, rfl, rfl, by decide +kernel, rfl, by decide +kernel, by decide +kernel⟩
abbrev s_law : Stmt := topS 42
abbrev N_law : List Str := ["_law_script", "_law_draws", "_law_one", "_law_other", "_law_figure_here", "_law_first", "_law_last", "_law_due", "_law_turn", "_law_lists", "_law_tops", "_law_bottoms", "_law_bounds", "_law_under", "_law_top", "_law_inside", "_law_values", "_law_a", "_law_b", "_law_k", "_law_row"]
theorem sc_law : FnScope N_law ["_law_script"] (defScope s_law) := ⟨rfl, rfl, rfl, by decide +kernel, rfl, by decide +kernel, by decide +kernel⟩
structure Txt (K : Fg) (mg : Str → Option Value) : Prop where
  d_is_int : Fd K mg "is_int" s_is_int
  d_is_bound : Fd K mg "is_bound" s_is_bound
  d_is_bounds : Fd K mg "is_bounds" s_is_bounds
  d_check_bounds : Fd K mg "check_bounds" s_check_bounds
  d_common_divisor : Fd K mg "common_divisor" s_common_divisor
  d_lowest : Fd K mg "lowest" s_lowest
  d_less : Fd K mg "less" s_less
  d_lows : Fd K mg "lows" s_lows
  d_highs : Fd K mg "highs" s_highs
  d_sum_range : Fd K mg "sum_range" s_sum_range
  d_mean_range : Fd K mg "mean_range" s_mean_range
  d_middle : Fd K mg "middle" s_middle
  d_median_range : Fd K mg "median_range" s_median_range
  d_least_range : Fd K mg "least_range" s_least_range
  d_greatest_range : Fd K mg "greatest_range" s_greatest_range
  d_as_fractions : Fd K mg "as_fractions" s_as_fractions
  d_figure_range : Fd K mg "figure_range" s_figure_range
  d_check_figure : Fd K mg "check_figure" s_check_figure
  d_verdict : Fd K mg "verdict" s_verdict
  d_is_more : Fd K mg "is_more" s_is_more
  d_can_reach : Fd K mg "can_reach" s_can_reach
  d_best_figures : Fd K mg "best_figures" s_best_figures
  d__law_start : Fd K mg "_law_start" s__law_start
  d__law_draw : Fd K mg "_law_draw" s__law_draw
  d__law_pick : Fd K mg "_law_pick" s__law_pick
  d__law_true : Fd K mg "_law_true" s__law_true
  d__law_choices : Fd K mg "_law_choices" s__law_choices
  d__law_small : Fd K mg "_law_small" s__law_small
  d__law_low : Fd K mg "_law_low" s__law_low
  d__law_middle : Fd K mg "_law_middle" s__law_middle
  d__law_figure : Fd K mg "_law_figure" s__law_figure
  d_law : Fd K mg "law" s_law
  n_abs : mg "abs" = none
  n_all : mg "all" = none
  n_any : mg "any" = none
  n_bool : mg "bool" = none
  n_enumerate : mg "enumerate" = none
  n_int : mg "int" = none
  n_isinstance : mg "isinstance" = none
  n_len : mg "len" = none
  n_list : mg "list" = none
  n_max : mg "max" = none
  n_min : mg "min" = none
  n_range : mg "range" = none
  n_sorted : mg "sorted" = none
  n_str : mg "str" = none
  n_sum : mg "sum" = none
  n_tuple : mg "tuple" = none
  c_FIGURES : ∃ a, mg "FIGURES" = some (.ref a) ∧ ∀ H, Rp.rep K H (.ref a) (Tp.mk ["sum", "mean", "median", "least", "greatest"] : Tp Str)
  c_MOST_BOUND : ∃ t, mg "MOST_BOUND" = some (.int 50 t)
  c_MOST_VALUES : ∃ t, mg "MOST_VALUES" = some (.int 7 t)
section
variable {P : Program} {w : World} {K : Fg} {mg : Str → Option Value} {base : Heap}
def m_is_int (x0 : Int) (x1 : Int) (x2 : Int) : Bool := (true && ((!false) && ((decide (x1 ≤ x0)) && (decide (x0 ≤ x2)))))
theorem ok_is_int (T : Txt K mg) : Ok P w K mg base CX0 1 "is_int" ["value", "low", "high"] (sp3 K ((fun _ _ _ => True) : Int → Int → Int → Prop) m_is_int) := by
  refine ok_of T.d_is_int sc_is_int (bi3 fun _ _ _ _ _ _ _ _ _ => rfl) len_sp3 (fun f cdv A outer s H vs Q E hr h => ?_)
  have nd := sc_is_int.nd
  obtain ⟨v0, v1, v2, x0, x1, x2, rfl, r0, r1, r2, hp, q⟩ := h
  refine ⟨_, (pss_one (ps_ret (pe_and (pe_callB (k_isi K rfl) (by rfl) T.n_isinstance (by decide +kernel) (pa_cons (pv 0) (pa_cons (pe_bltn (v := .ty "int") (by rfl) T.n_int (by decide +kernel) rfl) pa_nil))) (pe_and (pe_not (pe_callB (k_isi K rfl) (by rfl) T.n_isinstance (by decide +kernel) (pa_cons (pv 0) (pa_cons (pe_bltn (v := .ty "bool") (by rfl) T.n_bool (by decide +kernel) rfl) pa_nil)))) (pe_one (pe_chain op_le op_le (pv 1) (pv 0) (pv 2))))))), ?_⟩
  exact s_ret (K := K) (er_andV (er_isi (b := true) (er_var rfl r0) (show kitB "int" "int" = some true from by decide)) (fun _ => (er_andV (er_notV (er_isi (b := false) (er_var rfl r0) (show kitB "int" "bool" = some false from by decide))) (fun _ => (er_chain (er_var rfl r1) (er_var rfl r0) (er_var rfl r2) rr_le rr_le))))) (fun u _ e226 rr => q u _ e226 rr)
def m_is_bound (x0 : (Int × Int)) : Bool := (if ((!true) || (!(decide ((2 : Int) = (2 : Int))))) = true then false else ((m_is_int x0.1 (-(50 : Int)) (50 : Int)) && (m_is_int x0.2 x0.1 (50 : Int))))
theorem ok_is_bound (T : Txt K mg) : Ok P w K mg base CX0 2 "is_bound" ["value"] (sp1 K ((fun _ => True) : (Int × Int) → Prop) m_is_bound) := by
  refine ok_of T.d_is_bound sc_is_bound (bi1 fun _ _ _ _ _ _ _ => rfl) len_sp1 (fun f cdv A outer s H vs Q E hr h => ?_)
  have nd := sc_is_bound.nd
  obtain ⟨v0, x0, rfl, r0, hp, q⟩ := h
  refine ⟨_, (pss_cons (ps_if (PW.pt (pw_or (pt_not (pt_val (pe_callB (k_isi K rfl) (by rfl) T.n_isinstance (by decide +kernel) (pa_cons (pv 0) (pa_cons (pe_bltn (v := .ty "tuple") (by rfl) T.n_tuple (by decide +kernel) rfl) pa_nil))))) (pw_or1 (pt_cmpR op_ne (pe_callB (k_len K rfl) (by rfl) T.n_len PySem.boot_len (pa_cons (pv 0) pa_nil)) pe_int (nomark _))))) (pss_one (ps_ret pe_bl)) pss_nil)
      (pss_one (ps_ret (pe_and (pe_fn (ok_is_int T) (hr.mono (by decide)) pass0 (pa_cons (pe_ix (k_ixt K rfl) (pv 0) pe_int (fun _ _ => rfl)) (pa_cons (pe_un un_neg (pe_gint T.c_MOST_BOUND)) (pa_cons (pe_gint T.c_MOST_BOUND) pa_nil)))) (pe_one (pe_fn (ok_is_int T) (hr.mono (by decide)) pass0 (pa_cons (pe_ix (k_ixt K rfl) (pv 0) pe_int (fun _ _ => rfl)) (pa_cons (pe_ix (k_ixt K rfl) (pv 0) pe_int (fun _ _ => rfl)) (pa_cons (pe_gint T.c_MOST_BOUND) pa_nil))))))))), ?_⟩
  refine q_when (K := K) (et_or (et_not (et_B (er_isi (b := true) (er_var rfl r0) (show kitB "tuple" "tuple" = some true from by decide)))) (fun _ => (et_test (er_op (er_lenP (er_var rfl r0)) er_int rr_neI)))) (fun hc228 _ e227 => ?_) (fun hc228 _ e227 => ?_)
  ·
    exact s_ret (K := K) er_bl (fun u _ e229 rr => q u _ (e227.trans e229) (by rw [(show m_is_bound x0 = false from by unfold m_is_bound; rw [if_pos hc228])]; exact rr))
  ·
    exact s_ret (K := K) (er_andV (er_call3 (er_op (er_var rfl (Rp.mono (SF.of e227) r0)) er_int rr_ixP0) (er_neg er_int) er_int trivial) (fun _ => (er_call3 (er_op (er_var rfl (Rp.mono (SF.of e227) r0)) er_int rr_ixP1) (er_op (er_var rfl (Rp.mono (SF.of e227) r0)) er_int rr_ixP0) er_int trivial))) (fun u _ e230 rr => q u _ (e227.trans e230) (by rw [(show m_is_bound x0 = ((m_is_int x0.1 (-(50 : Int)) (50 : Int)) && (m_is_int x0.2 x0.1 (50 : Int))) from by unfold m_is_bound; rw [if_neg (by rw [hc228]; exact Bool.false_ne_true)])]; exact rr))
def m_is_bounds (x0 : (List (Int × Int))) : Bool := (if ((!true) || (!((decide ((1 : Int) ≤ ((x0.length : Nat) : Int))) && (decide (((x0.length : Nat) : Int) ≤ (7 : Int)))))) = true then false else ((x0.map (fun (x240 : (Int × Int)) => (m_is_bound x240))).all id))
theorem ok_is_bounds (T : Txt K mg) : Ok P w K mg base CX0 3 "is_bounds" ["value"] (sp1 K ((fun b => b.length ≤ 100000) : (List (Int × Int)) → Prop) m_is_bounds) := by
  refine ok_of T.d_is_bounds sc_is_bounds (bi1 fun _ _ _ _ _ _ _ => rfl) len_sp1 (fun f cdv A outer s H vs Q E hr h => ?_)
  have nd := sc_is_bounds.nd
  obtain ⟨v0, x0, rfl, r0, hp, q⟩ := h
  refine ⟨_, (pss_cons (ps_if (PW.pt (pw_or (pt_not (pt_val (pe_callB (k_isi K rfl) (by rfl) T.n_isinstance (by decide +kernel) (pa_cons (pv 0) (pa_cons (pe_bltn (v := .ty "list") (by rfl) T.n_list (by decide +kernel) rfl) pa_nil))))) (pw_or1 (pt_not (pt_chain op_le op_le pe_int (pe_callB (k_len K rfl) (by rfl) T.n_len PySem.boot_len (pa_cons (pv 0) pa_nil)) (pe_gint T.c_MOST_VALUES)))))) (pss_one (ps_ret pe_bl)) pss_nil)
      (pss_one (ps_ret (pe_callB (k_all K rfl rfl) (by rfl) T.n_all (by decide +kernel) (pa_cons (pe_frz (pe_lc (own := [("one", 1)]) rfl nd (k_pl K rfl (pv 0)) (blkOk_by (N := N_is_bounds) (sc := defScope s_is_bounds) (by decide +kernel)) (fun _ _ _ _ _ => (pg_name (i := 1) nd rfl (.inl rfl) (.inr rfl))) (fun _ _ _ _ _ => pts_nil) (fun _ _ _ _ _ => (pe_fn (ok_is_bound T) (hr.mono (by decide)) pass0 (pa_cons (pv 1) pa_nil))))) pa_nil))))), ?_⟩
  refine q_when (K := K) (et_or (et_not (et_B (er_isi (b := true) (er_var rfl r0) (show kitB "list" "list" = some true from by decide)))) (fun _ => (et_not (et_test (er_chain er_int (er_up (er_len (er_var rfl r0))) er_int rr_le rr_le))))) (fun hc237 _ e236 => ?_) (fun hc237 _ e236 => ?_)
  ·
    exact s_ret (K := K) er_bl (fun u _ e238 rr => q u _ (e236.trans e238) (by rw [(show m_is_bounds x0 = false from by unfold m_is_bounds; rw [if_pos hc237])]; exact rr))
  ·
    exact s_ret (K := K) (er_all (er_frz (erl_lm1 (f := fun (x240 : (Int × Int)) => (m_is_bound x240)) (src_list (er_var rfl (Rp.mono (SF.of e236) r0))) (by first | omega | (have := hp.2.1; omega) | (have := hp.1.2.1; omega)) (by intros; rfl) (fun x240 hx241 v242 _ e239 r243 => (er_call1 (er_var rfl r243) trivial))))) (fun u _ e244 rr => q u _ (e236.trans e244) (by rw [(show m_is_bounds x0 = ((x0.map (fun (x240 : (Int × Int)) => (m_is_bound x240))).all id) from by unfold m_is_bounds; rw [if_neg (by rw [hc237]; exact Bool.false_ne_true)])]; exact rr))
theorem isBounds_ok {b : List (Int × Int)} (h : BOk b) : m_is_bounds b = true := by
  unfold m_is_bounds m_is_bound m_is_int
  simp only [Bool.not_true, Bool.false_or, Bool.not_false]
  rw [if_neg]
  · rw [List.all_map, List.all_eq_true]
    intro p hp
    have := h.2.2 p hp
    simp; omega
  · have := h.1; have := h.2.1
    simp; omega
theorem ok_check_bounds (T : Txt K mg) : Ok P w K mg base CX0 4 "check_bounds" ["value"] (sp1 K ((fun b => BOk b) : (List (Int × Int)) → Prop) (fun _ => ())) := by
  refine ok_of T.d_check_bounds sc_check_bounds (bi1 fun _ _ _ _ _ _ _ => rfl) len_sp1 (fun f cdv A outer s H vs Q E hr h => ?_)
  have nd := sc_check_bounds.nd
  obtain ⟨v0, x0, rfl, r0, hp, q⟩ := h
  refine ⟨_, (pss_one (ps_if (pt_not (pt_val (pe_fn (ok_is_bounds T) (hr.mono (by decide)) pass0 (pa_cons (pv 0) pa_nil)))) (pss_one ps_never) pss_nil)), ?_⟩
  refine s_if (K := K) (et_not (et_B (er_call1 (er_var rfl r0) (by have := hp.2.1; omega)))) (fun hc _ _ => ?_) (fun _ _ e => ?_)
  · rw [isBounds_ok hp] at hc; cases hc
  · exact q .non _ e rfl
theorem ok_common_divisor (T : Txt K mg) : Ok P w K mg base CX0 1 "common_divisor" ["one", "other"] (sp2 K ((fun _ _ => True) : Int → Int → Prop) gcdI) := by
  refine ok_of T.d_common_divisor sc_common_divisor (bi2 fun _ _ _ _ _ _ _ _ => rfl) len_sp2 (fun f cdv A outer s H vs Q E hr h => ?_)
  have nd := sc_common_divisor.nd
  obtain ⟨v0, v1, x0, x1, rfl, r0, r1, hp, q⟩ := h
  refine ⟨_, (pss_cons (ps_par (i := 0) (j := 1) (by rfl) nd rfl rfl (by decide) rfl rfl (pa_cons (pe_callB call_abs (by rfl) T.n_abs (by decide +kernel) (pa_cons (pv 0) pa_nil)) (pa_cons (pe_callB call_abs (by rfl) T.n_abs (by decide +kernel) (pa_cons (pv 1) pa_nil)) pa_nil)) (by rfl))
      (pss_cons (ps_while PassesOwn.never (pt_cmpR op_ne (pv 1) pe_int (nomark _)) (pss_one (ps_par (i := 0) (j := 1) (by rfl) nd rfl rfl (by decide) rfl rfl (pa_cons (pv 1) (pa_cons (pe_op op_mod (pv 0) (pv 1)) pa_nil)) (by rfl))))
      (pss_one (ps_ret (pv 0))))), ?_⟩
  refine q_par (K := K) (er_abs (er_var rfl r0)) (er_abs (er_var rfl r1)) (fun v u H1 e1 ra rb => ?_)
  cases (show v = .int (iabs x0) from ra); cases (show u = .int (iabs x1) from rb)
  refine q_while (K := K) (fun σ' H' => ∃ a b : Nat, σ' = [some (.int a), some (.int b)] ∧ Same H H' ∧ Nat.gcd a b = Int.gcd x0 x1) (fun σ' _ => match σ' with | [_, some (.int b)] => b.toNat | _ => 0) ⟨x0.natAbs, x1.natAbs, by rw [iabs_nat, iabs_nat]; rfl, e1, rfl⟩ (fun σ' H' hW => ?_)
  obtain ⟨a, b, rfl, e, hg⟩ := hW
  refine ⟨!decide ((b : Int) = 0), et_test (er_op (er_var (x := (b : Int)) rfl rfl) er_int rr_neI), fun hb H2 e2 => ?_, fun hb H2 e2 => ?_⟩
  · have hb0 : b ≠ 0 := by intro z; subst z; simp at hb
    refine s_par (K := K) (er_var (x := (b : Int)) rfl rfl) (er_op (er_var (x := (a : Int)) rfl rfl) (er_var (x := (b : Int)) rfl rfl) (rr_mod (by omega))) (fun v u H3 e3 r1 r2 => ?_)
    cases (show v = .int (b : Int) from r1); cases (show u = .int ((a : Int) % (b : Int)) from r2)
    refine ⟨⟨b, a % b, by rw [nat_mod_int]; rfl, e.trans (e2.trans e3), by rw [gcd_turn hb0]; exact hg⟩, ?_⟩
    show ((a : Int) % (b : Int)).toNat < (b : Int).toNat
    have := Nat.mod_lt a (Nat.pos_of_ne_zero hb0)
    rw [nat_mod_int]; omega
  · have hb0 : b = 0 := by have := of_decide_eq_true (show decide ((b : Int) = 0) = true by simpa using hb); omega
    subst hb0
    rw [Nat.gcd_zero_right] at hg
    exact s_ret (K := K) (er_var (x := (a : Int)) rfl rfl) (fun u H3 e3 rr => q u _ (e.trans (e2.trans e3)) (by rw [show gcdI x0 x1 = (a : Int) from by unfold gcdI; omega]; exact rr))
theorem gcd_div {i a b : Int} (h : 0 < b ∧ b < 2 ^ 200) : CDivW i (gcdI a b) := by
  have h1 := gcdI_pos (a := a) h.1
  have h2 := gcdI_le (a := a) h.1
  exact wide_div (b := 200) h1 (by omega) (by decide) (by decide)
theorem ok_lowest (T : Txt K mg) : Ok P w K mg base CX0 2 "lowest" ["top", "below"] (sp2 K ((fun _ b => 0 < b ∧ b < 2 ^ 200) : Int → Int → Prop) frI) := by
  refine ok_of T.d_lowest sc_lowest (bi2 fun _ _ _ _ _ _ _ _ => rfl) len_sp2 (fun f cdv A outer s H vs Q E hr h => ?_)
  have nd := sc_lowest.nd
  obtain ⟨v0, v1, x0, x1, rfl, r0, r1, hp, q⟩ := h
  refine ⟨_, (pss_cons (ps_set (i := 2) nd rfl (.inl rfl) (pe_fn (ok_common_divisor T) (hr.mono (by decide)) pass0 (pa_cons (pv 0) (pa_cons (pv 1) pa_nil))))
      (pss_one (ps_ret (pe_tup (pa_cons (pe_op op_fdivW (pv 0) (pv 2)) (pa_cons (pe_op op_fdivW (pv 1) (pv 2)) pa_nil)))))), ?_⟩
  refine q_set (K := K) (er_call2 (er_var rfl r0) (er_var rfl r1) trivial) (fun v247 _ e245 r246 => ?_)
  exact s_ret (K := K) (er_pair (er_op (er_var rfl (Rp.mono (SF.of e245) r0)) (er_var rfl r246) (rr_divW (by exact gcd_div hp))) (er_op (er_var rfl (Rp.mono (SF.of e245) r1)) (er_var rfl r246) (rr_divW (by exact gcd_div hp)))) (fun u _ e248 rr => q u _ (e245.trans e248) rr)
def m_less (x0 : (Int × Int)) (x1 : (Int × Int)) : Bool := (decide ((x0.1 * x1.2) < (x1.1 * x0.2)))
theorem ok_less (T : Txt K mg) : Ok P w K mg base CX0 1 "less" ["one", "other"] (sp2 K ((fun a b => a.2.natAbs < 2 ^ 63 ∧ b.2.natAbs < 2 ^ 63) : (Int × Int) → (Int × Int) → Prop) m_less) := by
  refine ok_of T.d_less sc_less (bi2 fun _ _ _ _ _ _ _ _ => rfl) len_sp2 (fun f cdv A outer s H vs Q E hr h => ?_)
  have nd := sc_less.nd
  obtain ⟨v0, v1, x0, x1, rfl, r0, r1, hp, q⟩ := h
  refine ⟨_, (pss_one (ps_ret (pe_cmpR op_lt (pe_op op_mul (pe_ix (k_ixt K rfl) (pv 0) pe_int (fun _ _ => rfl)) (pe_ix (k_ixt K rfl) (pv 1) pe_int (fun _ _ => rfl))) (pe_op op_mul (pe_ix (k_ixt K rfl) (pv 1) pe_int (fun _ _ => rfl)) (pe_ix (k_ixt K rfl) (pv 0) pe_int (fun _ _ => rfl))) (nomark _)))), ?_⟩
  exact s_ret (K := K) (er_op (er_op (er_op (er_var rfl r0) er_int rr_ixP0) (er_op (er_var rfl r1) er_int rr_ixP1) (rr_mul (by exact .inr ⟨by omega, by omega⟩))) (er_op (er_op (er_var rfl r1) er_int rr_ixP0) (er_op (er_var rfl r0) er_int rr_ixP1) (rr_mul (by exact .inr ⟨by omega, by omega⟩))) rr_lt) (fun u _ e249 rr => q u _ e249 rr)
def m_lows (x0 : (List (Int × Int))) : (List Int) := (x0.map (fun (x258 : (Int × Int)) => x258.1))
theorem ok_lows (T : Txt K mg) : Ok P w K mg base CX0 1 "lows" ["bounds"] (sl1 K ((fun b => b.length ≤ 100000) : (List (Int × Int)) → Prop) m_lows) := by
  refine ok_of T.d_lows sc_lows (bi1 fun _ _ _ _ _ _ _ => rfl) len_sl1 (fun f cdv A outer s H vs Q E hr h => ?_)
  have nd := sc_lows.nd
  obtain ⟨v0, x0, rfl, r0, hp, q⟩ := h
  refine ⟨_, (pss_one (ps_ret (pe_lc (own := [("low", 1), ("high", 2)]) rfl nd (k_pl K rfl (pv 0)) (blkOk_by (N := N_lows) (sc := defScope s_lows) (by decide +kernel)) (fun _ _ _ _ _ => (k_gt K rfl 2 rfl (pgs_cons (pg_name (i := 1) nd rfl (.inl rfl) (.inr rfl)) (pgs_cons (pg_name (i := 2) nd rfl (.inl rfl) (.inr rfl)) pgs_nil)))) (fun _ _ _ _ _ => pts_nil) (fun _ _ _ _ _ => (pv 1))))), ?_⟩
  exact s_retL (K := K) (erl_lm2 (f := fun (x258 : (Int × Int)) => x258.1) (src_list (er_var rfl r0)) (by first | omega | (have := hp.2.1; omega) | (have := hp.1.2.1; omega)) (by intros; rfl) (fun x258 hx259 v260 v261 _ e257 r262 r263 => (er_var rfl r262))) (fun p us _ e264 hn h1 rr => q p us _ e264 ((Same.refl _).free hn) h1 rr)
def m_highs (x0 : (List (Int × Int))) : (List Int) := (x0.map (fun (x273 : (Int × Int)) => x273.2))
theorem ok_highs (T : Txt K mg) : Ok P w K mg base CX0 1 "highs" ["bounds"] (sl1 K ((fun b => b.length ≤ 100000) : (List (Int × Int)) → Prop) m_highs) := by
  refine ok_of T.d_highs sc_highs (bi1 fun _ _ _ _ _ _ _ => rfl) len_sl1 (fun f cdv A outer s H vs Q E hr h => ?_)
  have nd := sc_highs.nd
  obtain ⟨v0, x0, rfl, r0, hp, q⟩ := h
  refine ⟨_, (pss_one (ps_ret (pe_lc (own := [("low", 1), ("high", 2)]) rfl nd (k_pl K rfl (pv 0)) (blkOk_by (N := N_highs) (sc := defScope s_highs) (by decide +kernel)) (fun _ _ _ _ _ => (k_gt K rfl 2 rfl (pgs_cons (pg_name (i := 1) nd rfl (.inl rfl) (.inr rfl)) (pgs_cons (pg_name (i := 2) nd rfl (.inl rfl) (.inr rfl)) pgs_nil)))) (fun _ _ _ _ _ => pts_nil) (fun _ _ _ _ _ => (pv 2))))), ?_⟩
  exact s_retL (K := K) (erl_lm2 (f := fun (x273 : (Int × Int)) => x273.2) (src_list (er_var rfl r0)) (by first | omega | (have := hp.2.1; omega) | (have := hp.1.2.1; omega)) (by intros; rfl) (fun x273 hx274 v275 v276 _ e272 r277 r278 => (er_var rfl r278))) (fun p us _ e279 hn h1 rr => q p us _ e279 ((Same.refl _).free hn) h1 rr)
theorem ne_lows {b : List (Int × Int)} (h : BOk b) : m_lows b ≠ [] := by
  have := h.1
  cases b with
  | nil => simp at this
  | cons p r => simp [m_lows]
theorem ne_highs {b : List (Int × Int)} (h : BOk b) : m_highs b ≠ [] := by
  have := h.1
  cases b with
  | nil => simp at this
  | cons p r => simp [m_highs]
theorem len_lows (b : List (Int × Int)) : (m_lows b).length = b.length := by simp [m_lows]
theorem len_highs (b : List (Int × Int)) : (m_highs b).length = b.length := by simp [m_highs]
def m_sum_range (x0 : (List (Int × Int))) : (Int × Int) := ((m_lows x0).sum, (m_highs x0).sum)
theorem ok_sum_range (T : Txt K mg) : Ok P w K mg base CX0 5 "sum_range" ["bounds"] (sp1 K ((fun b => BOk b) : (List (Int × Int)) → Prop) m_sum_range) := by
  refine ok_of T.d_sum_range sc_sum_range (bi1 fun _ _ _ _ _ _ _ => rfl) len_sp1 (fun f cdv A outer s H vs Q E hr h => ?_)
  have nd := sc_sum_range.nd
  obtain ⟨v0, x0, rfl, r0, hp, q⟩ := h
  refine ⟨_, (pss_cons (ps_expr (pe_fn (ok_check_bounds T) (hr.mono (by decide)) pass0 (pa_cons (pv 0) pa_nil)))
      (pss_one (ps_ret (pe_tup (pa_cons (pe_callB (k_sum K rfl rfl) (by rfl) T.n_sum (by decide +kernel) (pa_cons (pe_frz (pe_fn (ok_lows T) (hr.mono (by decide)) pass0 (pa_cons (pv 0) pa_nil))) pa_nil)) (pa_cons (pe_callB (k_sum K rfl rfl) (by rfl) T.n_sum (by decide +kernel) (pa_cons (pe_frz (pe_fn (ok_highs T) (hr.mono (by decide)) pass0 (pa_cons (pv 0) pa_nil))) pa_nil)) pa_nil)))))), ?_⟩
  refine q_drop (K := K) (er_call1 (er_var rfl r0) (by first | exact hp | exact hp.1)) (fun _ e280 => ?_)
  exact s_ret (K := K) (er_pair (er_sum (er_frz (erl_call1 (er_var rfl (Rp.mono (SF.of e280) r0)) (by first | omega | (have := hp.2.1; omega) | (have := hp.1.2.1; omega))))) (er_sum (er_frz (erl_call1 (er_var rfl (Rp.mono (SF.of e280) r0)) (by first | omega | (have := hp.2.1; omega) | (have := hp.1.2.1; omega)))))) (fun u _ e281 rr => q u _ (e280.trans e281) rr)
def m_mean_range (x0 : (List (Int × Int))) : ((Int × Int) × (Int × Int)) := ((frI ((m_lows x0).sum) ((x0.length : Nat) : Int)), (frI ((m_highs x0).sum) ((x0.length : Nat) : Int)))
theorem ok_mean_range (T : Txt K mg) : Ok P w K mg base CX0 5 "mean_range" ["bounds"] (sp1 K ((fun b => BOk b) : (List (Int × Int)) → Prop) m_mean_range) := by
  refine ok_of T.d_mean_range sc_mean_range (bi1 fun _ _ _ _ _ _ _ => rfl) len_sp1 (fun f cdv A outer s H vs Q E hr h => ?_)
  have nd := sc_mean_range.nd
  obtain ⟨v0, x0, rfl, r0, hp, q⟩ := h
  refine ⟨_, (pss_cons (ps_expr (pe_fn (ok_check_bounds T) (hr.mono (by decide)) pass0 (pa_cons (pv 0) pa_nil)))
      (pss_one (ps_ret (pe_tup (pa_cons (pe_fn (ok_lowest T) (hr.mono (by decide)) pass0 (pa_cons (pe_callB (k_sum K rfl rfl) (by rfl) T.n_sum (by decide +kernel) (pa_cons (pe_frz (pe_fn (ok_lows T) (hr.mono (by decide)) pass0 (pa_cons (pv 0) pa_nil))) pa_nil)) (pa_cons (pe_callB (k_len K rfl) (by rfl) T.n_len PySem.boot_len (pa_cons (pv 0) pa_nil)) pa_nil))) (pa_cons (pe_fn (ok_lowest T) (hr.mono (by decide)) pass0 (pa_cons (pe_callB (k_sum K rfl rfl) (by rfl) T.n_sum (by decide +kernel) (pa_cons (pe_frz (pe_fn (ok_highs T) (hr.mono (by decide)) pass0 (pa_cons (pv 0) pa_nil))) pa_nil)) (pa_cons (pe_callB (k_len K rfl) (by rfl) T.n_len PySem.boot_len (pa_cons (pv 0) pa_nil)) pa_nil))) pa_nil)))))), ?_⟩
  refine q_drop (K := K) (er_call1 (er_var rfl r0) (by first | exact hp | exact hp.1)) (fun _ e282 => ?_)
  exact s_ret (K := K) (er_pair (er_call2 (er_sum (er_frz (erl_call1 (er_var rfl (Rp.mono (SF.of e282) r0)) (by first | omega | (have := hp.2.1; omega) | (have := hp.1.2.1; omega))))) (er_up (er_len (er_var rfl (Rp.mono (SF.of e282) r0)))) (by have := hp.1; have := hp.2.1; exact ⟨by omega, by omega⟩)) (er_call2 (er_sum (er_frz (erl_call1 (er_var rfl (Rp.mono (SF.of e282) r0)) (by first | omega | (have := hp.2.1; omega) | (have := hp.1.2.1; omega))))) (er_up (er_len (er_var rfl (Rp.mono (SF.of e282) r0)))) (by have := hp.1; have := hp.2.1; exact ⟨by omega, by omega⟩))) (fun u _ e283 rr => q u _ (e282.trans e283) rr)
def m_middle (x0 : (List Int)) : (Int × Int) := (frI ((((srt x0)).getD ((((((srt x0).length : Nat) : Int) - (1 : Int)) / (2 : Int))).toNat 0) + (((srt x0)).getD (((((srt x0).length : Nat) : Int) / (2 : Int))).toNat 0)) (2 : Int))
theorem ok_middle (T : Txt K mg) : Ok P w K mg base CX0 3 "middle" ["values"] (sp1 K ((fun l => l ≠ [] ∧ l.length ≤ 100000) : (List Int) → Prop) m_middle) := by
  refine ok_of T.d_middle sc_middle (bi1 fun _ _ _ _ _ _ _ => rfl) len_sp1 (fun f cdv A outer s H vs Q E hr h => ?_)
  have nd := sc_middle.nd
  obtain ⟨v0, x0, rfl, r0, hp, q⟩ := h
  refine ⟨_, (pss_cons (ps_set (i := 1) nd rfl (.inl rfl) (pe_frz (pe_callB (k_sorted K rfl) (by rfl) T.n_sorted (by decide +kernel) (pa_cons (pv 0) pa_nil))))
      (pss_cons (ps_set (i := 2) nd rfl (.inl rfl) (pe_callB (k_len K rfl) (by rfl) T.n_len PySem.boot_len (pa_cons (pv 1) pa_nil)))
      (pss_one (ps_ret (pe_fn (ok_lowest T) (hr.mono (by decide)) pass0 (pa_cons (pe_op op_add (pe_ix (k_ixl K rfl) (pv 1) (pe_op op_fdiv (pe_op op_sub (pv 2) pe_int) pe_int) (fun _ _ => rfl)) (pe_ix (k_ixl K rfl) (pv 1) (pe_op op_fdiv (pv 2) pe_int) (fun _ _ => rfl))) (pa_cons pe_int pa_nil))))))), ?_⟩
  refine q_set (K := K) (er_frz (erl_sorted (er_var rfl r0))) (fun v286 _ e284 r285 => ?_)
  refine q_set (K := K) (er_len (er_var rfl r285)) (fun v289 _ e287 r288 => ?_)
  exact s_ret (K := K) (er_call2 (er_op (er_op (er_var rfl (Rp.mono (SF.of e287) r285)) (er_op (er_op (er_up (er_var rfl r288)) er_int rr_sub) er_int (rr_div (by exact ⟨by decide, by decide⟩))) (rr_ixI (x := (((srt x0)).getD ((((((srt x0).length : Nat) : Int) - (1 : Int)) / (2 : Int))).toNat 0)) (n := ((((((srt x0).length : Nat) : Int) - (1 : Int)) / (2 : Int))).toNat) (by have h1 := List.length_pos_iff.mpr hp.1; have h2 := srt_len x0; omega) (by exact getD_at (by rw [srt_len]; have := List.length_pos_iff.mpr hp.1; omega)))) (er_op (er_var rfl (Rp.mono (SF.of e287) r285)) (er_op (er_up (er_var rfl r288)) er_int (rr_div (by exact ⟨by decide, by decide⟩))) (rr_ixI (x := (((srt x0)).getD (((((srt x0).length : Nat) : Int) / (2 : Int))).toNat 0)) (n := (((((srt x0).length : Nat) : Int) / (2 : Int))).toNat) (by have h1 := List.length_pos_iff.mpr hp.1; have h2 := srt_len x0; omega) (by exact getD_at (by rw [srt_len]; have := List.length_pos_iff.mpr hp.1; omega)))) rr_add) er_int (by exact ⟨by decide, by decide⟩)) (fun u _ e290 rr => q u _ ((e284.trans e287).trans e290) rr)
def m_median_range (x0 : (List (Int × Int))) : ((Int × Int) × (Int × Int)) := ((m_middle (m_lows x0)), (m_middle (m_highs x0)))
theorem ok_median_range (T : Txt K mg) : Ok P w K mg base CX0 5 "median_range" ["bounds"] (sp1 K ((fun b => BOk b) : (List (Int × Int)) → Prop) m_median_range) := by
  refine ok_of T.d_median_range sc_median_range (bi1 fun _ _ _ _ _ _ _ => rfl) len_sp1 (fun f cdv A outer s H vs Q E hr h => ?_)
  have nd := sc_median_range.nd
  obtain ⟨v0, x0, rfl, r0, hp, q⟩ := h
  refine ⟨_, (pss_cons (ps_expr (pe_fn (ok_check_bounds T) (hr.mono (by decide)) pass0 (pa_cons (pv 0) pa_nil)))
      (pss_one (ps_ret (pe_tup (pa_cons (pe_fn (ok_middle T) (hr.mono (by decide)) pass0 (pa_cons (pe_frz (pe_fn (ok_lows T) (hr.mono (by decide)) pass0 (pa_cons (pv 0) pa_nil))) pa_nil)) (pa_cons (pe_fn (ok_middle T) (hr.mono (by decide)) pass0 (pa_cons (pe_frz (pe_fn (ok_highs T) (hr.mono (by decide)) pass0 (pa_cons (pv 0) pa_nil))) pa_nil)) pa_nil)))))), ?_⟩
  refine q_drop (K := K) (er_call1 (er_var rfl r0) (by first | exact hp | exact hp.1)) (fun _ e291 => ?_)
  exact s_ret (K := K) (er_pair (er_call1 (er_frz (erl_call1 (er_var rfl (Rp.mono (SF.of e291) r0)) (by first | omega | (have := hp.2.1; omega) | (have := hp.1.2.1; omega)))) (by first | exact ⟨ne_lows hp, by rw [len_lows]; have := hp.2.1; omega⟩ | exact ⟨ne_highs hp, by rw [len_highs]; have := hp.2.1; omega⟩)) (er_call1 (er_frz (erl_call1 (er_var rfl (Rp.mono (SF.of e291) r0)) (by first | omega | (have := hp.2.1; omega) | (have := hp.1.2.1; omega)))) (by first | exact ⟨ne_lows hp, by rw [len_lows]; have := hp.2.1; omega⟩ | exact ⟨ne_highs hp, by rw [len_highs]; have := hp.2.1; omega⟩))) (fun u _ e292 rr => q u _ (e291.trans e292) rr)
def m_least_range (x0 : (List (Int × Int))) : (Int × Int) := ((mnl (m_lows x0)), (mnl (m_highs x0)))
theorem ok_least_range (T : Txt K mg) : Ok P w K mg base CX0 5 "least_range" ["bounds"] (sp1 K ((fun b => BOk b) : (List (Int × Int)) → Prop) m_least_range) := by
  refine ok_of T.d_least_range sc_least_range (bi1 fun _ _ _ _ _ _ _ => rfl) len_sp1 (fun f cdv A outer s H vs Q E hr h => ?_)
  have nd := sc_least_range.nd
  obtain ⟨v0, x0, rfl, r0, hp, q⟩ := h
  refine ⟨_, (pss_cons (ps_expr (pe_fn (ok_check_bounds T) (hr.mono (by decide)) pass0 (pa_cons (pv 0) pa_nil)))
      (pss_one (ps_ret (pe_tup (pa_cons (pe_callB (k_min K rfl rfl) (by rfl) T.n_min (by decide +kernel) (pa_cons (pe_frz (pe_fn (ok_lows T) (hr.mono (by decide)) pass0 (pa_cons (pv 0) pa_nil))) pa_nil)) (pa_cons (pe_callB (k_min K rfl rfl) (by rfl) T.n_min (by decide +kernel) (pa_cons (pe_frz (pe_fn (ok_highs T) (hr.mono (by decide)) pass0 (pa_cons (pv 0) pa_nil))) pa_nil)) pa_nil)))))), ?_⟩
  refine q_drop (K := K) (er_call1 (er_var rfl r0) (by first | exact hp | exact hp.1)) (fun _ e293 => ?_)
  exact s_ret (K := K) (er_pair (er_min (er_frz (erl_call1 (er_var rfl (Rp.mono (SF.of e293) r0)) (by first | omega | (have := hp.2.1; omega) | (have := hp.1.2.1; omega)))) (by first | exact ne_lows hp | exact ne_highs hp)) (er_min (er_frz (erl_call1 (er_var rfl (Rp.mono (SF.of e293) r0)) (by first | omega | (have := hp.2.1; omega) | (have := hp.1.2.1; omega)))) (by first | exact ne_lows hp | exact ne_highs hp))) (fun u _ e294 rr => q u _ (e293.trans e294) rr)
def m_greatest_range (x0 : (List (Int × Int))) : (Int × Int) := ((mxl (m_lows x0)), (mxl (m_highs x0)))
theorem ok_greatest_range (T : Txt K mg) : Ok P w K mg base CX0 5 "greatest_range" ["bounds"] (sp1 K ((fun b => BOk b) : (List (Int × Int)) → Prop) m_greatest_range) := by
  refine ok_of T.d_greatest_range sc_greatest_range (bi1 fun _ _ _ _ _ _ _ => rfl) len_sp1 (fun f cdv A outer s H vs Q E hr h => ?_)
  have nd := sc_greatest_range.nd
  obtain ⟨v0, x0, rfl, r0, hp, q⟩ := h
  refine ⟨_, (pss_cons (ps_expr (pe_fn (ok_check_bounds T) (hr.mono (by decide)) pass0 (pa_cons (pv 0) pa_nil)))
      (pss_one (ps_ret (pe_tup (pa_cons (pe_callB (k_max K rfl rfl) (by rfl) T.n_max (by decide +kernel) (pa_cons (pe_frz (pe_fn (ok_lows T) (hr.mono (by decide)) pass0 (pa_cons (pv 0) pa_nil))) pa_nil)) (pa_cons (pe_callB (k_max K rfl rfl) (by rfl) T.n_max (by decide +kernel) (pa_cons (pe_frz (pe_fn (ok_highs T) (hr.mono (by decide)) pass0 (pa_cons (pv 0) pa_nil))) pa_nil)) pa_nil)))))), ?_⟩
  refine q_drop (K := K) (er_call1 (er_var rfl r0) (by first | exact hp | exact hp.1)) (fun _ e295 => ?_)
  exact s_ret (K := K) (er_pair (er_max (er_frz (erl_call1 (er_var rfl (Rp.mono (SF.of e295) r0)) (by first | omega | (have := hp.2.1; omega) | (have := hp.1.2.1; omega)))) (by first | exact ne_lows hp | exact ne_highs hp)) (er_max (er_frz (erl_call1 (er_var rfl (Rp.mono (SF.of e295) r0)) (by first | omega | (have := hp.2.1; omega) | (have := hp.1.2.1; omega)))) (by first | exact ne_lows hp | exact ne_highs hp))) (fun u _ e296 rr => q u _ (e295.trans e296) rr)
def m_as_fractionsI (x0 : (Int × Int)) : (List (Int × Int)) := (([x0.1, x0.2]).map (fun (x303 : Int) => (x303, (1 : Int))))
theorem ok_as_fractions (T : Txt K mg) : Ok P w K mg base CX0 1 "as_fractions" ["pair"] (sl1 K ((fun _ => True) : (Int × Int) → Prop) m_as_fractionsI) := by
  refine ok_of T.d_as_fractions sc_as_fractions (bi1 fun _ _ _ _ _ _ _ => rfl) len_sl1 (fun f cdv A outer s H vs Q E hr h => ?_)
  have nd := sc_as_fractions.nd
  obtain ⟨v0, x0, rfl, r0, hp, q⟩ := h
  refine ⟨_, (pss_one (ps_ret (pe_lc (own := [("one", 1)]) rfl nd (k_pt K rfl (pv 0)) (blkOk_by (N := N_as_fractions) (sc := defScope s_as_fractions) (by decide +kernel)) (fun _ _ _ _ _ => (pg_name (i := 1) nd rfl (.inl rfl) (.inr rfl))) (fun _ _ _ _ _ => pts_nil) (fun _ _ _ _ _ => (pe_ifExp (pt_val (pe_callB (k_isi K rfl) (by rfl) T.n_isinstance (by decide +kernel) (pa_cons (pv 1) (pa_cons (pe_bltn (v := .ty "tuple") (by rfl) T.n_tuple (by decide +kernel) rfl) pa_nil)))) (pv 1) (pe_tup (pa_cons (pv 1) (pa_cons pe_int pa_nil)))))))), ?_⟩
  exact s_retL (K := K) (erl_lm1 (f := fun (x303 : Int) => (x303, (1 : Int))) (src_two (er_var rfl r0)) (by simp) (by intros; rfl) (fun x303 hx304 v305 _ e302 r306 => (er_ifF (et_B (er_isi (b := false) (er_var rfl r306) (show kitB "int" "tuple" = some false from by decide))) (er_pair (er_var rfl r306) er_int)))) (fun p us _ e307 hn h1 rr => q p us _ e307 ((Same.refl _).free hn) h1 rr)
def m_as_fractionsF (x0 : ((Int × Int) × (Int × Int))) : (List (Int × Int)) := (([x0.1, x0.2]).map (fun (x314 : (Int × Int)) => x314))
theorem ok_as_fractions_2 (T : Txt K mg) : Ok P w K mg base CX0 1 "as_fractions" ["pair"] (sl1 K ((fun _ => True) : ((Int × Int) × (Int × Int)) → Prop) m_as_fractionsF) := by
  refine ok_of T.d_as_fractions sc_as_fractions (bi1 fun _ _ _ _ _ _ _ => rfl) len_sl1 (fun f cdv A outer s H vs Q E hr h => ?_)
  have nd := sc_as_fractions.nd
  obtain ⟨v0, x0, rfl, r0, hp, q⟩ := h
  refine ⟨_, (pss_one (ps_ret (pe_lc (own := [("one", 1)]) rfl nd (k_pt K rfl (pv 0)) (blkOk_by (N := N_as_fractions) (sc := defScope s_as_fractions) (by decide +kernel)) (fun _ _ _ _ _ => (pg_name (i := 1) nd rfl (.inl rfl) (.inr rfl))) (fun _ _ _ _ _ => pts_nil) (fun _ _ _ _ _ => (pe_ifExp (pt_val (pe_callB (k_isi K rfl) (by rfl) T.n_isinstance (by decide +kernel) (pa_cons (pv 1) (pa_cons (pe_bltn (v := .ty "tuple") (by rfl) T.n_tuple (by decide +kernel) rfl) pa_nil)))) (pv 1) (pe_tup (pa_cons (pv 1) (pa_cons pe_int pa_nil)))))))), ?_⟩
  exact s_retL (K := K) (erl_lm1 (f := fun (x314 : (Int × Int)) => x314) (src_two (er_var rfl r0)) (by simp) (by intros; rfl) (fun x314 hx315 v316 _ e313 r317 => (er_ifT (et_B (er_isi (b := true) (er_var rfl r317) (show kitB "tuple" "tuple" = some true from by decide))) (er_var rfl r317)))) (fun p us _ e318 hn h1 rr => q p us _ e318 ((Same.refl _).free hn) h1 rr)
def m_figure_range (x0 : (List (Int × Int))) (x1 : Str) : (List (Int × Int)) := (if (decide (x1 = ("sum" : Str))) = true then (m_as_fractionsI (m_sum_range x0)) else (if (decide (x1 = ("mean" : Str))) = true then (m_as_fractionsF (m_mean_range x0)) else (if (decide (x1 = ("median" : Str))) = true then (m_as_fractionsF (m_median_range x0)) else (m_as_fractionsI (if (decide (x1 = ("least" : Str))) = true then (m_least_range x0) else (m_greatest_range x0))))))
theorem ok_figure_range (T : Txt K mg) : Ok P w K mg base CX0 6 "figure_range" ["bounds", "figure"] (sl2 K ((fun b _ => BOk b) : (List (Int × Int)) → Str → Prop) m_figure_range) := by
  refine ok_of T.d_figure_range sc_figure_range (bi2 fun _ _ _ _ _ _ _ _ => rfl) len_sl2 (fun f cdv A outer s H vs Q E hr h => ?_)
  have nd := sc_figure_range.nd
  obtain ⟨v0, v1, x0, x1, rfl, r0, r1, hp, q⟩ := h
  refine ⟨_, (pss_cons (ps_if (pt_cmpR op_eq (pv 1) pe_str (nomark _)) (pss_one (ps_ret (pe_fn (ok_as_fractions T) (hr.mono (by decide)) pass0 (pa_cons (pe_fn (ok_sum_range T) (hr.mono (by decide)) pass0 (pa_cons (pv 0) pa_nil)) pa_nil)))) pss_nil)
      (pss_cons (ps_if (pt_cmpR op_eq (pv 1) pe_str (nomark _)) (pss_one (ps_ret (pe_fn (ok_as_fractions_2 T) (hr.mono (by decide)) pass0 (pa_cons (pe_fn (ok_mean_range T) (hr.mono (by decide)) pass0 (pa_cons (pv 0) pa_nil)) pa_nil)))) pss_nil)
      (pss_cons (ps_if (pt_cmpR op_eq (pv 1) pe_str (nomark _)) (pss_one (ps_ret (pe_fn (ok_as_fractions_2 T) (hr.mono (by decide)) pass0 (pa_cons (pe_fn (ok_median_range T) (hr.mono (by decide)) pass0 (pa_cons (pv 0) pa_nil)) pa_nil)))) pss_nil)
      (pss_one (ps_ret (pe_fn (ok_as_fractions T) (hr.mono (by decide)) pass0 (pa_cons (pe_ifExp (pt_cmpR op_eq (pv 1) pe_str (nomark _)) (pe_fn (ok_least_range T) (hr.mono (by decide)) pass0 (pa_cons (pv 0) pa_nil)) (pe_fn (ok_greatest_range T) (hr.mono (by decide)) pass0 (pa_cons (pv 0) pa_nil))) pa_nil))))))), ?_⟩
  refine q_when (K := K) (et_test (er_op (er_var rfl r1) er_str rr_eqS)) (fun hc320 _ e319 => ?_) (fun hc320 _ e319 => ?_)
  ·
    exact s_retL (K := K) (erl_call1 (er_call1 (er_var rfl (Rp.mono (SF.of e319) r0)) (by exact hp)) trivial) (fun p us _ e321 hn h1 rr => q p us _ (e319.trans e321) (e319.free hn) h1 (by rw [(show m_figure_range x0 x1 = (m_as_fractionsI (m_sum_range x0)) from by unfold m_figure_range; rw [if_pos hc320])]; exact rr))
  ·
    refine q_when (K := K) (et_test (er_op (er_var rfl (Rp.mono (SF.of e319) r1)) er_str rr_eqS)) (fun hc323 _ e322 => ?_) (fun hc323 _ e322 => ?_)
    ·
      exact s_retL (K := K) (erl_call1 (er_call1 (er_var rfl (Rp.mono (SF.of (e319.trans e322)) r0)) (by exact hp)) trivial) (fun p us _ e324 hn h1 rr => q p us _ ((e319.trans e322).trans e324) ((e319.trans e322).free hn) h1 (by rw [(show m_figure_range x0 x1 = (m_as_fractionsF (m_mean_range x0)) from by unfold m_figure_range; rw [if_neg (by rw [hc320]; exact Bool.false_ne_true)]; rw [if_pos hc323])]; exact rr))
    ·
      refine q_when (K := K) (et_test (er_op (er_var rfl (Rp.mono (SF.of (e319.trans e322)) r1)) er_str rr_eqS)) (fun hc326 _ e325 => ?_) (fun hc326 _ e325 => ?_)
      ·
        exact s_retL (K := K) (erl_call1 (er_call1 (er_var rfl (Rp.mono (SF.of ((e319.trans e322).trans e325)) r0)) (by exact hp)) trivial) (fun p us _ e327 hn h1 rr => q p us _ (((e319.trans e322).trans e325).trans e327) (((e319.trans e322).trans e325).free hn) h1 (by rw [(show m_figure_range x0 x1 = (m_as_fractionsF (m_median_range x0)) from by unfold m_figure_range; rw [if_neg (by rw [hc320]; exact Bool.false_ne_true)]; rw [if_neg (by rw [hc323]; exact Bool.false_ne_true)]; rw [if_pos hc326])]; exact rr))
      ·
        exact s_retL (K := K) (erl_call1 (er_if (et_test (er_op (er_var rfl (Rp.mono (SF.of ((e319.trans e322).trans e325)) r1)) er_str rr_eqS)) (fun _ => (er_call1 (er_var rfl (Rp.mono (SF.of ((e319.trans e322).trans e325)) r0)) (by exact hp))) (fun _ => (er_call1 (er_var rfl (Rp.mono (SF.of ((e319.trans e322).trans e325)) r0)) (by exact hp)))) trivial) (fun p us _ e328 hn h1 rr => q p us _ (((e319.trans e322).trans e325).trans e328) (((e319.trans e322).trans e325).free hn) h1 (by rw [(show m_figure_range x0 x1 = (m_as_fractionsI (if (decide (x1 = ("least" : Str))) = true then (m_least_range x0) else (m_greatest_range x0))) from by unfold m_figure_range; rw [if_neg (by rw [hc320]; exact Bool.false_ne_true)]; rw [if_neg (by rw [hc323]; exact Bool.false_ne_true)]; rw [if_neg (by rw [hc326]; exact Bool.false_ne_true)])]; exact rr))
theorem fig_len (b : List (Int × Int)) (f : Str) : (m_figure_range b f).length = 2 := by
  unfold m_figure_range
  repeat' split
  all_goals rfl
theorem mid_den' (l : List Int) : 0 < (m_middle l).2 ∧ (m_middle l).2 ≤ 2 := by
  unfold m_middle
  exact frI_le (by decide)
theorem mean_den {b : List (Int × Int)} (h : BOk b) : (0 < (m_mean_range b).1.2 ∧ (m_mean_range b).1.2 ≤ 7) ∧ 0 < (m_mean_range b).2.2 ∧ (m_mean_range b).2.2 ≤ 7 := by
  have h1 := h.1; have h2 := h.2.1
  unfold m_mean_range
  have a := frI_le (x := (m_lows b).sum) (n := (b.length : Int)) (by omega)
  have c := frI_le (x := (m_highs b).sum) (n := (b.length : Int)) (by omega)
  exact ⟨⟨a.1, Int.le_trans a.2 (by omega)⟩, c.1, Int.le_trans c.2 (by omega)⟩
theorem fig_den {b : List (Int × Int)} (h : BOk b) (f : Str) : (0 < ((m_figure_range b f).getD 0 (0, 0)).2 ∧ ((m_figure_range b f).getD 0 (0, 0)).2 ≤ 7) ∧ 0 < ((m_figure_range b f).getD 1 (0, 0)).2 ∧ ((m_figure_range b f).getD 1 (0, 0)).2 ≤ 7 := by
  have m1 := mid_den' (m_lows b)
  have m2 := mid_den' (m_highs b)
  have mm := mean_den h
  unfold m_figure_range
  split
  · exact ⟨⟨(show (0 : Int) < 1 by decide), (show (1 : Int) ≤ 7 by decide)⟩, (show (0 : Int) < 1 by decide), (show (1 : Int) ≤ 7 by decide)⟩
  · split
    · exact mm
    · split
      · exact ⟨⟨m1.1, Int.le_trans m1.2 (by decide)⟩, m2.1, Int.le_trans m2.2 (by decide)⟩
      · split <;> exact ⟨⟨(show (0 : Int) < 1 by decide), (show (1 : Int) ≤ 7 by decide)⟩, (show (0 : Int) < 1 by decide), (show (1 : Int) ≤ 7 by decide)⟩
theorem ok_check_figure (T : Txt K mg) : Ok P w K mg base CX0 1 "check_figure" ["figure"] (sp1 K ((fun f => f ∈ (["sum", "mean", "median", "least", "greatest"] : List Str)) : Str → Prop) (fun _ => ())) := by
  refine ok_of T.d_check_figure sc_check_figure (bi1 fun _ _ _ _ _ _ _ => rfl) len_sp1 (fun f cdv A outer s H vs Q E hr h => ?_)
  have nd := sc_check_figure.nd
  obtain ⟨v0, x0, rfl, r0, hp, q⟩ := h
  obtain ⟨a_FIGURES, g_FIGURES, t_FIGURES⟩ := T.c_FIGURES
  refine ⟨_, (pss_one (ps_if (PW.pt (pw_or (pt_not (pt_val (pe_callB (k_isi K rfl) (by rfl) T.n_isinstance (by decide +kernel) (pa_cons (pv 0) (pa_cons (pe_bltn (v := .ty "str") (by rfl) T.n_str (by decide +kernel) rfl) pa_nil))))) (pw_or1 (pt_cmpR (k_notIn K rfl) (pv 0) (pe_glob (v := .ref a_FIGURES) rfl g_FIGURES rfl) (by rfl))))) (pss_one ps_never) pss_nil)), ?_⟩
  refine s_not (K := K) (et_or (et_not (et_B (er_isi (b := true) (er_var rfl r0) (show kitB "str" "str" = some true from by decide)))) (fun _ => et_test (er_op (er_var rfl r0) (er_kt t_FIGURES) (rr_inST (n := true))))) (by rw [show decide (x0 ∈ (["sum", "mean", "median", "least", "greatest"] : List Str)) = true from decide_eq_true hp]; rfl) (fun _ e => q .non _ e rfl)
def m_verdict (x0 : (Int × Int)) (x1 : (Int × Int)) (x2 : (Int × Int)) (x3 : (Int × Int)) : Str := (if (m_less x3 x0) = true then ("sure" : Str) else (if (m_less x2 x1) = true then ("possible" : Str) else ("never" : Str)))
theorem ok_verdict (T : Txt K mg) : Ok P w K mg base CX0 2 "verdict" ["low", "high", "other_low", "other_high"] (sp4 K ((fun a b c e => (a.2.natAbs < 2 ^ 63 ∧ b.2.natAbs < 2 ^ 63) ∧ c.2.natAbs < 2 ^ 63 ∧ e.2.natAbs < 2 ^ 63) : (Int × Int) → (Int × Int) → (Int × Int) → (Int × Int) → Prop) m_verdict) := by
  refine ok_of T.d_verdict sc_verdict (bi4 fun _ _ _ _ _ _ _ _ _ _ => rfl) len_sp4 (fun f cdv A outer s H vs Q E hr h => ?_)
  have nd := sc_verdict.nd
  obtain ⟨v0, v1, v2, v3, x0, x1, x2, x3, rfl, r0, r1, r2, r3, hp, q⟩ := h
  refine ⟨_, (pss_cons (ps_if (pt_val (pe_fn (ok_less T) (hr.mono (by decide)) pass0 (pa_cons (pv 3) (pa_cons (pv 0) pa_nil)))) (pss_one (ps_ret pe_str)) pss_nil)
      (pss_one (ps_ret (pe_ifExp (pt_val (pe_fn (ok_less T) (hr.mono (by decide)) pass0 (pa_cons (pv 2) (pa_cons (pv 1) pa_nil)))) pe_str pe_str)))), ?_⟩
  refine q_if (K := K) (et_B (er_call2 (er_var rfl r3) (er_var rfl r0) (by first | exact ⟨hp.2.2, hp.1.1⟩ | exact ⟨hp.2.1, hp.1.2⟩))) (fun hc330 _ e329 => ?_) (fun hc330 _ e329 => ?_)
  ·
    exact s_ret (K := K) er_str (fun u _ e331 rr => q u _ (e329.trans e331) (by rw [(show m_verdict x0 x1 x2 x3 = ("sure" : Str) from by unfold m_verdict; rw [if_pos hc330])]; exact rr))
  ·
    refine s_nxz ?_
    exact s_ret (K := K) (er_if (et_B (er_call2 (er_var rfl (Rp.mono (SF.of e329) r2)) (er_var rfl (Rp.mono (SF.of e329) r1)) (by first | exact ⟨hp.2.2, hp.1.1⟩ | exact ⟨hp.2.1, hp.1.2⟩))) (fun _ => er_str) (fun _ => er_str)) (fun u _ e332 rr => q u _ (e329.trans e332) (by rw [(show m_verdict x0 x1 x2 x3 = (if (m_less x2 x1) = true then ("possible" : Str) else ("never" : Str)) from by unfold m_verdict; rw [if_neg (by rw [hc330]; exact Bool.false_ne_true)])]; exact rr))
def m_is_more (x0 : (List (Int × Int))) (x1 : (List (Int × Int))) (x2 : Str) : Str := (m_verdict (((m_figure_range x0 x2)).getD ((0 : Int)).toNat (0, 0)) (((m_figure_range x0 x2)).getD ((1 : Int)).toNat (0, 0)) (((m_figure_range x1 x2)).getD ((0 : Int)).toNat (0, 0)) (((m_figure_range x1 x2)).getD ((1 : Int)).toNat (0, 0)))
theorem ok_is_more (T : Txt K mg) : Ok P w K mg base CX0 7 "is_more" ["one", "other", "figure"] (sp3 K ((fun a b f => BOk a ∧ BOk b ∧ f ∈ (["sum", "mean", "median", "least", "greatest"] : List Str)) : (List (Int × Int)) → (List (Int × Int)) → Str → Prop) m_is_more) := by
  refine ok_of T.d_is_more sc_is_more (bi3 fun _ _ _ _ _ _ _ _ _ => rfl) len_sp3 (fun f cdv A outer s H vs Q E hr h => ?_)
  have nd := sc_is_more.nd
  obtain ⟨v0, v1, v2, x0, x1, x2, rfl, r0, r1, r2, hp, q⟩ := h
  refine ⟨_, (pss_cons (ps_expr (pe_fn (ok_check_bounds T) (hr.mono (by decide)) pass0 (pa_cons (pv 0) pa_nil)))
      (pss_cons (ps_expr (pe_fn (ok_check_bounds T) (hr.mono (by decide)) pass0 (pa_cons (pv 1) pa_nil)))
      (pss_cons (ps_expr (pe_fn (ok_check_figure T) (hr.mono (by decide)) pass0 (pa_cons (pv 2) pa_nil)))
      (pss_cons (ps_par (i := 3) (j := 4) (by rfl) nd rfl rfl (by decide) rfl rfl (pa_cons (pe_frz (pe_fn (ok_figure_range T) (hr.mono (by decide)) pass0 (pa_cons (pv 0) (pa_cons (pv 2) pa_nil)))) (pa_cons (pe_frz (pe_fn (ok_figure_range T) (hr.mono (by decide)) pass0 (pa_cons (pv 1) (pa_cons (pv 2) pa_nil)))) pa_nil)) (by rfl))
      (pss_one (ps_ret (pe_fn (ok_verdict T) (hr.mono (by decide)) pass0 (pa_cons (pe_ix (k_ixl K rfl) (pv 3) pe_int (fun _ _ => rfl)) (pa_cons (pe_ix (k_ixl K rfl) (pv 3) pe_int (fun _ _ => rfl)) (pa_cons (pe_ix (k_ixl K rfl) (pv 4) pe_int (fun _ _ => rfl)) (pa_cons (pe_ix (k_ixl K rfl) (pv 4) pe_int (fun _ _ => rfl)) pa_nil))))))))))), ?_⟩
  refine q_drop (K := K) (er_call1 (er_var rfl r0) (by first | exact hp.1 | exact hp.2.1)) (fun _ e333 => ?_)
  refine q_drop (K := K) (er_call1 (er_var rfl (Rp.mono (SF.of e333) r1)) (by first | exact hp.1 | exact hp.2.1)) (fun _ e334 => ?_)
  refine q_drop (K := K) (er_call1 (er_var rfl (Rp.mono ((SF.of e333).trans (SF.of e334)) r2)) (by exact hp.2.2)) (fun _ e335 => ?_)
  refine q_par (K := K) (er_frz (erl_call2 (er_var rfl (Rp.mono (((SF.of e333).trans (SF.of e334)).trans (SF.of e335)) r0)) (er_var rfl (Rp.mono (((SF.of e333).trans (SF.of e334)).trans (SF.of e335)) r2)) (by first | exact hp.1 | exact hp.2.1))) (er_frz (erl_call2 (er_var rfl (Rp.mono (((SF.of e333).trans (SF.of e334)).trans (SF.of e335)) r1)) (er_var rfl (Rp.mono (((SF.of e333).trans (SF.of e334)).trans (SF.of e335)) r2)) (by first | exact hp.1 | exact hp.2.1))) (fun v339 v340 _ e336 r337 r338 => ?_)
  have r341 := (Rp.mono ((((SF.of e333).trans (SF.of e334)).trans (SF.of e335)).trans (SF.of e336)) r0)
  have r342 := (Rp.mono ((((SF.of e333).trans (SF.of e334)).trans (SF.of e335)).trans (SF.of e336)) r1)
  have r343 := (Rp.mono ((((SF.of e333).trans (SF.of e334)).trans (SF.of e335)).trans (SF.of e336)) r2)
  exact s_ret (K := K) (er_call4 (er_op (er_var rfl r337) er_int (rr_ixI (x := (((m_figure_range x0 x2)).getD ((0 : Int)).toNat (0, 0))) (n := ((0 : Int)).toNat) (by rfl) (by exact getD_at (by rw [fig_len]; decide)))) (er_op (er_var rfl r337) er_int (rr_ixI (x := (((m_figure_range x0 x2)).getD ((1 : Int)).toNat (0, 0))) (n := ((1 : Int)).toNat) (by rfl) (by exact getD_at (by rw [fig_len]; decide)))) (er_op (er_var rfl r338) er_int (rr_ixI (x := (((m_figure_range x1 x2)).getD ((0 : Int)).toNat (0, 0))) (n := ((0 : Int)).toNat) (by rfl) (by exact getD_at (by rw [fig_len]; decide)))) (er_op (er_var rfl r338) er_int (rr_ixI (x := (((m_figure_range x1 x2)).getD ((1 : Int)).toNat (0, 0))) (n := ((1 : Int)).toNat) (by rfl) (by exact getD_at (by rw [fig_len]; decide)))) (by have h1 := fig_den hp.1 x2; have h2 := fig_den hp.2.1 x2; exact ⟨⟨by show Int.natAbs (Prod.snd (List.getD _ 0 _)) < _; omega, by show Int.natAbs (Prod.snd (List.getD _ 1 _)) < _; omega⟩, by show Int.natAbs (Prod.snd (List.getD _ 0 _)) < _; omega, by show Int.natAbs (Prod.snd (List.getD _ 1 _)) < _; omega⟩)) (fun u _ e344 rr => q u _ ((((e333.trans e334).trans e335).trans e336).trans e344) rr)
def m_can_reach (x0 : (List (Int × Int))) (x1 : Str) (x2 : (Int × Int)) : Bool := ((!(m_less x2 (((m_figure_range x0 x1)).getD 0 (0, 0)))) && (!(m_less (((m_figure_range x0 x1)).getD 1 (0, 0)) x2)))
theorem ok_can_reach (T : Txt K mg) : Ok P w K mg base CX0 7 "can_reach" ["bounds", "figure", "number"] (sp3 K ((fun b f n => BOk b ∧ f ∈ (["sum", "mean", "median", "least", "greatest"] : List Str) ∧ 0 < n.2 ∧ n.2 < 2 ^ 62) : (List (Int × Int)) → Str → (Int × Int) → Prop) m_can_reach) := by
  refine ok_of T.d_can_reach sc_can_reach (bi3 fun _ _ _ _ _ _ _ _ _ => rfl) len_sp3 (fun f cdv A outer s H vs Q E hr h => ?_)
  have nd := sc_can_reach.nd
  obtain ⟨v0, v1, v2, x0, x1, x2, rfl, r0, r1, r2, hp, q⟩ := h
  refine ⟨_, (pss_cons (ps_expr (pe_fn (ok_check_bounds T) (hr.mono (by decide)) pass0 (pa_cons (pv 0) pa_nil)))
      (pss_cons (ps_expr (pe_fn (ok_check_figure T) (hr.mono (by decide)) pass0 (pa_cons (pv 1) pa_nil)))
      (pss_cons (ps_if (PW.pt (pw_or (pt_not (pt_val (pe_callB (k_isi K rfl) (by rfl) T.n_isinstance (by decide +kernel) (pa_cons (pv 2) (pa_cons (pe_bltn (v := .ty "tuple") (by rfl) T.n_tuple (by decide +kernel) rfl) pa_nil))))) (pw_or (pt_cmpR op_ne (pe_callB (k_len K rfl) (by rfl) T.n_len PySem.boot_len (pa_cons (pv 2) pa_nil)) pe_int (nomark _)) (pw_or1 (pt_not (pt_val (pe_callB (k_all K rfl rfl) (by rfl) T.n_all (by decide +kernel) (pa_cons (pe_frz (pe_lc (own := [("part", 3)]) rfl nd (k_pt K rfl (pv 2)) (blkOk_by (N := N_can_reach) (sc := defScope s_can_reach) (by decide +kernel)) (fun _ _ _ _ _ => (pg_name (i := 3) nd rfl (.inl rfl) (.inr rfl))) (fun _ _ _ _ _ => pts_nil) (fun _ _ _ _ _ => (pe_callB (k_isi K rfl) (by rfl) T.n_isinstance (by decide +kernel) (pa_cons (pv 3) (pa_cons (pe_bltn (v := .ty "int") (by rfl) T.n_int (by decide +kernel) rfl) pa_nil)))))) pa_nil)))))))) (pss_one ps_never) pss_nil)
      (pss_cons (ps_if (PW.pt (pw_or (pt_cmpR (k_in K rfl) pe_bl (pe_frz (pe_lc (own := [("part", 3)]) rfl nd (k_pt K rfl (pv 2)) (blkOk_by (N := N_can_reach) (sc := defScope s_can_reach) (by decide +kernel)) (fun _ _ _ _ _ => (pg_name (i := 3) nd rfl (.inl rfl) (.inr rfl))) (fun _ _ _ _ _ => pts_nil) (fun _ _ _ _ _ => (pe_callB (k_isi K rfl) (by rfl) T.n_isinstance (by decide +kernel) (pa_cons (pv 3) (pa_cons (pe_bltn (v := .ty "bool") (by rfl) T.n_bool (by decide +kernel) rfl) pa_nil)))))) (by rfl)) (pw_or1 (pt_cmpR op_lt (pe_ix (k_ixt K rfl) (pv 2) pe_int (fun _ _ => rfl)) pe_int (nomark _))))) (pss_one ps_never) pss_nil)
      (pss_cons (ps_asg (pe_frz (pe_fn (ok_figure_range T) (hr.mono (by decide)) pass0 (pa_cons (pv 0) (pa_cons (pv 1) pa_nil)))) (k_gl K rfl 2 rfl (pgs_cons (pg_name (i := 4) nd rfl (.inl rfl) (.inr rfl)) (pgs_cons (pg_name (i := 5) nd rfl (.inl rfl) (.inr rfl)) pgs_nil))))
      (pss_one (ps_ret (pe_and (pe_not (pe_fn (ok_less T) (hr.mono (by decide)) pass0 (pa_cons (pv 2) (pa_cons (pv 4) pa_nil)))) (pe_one (pe_not (pe_fn (ok_less T) (hr.mono (by decide)) pass0 (pa_cons (pv 5) (pa_cons (pv 2) pa_nil))))))))))))), ?_⟩
  refine q_drop (K := K) (er_call1 (er_var rfl r0) (by first | exact hp | exact hp.1)) (fun _ e355 => ?_)
  refine q_drop (K := K) (er_call1 (er_var rfl (Rp.mono (SF.of e355) r1)) (by exact hp.2.1)) (fun _ e356 => ?_)
  refine q_not (K := K) (et_or (et_not (et_B (er_isi (b := true) (er_var rfl (Rp.mono (SF.of (e355.trans e356)) r2)) (show kitB "tuple" "tuple" = some true from by decide)))) (fun _ => (et_or (et_test (er_op (er_lenP (er_var rfl (Rp.mono (SF.of (e355.trans e356)) r2))) er_int rr_neI)) (fun _ => (et_not (et_B (er_all (er_frz (erl_lm1 (f := fun (x358 : Int) => true) (src_two (er_var rfl (Rp.mono (SF.of (e355.trans e356)) r2))) (by simp) (by intros; rfl) (fun x358 hx359 v360 _ e357 r361 => (er_isi (b := true) (er_var rfl r361) (show kitB "int" "int" = some true from by decide)))))))))))) (by first | (simp; done) | (simp [neg]; omega)) (fun _ e362 => ?_)
  refine q_not (K := K) (et_or (et_test (er_op er_bl (er_frz (erl_lm1 (f := fun (x364 : Int) => false) (src_two (er_var rfl (Rp.mono (SF.of ((e355.trans e356).trans e362)) r2))) (by simp) (by intros; rfl) (fun x364 hx365 v366 _ e363 r367 => (er_isi (b := false) (er_var rfl r367) (show kitB "int" "bool" = some false from by decide))))) (rr_inB (n := false)))) (fun _ => (et_test (er_op (er_op (er_var rfl (Rp.mono (SF.of ((e355.trans e356).trans e362)) r2)) er_int rr_ixP1) er_int rr_lt)))) (by first | (simp; done) | (simp [neg]; omega)) (fun _ e368 => ?_)
  refine q_unl (K := K) (d := (0, 0)) (er_frz (erl_call2 (er_var rfl (Rp.mono (SF.of (((e355.trans e356).trans e362).trans e368)) r0)) (er_var rfl (Rp.mono (SF.of (((e355.trans e356).trans e362).trans e368)) r1)) (by exact hp.1))) (by exact fig_len _ _) (fun v372 v373 _ e369 r370 r371 => ?_)
  exact s_ret (K := K) (er_andV (er_notV (er_call2 (er_var rfl (Rp.mono (SF.of ((((e355.trans e356).trans e362).trans e368).trans e369)) r2)) (er_var rfl r370) (by first | (have h1 := fig_den hp.1; have h2 := h1 x1; have h3 := hp.2.2; exact ⟨by omega, by omega⟩)))) (fun _ => (er_notV (er_call2 (er_var rfl r371) (er_var rfl (Rp.mono (SF.of ((((e355.trans e356).trans e362).trans e368).trans e369)) r2)) (by first | (have h1 := fig_den hp.1; have h2 := h1 x1; have h3 := hp.2.2; exact ⟨by omega, by omega⟩)))))) (fun u _ e374 rr => q u _ (((((e355.trans e356).trans e362).trans e368).trans e369).trans e374) rr)
theorem mem_enum {α : Type} [Rp α] {l : List α} {p : Nat × α} (h : p ∈ enumL l) : p.2 ∈ l := by
  obtain ⟨i, hi⟩ := List.getElem?_of_mem h
  exact List.mem_of_getElem? (enumL_get hi).1
theorem figs_mem {l : List (List (Int × Int))} {f : Str} {y : List (Int × Int)} (hp : ∀ b ∈ l, BOk b) (h : y ∈ l.map (fun b => m_figure_range b f)) : y.length = 2 ∧ 0 < (y.getD 0 (0, 0)).2 ∧ (y.getD 0 (0, 0)).2 ≤ 7 ∧ 0 < (y.getD 1 (0, 0)).2 ∧ (y.getD 1 (0, 0)).2 ≤ 7 := by
  obtain ⟨b, hb, rfl⟩ := List.mem_map.mp h
  have := fig_den (hp b hb) f
  exact ⟨fig_len _ _, this.1.1, this.1.2, this.2.1, this.2.2⟩
def m_best_figures (x0 : (List (List (Int × Int)))) (x1 : Str) : (List Nat) := (mapIf (fun (x419 : (Nat × (List (Int × Int)))) => (!(((x0.map (fun (x411 : (List (Int × Int))) => (m_figure_range x411 x1))).map (fun (x426 : (List (Int × Int))) => (m_less ((x419.2).getD ((1 : Int)).toNat (0, 0)) ((x426).getD ((0 : Int)).toNat (0, 0))))).any id))) (fun (x419 : (Nat × (List (Int × Int)))) => x419.1) (enumL (x0.map (fun (x411 : (List (Int × Int))) => (m_figure_range x411 x1)))))
theorem ok_best_figures (T : Txt K mg) : Ok P w K mg base CX0 7 "best_figures" ["lists", "figure"] (sl2 K ((fun l f => 1 ≤ l.length ∧ l.length ≤ 5 ∧ (∀ b ∈ l, BOk b) ∧ f ∈ (["sum", "mean", "median", "least", "greatest"] : List Str)) : (List (List (Int × Int))) → Str → Prop) m_best_figures) := by
  refine ok_of T.d_best_figures sc_best_figures (bi2 fun _ _ _ _ _ _ _ _ => rfl) len_sl2 (fun f cdv A outer s H vs Q E hr h => ?_)
  have nd := sc_best_figures.nd
  obtain ⟨v0, v1, x0, x1, rfl, r0, r1, hp, q⟩ := h
  refine ⟨_, (pss_cons (ps_if (PW.pt (pw_or (pt_not (pt_val (pe_callB (k_isi K rfl) (by rfl) T.n_isinstance (by decide +kernel) (pa_cons (pv 0) (pa_cons (pe_bltn (v := .ty "list") (by rfl) T.n_list (by decide +kernel) rfl) pa_nil))))) (pw_or1 (pt_not (pt_chain op_le op_le pe_int (pe_callB (k_len K rfl) (by rfl) T.n_len PySem.boot_len (pa_cons (pv 0) pa_nil)) pe_int))))) (pss_one ps_never) pss_nil)
      (pss_cons (ps_for PassesOwn.never rfl (k_pl K rfl (pv 0)) (pg_name (i := 2) nd rfl (.inl rfl) (.inr rfl)) (pss_one (ps_expr (pe_fn (ok_check_bounds T) (hr.mono (by decide)) pass0 (pa_cons (pv 2) pa_nil)))))
      (pss_cons (ps_expr (pe_fn (ok_check_figure T) (hr.mono (by decide)) pass0 (pa_cons (pv 1) pa_nil)))
      (pss_cons (ps_set (i := 3) nd rfl (.inr rfl) (pe_frz (pe_lc (own := [("bounds", 2)]) rfl nd (k_pl K rfl (pv 0)) (blkOk_by (N := N_best_figures) (sc := defScope s_best_figures) (by decide +kernel)) (fun _ _ _ _ _ => (pg_name (i := 2) nd rfl (.inl rfl) (.inr rfl))) (fun _ _ _ _ _ => pts_nil) (fun _ _ _ _ _ => (pe_frz (pe_fn (ok_figure_range T) (hr.mono (by decide)) pass0 (pa_cons (pv 2) (pa_cons (pv 1) pa_nil))))))))
      (pss_one (ps_ret (pe_lc (own := [("k", 4), ("one", 5)]) rfl nd (k_pe K rfl (by rfl) T.n_enumerate (pa_cons (pv 3) pa_nil)) (blkOk_by (N := N_best_figures) (sc := defScope s_best_figures) (by decide +kernel)) (fun _ _ _ _ _ => (k_gt K rfl 2 rfl (pgs_cons (pg_name (i := 4) nd rfl (.inl rfl) (.inr rfl)) (pgs_cons (pg_name (i := 5) nd rfl (.inr rfl) (.inl rfl)) pgs_nil)))) (fun _ _ _ _ _ => (pts_one (pt_not (pt_val (pe_callB (k_any K rfl rfl) (by rfl) T.n_any (by decide +kernel) (pa_cons (pe_frz (pe_lc (own := [("other", 6)]) rfl nd (k_pl K rfl (pv 3)) (blkOk_by (N := N_best_figures) rfl) (fun _ _ _ _ _ => (pg_name (i := 6) nd rfl (.inl rfl) (.inr rfl))) (fun _ _ _ _ _ => pts_nil) (fun _ _ _ _ _ => (pe_fn (ok_less T) (hr.mono (by decide)) pass0 (pa_cons (pe_ix (k_ixl K rfl) (pv 5) pe_int (fun _ _ => rfl)) (pa_cons (pe_ix (k_ixl K rfl) (pv 6) pe_int (fun _ _ => rfl)) pa_nil)))))) pa_nil)))))) (fun _ _ _ _ _ => (pv 4))))))))), ?_⟩
  refine q_not (K := K) (et_or (et_not (et_B (er_isi (b := true) (er_var rfl r0) (show kitB "list" "list" = some true from by decide)))) (fun _ => (et_not (et_test (er_chain er_int (er_up (er_len (er_var rfl r0))) er_int rr_le rr_le))))) (by have h1 := hp.1; have h2 := hp.2.1; simp; omega) (fun _ e392 => ?_)
  -- for bounds in lists
  refine q_for (K := K) (src_list (er_var rfl (Rp.mono (SF.of e392) r0))) (fun H1 k σ' H' => ∃ (y394 : Option V), σ' = [some v0, some v1, y394, none, none, none, none] ∧ Mus [] H1 H') (fun H1 e => ⟨_, rfl, Mus.refl _⟩) (fun _ _ _ _ h => by obtain ⟨_, _, m⟩ := h; exact m.sf) (fun H1 k402 bounds393 σ' H' vbounds393 _ e399 hx398 hP e400 rbounds393 => ?_) (fun H1 σ' H' e399 hP => ?_)
  ·
    obtain ⟨y394, rfl, m401⟩ := hP
    refine s_gn ?_
    have hbounds393 := List.mem_of_getElem? hx398
    refine q_last ?_
    have r404 := (Rp.mono ((((SF.of e392).trans (SF.of e399)).trans m401.sf).trans (SF.of e400)) r0)
    have r405 := (Rp.mono ((((SF.of e392).trans (SF.of e399)).trans m401.sf).trans (SF.of e400)) r1)
    refine q_drop (K := K) (er_call1 (er_var rfl rbounds393) (by exact hp.2.2.1 _ (by assumption))) (fun _ e406 => ?_)
    refine s_nx ?_
    exact ⟨_, rfl, (((Mus.baseS (Mus.refl _) m401 all0).trans (Mus.of e400)).trans (Mus.of e406))⟩
  ·
    obtain ⟨y394, rfl, m401⟩ := hP
    refine q_drop (K := K) (er_call1 (er_var rfl (Rp.mono (((SF.of e392).trans (SF.of e399)).trans m401.sf) r1)) (by exact hp.2.2.2)) (fun _ e407 => ?_)
    have r408 := (Rp.mono ((((SF.of e392).trans (SF.of e399)).trans m401.sf).trans (SF.of e407)) r0)
    have r409 := (Rp.mono ((((SF.of e392).trans (SF.of e399)).trans m401.sf).trans (SF.of e407)) r1)
    refine q_set (K := K) (er_frz (erl_lm1 (f := fun (x411 : (List (Int × Int))) => (m_figure_range x411 x1)) (src_list (er_var rfl r408)) (by first | (have := hp.2.1; omega) | (have := hp.2.1; simp [enumL_len]; omega)) (by intros; rfl) (fun x411 hx412 v413 _ e410 r414 => (er_frz (erl_call2 (er_var rfl r414) (er_var rfl (Rp.mono (SF.of e410) r409)) (by exact hp.2.2.1 _ (by assumption))))))) (fun v417 _ e415 r416 => ?_)
    exact s_retL (K := K) (erl_lc2 (c := fun (x419 : (Nat × (List (Int × Int)))) => (!(((x0.map (fun (x411 : (List (Int × Int))) => (m_figure_range x411 x1))).map (fun (x426 : (List (Int × Int))) => (m_less ((x419.2).getD ((1 : Int)).toNat (0, 0)) ((x426).getD ((0 : Int)).toNat (0, 0))))).any id))) (f := fun (x419 : (Nat × (List (Int × Int)))) => x419.1) (src_enum (er_var rfl r416)) (by first | (have := hp.2.1; omega) | (have := hp.2.1; simp [enumL_len]; omega)) (by intros; rfl) (fun x419 hx420 v421 v422 _ e418 r423 r424 => ⟨(et_not (et_B (er_any (er_frz (erl_lm1 (f := fun (x426 : (List (Int × Int))) => (m_less ((x419.2).getD ((1 : Int)).toNat (0, 0)) ((x426).getD ((0 : Int)).toNat (0, 0)))) (src_list (er_var rfl (Rp.mono (SF.of e418) r416))) (by first | (have := hp.2.1; omega) | (have := hp.2.1; simp [enumL_len]; omega)) (by intros; rfl) (fun x426 hx427 v428 _ e425 r429 => (er_call2 (er_op (er_var rfl (Rp.mono (SF.of e425) r424)) er_int (rr_ixI (x := ((x419.2).getD ((1 : Int)).toNat (0, 0))) (n := ((1 : Int)).toNat) (by rfl) (by first | exact getD_at (by rw [(figs_mem hp.2.2.1 (mem_enum (by assumption))).1]; decide) | exact getD_at (by rw [(figs_mem hp.2.2.1 (by assumption)).1]; decide)))) (er_op (er_var rfl r429) er_int (rr_ixI (x := ((x426).getD ((0 : Int)).toNat (0, 0))) (n := ((0 : Int)).toNat) (by rfl) (by first | exact getD_at (by rw [(figs_mem hp.2.2.1 (mem_enum (by assumption))).1]; decide) | exact getD_at (by rw [(figs_mem hp.2.2.1 (by assumption)).1]; decide)))) (by have h1 := (figs_mem hp.2.2.1 (mem_enum (by assumption))).2; have h2 := (figs_mem hp.2.2.1 (by assumption)).2; exact ⟨by show Int.natAbs (Prod.snd (List.getD _ 1 _)) < _; omega, by show Int.natAbs (Prod.snd (List.getD _ 0 _)) < _; omega⟩)))))))), fun _ => (er_var rfl r423)⟩)) (fun p us _ e430 hn h1 rr => q p us _ (Mus.same0 ((((Mus.baseS (((Mus.refl _).trans (Mus.of e392)).trans (Mus.of e399)) m401 all0).trans (Mus.of e407)).trans (Mus.of e415)).trans (Mus.of e430))) ((Mus.same0 (((Mus.baseS (((Mus.refl _).trans (Mus.of e392)).trans (Mus.of e399)) m401 all0).trans (Mus.of e407)).trans (Mus.of e415))).free hn) h1 rr)
theorem ok__law_start (T : Txt K mg) : Ok P w K mg base CX0 1 "_law_start" ["_law_script"] (spStart K) := by
  refine ok_of T.d__law_start sc__law_start (bi1 fun _ _ _ _ _ _ _ => rfl) (fun vs H Q E h => by obtain ⟨_, _, rfl, _⟩ := h; rfl) (fun f cdv A outer s H vs Q E hr h => ?_)
  have nd := sc__law_start.nd
  obtain ⟨a, ns, rfl, hs, hz, q⟩ := h
  refine ⟨_, (pss_one (ps_ret (pe_lst (pa_cons (pe_ifExp (pt_cmpR (k_neD K rfl hr.units) (pv 0) (pe_lst pa_nil) (nomark _)) (pe_callTy (k_list K rfl) (by rfl) T.n_list (by decide +kernel) (pa_cons (pv 0) pa_nil)) (pe_lst (pa_cons pe_int pa_nil))) (pa_cons pe_int pa_nil))))), ?_⟩
  refine ⟨.ref a, rfl, Nat.zero_le _, fun e he => ?_⟩
  have hs1 : SqL K (upd H e (.lst [])) a (ns.map V.int) := (same_new he : L2.Same _ _).seq hs
  refine ⟨_, _, .lst hs1 (dp_all (rl_of_ints ns)), .lst (sq_lst upd_same) .nil, shaped_of (α := List Int) (Rt.all ns) (by decide), shaped_of (α := List Int) (x := []) (Rt.all _) (by decide), _, rfl, ite2 (fun c => ?_) (fun c => ?_)⟩
  · refine ⟨.ref a, rfl, a, _, rfl, .inl hs1, fun pn hn => ?_⟩
    have s2 : L2.Same H (upd (upd H e (.lst [])) pn (.lst (ns.map V.int))) := (same_new he).trans (same_new hn)
    refine ⟨by show 2 ≤ sizeLine; decide, fun pd hd => ?_⟩
    refine q pd pn _ (s2.trans (same_new hd)) (s2.free hd) ((same_new he : L2.Same _ _).free hn) ⟨ns, 0, upd_same, upd_get upd_same (ne_of_none upd_same hd), ?_, by omega, by omega, (ne_of_none upd_same hd).symm⟩
    cases ns with
    | nil => exact absurd c (by decide)
    | cons x r => exact Nat.succ_pos _
  · refine ⟨by show 1 ≤ sizeLine; decide, fun pn hn => ?_⟩
    have s2 : L2.Same H (upd (upd H e (.lst [])) pn (.lst [.int 0])) := (same_new he).trans (same_new hn)
    refine ⟨by show 2 ≤ sizeLine; decide, fun pd hd => ?_⟩
    exact q pd pn _ (s2.trans (same_new hd)) (s2.free hd) ((same_new he : L2.Same _ _).free hn) ⟨[0], 0, upd_same, upd_get upd_same (ne_of_none upd_same hd), by decide, by decide, by omega, (ne_of_none upd_same hd).symm⟩
theorem ok__law_draw (T : Txt K mg) : Ok P w K mg base CX0 1 "_law_draw" ["_law_draws", "_law_limit"] spDraw := by
  refine ok_of T.d__law_draw sc__law_draw (bi2 fun _ _ _ _ _ _ _ _ => rfl) (fun vs H Q E h => by obtain ⟨_, _, _, rfl, _⟩ := h; rfl) (fun f cdv A outer s H vs Q E hr h => ?_)
  have nd := sc__law_draw.nd
  obtain ⟨pd, pn, lim, rfl, ⟨ns, k, h1, h2, hl, hl2, hk, hne⟩, l0, l1, q⟩ := h
  refine ⟨_, (pss_cons (ps_set (i := 2) nd rfl (.inl rfl) (pe_ix (k_ixl K rfl) (pv 0) pe_int (fun _ _ => rfl)))
      (pss_cons (ps_asg (pe_op op_add (pe_ix (k_ixl K rfl) (pv 0) pe_int (fun _ _ => rfl)) pe_int) (pg_sub (pv 0) pe_int set_list))
      (pss_cons (ps_set (i := 3) nd rfl (.inl rfl) (pe_op op_mod (pe_ix (k_ixl K rfl) (pv 0) pe_int (fun _ _ => rfl)) (pe_callB (k_len K rfl) (by rfl) T.n_len PySem.boot_len (pa_cons (pv 2) pa_nil))))
      (pss_cons (ps_set (i := 4) nd rfl (.inl rfl) (pe_ix (k_ixl K rfl) (pv 2) (pv 3) (fun _ _ => rfl)))
      (pss_cons (ps_if (pt_cmpR op_ge (pv 4) pe_int (nomark _)) (pss_cons (ps_asg (pe_op op_fdiv (pv 4) (pv 1)) (pg_sub (pv 2) (pv 3) set_list)) (pss_one (ps_ret (pe_op op_mod (pv 4) (pv 1))))) pss_nil)
      (pss_cons (ps_set (i := 5) nd rfl (.inl rfl) (pe_op op_mod (pe_op op_add (pv 4) (pe_op op_mul pe_int (pe_ix (k_ixl K rfl) (pv 0) pe_int (fun _ _ => rfl)))) pe_int))
      (pss_cons (ps_set (i := 5) nd rfl (.inl rfl) (pe_op op_mod (pe_op op_pow (pv 5) pe_int) pe_int))
      (pss_one (ps_ret (pe_op op_mod (pe_op op_fdiv (pe_op op_mod (pe_op op_add (pe_op op_mul (pe_op op_fdiv (pv 5) pe_int) pe_int) (pv 5)) pe_int) pe_int) (pv 1))))))))))), ?_⟩
  refine ⟨.ref pd, rfl, pd, _, 0, .ref pn, rfl, rfl, sq_lst h1, atI_nat (j := 0) rfl, ?_⟩
  refine ⟨.ref pd, rfl, pd, _, 1, .int k, rfl, rfl, sq_lst h1, atI_nat (j := 1) rfl, k, 1, rfl, rfl, .ref pd, rfl, pd, _, 1, 1, rfl, rfl, h1, rfl, ?_⟩
  have g1 : (upd H pd (.lst [.ref pn, .int (k + 1)])) pd = some (.lst [.ref pn, .int (k + 1)]) := upd_same
  have g2 : (upd H pd (.lst [.ref pn, .int (k + 1)])) pn = some (.lst (ns.map V.int)) := upd_get h2 hne.symm
  have m1 : DM pd pn H (upd H pd (.lst [.ref pn, .int (k + 1)])) := ⟨SF.lst h1, fun q o n _ e => upd_get e n⟩
  have d1 : Dr (upd H pd (.lst [.ref pn, .int (k + 1)])) pd pn := ⟨ns, k + 1, g1, g2, hl, hl2, by omega, hne⟩
  show tSeq _ _ _ _ (upd H pd (.lst [.ref pn, .int (k + 1)]))
  generalize upd H pd (.lst [.ref pn, .int (k + 1)]) = H1 at g1 g2 m1 d1
  have hlen : (ns.map V.int).length = ns.length := List.length_map ..
  refine ⟨.ref pd, rfl, pd, _, 1, .int (k + 1), rfl, rfl, sq_lst g1, atI_nat (j := 1) rfl, .ref pn, rfl, pn, _, rfl, .inl (sq_lst g2), k + 1, _, rfl, rfl, (by rw [hlen]; omega), ?_⟩
  obtain ⟨m, hm, hm2⟩ : ∃ m : Nat, (k + 1) % ((ns.map V.int).length : Int) = (m : Int) ∧ m < ns.length := by
    have a := Int.emod_nonneg (k + 1) (show ((ns.map V.int).length : Int) ≠ 0 by rw [hlen]; omega)
    have b := Int.emod_lt_of_pos (k + 1) (show (0 : Int) < ((ns.map V.int).length : Int) by rw [hlen]; omega)
    exact ⟨((k + 1) % ((ns.map V.int).length : Int)).toNat, by omega, by rw [hlen] at b ⊢; omega⟩
  have hc : (ns.map V.int)[m]? = some (.int ns[m]) := by rw [List.getElem?_map, List.getElem?_eq_getElem hm2]; rfl
  refine ⟨.ref pn, rfl, .int ((k + 1) % ((ns.map V.int).length : Int)), rfl, pn, _, _, _, rfl, rfl, sq_lst g2, at_of hm hc, ?_⟩
  refine ⟨.int ns[m], rfl, ns[m], 1000000000000000000, rfl, rfl, _, rfl, ite2 (fun _ => ?_) (fun _ => ?_)⟩
  · refine ⟨.int ns[m], rfl, .int lim, rfl, ns[m], lim, rfl, rfl, ⟨l0, by omega⟩, .ref pn, rfl, .int ((k + 1) % ((ns.map V.int).length : Int)), rfl, pn, _, _, m, rfl, rfl, g2, ?_, ?_⟩
    · rw [hm, hlen]; unfold ixN; rw [if_pos (by omega), if_pos (by omega)]; simp
    · refine ⟨.int ns[m], rfl, .int lim, rfl, ns[m], lim, rfl, rfl, l0, ?_⟩
      have e : (ns.map V.int).set m (.int (ns[m] / lim)) = (ns.set m (ns[m] / lim)).map V.int := by rw [List.map_set]
      rw [e]
      refine q _ _ (Int.emod_nonneg _ (by omega)) (Int.emod_lt_of_pos _ l0) (m1.trans ⟨SF.lst g2, fun q o _ n e => upd_get e n⟩) ⟨_, k + 1, upd_get g1 hne, upd_same, by rw [List.length_set]; exact hl, by rw [List.length_set]; exact hl2, by omega, hne⟩
  · refine ⟨.int ns[m], rfl, .ref pd, rfl, pd, _, 1, .int (k + 1), rfl, rfl, sq_lst g1, atI_nat (j := 1) rfl, 104729, k + 1, rfl, rfl, .inl ⟨by decide, by decide⟩, ns[m], _, rfl, rfl, _, _, rfl, rfl, (show (0 : Int) < 4294967291 by decide), ?_⟩
    have x0 : 0 ≤ (ns[m] + 104729 * (k + 1)) % 4294967291 := Int.emod_nonneg _ (by decide)
    have x1 : (ns[m] + 104729 * (k + 1)) % 4294967291 < 4294967291 := Int.emod_lt_of_pos _ (by decide)
    refine ⟨_, rfl, (ns[m] + 104729 * (k + 1)) % 4294967291, 5, rfl, rfl, ⟨by decide, by decide, by omega⟩, _, _, rfl, rfl, (show (0 : Int) < 4294967279 by decide), ?_⟩
    refine ⟨_, rfl, _, 64, rfl, rfl, ⟨by decide, by decide⟩, _, 69621, rfl, rfl, .inr ⟨by decide, by decide⟩, _, rfl, _, _, rfl, rfl, _, _, rfl, rfl, (show (0 : Int) < 4294967231 by decide), _, 8, rfl, rfl, ⟨by decide, by decide⟩, .int lim, rfl, _, lim, rfl, rfl, l0, ?_⟩
    exact q _ _ (Int.emod_nonneg _ (by omega)) (Int.emod_lt_of_pos _ l0) m1 d1
theorem ok__law_pick {α : Type} [Rp α] (T : Txt K mg) : Ok P w K mg base CX0 2 "_law_pick" ["_law_draws", "_law_choices_here"] (spPick K (α := α)) := by
  refine ok_of T.d__law_pick sc__law_pick (bi2 fun _ _ _ _ _ _ _ _ => rfl) (fun vs H Q E h => by obtain ⟨_, _, _, _, rfl, _⟩ := h; rfl) (fun f cdv A outer s H vs Q E hr h => ?_)
  have nd := sc__law_pick.nd
  obtain ⟨pd, pn, v, l, rfl, dr, r1, h0, h1, q⟩ := h
  refine ⟨_, (pss_one (ps_ret (pe_ix (k_ixl K rfl) (pv 1) (pe_fn (ok__law_draw T) (hr.mono (by decide)) pass0 (pa_cons (pv 0) (pa_cons (pe_callB (k_len K rfl) (by rfl) T.n_len PySem.boot_len (pa_cons (pv 1) pa_nil)) pa_nil))) (fun _ _ => rfl)))), ?_⟩
  refine s_retP (K := K) (pd := pd) (pn := pn) dr (ep_op (P := fun (x : List α) => x = l) (P2 := fun _ (y : Int) => 0 ≤ y ∧ y < (l.length : Int)) (f := fun _ (y : Int) => if h : y.toNat < l.length then l[y.toNat] else l[0]) (ep_of fun _ m => er_var rfl (Rp.mono m.sf r1)) (fun _ _ => ep_draw (fun _ m => er_up (er_len (er_var rfl (Rp.mono m.sf r1)))) (sub_dr rfl) (by omega) (by omega)) (fun x y hx hy => by
      subst hx
      have hl : y.toNat < x.length := by omega
      rw [dif_pos hl]
      exact rr_ixI (n := y.toNat) (by omega) (List.getElem?_eq_getElem hl))) (fun v H1 z m d hz r => ?_)
  obtain ⟨x, y, hx, hy, rfl⟩ := hz
  have hl : y.toNat < l.length := by omega
  rw [dif_pos hl] at r
  exact q _ v H1 (List.getElem_mem hl) m d r
def m__law_true (x0 : Bool) (x1 : Bool) : Bool := (true && (decide (x0 = x1)))
theorem ok__law_true (T : Txt K mg) : Ok P w K mg base CX0 1 "_law_true" ["_law_value", "_law_expected"] (sp2 K ((fun _ _ => True) : Bool → Bool → Prop) m__law_true) := by
  refine ok_of T.d__law_true sc__law_true (bi2 fun _ _ _ _ _ _ _ _ => rfl) len_sp2 (fun f cdv A outer s H vs Q E hr h => ?_)
  have nd := sc__law_true.nd
  obtain ⟨v0, v1, x0, x1, rfl, r0, r1, hp, q⟩ := h
  refine ⟨_, (pss_one (ps_ret (pe_and (pe_callB (k_isi K rfl) (by rfl) T.n_isinstance (by decide +kernel) (pa_cons (pv 0) (pa_cons (pe_bltn (v := .ty "bool") (by rfl) T.n_bool (by decide +kernel) rfl) pa_nil))) (pe_one (pe_cmpR op_eq (pv 0) (pv 1) (nomark _)))))), ?_⟩
  exact s_ret (K := K) (er_andV (er_isi (b := true) (er_var rfl r0) (show kitB "bool" "bool" = some true from by decide)) (fun _ => (er_op (er_var rfl r0) (er_var rfl r1) rr_eqB))) (fun u _ e431 rr => q u _ e431 rr)
theorem ok__law_choices (T : Txt K mg) : Ok P w K mg base CX0 1 "_law_choices" ["_law_bounds"] (sp1 K ((fun b => Few b) : (List (Int × Int)) → Prop) rowsOf) := by
  refine ok_of T.d__law_choices sc__law_choices (bi1 fun _ _ _ _ _ _ _ => rfl) len_sp1 (fun f cdv A outer s H vs Q E hr h => ?_)
  have nd := sc__law_choices.nd
  obtain ⟨v0, x0, rfl, r0, hp, q⟩ := h
  refine ⟨_, (pss_cons (ps_set (i := 1) nd rfl (.inl rfl) (pe_frz (pe_lst (pa_cons (pe_frz (pe_lst pa_nil)) pa_nil))))
      (pss_cons (ps_for PassesOwn.never rfl (k_pl K rfl (pv 0)) (k_gt K rfl 2 rfl (pgs_cons (pg_name (i := 2) nd rfl (.inl rfl) (.inr rfl)) (pgs_cons (pg_name (i := 3) nd rfl (.inl rfl) (.inr rfl)) pgs_nil))) (pss_cons (ps_set (i := 4) nd rfl (.inl rfl) (pe_frz (pe_lst pa_nil)))
      (pss_cons (ps_for PassesOwn.never rfl (k_pl K rfl (pv 1)) (pg_name (i := 5) nd rfl (.inr rfl) (.inl rfl)) (pss_one (ps_set (i := 4) nd rfl (.inl rfl) (pe_frz (pe_op op_catR (pv 4) (pe_frz (pe_lc (own := [("_law_value", 6)]) rfl nd (pi_range2 (by rfl) T.n_range (pa_cons (pv 2) (pa_cons (pe_op op_add (pv 3) pe_int) pa_nil))) (blkOk_by (N := N__law_choices) (sc := defScope s__law_choices) (by decide +kernel)) (fun _ _ _ _ _ => (pg_name (i := 6) nd rfl (.inl rfl) (.inr rfl))) (fun _ _ _ _ _ => pts_nil) (fun _ _ _ _ _ => (pe_frz (pe_op op_catR (pv 5) (pe_frz (pe_lst (pa_cons (pv 6) pa_nil)))))))))))))
      (pss_one (ps_set (i := 1) nd rfl (.inl rfl) (pv 4))))))
      (pss_one (ps_ret (pv 1))))), ?_⟩
  refine q_set (K := K) (x := ([[]] : List (List Int))) (er_frz (erl_lst (ea_cons (er_frz (erl_lst (α := Int) ea_nil)) ea_nil))) (fun v1 H1 e1 r1 => ?_)
  refine q_for (K := K) (src_list (er_var rfl (Rp.mono (SF.of e1) r0))) (fun H1' k σ' H' => ∃ u a b c d e, σ' = [some v0, some u, a, b, c, d, e] ∧ Same H1' H' ∧ Rp.rep K H' u (rowsOf (x0.take k)))
    (fun H2 e2 => ⟨v1, _, _, _, _, _, rfl, Same.refl _, Rp.mono (SF.of e2) r1⟩) (fun _ _ _ _ ⟨_, _, _, _, _, _, _, s, _⟩ => SF.of s) (fun H2 k x σ' H' v H'' e2 hx hP s r => ?_) (fun H2 σ' H' e2 hP => ?_)
  · obtain ⟨u, a, b, c, d, e, rfl, s2, ru⟩ := hP
    obtain ⟨w1, w2, rw1, rw2, tg⟩ := tg_pair (σ := [some v0, some u, a, b, c, d, e]) (k := 2) (m := 3) r
    have hxb := hp.2 x (List.mem_of_getElem? hx)
    have hc := few_card hp k
    refine tg _ ?_
    refine q_set (K := K) (x := ([] : List (List Int))) (er_frz (erl_lst ea_nil)) (fun v3 H3 e3 r3 => ?_)
    refine q_for (K := K) (src_list (er_var rfl (Rp.mono (SF.of (s.trans e3)) ru))) (fun H4 m σ' H' => ∃ u' d e, σ' = [some v0, some u, some w1, some w2, some u', d, e] ∧ Same H4 H' ∧ Rp.rep K H' u' (((rowsOf (x0.take k)).take m).flatMap (rowExt x)))
      (fun H4 e4 => ⟨v3, _, _, rfl, Same.refl _, Rp.mono (SF.of e4) r3⟩) (fun _ _ _ _ ⟨_, _, _, _, s, _⟩ => SF.of s) (fun H4 m y σ' H' v' H6 e4 hy hP s4 ry => ?_) (fun H4 σ' H' e4 hP => ?_)
    · obtain ⟨u', d', e', rfl, s5, ru'⟩ := hP
      have hyl : y.length ≤ 7 := by
        have h1 := inB_len (mem_rows.mp (List.mem_of_getElem? hy))
        have h2 : (x0.take k).length ≤ x0.length := by rw [List.length_take]; exact Nat.min_le_right _ _
        have := hp.1; omega
      have hcm : (((rowsOf (x0.take k)).take m).flatMap (rowExt x)).length ≤ 65536 := Nat.le_trans (ext_card hxb.2.2.1) (by
        have : ((rowsOf (x0.take k)).take m).length ≤ (rowsOf (x0.take k)).length := by rw [List.length_take]; exact Nat.min_le_right _ _
        omega)
      have c0 := e3.trans (e4.trans (s5.trans s4))
      refine s_set (K := K) (er_frz (erl_cat (er_var rfl (Rp.mono (SF.of s4) ru')) (er_frz (erl_lm1 (f := fun z => y ++ [z]) (src_range2 (er_var rfl (Rp.mono (SF.of c0) rw1)) (er_op (er_var rfl (Rp.mono (SF.of c0) rw2)) er_int rr_add) (by omega) (by omega)) (by rw [len_rgI]; omega) (by intros; rfl)
        (fun z hz w H7 e7 rz => er_frz (erl_cat (er_var rfl (Rp.mono (SF.of e7) ry)) (er_frz (erl_lst (ea_cons (er_var rfl rz) ea_nil))) (by simp; omega))))) (by rw [List.length_map, len_rgI]; omega))) (fun v8 H8 e8 r8 => ?_)
      refine ⟨v8, _, _, rfl, s5.trans (s4.trans e8), ?_⟩
      rw [List.take_add_one, hy, Option.toList_some, List.flatMap_append, List.flatMap_singleton]
      exact r8
    · obtain ⟨u', d', e', rfl, s5, ru'⟩ := hP
      rw [List.take_length] at ru'
      refine s_set (K := K) (er_var rfl ru') (fun v8 H8 e8 r8 => ?_)
      refine ⟨v8, _, _, _, _, _, rfl, s2.trans (s.trans (e3.trans (e4.trans (s5.trans e8)))), ?_⟩
      rw [rows_take hx]
      exact r8
  · obtain ⟨u, a, b, c, d, e, rfl, s2, ru⟩ := hP
    rw [List.take_length] at ru
    exact s_ret (K := K) (er_var rfl ru) (fun v8 H8 e8 r8 => q v8 _ (e1.trans (e2.trans (s2.trans e8))) r8)
theorem ok__law_small (T : Txt K mg) : Ok P w K mg base CX0 2 "_law_small" ["_law_draws", "_law_most"] (spDraws K (fun n => 1 ≤ n ∧ n ≤ 100) SmallP) := by
  refine ok_of T.d__law_small sc__law_small (bi2 fun _ _ _ _ _ _ _ _ => rfl) (fun vs H Q E h => by obtain ⟨_, _, _, rfl, _⟩ := h; rfl) (fun f cdv A outer s H vs Q E hr h => ?_)
  have nd := sc__law_small.nd
  obtain ⟨pd, pn, n, rfl, dr, hn, q⟩ := h
  refine ⟨_, (pss_cons (ps_set (i := 2) nd rfl (.inl rfl) (pe_lst pa_nil))
      (pss_cons (ps_for PassesOwn.never rfl (pi_range1 (by rfl) T.n_range (pa_cons (pe_op op_add pe_int (pe_fn (ok__law_draw T) (hr.mono (by decide)) pass0 (pa_cons (pv 0) (pa_cons (pv 1) pa_nil)))) pa_nil)) (pg_name (i := 3) nd rfl (.inl rfl) (.inr rfl)) (pss_cons (ps_set (i := 4) nd rfl (.inl rfl) (pe_op op_sub (pe_fn (ok__law_draw T) (hr.mono (by decide)) pass0 (pa_cons (pv 0) (pa_cons pe_int pa_nil))) pe_int))
      (pss_one (ps_expr (k_app K rfl (pv 2) (pe_tup (pa_cons (pv 4) (pa_cons (pe_op op_add (pv 4) (pe_fn (ok__law_draw T) (hr.mono (by decide)) pass0 (pa_cons (pv 0) (pa_cons pe_int pa_nil)))) pa_nil))))))))
      (pss_one (ps_ret (pv 2))))), ?_⟩
  refine q_setL (K := K) (l := ([] : List (Int × Int))) (erl_lst ea_nil) (fun p vs H1 e1 hp h1 rl => ?_)
  have n1 : p ≠ pd := (dr.pd_ne hp).symm
  have n2 : p ≠ pn := (dr.pn_ne hp).symm
  refine q_forR (K := K) (dr.mono e1) (ep_op (ep_of fun _ _ => er_int) (fun _ _ => ep_draw (fun _ _ => er_var (x := n) rfl rfl) (sub_dr rfl) (by omega) (by omega)) (fun _ _ _ _ => rr_add)) (fun x hx => by obtain ⟨_, y, rfl, hy, rfl⟩ := hx; omega)
    (fun x i σ' H' => ∃ (l : List (Int × Int)) (a b : Option V), σ' = [some (.ref pd), some (.int n), some (.ref p), a, b] ∧ l.length = i ∧ (∀ t ∈ l, -4 ≤ t.1 ∧ t.1 < 4 ∧ t.1 ≤ t.2 ∧ t.2 < t.1 + 4) ∧ DM pd pn H H' ∧ Dr H' pd pn ∧ Un K H' p l)
    (fun x H2 m d _ => ⟨[], none, none, rfl, rfl, (fun _ h => by cases h), (DM.of e1).trans m, d, Un.dm m n1 n2 (Un.of h1 rl)⟩) (fun x i σ' H' hx hi hP => ?_) (fun x σ' H' hx hP => ?_)
  · obtain ⟨l, a, b, rfl, hl, hok, m, d, u⟩ := hP
    obtain ⟨_, y, rfl, hy, rfl⟩ := hx
    refine q_setP (K := K) d (ep_op (ep_draw (fun _ _ => er_int) (sub_dr rfl) (by decide) (by decide)) (fun _ _ => ep_of fun _ _ => er_int) (fun _ _ _ _ => rr_sub)) (fun v H2 x m2 d2 hx r => ?_)
    obtain ⟨z, _, hz, rfl, rfl⟩ := hx
    refine s_appP (K := K) d2 rfl (Un.dm m2 n1 n2 u) n1 n2 (ep_pair (ep_of fun _ m => er_var rfl (Rp.mono m.sf r)) (fun x hx => ep_op (ep_of fun _ m => er_var rfl (Rp.mono m.sf r)) (fun _ _ => ep_draw (fun _ _ => er_int) (sub_dr rfl) (by decide) (by decide)) (fun _ _ _ _ => rr_add))) (by omega) (fun H3 t hb d3 ht u3 => ?_)
    refine ⟨l ++ [t], _, _, rfl, by rw [List.length_append, hl]; rfl, fun s hs => ?_, hb _ (m.trans m2) hp, d3, u3⟩
    rcases List.mem_append.mp hs with hs | hs
    · exact hok s hs
    · rw [List.mem_singleton.mp hs]
      obtain ⟨h1, w, k, rfl, hk, h2⟩ := ht
      omega
  · obtain ⟨l, a, b, rfl, hl, hok, m, d, u⟩ := hP
    obtain ⟨_, y, rfl, hy, rfl⟩ := hx
    obtain ⟨us, hu, ru⟩ := u
    exact ⟨.ref p, rfl, q p us l H' ⟨by omega, by omega, hok⟩ m d hp hu ru⟩
theorem ok__law_low (T : Txt K mg) : Ok P w K mg base CX0 1 "_law_low" ["_law_top", "_law_under"] (sp2 K ((fun _ b => 0 < b ∧ b < 2 ^ 200) : Int → Int → Prop) frI) := by
  refine ok_of T.d__law_low sc__law_low (bi2 fun _ _ _ _ _ _ _ _ => rfl) len_sp2 (fun f cdv A outer s H vs Q E hr h => ?_)
  have nd := sc__law_low.nd
  obtain ⟨v0, v1, x0, x1, rfl, r0, r1, hp, q⟩ := h
  refine ⟨_, (pss_cons (ps_par (i := 2) (j := 3) (by rfl) nd rfl rfl (by decide) rfl rfl (pa_cons (pe_callB call_abs (by rfl) T.n_abs (by decide +kernel) (pa_cons (pv 0) pa_nil)) (pa_cons (pv 1) pa_nil)) (by rfl))
      (pss_cons (ps_while PassesOwn.never (pt_cmpR op_ne (pv 3) pe_int (nomark _)) (pss_one (ps_par (i := 2) (j := 3) (by rfl) nd rfl rfl (by decide) rfl rfl (pa_cons (pv 3) (pa_cons (pe_op op_mod (pv 2) (pv 3)) pa_nil)) (by rfl))))
      (pss_one (ps_ret (pe_tup (pa_cons (pe_op op_fdivW (pv 0) (pv 2)) (pa_cons (pe_op op_fdivW (pv 1) (pv 2)) pa_nil))))))), ?_⟩
  have hb := hp.1
  refine q_par (K := K) (er_abs (er_var rfl r0)) (er_var rfl r1) (fun v u H1 e1 ra rb => ?_)
  cases (show v = .int (iabs x0) from ra); cases (show u = .int x1 from rb)
  cases (show v0 = .int x0 from r0); cases (show v1 = .int x1 from r1)
  refine q_while (K := K) (fun σ' H' => ∃ a b : Nat, σ' = [some (.int x0), some (.int x1), some (.int a), some (.int b)] ∧ Same H H' ∧ Nat.gcd a b = Int.gcd x0 x1) (fun σ' _ => match σ' with | [_, _, _, some (.int b)] => b.toNat | _ => 0) ⟨x0.natAbs, x1.natAbs, by rw [iabs_nat, show ((x1.natAbs : Nat) : Int) = x1 from by omega]; rfl, e1, rfl⟩ (fun σ' H' hW => ?_)
  obtain ⟨a, b, rfl, e, hg⟩ := hW
  refine ⟨!decide ((b : Int) = 0), et_test (er_op (er_var (x := (b : Int)) rfl rfl) er_int rr_neI), fun hb H2 e2 => ?_, fun hb H2 e2 => ?_⟩
  · have hb0 : b ≠ 0 := by intro z; subst z; simp at hb
    refine s_par (K := K) (er_var (x := (b : Int)) rfl rfl) (er_op (er_var (x := (a : Int)) rfl rfl) (er_var (x := (b : Int)) rfl rfl) (rr_mod (by omega))) (fun v u H3 e3 r1 r2 => ?_)
    cases (show v = .int (b : Int) from r1); cases (show u = .int ((a : Int) % (b : Int)) from r2)
    refine ⟨⟨b, a % b, by rw [nat_mod_int]; rfl, e.trans (e2.trans e3), by rw [gcd_turn hb0]; exact hg⟩, ?_⟩
    show ((a : Int) % (b : Int)).toNat < (b : Int).toNat
    have := Nat.mod_lt a (Nat.pos_of_ne_zero hb0)
    rw [nat_mod_int]; omega
  · have hb0 : b = 0 := by have := of_decide_eq_true (show decide ((b : Int) = 0) = true by simpa using hb); omega
    subst hb0
    rw [Nat.gcd_zero_right] at hg
    have ea : gcdI x0 x1 = (a : Int) := by unfold gcdI; omega
    have hd : ∀ i, CDivW i (a : Int) := fun i => by rw [← ea]; exact gcd_div hp
    exact s_ret (K := K) (er_pair (er_op (er_var (x := x0) rfl rfl) (er_var (x := (a : Int)) rfl rfl) (rr_divW (hd _))) (er_op (er_var (x := x1) rfl rfl) (er_var (x := (a : Int)) rfl rfl) (rr_divW (hd _)))) (fun u H3 e3 rr => q u _ (e.trans (e2.trans e3)) (by unfold frI; rw [ea]; exact rr))
def m__law_middle (x0 : (List Int)) : (Int × Int) := (frI ((((srt x0)).getD ((((((srt x0).length : Nat) : Int) - (1 : Int)) / (2 : Int))).toNat 0) + (((srt x0)).getD (((((srt x0).length : Nat) : Int) / (2 : Int))).toNat 0)) (2 : Int))
theorem ok__law_middle (T : Txt K mg) : Ok P w K mg base CX0 2 "_law_middle" ["_law_values"] (sp1 K ((fun l => l ≠ [] ∧ l.length ≤ 100000) : (List Int) → Prop) m__law_middle) := by
  refine ok_of T.d__law_middle sc__law_middle (bi1 fun _ _ _ _ _ _ _ => rfl) len_sp1 (fun f cdv A outer s H vs Q E hr h => ?_)
  have nd := sc__law_middle.nd
  obtain ⟨v0, x0, rfl, r0, hp, q⟩ := h
  refine ⟨_, (pss_cons (ps_set (i := 1) nd rfl (.inl rfl) (pe_frz (pe_callB (k_sorted K rfl) (by rfl) T.n_sorted (by decide +kernel) (pa_cons (pv 0) pa_nil))))
      (pss_cons (ps_set (i := 2) nd rfl (.inl rfl) (pe_callB (k_len K rfl) (by rfl) T.n_len PySem.boot_len (pa_cons (pv 1) pa_nil)))
      (pss_one (ps_ret (pe_fn (ok__law_low T) (hr.mono (by decide)) pass0 (pa_cons (pe_op op_add (pe_ix (k_ixl K rfl) (pv 1) (pe_op op_fdiv (pe_op op_sub (pv 2) pe_int) pe_int) (fun _ _ => rfl)) (pe_ix (k_ixl K rfl) (pv 1) (pe_op op_fdiv (pv 2) pe_int) (fun _ _ => rfl))) (pa_cons pe_int pa_nil))))))), ?_⟩
  refine q_set (K := K) (er_frz (erl_sorted (er_var rfl r0))) (fun v439 _ e437 r438 => ?_)
  refine q_set (K := K) (er_len (er_var rfl r438)) (fun v442 _ e440 r441 => ?_)
  exact s_ret (K := K) (er_call2 (er_op (er_op (er_var rfl (Rp.mono (SF.of e440) r438)) (er_op (er_op (er_up (er_var rfl r441)) er_int rr_sub) er_int (rr_div (by exact ⟨by decide, by decide⟩))) (rr_ixI (x := (((srt x0)).getD ((((((srt x0).length : Nat) : Int) - (1 : Int)) / (2 : Int))).toNat 0)) (n := ((((((srt x0).length : Nat) : Int) - (1 : Int)) / (2 : Int))).toNat) (by have h1 := List.length_pos_iff.mpr hp.1; have h2 := srt_len x0; omega) (by exact getD_at (by rw [srt_len]; have := List.length_pos_iff.mpr hp.1; omega)))) (er_op (er_var rfl (Rp.mono (SF.of e440) r438)) (er_op (er_up (er_var rfl r441)) er_int (rr_div (by exact ⟨by decide, by decide⟩))) (rr_ixI (x := (((srt x0)).getD (((((srt x0).length : Nat) : Int) / (2 : Int))).toNat 0)) (n := (((((srt x0).length : Nat) : Int) / (2 : Int))).toNat) (by have h1 := List.length_pos_iff.mpr hp.1; have h2 := srt_len x0; omega) (by exact getD_at (by rw [srt_len]; have := List.length_pos_iff.mpr hp.1; omega)))) rr_add) er_int (by exact ⟨by decide, by decide⟩)) (fun u _ e443 rr => q u _ ((e437.trans e440).trans e443) rr)
def m__law_figure (x0 : (List Int)) (x1 : Str) : (Int × Int) := (if (decide (x1 = ("median" : Str))) = true then (m__law_middle x0) else (if (decide (x1 = ("mean" : Str))) = true then (frI x0.sum ((x0.length : Nat) : Int)) else ((if (decide (x1 = ("sum" : Str))) = true then x0.sum else (if (decide (x1 = ("least" : Str))) = true then (mnl x0) else (mxl x0))), (1 : Int))))
theorem ok__law_figure (T : Txt K mg) : Ok P w K mg base CX0 3 "_law_figure" ["_law_row", "_law_figure_here"] (sp2 K ((fun r _ => r ≠ [] ∧ r.length ≤ 7) : (List Int) → Str → Prop) m__law_figure) := by
  refine ok_of T.d__law_figure sc__law_figure (bi2 fun _ _ _ _ _ _ _ _ => rfl) len_sp2 (fun f cdv A outer s H vs Q E hr h => ?_)
  have nd := sc__law_figure.nd
  obtain ⟨v0, v1, x0, x1, rfl, r0, r1, hp, q⟩ := h
  refine ⟨_, (pss_cons (ps_if (pt_cmpR op_eq (pv 1) pe_str (nomark _)) (pss_one (ps_ret (pe_fn (ok__law_middle T) (hr.mono (by decide)) pass0 (pa_cons (pv 0) pa_nil)))) pss_nil)
      (pss_cons (ps_if (pt_cmpR op_eq (pv 1) pe_str (nomark _)) (pss_one (ps_ret (pe_fn (ok__law_low T) (hr.mono (by decide)) pass0 (pa_cons (pe_callB (k_sum K rfl rfl) (by rfl) T.n_sum (by decide +kernel) (pa_cons (pv 0) pa_nil)) (pa_cons (pe_callB (k_len K rfl) (by rfl) T.n_len PySem.boot_len (pa_cons (pv 0) pa_nil)) pa_nil))))) pss_nil)
      (pss_one (ps_ret (pe_tup (pa_cons (pe_ifExp (pt_cmpR op_eq (pv 1) pe_str (nomark _)) (pe_callB (k_sum K rfl rfl) (by rfl) T.n_sum (by decide +kernel) (pa_cons (pv 0) pa_nil)) (pe_ifExp (pt_cmpR op_eq (pv 1) pe_str (nomark _)) (pe_callB (k_min K rfl rfl) (by rfl) T.n_min (by decide +kernel) (pa_cons (pv 0) pa_nil)) (pe_callB (k_max K rfl rfl) (by rfl) T.n_max (by decide +kernel) (pa_cons (pv 0) pa_nil)))) (pa_cons pe_int pa_nil))))))), ?_⟩
  refine q_if (K := K) (et_test (er_op (er_var rfl r1) er_str rr_eqS)) (fun hc445 _ e444 => ?_) (fun hc445 _ e444 => ?_)
  ·
    exact s_ret (K := K) (er_call1 (er_var rfl (Rp.mono (SF.of e444) r0)) (by exact ⟨hp.1, by have := hp.2; omega⟩)) (fun u _ e446 rr => q u _ (e444.trans e446) (by rw [(show m__law_figure x0 x1 = (m__law_middle x0) from by unfold m__law_figure; rw [if_pos hc445])]; exact rr))
  ·
    refine s_nxz ?_
    refine q_if (K := K) (et_test (er_op (er_var rfl (Rp.mono (SF.of e444) r1)) er_str rr_eqS)) (fun hc448 _ e447 => ?_) (fun hc448 _ e447 => ?_)
    ·
      exact s_ret (K := K) (er_call2 (er_sum (er_var rfl (Rp.mono ((SF.of e444).trans (SF.of e447)) r0))) (er_up (er_len (er_var rfl (Rp.mono ((SF.of e444).trans (SF.of e447)) r0)))) (by have h1 := List.length_pos_iff.mpr hp.1; have := hp.2; exact ⟨by omega, by omega⟩)) (fun u _ e449 rr => q u _ ((e444.trans e447).trans e449) (by rw [(show m__law_figure x0 x1 = (frI x0.sum ((x0.length : Nat) : Int)) from by unfold m__law_figure; rw [if_neg (by rw [hc445]; exact Bool.false_ne_true)]; rw [if_pos hc448])]; exact rr))
    ·
      refine s_nxz ?_
      exact s_ret (K := K) (er_pair (er_if (et_test (er_op (er_var rfl (Rp.mono ((SF.of e444).trans (SF.of e447)) r1)) er_str rr_eqS)) (fun _ => (er_sum (er_var rfl (Rp.mono ((SF.of e444).trans (SF.of e447)) r0)))) (fun _ => (er_if (et_test (er_op (er_var rfl (Rp.mono ((SF.of e444).trans (SF.of e447)) r1)) er_str rr_eqS)) (fun _ => (er_min (er_var rfl (Rp.mono ((SF.of e444).trans (SF.of e447)) r0)) (by exact hp.1))) (fun _ => (er_max (er_var rfl (Rp.mono ((SF.of e444).trans (SF.of e447)) r0)) (by exact hp.1)))))) er_int) (fun u _ e450 rr => q u _ ((e444.trans e447).trans e450) (by rw [(show m__law_figure x0 x1 = ((if (decide (x1 = ("sum" : Str))) = true then x0.sum else (if (decide (x1 = ("least" : Str))) = true then (mnl x0) else (mxl x0))), (1 : Int)) from by unfold m__law_figure; rw [if_neg (by rw [hc445]; exact Bool.false_ne_true)]; rw [if_neg (by rw [hc448]; exact Bool.false_ne_true)])]; exact rr))
end
end BL

set_option Elab.async false
set_option linter.all false
set_option maxRecDepth 100000
set_option maxHeartbeats 2000000
namespace BL
open PySem PySem.Spec PyProof.Rows L2
/-! ### figures of all choices, as numbers of 5040ths -/
theorem inB_lows : ∀ {b : List (Int × Int)} {r : List Int}, inB b r → leL (m_lows b) r ∧ leL r (m_highs b)
  | [], [], _ => ⟨trivial, trivial⟩
  | p :: b, x :: r, h => ⟨⟨h.1.1, (inB_lows h.2).1⟩, ⟨h.1.2, (inB_lows h.2).2⟩⟩
  | [], _ :: _, h => h.elim
  | _ :: _, [], h => h.elim
theorem lows_inB : ∀ {b : List (Int × Int)}, (∀ p ∈ b, p.1 ≤ p.2) → inB b (m_lows b) ∧ inB b (m_highs b)
  | [], _ => ⟨trivial, trivial⟩
  | p :: b, h => by
    have ih := lows_inB (b := b) fun q hq => h q (List.mem_cons_of_mem _ hq)
    have := h p (List.mem_cons_self ..)
    exact ⟨⟨⟨Int.le_refl _, this⟩, ih.1⟩, ⟨⟨this, Int.le_refl _⟩, ih.2⟩⟩
theorem small_few {n : Int} {b : List (Int × Int)} (h : SmallP n b) (hn : n ≤ 7) : Few b := ⟨by have := h.2.1; omega, fun p hp => by have := h.2.2 p hp; omega⟩
theorem small_bok {n : Int} {b : List (Int × Int)} (h : SmallP n b) (hn : n ≤ 7) : BOk b := ⟨h.1, by have := h.2.1; omega, fun p hp => by have := h.2.2 p hp; omega⟩
theorem few_rows {b : List (Int × Int)} (h : Few b) : (rowsOf b).length ≤ 1000000 := by
  have := few_card h b.length
  rw [List.take_length] at this; omega
section
variable {b : List (Int × Int)} {φ : List Int → Int}
theorem min_rowsN (h : ∀ p ∈ b, p.1 ≤ p.2) (hm : ∀ l r, l.length = b.length → leL l r → φ l ≤ φ r) : mnl ((rowsOf b).map φ) = φ (m_lows b) :=
  (mnl_eq (List.mem_map.mpr ⟨_, mem_rows.mpr (lows_inB h).1, rfl⟩) fun y hy => by
    obtain ⟨r, hr, rfl⟩ := List.mem_map.mp hy
    exact hm _ _ (len_lows b) (inB_lows (mem_rows.mp hr)).1).symm
theorem max_rowsN (h : ∀ p ∈ b, p.1 ≤ p.2) (hm : ∀ l r, l.length = b.length → leL l r → φ l ≤ φ r) : mxl ((rowsOf b).map φ) = φ (m_highs b) :=
  (mxl_eq (List.mem_map.mpr ⟨_, mem_rows.mpr (lows_inB h).2, rfl⟩) fun y hy => by
    obtain ⟨r, hr, rfl⟩ := List.mem_map.mp hy
    exact hm _ _ (inB_len (mem_rows.mp hr)) (inB_lows (mem_rows.mp hr)).2).symm
theorem rows_ne (h : ∀ p ∈ b, p.1 ≤ p.2) : rowsOf b ≠ [] := fun e => by
  have := mem_rows.mpr (lows_inB h).1
  rw [e] at this; cases this
theorem row_ne (h : BOk b) {r : List Int} (hr : r ∈ rowsOf b) : r ≠ [] ∧ r.length ≤ 7 := by
  have hl := inB_len (mem_rows.mp hr)
  have := h.1; have := h.2.1
  exact ⟨fun e => by subst e; simp at hl; omega, by omega⟩
end
/-- a fraction in 5040ths -/
def sc (p : Int × Int) : Int := p.1 * 5040 / p.2
/-- the denominator is one of 5040's divisors -/
def Dd (p : Int × Int) : Prop := 0 < p.2 ∧ p.2 ∣ 5040
theorem sc_eq {p : Int × Int} (h : Dd p) : sc p = p.1 * (5040 / p.2) := by
  unfold sc; exact Int.mul_ediv_assoc _ h.2
theorem small_dvd {n : Int} (h1 : 1 ≤ n) (h2 : n ≤ 7) : n ∣ 5040 := by
  have : n = 1 ∨ n = 2 ∨ n = 3 ∨ n = 4 ∨ n = 5 ∨ n = 6 ∨ n = 7 := by omega
  rcases this with h | h | h | h | h | h | h <;> subst h <;> decide
theorem frI_dd {x n : Int} (h1 : 1 ≤ n) (h2 : n ≤ 7) : Dd (frI x n) := by
  have := frI_le (x := x) (n := n) (by omega)
  exact ⟨this.1, small_dvd (by omega) (by omega)⟩
theorem sc_frI {x n : Int} (h1 : 1 ≤ n) (h2 : n ≤ 7) : sc (frI x n) = x * (5040 / n) := by
  rw [sc_eq (frI_dd h1 h2)]
  obtain ⟨g, g1, g2, g3, g4⟩ := frI_spec (x := x) (n := n) (by omega)
  have hd := (frI_dd (x := x) h1 h2).2
  have hn := small_dvd h1 h2
  obtain ⟨c, hc⟩ := hn
  have e1 : 5040 / n = c := by rw [hc]; exact Int.mul_ediv_cancel_left _ (by omega)
  have e2 : (5040 : Int) / (frI x n).2 = g * c := by
    rw [hc]
    conv => lhs; rw [show n * c = (frI x n).2 * (g * c) by rw [← Int.mul_assoc, ← g3]]
    exact Int.mul_ediv_cancel_left _ (by omega)
  rw [e1, e2, ← Int.mul_assoc, ← g2]
theorem sc_lt {p q : Int × Int} (hp : Dd p) (hq : Dd q) : p.1 * q.2 < q.1 * p.2 ↔ sc p < sc q := by
  rw [sc_eq hp, sc_eq hq]
  obtain ⟨u, hu⟩ := hp.2
  obtain ⟨v, hv⟩ := hq.2
  have eu : (5040 : Int) / p.2 = u := by rw [hu]; exact Int.mul_ediv_cancel_left _ (by have := hp.1; omega)
  have ev : (5040 : Int) / q.2 = v := by rw [hv]; exact Int.mul_ediv_cancel_left _ (by have := hq.1; omega)
  rw [eu, ev]
  have e1 : p.1 * u * (p.2 * q.2) = p.1 * q.2 * 5040 := by rw [hu]; simp only [Int.mul_assoc, Int.mul_left_comm, Int.mul_comm]
  have e2 : q.1 * v * (p.2 * q.2) = q.1 * p.2 * 5040 := by rw [hv]; simp only [Int.mul_assoc, Int.mul_left_comm, Int.mul_comm]
  have hpos : 0 < p.2 * q.2 := Int.mul_pos hp.1 hq.1
  constructor
  · intro h
    refine Int.lt_of_mul_lt_mul_right ?_ (Int.le_of_lt hpos)
    rw [e1, e2]; omega
  · intro h
    have := Int.mul_lt_mul_of_pos_right h hpos
    rw [e1, e2] at this; omega
abbrev FIGS : List Str := ["sum", "mean", "median", "least", "greatest"]
theorem figs5 {f : Str} (h : f ∈ FIGS) : f = "sum" ∨ f = "mean" ∨ f = "median" ∨ f = "least" ∨ f = "greatest" := by
  rcases List.mem_cons.mp h with e | h
  · exact .inl e
  · rcases List.mem_cons.mp h with e | h
    · exact .inr (.inl e)
    · rcases List.mem_cons.mp h with e | h
      · exact .inr (.inr (.inl e))
      · rcases List.mem_cons.mp h with e | h
        · exact .inr (.inr (.inr (.inl e)))
        · exact .inr (.inr (.inr (.inr (List.mem_singleton.mp h))))
def figLo (b : List (Int × Int)) (f : Str) : Int × Int := (m_figure_range b f).getD 0 (0, 0)
def figHi (b : List (Int × Int)) (f : Str) : Int × Int := (m_figure_range b f).getD 1 (0, 0)
theorem leL_mnl {l r : List Int} (h : leL l r) : mnl l ≤ mnl r := by
  have hl := leL_len h
  by_cases e : l = []
  · subst e; cases r with
    | nil => exact Int.le_refl _
    | cons _ _ => exact h.elim
  · have e' : r ≠ [] := fun c => by subst c; exact e (List.eq_nil_of_length_eq_zero hl)
    rw [← srt_zero e, ← srt_zero e']
    exact leL_getD 0 (leL_srt h)
theorem leL_mxl {l r : List Int} (h : leL l r) : mxl l ≤ mxl r := by
  have hl := leL_len h
  by_cases e : l = []
  · subst e; cases r with
    | nil => exact Int.le_refl _
    | cons _ _ => exact h.elim
  · have e' : r ≠ [] := fun c => by subst c; exact e (List.eq_nil_of_length_eq_zero hl)
    rw [← srt_last e, ← srt_last e', hl]
    exact leL_getD _ (leL_srt h)
theorem sc_one (x : Int) : sc (x, 1) = x * 5040 := by unfold sc; show x * 5040 / 1 = _; omega
/-- the figure of a choice: its denominator -/
theorem lf_dd {r : List Int} {f : Str} (hf : f ∈ FIGS) (h1 : r ≠ []) (h2 : r.length ≤ 7) : Dd (m__law_figure r f) := by
  have hl := List.length_pos_iff.mpr h1
  rcases figs5 hf with e | e | e | e | e <;> subst e
  · exact ⟨(show (0 : Int) < 1 by decide), (show (1 : Int) ∣ 5040 by decide)⟩
  · exact frI_dd (by omega) (by omega)
  · exact frI_dd (by decide) (by decide)
  · exact ⟨(show (0 : Int) < 1 by decide), (show (1 : Int) ∣ 5040 by decide)⟩
  · exact ⟨(show (0 : Int) < 1 by decide), (show (1 : Int) ∣ 5040 by decide)⟩
theorem lf_mono {l r : List Int} {f : Str} (hf : f ∈ FIGS) (h1 : 1 ≤ l.length) (h2 : l.length ≤ 7) (h : leL l r) : sc (m__law_figure l f) ≤ sc (m__law_figure r f) := by
  have hl := leL_len h
  rcases figs5 hf with e | e | e | e | e <;> subst e
  · show sc (l.sum, 1) ≤ sc (r.sum, 1)
    rw [sc_one, sc_one]; have := leL_sum h; omega
  · show sc (frI l.sum l.length) ≤ sc (frI r.sum r.length)
    rw [← hl, sc_frI (by omega) (by omega), sc_frI (by omega) (by omega)]
    exact Int.mul_le_mul_of_nonneg_right (leL_sum h) (Int.ediv_nonneg (by decide) (by omega))
  · show sc (frI _ 2) ≤ sc (frI _ 2)
    rw [sc_frI (by decide) (by decide), sc_frI (by decide) (by decide)]
    have hs := leL_len (leL_srt h)
    rw [hs]
    have h1 := leL_getD ((((srt r).length : Int) - (1 : Int)) / (2 : Int)).toNat (leL_srt h)
    have h2 := leL_getD (((srt r).length : Int) / (2 : Int)).toNat (leL_srt h)
    refine Int.mul_le_mul_of_nonneg_right (by omega) (by decide)
  · show sc (mnl l, 1) ≤ sc (mnl r, 1)
    rw [sc_one, sc_one]; have := leL_mnl h; omega
  · show sc (mxl l, 1) ≤ sc (mxl r, 1)
    rw [sc_one, sc_one]; have := leL_mxl h; omega
theorem lf_lo {b : List (Int × Int)} {f : Str} (hf : f ∈ FIGS) : m__law_figure (m_lows b) f = figLo b f := by
  rcases figs5 hf with e | e | e | e | e <;> subst e
  · rfl
  · show frI (m_lows b).sum ((m_lows b).length : Int) = frI (m_lows b).sum (b.length : Int)
    rw [len_lows]
  · rfl
  · rfl
  · rfl
theorem lf_hi {b : List (Int × Int)} {f : Str} (hf : f ∈ FIGS) : m__law_figure (m_highs b) f = figHi b f := by
  rcases figs5 hf with e | e | e | e | e <;> subst e
  · rfl
  · show frI (m_highs b).sum ((m_highs b).length : Int) = frI (m_highs b).sum (b.length : Int)
    rw [len_highs]
  · rfl
  · rfl
  · rfl
theorem fig_dd {b : List (Int × Int)} (h : BOk b) {f : Str} (hf : f ∈ FIGS) : Dd (figLo b f) ∧ Dd (figHi b f) := by
  have h1 := h.2.1
  exact ⟨by rw [← lf_lo hf]; exact lf_dd hf (ne_lows h) (by rw [len_lows]; omega), by rw [← lf_hi hf]; exact lf_dd hf (ne_highs h) (by rw [len_highs]; omega)⟩
/-- the figures of all choices, in 5040ths -/
def vals (b : List (Int × Int)) (f : Str) : List Int := ((rowsOf b).map fun r => m__law_figure r f).map fun p => p.1 * 5040 / p.2
theorem vals_eq (b : List (Int × Int)) (f : Str) : vals b f = (rowsOf b).map fun r => sc (m__law_figure r f) := by unfold vals; rw [List.map_map]; rfl
theorem vals_ne {b : List (Int × Int)} (h : BOk b) (f : Str) : vals b f ≠ [] := by
  rw [vals_eq]; intro c; exact rows_ne (ord_of h) (List.map_eq_nil_iff.mp c)
theorem vals_min {b : List (Int × Int)} (h : BOk b) {f : Str} (hf : f ∈ FIGS) : mnl (vals b f) = sc (figLo b f) := by
  rw [vals_eq, min_rowsN (φ := fun r => sc (m__law_figure r f)) (ord_of h) fun l r hl hr => lf_mono hf (by have := h.1; omega) (by have := h.2.1; omega) hr, lf_lo hf]
theorem vals_max {b : List (Int × Int)} (h : BOk b) {f : Str} (hf : f ∈ FIGS) : mxl (vals b f) = sc (figHi b f) := by
  rw [vals_eq, max_rowsN (φ := fun r => sc (m__law_figure r f)) (ord_of h) fun l r hl hr => lf_mono hf (by have := h.1; omega) (by have := h.2.1; omega) hr, lf_hi hf]
theorem fig_ord {b : List (Int × Int)} (h : BOk b) {f : Str} (hf : f ∈ FIGS) : sc (figLo b f) ≤ sc (figHi b f) := by
  rw [← vals_min h hf, ← vals_max h hf]
  exact Int.le_trans (mnl_le (mxl_mem (vals_ne h f))) (Int.le_refl _)
theorem getLastD_getD {l : List Int} : l.getLastD 0 = l.getD (l.length - 1) 0 := by
  rw [List.getLastD_eq_getLast?, List.getLast?_eq_getElem?, List.getD_eq_getElem?_getD]
theorem last_at {l : List Int} (h : l ≠ []) : l.getLast? = some (l.getLastD 0) := by
  rw [List.getLastD_eq_getLast?]
  cases e : l.getLast? with
  | none => exact absurd (List.getLast?_eq_none_iff.mp e) h
  | some x => rfl
theorem srt_ne {l : List Int} (h : l ≠ []) : srt l ≠ [] := fun c => by
  have := srt_len l
  rw [c] at this
  exact h (List.eq_nil_of_length_eq_zero this.symm)
theorem srtv_first {b : List (Int × Int)} (h : BOk b) {f : Str} (hf : f ∈ FIGS) : (srt (vals b f)).getD 0 0 = sc (figLo b f) := by rw [srt_zero (vals_ne h f), vals_min h hf]
theorem srtv_last {b : List (Int × Int)} (h : BOk b) {f : Str} (hf : f ∈ FIGS) : (srt (vals b f)).getLastD 0 = sc (figHi b f) := by rw [getLastD_getD, srt_len, srt_last (vals_ne h f), vals_max h hf]
theorem less_sc {p q : Int × Int} (hp : Dd p) (hq : Dd q) : m_less p q = decide (sc p < sc q) := by
  unfold m_less
  exact decide_eq_decide.mpr (sc_lt hp hq)
theorem is_more_sc {b c : List (Int × Int)} (hb : BOk b) (hc : BOk c) {f : Str} (hf : f ∈ FIGS) : m_is_more b c f = if sc (figHi c f) < sc (figLo b f) then ("sure" : Str) else if sc (figLo c f) < sc (figHi b f) then ("possible" : Str) else ("never" : Str) := by
  have h1 := fig_dd hb hf
  have h2 := fig_dd hc hf
  show m_verdict (figLo b f) (figHi b f) (figLo c f) (figHi c f) = _
  unfold m_verdict
  rw [less_sc h2.2 h1.1, less_sc h2.1 h1.2]
  simp only [decide_eq_true_eq]
section
variable {b c : List (Int × Int)} {f : Str}
theorem k9_dens {x : Int × Int} (hb : BOk b) (hf : f ∈ FIGS) (h : x ∈ (rowsOf b).map fun r => m__law_figure r f) : 0 < x.2 ∧ x.2 < 1073741824 := by
  obtain ⟨r, hr, rfl⟩ := List.mem_map.mp h
  have hn := row_ne hb hr
  have hd := lf_dd hf hn.1 hn.2
  exact ⟨hd.1, by have := Int.le_of_dvd (by decide) hd.2; omega⟩
theorem k9_1 (hb : BOk b) (hc : BOk c) (hf : f ∈ FIGS) {u v : List Int} (hu : u = srt (vals b f)) (hv : v = srt (vals c f)) :
    (!decide (m_is_more b c f = if decide (u.getLastD 0 > v.getD 0 0) = true then if decide (u.getD 0 0 > v.getLastD 0) = true then ("sure" : Str) else ("possible" : Str) else ("never" : Str))) = false := by
  subst hu; subst hv
  rw [is_more_sc hb hc hf, srtv_first hb hf, srtv_first hc hf, srtv_last hb hf, srtv_last hc hf]
  have h1 := fig_ord hb hf
  have h2 := fig_ord hc hf
  simp only [decide_eq_true_eq]
  refine dead_eq ?_
  by_cases c1 : sc (figHi c f) < sc (figLo b f)
  · rw [if_pos c1, if_pos (show sc (figHi b f) > sc (figLo c f) by omega), if_pos (show sc (figLo b f) > sc (figHi c f) by omega)]
  · by_cases c2 : sc (figLo c f) < sc (figHi b f)
    · rw [if_neg c1, if_pos c2, if_pos (show sc (figHi b f) > sc (figLo c f) by omega), if_neg (show ¬ sc (figLo b f) > sc (figHi c f) by omega)]
    · rw [if_neg c1, if_neg c2, if_neg (show ¬ sc (figHi b f) > sc (figLo c f) by omega)]
theorem frac_low {p : Int × Int} (hp : Dd p) {t n : Int} (hn : 0 < n) : (frI t n).1 * p.2 < p.1 * (frI t n).2 ↔ t * 5040 < sc p * n := by
  obtain ⟨g, g1, g2, g3, g4⟩ := frI_spec (x := t) hn
  rw [sc_eq hp]
  obtain ⟨u, hu⟩ := hp.2
  have eu : (5040 : Int) / p.2 = u := by rw [hu]; exact Int.mul_ediv_cancel_left _ (by have := hp.1; omega)
  have hup : 0 < u := by
    rcases Int.lt_or_le 0 u with h | h
    · exact h
    · have := Int.mul_nonpos_of_nonneg_of_nonpos (Int.le_of_lt hp.1) h; omega
  rw [eu, hu]
  have e1 : t * (p.2 * u) = (frI t n).1 * p.2 * (g * u) := by conv => lhs; rw [g2]; simp only [Int.mul_assoc, Int.mul_left_comm, Int.mul_comm]
                                                              simp only [Int.mul_assoc, Int.mul_left_comm, Int.mul_comm]
  have e2 : p.1 * u * n = p.1 * (frI t n).2 * (g * u) := by conv => lhs; rw [g3]; simp only [Int.mul_assoc, Int.mul_left_comm, Int.mul_comm]
                                                            simp only [Int.mul_assoc, Int.mul_left_comm, Int.mul_comm]
  rw [e1, e2]
  have hpos : 0 < g * u := Int.mul_pos g1 hup
  exact ⟨fun h => Int.mul_lt_mul_of_pos_right h hpos, fun h => Int.lt_of_mul_lt_mul_right h (Int.le_of_lt hpos)⟩
theorem frac_high {p : Int × Int} (hp : Dd p) {t n : Int} (hn : 0 < n) : p.1 * (frI t n).2 < (frI t n).1 * p.2 ↔ sc p * n < t * 5040 := by
  obtain ⟨g, g1, g2, g3, g4⟩ := frI_spec (x := t) hn
  rw [sc_eq hp]
  obtain ⟨u, hu⟩ := hp.2
  have eu : (5040 : Int) / p.2 = u := by rw [hu]; exact Int.mul_ediv_cancel_left _ (by have := hp.1; omega)
  have hup : 0 < u := by
    rcases Int.lt_or_le 0 u with h | h
    · exact h
    · have := Int.mul_nonpos_of_nonneg_of_nonpos (Int.le_of_lt hp.1) h; omega
  rw [eu, hu]
  have e1 : t * (p.2 * u) = (frI t n).1 * p.2 * (g * u) := by conv => lhs; rw [g2]; simp only [Int.mul_assoc, Int.mul_left_comm, Int.mul_comm]
                                                              simp only [Int.mul_assoc, Int.mul_left_comm, Int.mul_comm]
  have e2 : p.1 * u * n = p.1 * (frI t n).2 * (g * u) := by conv => lhs; rw [g3]; simp only [Int.mul_assoc, Int.mul_left_comm, Int.mul_comm]
                                                            simp only [Int.mul_assoc, Int.mul_left_comm, Int.mul_comm]
  rw [e1, e2]
  have hpos : 0 < g * u := Int.mul_pos g1 hup
  exact ⟨fun h => Int.mul_lt_mul_of_pos_right h hpos, fun h => Int.lt_of_mul_lt_mul_right h (Int.le_of_lt hpos)⟩
theorem k9_2 (hb : BOk b) (hf : f ∈ FIGS) {u : List Int} (hu : u = srt (vals b f)) {t n : Int} {i : Bool} (hn : 0 < n) (hi : i = (decide (u.getD 0 0 * n ≤ t * 5040) && decide (t * 5040 ≤ u.getLastD 0 * n))) :
    (!m__law_true (m_can_reach b f (frI t n)) i) = false := by
  subst hu
  rw [srtv_first hb hf, srtv_last hb hf] at hi
  have hd := fig_dd hb hf
  have e : m_can_reach b f (frI t n) = i := by
    show (!m_less (frI t n) (figLo b f) && !m_less (figHi b f) (frI t n)) = i
    unfold m_less
    rw [hi, decide_eq_decide.mpr (frac_low hd.1 hn), decide_eq_decide.mpr (frac_high hd.2 hn)]
    rw [← decide_not, ← decide_not, decide_eq_decide.mpr Int.not_lt, decide_eq_decide.mpr Int.not_lt]
  rw [e]
  unfold m__law_true; simp
theorem mapIf3 {α : Type} {p : Nat × α → Bool} {q : Nat → Bool} {x y z : α} (h0 : p (0, x) = q 0) (h1 : p (1, y) = q 1) (h2 : p (2, z) = q 2) : mapIf p (fun t => t.1) (enumL [x, y, z]) = mapIf q (fun t => t) (List.range 3) := by
  show ([(0, x), (1, y), (2, z)].filter p).map (fun t => t.1) = ([0, 1, 2].filter q).map fun t => t
  simp only [List.filter_cons, List.filter_nil, h0, h1, h2]
  cases q 0 <;> cases q 1 <;> cases q 2 <;> rfl
theorem best_one {b : List (Int × Int)} (hb : BOk b) {l : List (List (Int × Int))} (hl : ∀ x ∈ l, BOk x) (hf : f ∈ FIGS) :
    (!(((l.map fun b => m_figure_range b f).map fun y => m_less ((m_figure_range b f).getD 1 (0, 0)) (y.getD 0 (0, 0))).any id)) = l.all fun x => decide (sc (figLo x f) ≤ sc (figHi b f)) := by
  rw [List.map_map, List.any_map]
  induction l with
  | nil => rfl
  | cons x l ih =>
    rw [List.any_cons, List.all_cons, Bool.not_or, ih fun y hy => hl y (List.mem_cons_of_mem _ hy)]
    congr 1
    show (!m_less (figHi b f) (figLo x f)) = _
    rw [less_sc (fig_dd hb hf).2 (fig_dd (hl x (List.mem_cons_self ..)) hf).1, ← decide_not]
    exact decide_eq_decide.mpr Int.not_lt
theorem k9_3 {d : List (Int × Int)} (hb : BOk b) (hc : BOk c) (hd : BOk d) (hf : f ∈ FIGS) {t m : List Int} (ht : t = [b, c, d].map fun x => mxl (vals x f)) (hm : m = [b, c, d].map fun x => mnl (vals x f)) :
    (!decide (m_best_figures [b, c, d] f = mapIf (fun k => decide (t.getD k 0 ≥ mxl m)) (fun k => k) (List.range 3))) = false := by
  subst ht; subst hm
  have hl : ∀ x ∈ [b, c, d], BOk x := by
    intro x hx
    simp only [List.mem_cons, List.mem_nil_iff, or_false] at hx
    rcases hx with h | h | h <;> subst h <;> assumption
  refine dead_eq ?_
  have key : ∀ x ∈ [b, c, d], (!((([b, c, d].map fun b => m_figure_range b f).map fun y => m_less ((m_figure_range x f).getD 1 (0, 0)) (y.getD 0 (0, 0))).any id)) = decide (mxl (vals x f) ≥ mxl ([b, c, d].map fun x => mnl (vals x f))) := by
    intro x hx
    rw [best_one (hl x hx) hl hf]
    have e : ([b, c, d].all fun y => decide (sc (figLo y f) ≤ sc (figHi x f))) = decide (max (sc (figLo b f)) (max (sc (figLo c f)) (sc (figLo d f))) ≤ sc (figHi x f)) := by
      show (decide _ && (decide _ && (decide _ && true))) = _
      rw [Bool.and_true, ← Bool.decide_and, ← Bool.decide_and]
      exact decide_eq_decide.mpr (by omega)
    rw [e, vals_max (hl x hx) hf]
    show _ = decide (_ ≥ max (mnl (vals b f)) (max (mnl (vals c f)) (mnl (vals d f))))
    rw [vals_min hb hf, vals_min hc hf, vals_min hd hf]
  exact mapIf3 (key b (by simp)) (key c (by simp)) (key d (by simp))
theorem mapIf1 {α : Type} {p : Nat × α → Bool} {x : α} (h0 : p (0, x) = true) : mapIf p (fun t => t.1) (enumL [x]) = [0] := by
  show ([(0, x)].filter p).map (fun t => t.1) = [0]
  simp only [List.filter_cons, List.filter_nil, h0]; rfl
theorem k9_end (hb : BOk b) : (decide (m_best_figures [b] "sum" = [0]) && neg false (decide (m_is_more b b "mean" ∈ (["never", "possible"] : List Str)))) = true := by
  have hf : ("sum" : Str) ∈ FIGS := by decide
  have hg : ("mean" : Str) ∈ FIGS := by decide
  have e1 : m_best_figures [b] "sum" = [0] := by
    have h := best_one hb (l := [b]) (fun x hx => by rw [List.mem_singleton.mp hx]; exact hb) hf
    have h2 : ([b].all fun x => decide (sc (figLo x "sum") ≤ sc (figHi b "sum"))) = true := by
      show (decide _ && true) = true
      rw [decide_eq_true (fig_ord hb hf)]; rfl
    rw [h2] at h
    exact mapIf1 h
  have e2 : m_is_more b b "mean" ∈ (["never", "possible"] : List Str) := by
    rw [is_more_sc hb hb hg, if_neg (by have := fig_ord hb hg; omega)]
    split
    · exact .tail _ (.head _)
    · exact .head _
  rw [e1, decide_eq_true e2]; rfl
end
section
variable {P : Program} {w : World} {K : Fg} {mg : Str → Option Value} {base : Heap}
theorem ok_law (T : Txt K mg) {f : Addr} {fd : FuncData} (F : FunD K "law" "law" (defArgs s_law) (defBody s_law) (defScope s_law) [] [] f fd) : FnOk P w K mg base CX0 8 f fd ["_law_script"] (spLaw K) := by
  refine fnok_of F sc_law len_law (fun cdv A outer s H vs Q E hr h => ?_)
  have nd := sc_law.nd
  obtain ⟨a, ns, rfl, hs, hz, q⟩ := h
  refine ⟨_, (pss_cons (ps_set (i := 1) nd rfl (.inl rfl) (pe_fn (ok__law_start T) (hr.mono (by decide)) pass0 (pa_cons (pv 0) pa_nil)))
      (pss_cons (ps_par (i := 2) (j := 3) (by rfl) nd rfl rfl (by decide) rfl rfl (pa_cons (pe_frz (pe_fn (ok__law_small T) (hr.mono (by decide)) pass0 (pa_cons (pv 1) (pa_cons pe_int pa_nil)))) (pa_cons (pe_frz (pe_fn (ok__law_small T) (hr.mono (by decide)) pass0 (pa_cons (pv 1) (pa_cons pe_int pa_nil)))) pa_nil)) (by rfl))
      (pss_cons (ps_for PassesOwn.never rfl (k_pl K rfl (pe_frz (pe_lst (pa_cons pe_str (pa_cons pe_str (pa_cons pe_str (pa_cons pe_str (pa_cons pe_str pa_nil)))))))) (pg_name (i := 4) nd rfl (.inr rfl) (.inl rfl)) (pss_cons (ps_set (i := 5) nd rfl (.inl rfl) (pe_frz (pe_callB (k_sorted K rfl) (by rfl) T.n_sorted (by decide +kernel) (pa_cons (pe_frz (pe_lc (own := [("_law_a", 17), ("_law_b", 18)]) rfl nd (k_pl K rfl (pe_frz (pe_lc (own := [("_law_row", 20)]) rfl nd (k_pl K rfl (pe_fn (ok__law_choices T) (hr.mono (by decide)) pass0 (pa_cons (pv 2) pa_nil))) (blkOk_by (N := N_law) (sc := defScope s_law) (by decide +kernel)) (fun _ _ _ _ _ => (pg_name (i := 20) nd rfl (.inl rfl) (.inr rfl))) (fun _ _ _ _ _ => pts_nil) (fun _ _ _ _ _ => (pe_fn (ok__law_figure T) (hr.mono (by decide)) pass0 (pa_cons (pv 20) (pa_cons (pv 4) pa_nil))))))) (blkOk_by (N := N_law) (sc := defScope s_law) (by decide +kernel)) (fun _ _ _ _ _ => (k_gt K rfl 2 rfl (pgs_cons (pg_name (i := 17) nd rfl (.inl rfl) (.inr rfl)) (pgs_cons (pg_name (i := 18) nd rfl (.inl rfl) (.inr rfl)) pgs_nil)))) (fun _ _ _ _ _ => pts_nil) (fun _ _ _ _ _ => (pe_op op_fdiv (pe_op op_mul (pv 17) pe_int) (pv 18))))) pa_nil))))
      (pss_cons (ps_set (i := 6) nd rfl (.inl rfl) (pe_frz (pe_callB (k_sorted K rfl) (by rfl) T.n_sorted (by decide +kernel) (pa_cons (pe_frz (pe_lc (own := [("_law_a", 17), ("_law_b", 18)]) rfl nd (k_pl K rfl (pe_frz (pe_lc (own := [("_law_row", 20)]) rfl nd (k_pl K rfl (pe_fn (ok__law_choices T) (hr.mono (by decide)) pass0 (pa_cons (pv 3) pa_nil))) (blkOk_by (N := N_law) (sc := defScope s_law) (by decide +kernel)) (fun _ _ _ _ _ => (pg_name (i := 20) nd rfl (.inl rfl) (.inr rfl))) (fun _ _ _ _ _ => pts_nil) (fun _ _ _ _ _ => (pe_fn (ok__law_figure T) (hr.mono (by decide)) pass0 (pa_cons (pv 20) (pa_cons (pv 4) pa_nil))))))) (blkOk_by (N := N_law) (sc := defScope s_law) (by decide +kernel)) (fun _ _ _ _ _ => (k_gt K rfl 2 rfl (pgs_cons (pg_name (i := 17) nd rfl (.inl rfl) (.inr rfl)) (pgs_cons (pg_name (i := 18) nd rfl (.inl rfl) (.inr rfl)) pgs_nil)))) (fun _ _ _ _ _ => pts_nil) (fun _ _ _ _ _ => (pe_op op_fdiv (pe_op op_mul (pv 17) pe_int) (pv 18))))) pa_nil))))
      (pss_cons (ps_set (i := 7) nd rfl (.inl rfl) pe_str)
      (pss_cons (ps_if (pt_cmpR op_gt (pe_ix (k_ixl K rfl) (pv 5) (pe_un un_neg pe_int) (fun _ _ => rfl)) (pe_ix (k_ixl K rfl) (pv 6) pe_int (fun _ _ => rfl)) (nomark _)) (pss_one (ps_set (i := 7) nd rfl (.inl rfl) (pe_ifExp (pt_cmpR op_gt (pe_ix (k_ixl K rfl) (pv 5) pe_int (fun _ _ => rfl)) (pe_ix (k_ixl K rfl) (pv 6) (pe_un un_neg pe_int) (fun _ _ => rfl)) (nomark _)) pe_str pe_str))) pss_nil)
      (pss_cons (ps_if (pt_cmpR op_ne (pe_fn (ok_is_more T) (hr.mono (by decide)) pass0 (pa_cons (pv 2) (pa_cons (pv 3) (pa_cons (pv 4) pa_nil)))) (pv 7) (nomark _)) (pss_one (ps_ret pe_bl)) pss_nil)
      (pss_cons (ps_for PassesOwn.never rfl (pi_range1 (by rfl) T.n_range (pa_cons pe_int pa_nil)) (pg_name (i := 8) nd rfl (.inl rfl) (.inr rfl)) (pss_cons (ps_set (i := 13) nd rfl (.inl rfl) (pe_fn (ok__law_pick (α := Int) T) (hr.mono (by decide)) pass0 (pa_cons (pv 1) (pa_cons (pe_frz (pe_lst (pa_cons pe_int (pa_cons pe_int (pa_cons pe_int (pa_cons pe_int pa_nil)))))) pa_nil))))
      (pss_cons (ps_set (i := 14) nd rfl (.inl rfl) (pe_op op_sub (pe_fn (ok__law_draw T) (hr.mono (by decide)) pass0 (pa_cons (pv 1) (pa_cons (pe_op op_mul pe_int (pv 13)) pa_nil))) (pe_op op_mul pe_int (pv 13))))
      (pss_cons (ps_set (i := 15) nd rfl (.inl rfl) (pe_chain op_le op_le (pe_op op_mul (pe_ix (k_ixl K rfl) (pv 5) pe_int (fun _ _ => rfl)) (pv 13)) (pe_op op_mul (pv 14) pe_int) (pe_op op_mul (pe_ix (k_ixl K rfl) (pv 5) (pe_un un_neg pe_int) (fun _ _ => rfl)) (pv 13))))
      (pss_one (ps_if (pt_not (pt_val (pe_fn (ok__law_true T) (hr.mono (by decide)) pass0 (pa_cons (pe_fn (ok_can_reach T) (hr.mono (by decide)) pass0 (pa_cons (pv 2) (pa_cons (pv 4) (pa_cons (pe_fn (ok__law_low T) (hr.mono (by decide)) pass0 (pa_cons (pv 14) (pa_cons (pv 13) pa_nil))) pa_nil)))) (pa_cons (pv 15) pa_nil))))) (pss_one (ps_ret pe_bl)) pss_nil))))))
      (pss_cons (ps_set (i := 9) nd rfl (.inl rfl) (pe_frz (pe_lst (pa_cons (pv 2) (pa_cons (pv 3) (pa_cons (pe_frz (pe_fn (ok__law_small T) (hr.mono (by decide)) pass0 (pa_cons (pv 1) (pa_cons pe_int pa_nil)))) pa_nil))))))
      (pss_cons (ps_asg (pe_tup (pa_cons (pe_lst pa_nil) (pa_cons (pe_lst pa_nil) pa_nil))) (k_gt K rfl 2 rfl (pgs_cons (pg_name (i := 10) nd rfl (.inr rfl) (.inl rfl)) (pgs_cons (pg_name (i := 11) nd rfl (.inr rfl) (.inl rfl)) pgs_nil))))
      (pss_cons (ps_for PassesOwn.never rfl (k_pl K rfl (pv 9)) (pg_name (i := 12) nd rfl (.inl rfl) (.inr rfl)) (pss_cons (ps_setLc (i := 16) (own := [("_law_a", 17), ("_law_b", 18)]) rfl nd rfl rfl (sw_true rfl rfl rfl (by decide +kernel)) (k_pl K rfl (pe_frz (pe_lc (own := [("_law_row", 20)]) rfl nd (k_pl K rfl (pe_fn (ok__law_choices T) (hr.mono (by decide)) pass0 (pa_cons (pv 12) pa_nil))) (blkOk_by (N := N_law) (sc := defScope s_law) (by decide +kernel)) (fun _ _ _ _ _ => (pg_name (i := 20) nd rfl (.inl rfl) (.inr rfl))) (fun _ _ _ _ _ => pts_nil) (fun _ _ _ _ _ => (pe_fn (ok__law_figure T) (hr.mono (by decide)) pass0 (pa_cons (pv 20) (pa_cons (pv 4) pa_nil))))))) (blkOk_by (N := N_law) (sc := defScope s_law) (by decide +kernel)) (fun _ _ _ _ _ => (k_gt K rfl 2 rfl (pgs_cons (pg_name (i := 17) nd rfl (.inl rfl) (.inr rfl)) (pgs_cons (pg_name (i := 18) nd rfl (.inl rfl) (.inr rfl)) pgs_nil)))) (fun _ _ _ _ _ => pts_nil) (fun _ _ _ _ _ => (pe_op op_fdiv (pe_op op_mul (pv 17) pe_int) (pv 18))))
      (pss_frz 16 (pss_cons (ps_expr (k_app K rfl (pv 10) (pe_callB (k_max K rfl rfl) (by rfl) T.n_max (by decide +kernel) (pa_cons (pv 16) pa_nil))))
      (pss_one (ps_expr (k_app K rfl (pv 11) (pe_callB (k_min K rfl rfl) (by rfl) T.n_min (by decide +kernel) (pa_cons (pv 16) pa_nil)))))))))
      (pss_frz 10 (pss_frz 11 (pss_one (ps_if (pt_cmpR (k_neD K rfl hr.units) (pe_frz (pe_fn (ok_best_figures T) (hr.mono (by decide)) pass0 (pa_cons (pv 9) (pa_cons (pv 4) pa_nil)))) (pe_frz (pe_lc (own := [("_law_k", 19)]) rfl nd (pi_range1 (by rfl) T.n_range (pa_cons pe_int pa_nil)) (blkOk_by (N := N_law) (sc := defScope s_law) (by decide +kernel)) (fun _ _ _ _ _ => (pg_name (i := 19) nd rfl (.inl rfl) (.inr rfl))) (fun _ _ _ _ _ => (pts_one (pt_cmpR op_ge (pe_ix (k_ixl K rfl) (pv 10) (pv 19) (fun _ _ => rfl)) (pe_callB (k_max K rfl rfl) (by rfl) T.n_max (by decide +kernel) (pa_cons (pv 11) pa_nil)) (nomark _)))) (fun _ _ _ _ _ => (pv 19)))) (nomark _)) (pss_one (ps_ret pe_bl)) pss_nil))))))))))))))
      (pss_one (ps_ret (pe_and (pe_cmpR (k_eqD K rfl hr.units) (pe_frz (pe_fn (ok_best_figures T) (hr.mono (by decide)) pass0 (pa_cons (pe_frz (pe_lst (pa_cons (pv 2) pa_nil))) (pa_cons pe_str pa_nil)))) (pe_frz (pe_lst (pa_cons pe_int pa_nil))) (nomark _)) (pe_one (pe_cmpR (k_in K rfl) (pe_fn (ok_is_more T) (hr.mono (by decide)) pass0 (pa_cons (pv 2) (pa_cons (pv 2) (pa_cons pe_str pa_nil)))) (pe_frz (pe_lst (pa_cons pe_str (pa_cons pe_str pa_nil)))) (by rfl))))))))), ?_⟩
  refine q_start (K := K) rfl hs hz (fun pd pn _ e492 dr0 => ?_)
  have hpdpn : pd ≠ pn := by obtain ⟨_, _, _, _, _, _, _, h⟩ := dr0; exact h
  refine q_parP (K := K) dr0 (ep_frz (epl_draws (fun _ m498 => er_int) (sub_dr rfl) (by first | decide | omega | (have := hz1; omega)))) (fun _ _ => (ep_frz (epl_draws (fun _ m499 => er_int) (sub_dr rfl) (by first | decide | omega | (have := hz1; omega))))) (fun v496 v497 _ z0_b z0_b2 m502 dr503 hz0_b hz0_b2 r494 r495 => ?_)
  have hF1 := small_few hz0_b (by decide)
  have hF2 := small_few hz0_b2 (by decide)
  have hB1 := small_bok hz0_b (by decide)
  have hB2 := small_bok hz0_b2 (by decide)
  -- for _law_figure_here in ['sum', 'mean', 'median', 'least', 'greatest']
  refine q_for (K := K) (src_list (er_frz (erl_lst (ea_cons er_str (ea_cons er_str (ea_cons er_str (ea_cons er_str (ea_cons er_str ea_nil)))))))) (fun H1 k σ' H' => ∃ (y507 : Option V) (y508 : Option V) (y509 : Option V) (y510 : Option V) (y511 : Option V) (y512 : Option V) (y513 : Option V) (y514 : Option V) (y515 : Option V) (y516 : Option V) (y517 : Option V) (y518 : Option V) (y519 : Option V), σ' = [some (.ref a), some (.ref pd), some v496, some v497, y507, y508, y509, y510, y511, y512, y513, y514, y515, y516, y517, y518, y519, none, none, none, none] ∧ Mus [pd, pn] H1 H' ∧ Dr H' pd pn) (fun H1 e => ⟨_, _, _, _, _, _, _, _, _, _, _, _, _, rfl, Mus.refl _, (Dr.mono e dr503)⟩) (fun _ _ _ _ h => by obtain ⟨_, _, _, _, _, _, _, _, _, _, _, _, _, _, m, _⟩ := h; exact m.sf) (fun H1 k527 figure_here σ' H' vfigure_here _ e524 hx523 hP e525 rfigure_here => ?_) (fun H1 σ' H' e524 hP => ?_)
  ·
    obtain ⟨y507, y508, y509, y510, y511, y512, y513, y514, y515, y516, y517, y518, y519, rfl, m526, dr528⟩ := hP
    refine s_gn ?_
    have hfigure_here := List.mem_of_getElem? hx523
    refine q_set (K := K) (er_frz (erl_sorted (er_frz (erl_lm2 (f := fun (x535 : (Int × Int)) => ((x535.1 * (5040 : Int)) / x535.2)) (src_list (er_frz (erl_lm1 (f := fun (x530 : (List Int)) => (m__law_figure x530 figure_here)) (src_list (er_call1 (er_var rfl (Rp.mono (((SF.of e524).trans m526.sf).trans (SF.of e525)) r494)) (by first | exact hF1 | exact hF2 | exact hF _ hbounds))) (by first | decide | exact few_rows hF1 | exact few_rows hF2 | exact few_rows (hF _ hbounds) | (rw [List.length_map]; first | exact few_rows hF1 | exact few_rows hF2 | exact few_rows (hF _ hbounds)) | (rw [hturn3, fold_app2]; simp [List.length_take]; omega)) (by intros; rfl) (fun x530 hx531 v532 _ e529 r533 => (er_call2 (er_var rfl r533) (er_var rfl (Rp.mono (SF.of e529) rfigure_here)) (by first | exact row_ne hB1 (by assumption) | exact row_ne hB2 (by assumption) | exact row_ne (hB _ hbounds) (by assumption))))))) (by first | decide | exact few_rows hF1 | exact few_rows hF2 | exact few_rows (hF _ hbounds) | (rw [List.length_map]; first | exact few_rows hF1 | exact few_rows hF2 | exact few_rows (hF _ hbounds)) | (rw [hturn3, fold_app2]; simp [List.length_take]; omega)) (by intros; rfl) (fun x535 hx536 v537 v538 _ e534 r539 r540 => (er_op (er_op (er_var rfl r539) er_int (rr_mul (by first | exact .inl ⟨by decide, by decide⟩ | exact .inr ⟨by decide, by decide⟩ | exact .inr ⟨by omega, by omega⟩))) (er_var rfl r540) (rr_div (by first | exact k9_dens hB1 hfigure_here (by assumption) | exact k9_dens hB2 hfigure_here (by assumption) | exact k9_dens (hB _ hbounds) hfigure_here (by assumption))))))))) (fun v543 _ e541 r542 => ?_)
    obtain ⟨first_544, hfirst_544⟩ : ∃ z, z = (srt (((rowsOf z0_b).map (fun (x530 : (List Int)) => (m__law_figure x530 figure_here))).map (fun (x535 : (Int × Int)) => ((x535.1 * (5040 : Int)) / x535.2)))) := ⟨_, rfl⟩
    replace r542 := Rp.cong r542 hfirst_544
    have hfirst : first_544 = srt (vals z0_b figure_here) := hfirst_544
    have hN1 : first_544 ≠ [] := by rw [hfirst]; exact srt_ne (vals_ne hB1 _)
    have r545 := (Rp.mono ((((SF.of e524).trans m526.sf).trans (SF.of e525)).trans (SF.of e541)) r494)
    have r546 := (Rp.mono ((((SF.of e524).trans m526.sf).trans (SF.of e525)).trans (SF.of e541)) r495)
    refine q_set (K := K) (er_frz (erl_sorted (er_frz (erl_lm2 (f := fun (x553 : (Int × Int)) => ((x553.1 * (5040 : Int)) / x553.2)) (src_list (er_frz (erl_lm1 (f := fun (x548 : (List Int)) => (m__law_figure x548 figure_here)) (src_list (er_call1 (er_var rfl r546) (by first | exact hF1 | exact hF2 | exact hF _ hbounds))) (by first | decide | exact few_rows hF1 | exact few_rows hF2 | exact few_rows (hF _ hbounds) | (rw [List.length_map]; first | exact few_rows hF1 | exact few_rows hF2 | exact few_rows (hF _ hbounds)) | (rw [hturn3, fold_app2]; simp [List.length_take]; omega)) (by intros; rfl) (fun x548 hx549 v550 _ e547 r551 => (er_call2 (er_var rfl r551) (er_var rfl (Rp.mono (SF.of e547) (Rp.mono (SF.of e541) rfigure_here))) (by first | exact row_ne hB1 (by assumption) | exact row_ne hB2 (by assumption) | exact row_ne (hB _ hbounds) (by assumption))))))) (by first | decide | exact few_rows hF1 | exact few_rows hF2 | exact few_rows (hF _ hbounds) | (rw [List.length_map]; first | exact few_rows hF1 | exact few_rows hF2 | exact few_rows (hF _ hbounds)) | (rw [hturn3, fold_app2]; simp [List.length_take]; omega)) (by intros; rfl) (fun x553 hx554 v555 v556 _ e552 r557 r558 => (er_op (er_op (er_var rfl r557) er_int (rr_mul (by first | exact .inl ⟨by decide, by decide⟩ | exact .inr ⟨by decide, by decide⟩ | exact .inr ⟨by omega, by omega⟩))) (er_var rfl r558) (rr_div (by first | exact k9_dens hB1 hfigure_here (by assumption) | exact k9_dens hB2 hfigure_here (by assumption) | exact k9_dens (hB _ hbounds) hfigure_here (by assumption))))))))) (fun v561 _ e559 r560 => ?_)
    obtain ⟨last_562, hlast_562⟩ : ∃ z, z = (srt (((rowsOf z0_b2).map (fun (x548 : (List Int)) => (m__law_figure x548 figure_here))).map (fun (x553 : (Int × Int)) => ((x553.1 * (5040 : Int)) / x553.2)))) := ⟨_, rfl⟩
    replace r560 := Rp.cong r560 hlast_562
    have hlast : last_562 = srt (vals z0_b2 figure_here) := hlast_562
    have hN2 : last_562 ≠ [] := by rw [hlast]; exact srt_ne (vals_ne hB2 _)
    refine q_set (K := K) er_str (fun v565 _ e563 r564 => ?_)
    have dr566 := (Dr.mono e563 (Dr.mono e559 (Dr.mono e541 (Dr.mono e525 dr528))))
    refine q_ifset (K := K) (et_test (er_op (er_op (er_var rfl (Rp.mono ((SF.of e559).trans (SF.of e563)) r542)) (er_neg er_int) (rr_ixLast (x := ((first_544).getLastD 0)) (by first | exact last_at hN1 | exact last_at hN2 | exact getD_at (List.length_pos_iff.mpr hN1) | exact getD_at (List.length_pos_iff.mpr hN2) | (exact getD_at (by rw [hfold3, fold_app2]; have := List.mem_range.mp (by assumption); simpa using this))))) (er_op (er_var rfl (Rp.mono (SF.of e563) r560)) er_int (rr_ixI (x := ((last_562).getD ((0 : Int)).toNat 0)) (n := ((0 : Int)).toNat) (by rfl) (by first | exact last_at hN1 | exact last_at hN2 | exact getD_at (List.length_pos_iff.mpr hN1) | exact getD_at (List.length_pos_iff.mpr hN2) | (exact getD_at (by rw [hfold3, fold_app2]; have := List.mem_range.mp (by assumption); simpa using this))))) rr_gt)) (fun hc568 _ e567 => (er_if (et_test (er_op (er_op (er_var rfl (Rp.mono (((SF.of e559).trans (SF.of e563)).trans (SF.of e567)) r542)) er_int (rr_ixI (x := ((first_544).getD ((0 : Int)).toNat 0)) (n := ((0 : Int)).toNat) (by rfl) (by first | exact last_at hN1 | exact last_at hN2 | exact getD_at (List.length_pos_iff.mpr hN1) | exact getD_at (List.length_pos_iff.mpr hN2) | (exact getD_at (by rw [hfold3, fold_app2]; have := List.mem_range.mp (by assumption); simpa using this))))) (er_op (er_var rfl (Rp.mono ((SF.of e563).trans (SF.of e567)) r560)) (er_neg er_int) (rr_ixLast (x := ((last_562).getLastD 0)) (by first | exact last_at hN1 | exact last_at hN2 | exact getD_at (List.length_pos_iff.mpr hN1) | exact getD_at (List.length_pos_iff.mpr hN2) | (exact getD_at (by rw [hfold3, fold_app2]; have := List.mem_range.mp (by assumption); simpa using this))))) rr_gt)) (fun _ => er_str) (fun _ => er_str))) rfl r564 (fun v570 _ e571 r569 => ?_)
    have r572 := (Rp.mono ((((SF.of e541).trans (SF.of e559)).trans (SF.of e563)).trans (SF.of e571)) rfigure_here)
    -- 1: is_more(_law_one, _law_other, _law_figure_here) != _law_due
    refine q_not (K := K) (et_test (er_op (er_call3 (er_var rfl (Rp.mono (((SF.of e559).trans (SF.of e563)).trans (SF.of e571)) r545)) (er_var rfl (Rp.mono (((SF.of e559).trans (SF.of e563)).trans (SF.of e571)) r546)) (er_var rfl r572) (by first | exact ⟨hB1, hB2, hfigure_here⟩ | exact ⟨hB1, hB1, by decide⟩)) (er_var rfl r569) rr_neS)) (by exact k9_1 hB1 hB2 hfigure_here hfirst hlast) (fun _ e573 => ?_)
    have r574 := (Rp.mono ((((SF.of e559).trans (SF.of e563)).trans (SF.of e571)).trans (SF.of e573)) r545)
    have r575 := (Rp.mono ((((SF.of e559).trans (SF.of e563)).trans (SF.of e571)).trans (SF.of e573)) r546)
    have r576 := (Rp.mono ((((SF.of e559).trans (SF.of e563)).trans (SF.of e571)).trans (SF.of e573)) r542)
    -- for _law_turn in range(3)
    refine q_for (K := K) (src_range1 (er_c (x := (3 : Nat)) fun _ => rfl) (by first | decide | exact few_rows hF1 | exact few_rows hF2 | exact few_rows (hF _ hbounds) | (rw [List.length_map]; first | exact few_rows hF1 | exact few_rows hF2 | exact few_rows (hF _ hbounds)) | (rw [hturn3, fold_app2]; simp [List.length_take]; omega))) (fun H1 k σ' H' => ∃ (y578 : Option V) (y579 : Option V) (y580 : Option V) (y581 : Option V), σ' = [some (.ref a), some (.ref pd), some v496, some v497, some vfigure_here, some v543, some v561, some v570, y578, y512, y513, y514, y515, y579, y580, y581, y519, none, none, none, none] ∧ Mus [pd, pn] H1 H' ∧ Dr H' pd pn) (fun H1 e => ⟨_, _, _, _, rfl, Mus.refl _, (Dr.mono e (Dr.mono e573 (Dr.mono e571 dr566)))⟩) (fun _ _ _ _ h => by obtain ⟨_, _, _, _, _, m, _⟩ := h; exact m.sf) (fun H1 k589 turn σ' H' vturn _ e586 hx585 hP e587 rturn => ?_) (fun H1 σ' H' e586 hP => ?_)
    ·
      obtain ⟨y578, y579, y580, y581, rfl, m588, dr590⟩ := hP
      refine s_gn ?_
      have hturn := List.mem_of_getElem? hx585
      have r591 := (Rp.mono ((((SF.of e573).trans (SF.of e586)).trans m588.sf).trans (SF.of e587)) r572)
      have r592 := (Rp.mono ((((((SF.of e563).trans (SF.of e571)).trans (SF.of e573)).trans (SF.of e586)).trans m588.sf).trans (SF.of e587)) r560)
      have r593 := (Rp.mono ((((SF.of e573).trans (SF.of e586)).trans m588.sf).trans (SF.of e587)) r569)
      refine q_setP (K := K) (Dr.mono e587 dr590) (ep_pick (fun _ m594 => (er_frz (erl_lst (ea_cons er_int (ea_cons er_int (ea_cons er_int (ea_cons er_int ea_nil))))))) (sub_dr rfl) (by first | decide | omega | (have := hz1; omega)) (by first | decide | omega | (have := hz1; omega))) (fun v596 _ under_c m598 dr599 hunder_c r597 => ?_)
      have hu : 1 ≤ under_c ∧ under_c ≤ 4 := by simp only [List.mem_cons, List.mem_nil_iff, or_false] at hunder_c; omega
      have r601 := (Rp.mono ((((SF.of e586).trans m588.sf).trans (SF.of e587)).trans m598.sf) r574)
      have r602 := (Rp.mono ((((SF.of e586).trans m588.sf).trans (SF.of e587)).trans m598.sf) r575)
      have r603 := (Rp.mono ((((SF.of e586).trans m588.sf).trans (SF.of e587)).trans m598.sf) r576)
      refine q_setP (K := K) dr599 (ep_op (ep_draw (fun _ m604 => (er_op er_int (er_var rfl (Rp.mono m604.sf r597)) (rr_mul (by first | exact .inl ⟨by decide, by decide⟩ | exact .inr ⟨by decide, by decide⟩ | exact .inr ⟨by omega, by omega⟩)))) (sub_dr rfl) (by first | decide | omega | (have := hz1; omega)) (by first | decide | omega | (have := hz1; omega))) (fun _ _ => (ep_of (fun _ m605 => (er_op er_int (er_var rfl (Rp.mono m605.sf r597)) (rr_mul (by first | exact .inl ⟨by decide, by decide⟩ | exact .inr ⟨by decide, by decide⟩ | exact .inr ⟨by omega, by omega⟩)))))) (fun _ _ _ _ => rr_sub)) (fun v607 _ x606 m609 dr610 h611 r608 => ?_)
      obtain ⟨top_d, _, htop_d, rfl, rfl⟩ := h611
      refine q_set (K := K) (er_chain (er_op (er_op (er_var rfl (Rp.mono m609.sf r603)) er_int (rr_ixI (x := ((first_544).getD ((0 : Int)).toNat 0)) (n := ((0 : Int)).toNat) (by rfl) (by first | exact last_at hN1 | exact last_at hN2 | exact getD_at (List.length_pos_iff.mpr hN1) | exact getD_at (List.length_pos_iff.mpr hN2) | (exact getD_at (by rw [hfold3, fold_app2]; have := List.mem_range.mp (by assumption); simpa using this))))) (er_var rfl (Rp.mono m609.sf r597)) (rr_mul (by first | exact .inl ⟨by decide, by decide⟩ | exact .inr ⟨by decide, by decide⟩ | exact .inr ⟨by omega, by omega⟩))) (er_op (er_var rfl r608) er_int (rr_mul (by first | exact .inl ⟨by decide, by decide⟩ | exact .inr ⟨by decide, by decide⟩ | exact .inr ⟨by omega, by omega⟩))) (er_op (er_op (er_var rfl (Rp.mono m609.sf r603)) (er_neg er_int) (rr_ixLast (x := ((first_544).getLastD 0)) (by first | exact last_at hN1 | exact last_at hN2 | exact getD_at (List.length_pos_iff.mpr hN1) | exact getD_at (List.length_pos_iff.mpr hN2) | (exact getD_at (by rw [hfold3, fold_app2]; have := List.mem_range.mp (by assumption); simpa using this))))) (er_var rfl (Rp.mono m609.sf r597)) (rr_mul (by first | exact .inl ⟨by decide, by decide⟩ | exact .inr ⟨by decide, by decide⟩ | exact .inr ⟨by omega, by omega⟩))) rr_le rr_le) (fun v614 _ e612 r613 => ?_)
      obtain ⟨inside_615, hinside_615⟩ : ∃ z, z = ((decide ((((first_544).getD ((0 : Int)).toNat 0) * under_c) ≤ ((top_d - ((8 : Int) * under_c)) * (5040 : Int)))) && (decide (((top_d - ((8 : Int) * under_c)) * (5040 : Int)) ≤ (((first_544).getLastD 0) * under_c)))) := ⟨_, rfl⟩
      replace r613 := Rp.cong r613 hinside_615
      have hinside := hinside_615
      refine q_last ?_
      -- 2: not _law_true(can_reach(_law_one, _law_figure_here, _law_low(_law_top, _law_under)), _law_inside)
      refine q_not (K := K) (et_not (et_B (er_call2 (er_call3 (er_var rfl (Rp.mono (m609.sf.trans (SF.of e612)) r601)) (er_var rfl (Rp.mono ((m598.sf.trans m609.sf).trans (SF.of e612)) r591)) (er_call2 (er_var rfl (Rp.mono (SF.of e612) r608)) (er_var rfl (Rp.mono (m609.sf.trans (SF.of e612)) r597)) (by exact ⟨by omega, by omega⟩)) (by have h := frI_le (x := top_d - 8 * under_c) (n := under_c) (by omega); exact ⟨hB1, hfigure_here, h.1, by omega⟩)) (er_var rfl r613) trivial))) (by exact k9_2 hB1 hfigure_here hfirst (by omega) hinside) (fun _ e616 => ?_)
      refine s_nx ?_
      exact ⟨_, _, _, _, rfl, ((((((Mus.baseS (Mus.refl _) m588 (allC (.inr (.head _)) (allC (.inr (.tail _ (.head _))) all0))).trans (Mus.of e587)).trans (Mus.dm m598 (.head _) (.tail _ (.head _)))).trans (Mus.dm m609 (.head _) (.tail _ (.head _)))).trans (Mus.of e612)).trans (Mus.of e616)), (Dr.mono e616 (Dr.mono e612 dr610))⟩
    ·
      obtain ⟨y578, y579, y580, y581, rfl, m588, dr590⟩ := hP
      have r617 := (Rp.mono (((((SF.of e563).trans (SF.of e571)).trans (SF.of e573)).trans (SF.of e586)).trans m588.sf) r560)
      refine q_setP (K := K) dr590 (ep_frz (epl_lst3 (ep_of (fun _ m618 => (er_var rfl (Rp.mono (((SF.of e586).trans m588.sf).trans m618.sf) r574)))) (fun _ _ => (ep_of (fun _ m619 => (er_var rfl (Rp.mono (((SF.of e586).trans m588.sf).trans m619.sf) r575))))) (fun _ _ _ _ => (ep_frz (epl_draws (fun _ m620 => er_int) (sub_dr rfl) (by first | decide | omega | (have := hz1; omega))))))) (fun v626 _ x625 m628 dr629 h630 r627 => ?_)
      obtain ⟨w621, w623, lists_b, g622, g624, hlists_b, rfl⟩ := h630
      obtain rfl : z0_b = w621 := g622.symm
      obtain rfl : z0_b2 = w623 := g624.symm
      have hF3 := small_few hlists_b (by decide)
      have hB3 := small_bok hlists_b (by decide)
      have hF : ∀ x ∈ [z0_b, z0_b2, lists_b], Few x := by
        intro x hx
        simp only [List.mem_cons, List.mem_nil_iff, or_false] at hx
        rcases hx with h | h | h <;> subst h <;> assumption
      have hB : ∀ x ∈ [z0_b, z0_b2, lists_b], BOk x := by
        intro x hx
        simp only [List.mem_cons, List.mem_nil_iff, or_false] at hx
        rcases hx with h | h | h <;> subst h <;> assumption
      have r631 := (Rp.mono ((((SF.of e573).trans (SF.of e586)).trans m588.sf).trans m628.sf) r572)
      have r632 := (Rp.mono ((((SF.of e573).trans (SF.of e586)).trans m588.sf).trans m628.sf) r569)
      refine q_unpL (K := K) (erl_lst (α := Int) ea_nil) (erl_lst (α := Int) ea_nil) (fun p638 p639 _ _ _ _ e640 e641 n642 n643 h644 l646 h645 l647 => ?_)
      have n650 := Dr.pd_ne dr629 n642
      have n651 := Dr.pn_ne dr629 n642
      have f652 := Mus.fresh ((Mus.baseS ((((((((Mus.baseS (Mus.refl _) m526 (allC (.inr (.head _)) (allC (.inr (.tail _ (.head _))) all0))).trans (Mus.of e525)).trans (Mus.of e541)).trans (Mus.of e559)).trans (Mus.of e563)).trans (Mus.of e571)).trans (Mus.of e573)).trans (Mus.of e586)) m588 (allC (.inr (.head _)) (allC (.inr (.tail _ (.head _))) all0))).trans (Mus.dm m628 (.head _) (.tail _ (.head _)))) (nin n650.symm (nin n651.symm nin0)) n642
      have u648 := Un.of h644 l646
      have n653 : p638 ≠ p639 := Un.nep u648 n643
      have n654 := Dr.pd_ne (Dr.mono e640 dr629) n643
      have n655 := Dr.pn_ne (Dr.mono e640 dr629) n643
      have f656 := Mus.fresh (((Mus.baseS ((((((((Mus.baseS (Mus.refl _) m526 (allC (.inr (.head _)) (allC (.inr (.tail _ (.head _))) all0))).trans (Mus.of e525)).trans (Mus.of e541)).trans (Mus.of e559)).trans (Mus.of e563)).trans (Mus.of e571)).trans (Mus.of e573)).trans (Mus.of e586)) m588 (allC (.inr (.head _)) (allC (.inr (.tail _ (.head _))) all0))).trans (Mus.dm m628 (.head _) (.tail _ (.head _)))).trans (Mus.of e640)) (nin n654.symm (nin n655.symm nin0)) n643
      have u649 := Un.of h645 l647
      have r657 := (Rp.mono (((((SF.of e586).trans m588.sf).trans m628.sf).trans (SF.of e640)).trans (SF.of e641)) r574)
      have r658 := (Rp.mono (((((SF.of e586).trans m588.sf).trans m628.sf).trans (SF.of e640)).trans (SF.of e641)) r575)
      have r659 := (Rp.mono (((((SF.of e586).trans m588.sf).trans m628.sf).trans (SF.of e640)).trans (SF.of e641)) r576)
      -- for _law_bounds in _law_lists
      refine q_for (K := K) (src_list (er_var rfl (Rp.mono ((SF.of e640).trans (SF.of e641)) r627))) (fun H1 k σ' H' => ∃ (s663 : ((List Int) × (List Int))) (y661 : Option V) (y662 : Option V), σ' = [some (.ref a), some (.ref pd), some v496, some v497, some vfigure_here, some v543, some v561, some v570, y578, some v626, some (.ref p638), some (.ref p639), y661, y579, y580, y581, y662, none, none, none, none] ∧ s663 = (List.take k ([z0_b, z0_b2, lists_b])).foldl (fun (s663 : ((List Int) × (List Int))) (bounds : (List (Int × Int))) => (((s663.1 ++ [(mxl (((rowsOf bounds).map (fun (x680 : (List Int)) => (m__law_figure x680 figure_here))).map (fun (x685 : (Int × Int)) => ((x685.1 * (5040 : Int)) / x685.2))))]), (s663.2 ++ [(mnl (((rowsOf bounds).map (fun (x680 : (List Int)) => (m__law_figure x680 figure_here))).map (fun (x685 : (Int × Int)) => ((x685.1 * (5040 : Int)) / x685.2))))])) : ((List Int) × (List Int)))) (([] : (List Int)), ([] : (List Int))) ∧ Mus [p638, p639] H1 H' ∧ Un K H' p638 s663.1 ∧ Un K H' p639 s663.2) (fun H1 e => ⟨(([] : (List Int)), ([] : (List Int))), _, _, rfl, rfl, Mus.refl _, (Un.mono e (Un.mono e641 u648)), (Un.mono e u649)⟩) (fun _ _ _ _ h => by obtain ⟨_, _, _, _, _, m, _, _⟩ := h; exact m.sf) (fun H1 k670 bounds σ' H' vbounds _ e667 hx666 hP e668 rbounds => ?_) (fun H1 σ' H' e667 hP => ?_)
      ·
        obtain ⟨s663, y661, y662, rfl, hs664, m669, u671, u672⟩ := hP
        refine s_gn ?_
        have hbounds := List.mem_of_getElem? hx666
        have hturn3 := hs664
        have r674 := (Rp.mono (((((SF.of e640).trans (SF.of e641)).trans (SF.of e667)).trans m669.sf).trans (SF.of e668)) r631)
        have r675 := (Rp.mono (((((m628.sf.trans (SF.of e640)).trans (SF.of e641)).trans (SF.of e667)).trans m669.sf).trans (SF.of e668)) r617)
        have r676 := (Rp.mono (((((SF.of e640).trans (SF.of e641)).trans (SF.of e667)).trans m669.sf).trans (SF.of e668)) r632)
        have r677 := (Rp.mono (((((SF.of e640).trans (SF.of e641)).trans (SF.of e667)).trans m669.sf).trans (SF.of e668)) r627)
        have dr678 := (Dr.mono e668 (Dr.mus m669 (nin n650 (nin n654 nin0)) (nin n651 (nin n655 nin0)) (Dr.mono e667 (Dr.mono e641 (Dr.mono e640 dr629)))))
        refine q_setL (K := K) (erl_lm2 (f := fun (x685 : (Int × Int)) => ((x685.1 * (5040 : Int)) / x685.2)) (src_list (er_frz (erl_lm1 (f := fun (x680 : (List Int)) => (m__law_figure x680 figure_here)) (src_list (er_call1 (er_var rfl rbounds) (by first | exact hF1 | exact hF2 | exact hF _ hbounds))) (by first | decide | exact few_rows hF1 | exact few_rows hF2 | exact few_rows (hF _ hbounds) | (rw [List.length_map]; first | exact few_rows hF1 | exact few_rows hF2 | exact few_rows (hF _ hbounds)) | (rw [hturn3, fold_app2]; simp [List.length_take]; omega)) (by intros; rfl) (fun x680 hx681 v682 _ e679 r683 => (er_call2 (er_var rfl r683) (er_var rfl (Rp.mono (SF.of e679) r674)) (by first | exact row_ne hB1 (by assumption) | exact row_ne hB2 (by assumption) | exact row_ne (hB _ hbounds) (by assumption))))))) (by first | decide | exact few_rows hF1 | exact few_rows hF2 | exact few_rows (hF _ hbounds) | (rw [List.length_map]; first | exact few_rows hF1 | exact few_rows hF2 | exact few_rows (hF _ hbounds)) | (rw [hturn3, fold_app2]; simp [List.length_take]; omega)) (by intros; rfl) (fun x685 hx686 v687 v688 _ e684 r689 r690 => (er_op (er_op (er_var rfl r689) er_int (rr_mul (by first | exact .inl ⟨by decide, by decide⟩ | exact .inr ⟨by decide, by decide⟩ | exact .inr ⟨by omega, by omega⟩))) (er_var rfl r690) (rr_div (by first | exact k9_dens hB1 hfigure_here (by assumption) | exact k9_dens hB2 hfigure_here (by assumption) | exact k9_dens (hB _ hbounds) hfigure_here (by assumption)))))) (fun p695 _ _ e691 hn696 hp697 rl698 => ?_)
        refine q_frz (K := K) rfl (Un.of hp697 rl698) (fun _ m694 r692 => ?_)
        replace e691 := Mu.base m694 e691 hn696
        have r699 := (Rp.mono ((((SF.of e667).trans m669.sf).trans (SF.of e668)).trans (SF.of e691)) r657)
        have r700 := (Rp.mono ((((SF.of e667).trans m669.sf).trans (SF.of e668)).trans (SF.of e691)) r658)
        have r701 := (Rp.mono ((((SF.of e667).trans m669.sf).trans (SF.of e668)).trans (SF.of e691)) r659)
        refine q_app (K := K) rfl (Un.mono e691 (Un.mono e668 u671)) (er_max (er_var rfl r692) (by first | exact vals_ne (hB _ hbounds) _ | (rw [hfold3, fold_app2]; simp))) (by first | decide | exact few_rows hF1 | exact few_rows hF2 | exact few_rows (hF _ hbounds) | (rw [List.length_map]; first | exact few_rows hF1 | exact few_rows hF2 | exact few_rows (hF _ hbounds)) | (rw [hturn3, fold_app2]; simp [List.length_take]; omega)) (fun _ m702 u703 => ?_)
        refine q_last ?_
        refine q_app (K := K) rfl (Un.ne m702 n653.symm (Un.mono e691 (Un.mono e668 u672))) (er_min (er_var rfl (Rp.mono m702.sf r692)) (by first | exact vals_ne (hB _ hbounds) _ | (rw [hfold3, fold_app2]; simp))) (by first | decide | exact few_rows hF1 | exact few_rows hF2 | exact few_rows (hF _ hbounds) | (rw [List.length_map]; first | exact few_rows hF1 | exact few_rows hF2 | exact few_rows (hF _ hbounds)) | (rw [hturn3, fold_app2]; simp [List.length_take]; omega)) (fun _ m704 u705 => ?_)
        refine s_nx ?_
        exact ⟨((s663.1 ++ [(mxl (((rowsOf bounds).map (fun (x680 : (List Int)) => (m__law_figure x680 figure_here))).map (fun (x685 : (Int × Int)) => ((x685.1 * (5040 : Int)) / x685.2))))]), (s663.2 ++ [(mnl (((rowsOf bounds).map (fun (x680 : (List Int)) => (m__law_figure x680 figure_here))).map (fun (x685 : (Int × Int)) => ((x685.1 * (5040 : Int)) / x685.2))))])), _, _, rfl, (fold_step hx666 hs664), (((((Mus.baseS (Mus.refl _) m669 (allC (.inr (.head _)) (allC (.inr (.tail _ (.head _))) all0))).trans (Mus.of e668)).trans (Mus.of e691)).trans (Mus.mu m702 (.head _))).trans (Mus.mu m704 (.tail _ (.head _)))), (Un.ne m704 n653 u703), u705⟩
      ·
        obtain ⟨s663, y661, y662, rfl, hs664, m669, u671, u672⟩ := hP
        replace hs664 := fold_all hs664
        have hfold3 := hs664
        refine q_frz (K := K) rfl u671 (fun _ m706 r707 => ?_)
        refine q_frz (K := K) rfl (Un.ne m706 n653.symm u672) (fun _ m708 r709 => ?_)
        refine q_last ?_
        have r710 := (Rp.mono ((((SF.of e667).trans m669.sf).trans m706.sf).trans m708.sf) r657)
        have r711 := (Rp.mono ((((SF.of e667).trans m669.sf).trans m706.sf).trans m708.sf) r658)
        have r712 := (Rp.mono ((((((SF.of e640).trans (SF.of e641)).trans (SF.of e667)).trans m669.sf).trans m706.sf).trans m708.sf) r631)
        have r713 := (Rp.mono ((((SF.of e667).trans m669.sf).trans m706.sf).trans m708.sf) r659)
        have r714 := (Rp.mono ((((((m628.sf.trans (SF.of e640)).trans (SF.of e641)).trans (SF.of e667)).trans m669.sf).trans m706.sf).trans m708.sf) r617)
        have r715 := (Rp.mono ((((((SF.of e640).trans (SF.of e641)).trans (SF.of e667)).trans m669.sf).trans m706.sf).trans m708.sf) r632)
        have r716 := (Rp.mono ((((((SF.of e640).trans (SF.of e641)).trans (SF.of e667)).trans m669.sf).trans m706.sf).trans m708.sf) r627)
        have dr717 := (Dr.of_mu m708 n654 n655 (Dr.of_mu m706 n650 n651 (Dr.mus m669 (nin n650 (nin n654 nin0)) (nin n651 (nin n655 nin0)) (Dr.mono e667 (Dr.mono e641 (Dr.mono e640 dr629))))))
        -- 3: best_figures(_law_lists, _law_figure_here) != [_law_k for _law_k in range(3) if _law_tops[_law_k] >= max(_law_bottoms)]
        refine q_not (K := K) (et_test (er_op (er_frz (erl_call2 (er_var rfl r716) (er_var rfl r712) (by first | exact ⟨Nat.le_add_left 1 2, Nat.le_add_left 3 2, hB, hfigure_here⟩ | exact ⟨Nat.le_refl 1, Nat.le_add_left 1 4, fun x hx => by rw [List.mem_singleton.mp hx]; exact hB1, by decide⟩))) (er_frz (erl_lc1 (c := fun (x719 : Nat) => (decide (((s663.1).getD (x719) 0) ≥ (mxl s663.2)))) (f := fun (x719 : Nat) => x719) (src_range1 (er_c (x := (3 : Nat)) fun _ => rfl) (by first | decide | exact few_rows hF1 | exact few_rows hF2 | exact few_rows (hF _ hbounds) | (rw [List.length_map]; first | exact few_rows hF1 | exact few_rows hF2 | exact few_rows (hF _ hbounds)) | (rw [hturn3, fold_app2]; simp [List.length_take]; omega))) (by first | decide | exact few_rows hF1 | exact few_rows hF2 | exact few_rows (hF _ hbounds) | (rw [List.length_map]; first | exact few_rows hF1 | exact few_rows hF2 | exact few_rows (hF _ hbounds)) | (rw [hturn3, fold_app2]; simp [List.length_take]; omega)) (by intros; rfl) (fun x719 hx720 v721 _ e718 r722 => ⟨(et_test (er_op (er_op (er_var rfl (Rp.mono (SF.of e718) (Rp.mono m708.sf r707))) (er_up (er_var rfl r722)) (rr_ixL (x := ((s663.1).getD (x719) 0)) (by first | exact last_at hN1 | exact last_at hN2 | exact getD_at (List.length_pos_iff.mpr hN1) | exact getD_at (List.length_pos_iff.mpr hN2) | (exact getD_at (by rw [hfold3, fold_app2]; have := List.mem_range.mp (by assumption); simpa using this))))) (er_max (er_var rfl (Rp.mono (SF.of e718) r709)) (by first | exact vals_ne (hB _ hbounds) _ | (rw [hfold3, fold_app2]; simp))) rr_ge)), fun _ => (er_var rfl r722)⟩))) rr_neT)) (by exact k9_3 hB1 hB2 hB3 hfigure_here (by rw [hfold3, fold_app2]; rfl) (by rw [hfold3, fold_app2]; rfl)) (fun _ e723 => ?_)
        refine s_nx ?_
        exact ⟨_, _, _, _, _, _, _, _, _, _, _, _, _, rfl, ((Mus.mut (Mus.mut (Mus.baseS (((((Mus.baseS ((((((((Mus.baseS (Mus.refl _) m526 (allC (.inr (.head _)) (allC (.inr (.tail _ (.head _))) all0))).trans (Mus.of e525)).trans (Mus.of e541)).trans (Mus.of e559)).trans (Mus.of e563)).trans (Mus.of e571)).trans (Mus.of e573)).trans (Mus.of e586)) m588 (allC (.inr (.head _)) (allC (.inr (.tail _ (.head _))) all0))).trans (Mus.dm m628 (.head _) (.tail _ (.head _)))).trans (Mus.of e640)).trans (Mus.of e641)).trans (Mus.of e667)) m669 (allC (.inl f652) (allC (.inl f656) all0))) f652 m706) f656 m708).trans (Mus.of e723)), (Dr.mono e723 dr717)⟩
  ·
    obtain ⟨y507, y508, y509, y510, y511, y512, y513, y514, y515, y516, y517, y518, y519, rfl, m526, dr528⟩ := hP
    -- end: best_figures([_law_one], 'sum') == [0] and is_more(_law_one, _law_one, 'mean') in ['never', 'possible']
    exact s_true (K := K) (er_andV (er_op (er_frz (erl_call2 (er_frz (erl_lst (ea_cons (er_var rfl (Rp.mono ((SF.of e524).trans m526.sf) r494)) ea_nil))) er_str (by first | exact ⟨Nat.le_add_left 1 2, Nat.le_add_left 3 2, hB, hfigure_here⟩ | exact ⟨Nat.le_refl 1, Nat.le_add_left 1 4, fun x hx => by rw [List.mem_singleton.mp hx]; exact hB1, by decide⟩))) (er_frz (erl_lst (α := Nat) (ea_cons (er_c (x := (0 : Nat)) fun _ => rfl) ea_nil))) rr_eqT) (fun _ => (er_op (er_call3 (er_var rfl (Rp.mono ((SF.of e524).trans m526.sf) r494)) (er_var rfl (Rp.mono ((SF.of e524).trans m526.sf) r494)) er_str (by first | exact ⟨hB1, hB2, hfigure_here⟩ | exact ⟨hB1, hB1, by decide⟩)) (er_frz (erl_lst (ea_cons er_str (ea_cons er_str ea_nil)))) (rr_inS (n := false))))) (by exact k9_end hB1) q
end
end BL

set_option Elab.async false
set_option linter.all false
set_option maxRecDepth 100000
set_option maxHeartbeats 0
namespace BL
open PySem PySem.Spec PyProof.Rows L2
def dd_is_int : He.DefD := ⟨("is_int", none), "is_int", "is_int", defArgs s_is_int, defBody s_is_int, defScope s_is_int, [], []⟩
def dd_is_bound : He.DefD := ⟨("is_bound", none), "is_bound", "is_bound", defArgs s_is_bound, defBody s_is_bound, defScope s_is_bound, [], []⟩
def dd_is_bounds : He.DefD := ⟨("is_bounds", none), "is_bounds", "is_bounds", defArgs s_is_bounds, defBody s_is_bounds, defScope s_is_bounds, [], []⟩
def dd_check_bounds : He.DefD := ⟨("check_bounds", none), "check_bounds", "check_bounds", defArgs s_check_bounds, defBody s_check_bounds, defScope s_check_bounds, [], []⟩
def dd_common_divisor : He.DefD := ⟨("common_divisor", none), "common_divisor", "common_divisor", defArgs s_common_divisor, defBody s_common_divisor, defScope s_common_divisor, [], []⟩
def dd_lowest : He.DefD := ⟨("lowest", none), "lowest", "lowest", defArgs s_lowest, defBody s_lowest, defScope s_lowest, [], []⟩
def dd_less : He.DefD := ⟨("less", none), "less", "less", defArgs s_less, defBody s_less, defScope s_less, [], []⟩
def dd_lows : He.DefD := ⟨("lows", none), "lows", "lows", defArgs s_lows, defBody s_lows, defScope s_lows, [], []⟩
def dd_highs : He.DefD := ⟨("highs", none), "highs", "highs", defArgs s_highs, defBody s_highs, defScope s_highs, [], []⟩
def dd_sum_range : He.DefD := ⟨("sum_range", none), "sum_range", "sum_range", defArgs s_sum_range, defBody s_sum_range, defScope s_sum_range, [], []⟩
def dd_mean_range : He.DefD := ⟨("mean_range", none), "mean_range", "mean_range", defArgs s_mean_range, defBody s_mean_range, defScope s_mean_range, [], []⟩
def dd_middle : He.DefD := ⟨("middle", none), "middle", "middle", defArgs s_middle, defBody s_middle, defScope s_middle, [], []⟩
def dd_median_range : He.DefD := ⟨("median_range", none), "median_range", "median_range", defArgs s_median_range, defBody s_median_range, defScope s_median_range, [], []⟩
def dd_least_range : He.DefD := ⟨("least_range", none), "least_range", "least_range", defArgs s_least_range, defBody s_least_range, defScope s_least_range, [], []⟩
def dd_greatest_range : He.DefD := ⟨("greatest_range", none), "greatest_range", "greatest_range", defArgs s_greatest_range, defBody s_greatest_range, defScope s_greatest_range, [], []⟩
def dd_as_fractions : He.DefD := ⟨("as_fractions", none), "as_fractions", "as_fractions", defArgs s_as_fractions, defBody s_as_fractions, defScope s_as_fractions, [], []⟩
def dd_figure_range : He.DefD := ⟨("figure_range", none), "figure_range", "figure_range", defArgs s_figure_range, defBody s_figure_range, defScope s_figure_range, [], []⟩
def dd_check_figure : He.DefD := ⟨("check_figure", none), "check_figure", "check_figure", defArgs s_check_figure, defBody s_check_figure, defScope s_check_figure, [], []⟩
def dd_verdict : He.DefD := ⟨("verdict", none), "verdict", "verdict", defArgs s_verdict, defBody s_verdict, defScope s_verdict, [], []⟩
def dd_is_more : He.DefD := ⟨("is_more", none), "is_more", "is_more", defArgs s_is_more, defBody s_is_more, defScope s_is_more, [], []⟩
def dd_can_reach : He.DefD := ⟨("can_reach", none), "can_reach", "can_reach", defArgs s_can_reach, defBody s_can_reach, defScope s_can_reach, [], []⟩
def dd_best_figures : He.DefD := ⟨("best_figures", none), "best_figures", "best_figures", defArgs s_best_figures, defBody s_best_figures, defScope s_best_figures, [], []⟩
def dd__law_start : He.DefD := ⟨("_law_start", none), "_law_start", "_law_start", defArgs s__law_start, defBody s__law_start, defScope s__law_start, [], []⟩
def dd__law_draw : He.DefD := ⟨("_law_draw", none), "_law_draw", "_law_draw", defArgs s__law_draw, defBody s__law_draw, defScope s__law_draw, [], []⟩
def dd__law_pick : He.DefD := ⟨("_law_pick", none), "_law_pick", "_law_pick", defArgs s__law_pick, defBody s__law_pick, defScope s__law_pick, [], []⟩
def dd__law_true : He.DefD := ⟨("_law_true", none), "_law_true", "_law_true", defArgs s__law_true, defBody s__law_true, defScope s__law_true, [], []⟩
def dd__law_choices : He.DefD := ⟨("_law_choices", none), "_law_choices", "_law_choices", defArgs s__law_choices, defBody s__law_choices, defScope s__law_choices, [], []⟩
def dd__law_small : He.DefD := ⟨("_law_small", none), "_law_small", "_law_small", defArgs s__law_small, defBody s__law_small, defScope s__law_small, [], []⟩
def dd__law_low : He.DefD := ⟨("_law_low", none), "_law_low", "_law_low", defArgs s__law_low, defBody s__law_low, defScope s__law_low, [], []⟩
def dd__law_middle : He.DefD := ⟨("_law_middle", none), "_law_middle", "_law_middle", defArgs s__law_middle, defBody s__law_middle, defScope s__law_middle, [], []⟩
def dd__law_figure : He.DefD := ⟨("_law_figure", none), "_law_figure", "_law_figure", defArgs s__law_figure, defBody s__law_figure, defScope s__law_figure, [], []⟩
def dd_law : He.DefD := ⟨("law", none), "law", "law", defArgs s_law, defBody s_law, defScope s_law, [], []⟩
def fnD : List He.DefD := [dd_is_int, dd_is_bound, dd_is_bounds, dd_check_bounds, dd_common_divisor, dd_lowest, dd_less, dd_lows, dd_highs, dd_sum_range, dd_mean_range, dd_middle, dd_median_range, dd_least_range, dd_greatest_range, dd_as_fractions, dd_figure_range, dd_check_figure, dd_verdict, dd_is_more, dd_can_reach, dd_best_figures, dd__law_start, dd__law_draw, dd__law_pick, dd__law_true, dd__law_choices, dd__law_small, dd__law_low, dd__law_middle, dd__law_figure, dd_law]
def faD : List He.Fa := [.glo "is_int", .glo "is_bound", .glo "is_bounds", .glo "check_bounds", .glo "common_divisor", .glo "lowest", .glo "less", .glo "lows", .glo "highs", .glo "sum_range", .glo "mean_range", .glo "middle", .glo "median_range", .glo "least_range", .glo "greatest_range", .glo "as_fractions", .glo "figure_range", .glo "check_figure", .glo "verdict", .glo "is_more", .glo "can_reach", .glo "best_figures", .glo "_law_start", .glo "_law_draw", .glo "_law_pick", .glo "_law_true", .glo "_law_choices", .glo "_law_small", .glo "_law_low", .glo "_law_middle", .glo "_law_figure", .glo "law", .free "abs", .free "all", .free "any", .free "bool", .free "enumerate", .free "int", .free "isinstance", .free "len", .free "list", .free "max", .free "min", .free "range", .free "sorted", .free "str", .free "sum", .free "tuple", .glo "FIGURES", .int "MOST_BOUND" 50, .int "MOST_VALUES" 7]
abbrev rowR : PySem.W.OpenRow := PySem.W.OpenLaw.row PySem.Challenge.rw_boundstats_k09_whole_compared
def exD (K : Fg) : Bool := He.tupB K "FIGURES" ((["sum", "mean", "median", "least", "greatest"] : List Str).map He.Dv.str)
abbrev hkD : PySem.W.Hook := hookB 4 faD fnD exD
def obD (s : PySem.W.SharedT) : He.AlD × Bool := (He.obsDG 4 faD fnD (HandSHeadRun.getT s), exD (He.frG (HandSHeadRun.getT s) (He.asD (HandSHeadRun.getT s) 4)))
theorem obD_eq (s : PySem.W.SharedT) : obD s = hkD.obs s.abs := hookB_eq (HandSHeadRun.getT_eq s)
def looseD0 : List Str := ["BoundError", "BadBounds", "BadNumber", "MOST_VALUES", "MOST_BOUND", "is_int", "is_bound", "is_bounds", "check_bounds", "common_divisor", "lowest", "less", "lows", "highs", "sum_range", "mean_range", "middle", "median_range", "least_range", "greatest_range"]
def looseD1 : List Str := ["FIGURES", "as_fractions", "figure_range", "check_figure", "verdict", "is_more", "can_reach", "best_figures", "_law_start", "_law_draw", "_law_pick", "_law_true", "_law_choices", "_law_small", "_law_low", "_law_middle", "_law_figure"]
def looseD : List Str := looseD0 ++ looseD1
theorem runD (w : World) : HandSHeadRun.RunEq rowR (PySem.W.view rowR.prog [42]) hkD obD 3000 looseD w := by
  intro os
  kernel_rfl
theorem txt_of {K : Fg} {h : Heap} {mg : Str → Option Value} (X : K.In h) (G : h.Ns mainGlobals mg) (c : He.SaysD faD fnD K) (cx : exD K = true) : Txt K mg where
  d_is_int := by
    obtain ⟨fd, F⟩ := c.def_ 0 (d := dd_is_int) rfl
    exact ⟨_, fd, F, He.glo_ok X G (c.fact 0 (f := .glo "is_int") rfl)⟩
  d_is_bound := by
    obtain ⟨fd, F⟩ := c.def_ 1 (d := dd_is_bound) rfl
    exact ⟨_, fd, F, He.glo_ok X G (c.fact 1 (f := .glo "is_bound") rfl)⟩
  d_is_bounds := by
    obtain ⟨fd, F⟩ := c.def_ 2 (d := dd_is_bounds) rfl
    exact ⟨_, fd, F, He.glo_ok X G (c.fact 2 (f := .glo "is_bounds") rfl)⟩
  d_check_bounds := by
    obtain ⟨fd, F⟩ := c.def_ 3 (d := dd_check_bounds) rfl
    exact ⟨_, fd, F, He.glo_ok X G (c.fact 3 (f := .glo "check_bounds") rfl)⟩
  d_common_divisor := by
    obtain ⟨fd, F⟩ := c.def_ 4 (d := dd_common_divisor) rfl
    exact ⟨_, fd, F, He.glo_ok X G (c.fact 4 (f := .glo "common_divisor") rfl)⟩
  d_lowest := by
    obtain ⟨fd, F⟩ := c.def_ 5 (d := dd_lowest) rfl
    exact ⟨_, fd, F, He.glo_ok X G (c.fact 5 (f := .glo "lowest") rfl)⟩
  d_less := by
    obtain ⟨fd, F⟩ := c.def_ 6 (d := dd_less) rfl
    exact ⟨_, fd, F, He.glo_ok X G (c.fact 6 (f := .glo "less") rfl)⟩
  d_lows := by
    obtain ⟨fd, F⟩ := c.def_ 7 (d := dd_lows) rfl
    exact ⟨_, fd, F, He.glo_ok X G (c.fact 7 (f := .glo "lows") rfl)⟩
  d_highs := by
    obtain ⟨fd, F⟩ := c.def_ 8 (d := dd_highs) rfl
    exact ⟨_, fd, F, He.glo_ok X G (c.fact 8 (f := .glo "highs") rfl)⟩
  d_sum_range := by
    obtain ⟨fd, F⟩ := c.def_ 9 (d := dd_sum_range) rfl
    exact ⟨_, fd, F, He.glo_ok X G (c.fact 9 (f := .glo "sum_range") rfl)⟩
  d_mean_range := by
    obtain ⟨fd, F⟩ := c.def_ 10 (d := dd_mean_range) rfl
    exact ⟨_, fd, F, He.glo_ok X G (c.fact 10 (f := .glo "mean_range") rfl)⟩
  d_middle := by
    obtain ⟨fd, F⟩ := c.def_ 11 (d := dd_middle) rfl
    exact ⟨_, fd, F, He.glo_ok X G (c.fact 11 (f := .glo "middle") rfl)⟩
  d_median_range := by
    obtain ⟨fd, F⟩ := c.def_ 12 (d := dd_median_range) rfl
    exact ⟨_, fd, F, He.glo_ok X G (c.fact 12 (f := .glo "median_range") rfl)⟩
  d_least_range := by
    obtain ⟨fd, F⟩ := c.def_ 13 (d := dd_least_range) rfl
    exact ⟨_, fd, F, He.glo_ok X G (c.fact 13 (f := .glo "least_range") rfl)⟩
  d_greatest_range := by
    obtain ⟨fd, F⟩ := c.def_ 14 (d := dd_greatest_range) rfl
    exact ⟨_, fd, F, He.glo_ok X G (c.fact 14 (f := .glo "greatest_range") rfl)⟩
  d_as_fractions := by
    obtain ⟨fd, F⟩ := c.def_ 15 (d := dd_as_fractions) rfl
    exact ⟨_, fd, F, He.glo_ok X G (c.fact 15 (f := .glo "as_fractions") rfl)⟩
  d_figure_range := by
    obtain ⟨fd, F⟩ := c.def_ 16 (d := dd_figure_range) rfl
    exact ⟨_, fd, F, He.glo_ok X G (c.fact 16 (f := .glo "figure_range") rfl)⟩
  d_check_figure := by
    obtain ⟨fd, F⟩ := c.def_ 17 (d := dd_check_figure) rfl
    exact ⟨_, fd, F, He.glo_ok X G (c.fact 17 (f := .glo "check_figure") rfl)⟩
  d_verdict := by
    obtain ⟨fd, F⟩ := c.def_ 18 (d := dd_verdict) rfl
    exact ⟨_, fd, F, He.glo_ok X G (c.fact 18 (f := .glo "verdict") rfl)⟩
  d_is_more := by
    obtain ⟨fd, F⟩ := c.def_ 19 (d := dd_is_more) rfl
    exact ⟨_, fd, F, He.glo_ok X G (c.fact 19 (f := .glo "is_more") rfl)⟩
  d_can_reach := by
    obtain ⟨fd, F⟩ := c.def_ 20 (d := dd_can_reach) rfl
    exact ⟨_, fd, F, He.glo_ok X G (c.fact 20 (f := .glo "can_reach") rfl)⟩
  d_best_figures := by
    obtain ⟨fd, F⟩ := c.def_ 21 (d := dd_best_figures) rfl
    exact ⟨_, fd, F, He.glo_ok X G (c.fact 21 (f := .glo "best_figures") rfl)⟩
  d__law_start := by
    obtain ⟨fd, F⟩ := c.def_ 22 (d := dd__law_start) rfl
    exact ⟨_, fd, F, He.glo_ok X G (c.fact 22 (f := .glo "_law_start") rfl)⟩
  d__law_draw := by
    obtain ⟨fd, F⟩ := c.def_ 23 (d := dd__law_draw) rfl
    exact ⟨_, fd, F, He.glo_ok X G (c.fact 23 (f := .glo "_law_draw") rfl)⟩
  d__law_pick := by
    obtain ⟨fd, F⟩ := c.def_ 24 (d := dd__law_pick) rfl
    exact ⟨_, fd, F, He.glo_ok X G (c.fact 24 (f := .glo "_law_pick") rfl)⟩
  d__law_true := by
    obtain ⟨fd, F⟩ := c.def_ 25 (d := dd__law_true) rfl
    exact ⟨_, fd, F, He.glo_ok X G (c.fact 25 (f := .glo "_law_true") rfl)⟩
  d__law_choices := by
    obtain ⟨fd, F⟩ := c.def_ 26 (d := dd__law_choices) rfl
    exact ⟨_, fd, F, He.glo_ok X G (c.fact 26 (f := .glo "_law_choices") rfl)⟩
  d__law_small := by
    obtain ⟨fd, F⟩ := c.def_ 27 (d := dd__law_small) rfl
    exact ⟨_, fd, F, He.glo_ok X G (c.fact 27 (f := .glo "_law_small") rfl)⟩
  d__law_low := by
    obtain ⟨fd, F⟩ := c.def_ 28 (d := dd__law_low) rfl
    exact ⟨_, fd, F, He.glo_ok X G (c.fact 28 (f := .glo "_law_low") rfl)⟩
  d__law_middle := by
    obtain ⟨fd, F⟩ := c.def_ 29 (d := dd__law_middle) rfl
    exact ⟨_, fd, F, He.glo_ok X G (c.fact 29 (f := .glo "_law_middle") rfl)⟩
  d__law_figure := by
    obtain ⟨fd, F⟩ := c.def_ 30 (d := dd__law_figure) rfl
    exact ⟨_, fd, F, He.glo_ok X G (c.fact 30 (f := .glo "_law_figure") rfl)⟩
  d_law := by
    obtain ⟨fd, F⟩ := c.def_ 31 (d := dd_law) rfl
    exact ⟨_, fd, F, He.glo_ok X G (c.fact 31 (f := .glo "law") rfl)⟩
  n_abs := He.free_ok X G (c.fact 32 (f := .free "abs") rfl)
  n_all := He.free_ok X G (c.fact 33 (f := .free "all") rfl)
  n_any := He.free_ok X G (c.fact 34 (f := .free "any") rfl)
  n_bool := He.free_ok X G (c.fact 35 (f := .free "bool") rfl)
  n_enumerate := He.free_ok X G (c.fact 36 (f := .free "enumerate") rfl)
  n_int := He.free_ok X G (c.fact 37 (f := .free "int") rfl)
  n_isinstance := He.free_ok X G (c.fact 38 (f := .free "isinstance") rfl)
  n_len := He.free_ok X G (c.fact 39 (f := .free "len") rfl)
  n_list := He.free_ok X G (c.fact 40 (f := .free "list") rfl)
  n_max := He.free_ok X G (c.fact 41 (f := .free "max") rfl)
  n_min := He.free_ok X G (c.fact 42 (f := .free "min") rfl)
  n_range := He.free_ok X G (c.fact 43 (f := .free "range") rfl)
  n_sorted := He.free_ok X G (c.fact 44 (f := .free "sorted") rfl)
  n_str := He.free_ok X G (c.fact 45 (f := .free "str") rfl)
  n_sum := He.free_ok X G (c.fact 46 (f := .free "sum") rfl)
  n_tuple := He.free_ok X G (c.fact 47 (f := .free "tuple") rfl)
  c_FIGURES := ⟨_, He.glo_ok X G (c.fact 48 (f := .glo "FIGURES") rfl), fun H => tup_of (by first | exact cx | exact (Bool.and_eq_true_iff.mp cx).1 | exact (Bool.and_eq_true_iff.mp cx).2) H⟩
  c_MOST_BOUND := He.int_ok X G (c.fact 49 (f := .int "MOST_BOUND" 50) rfl)
  c_MOST_VALUES := He.int_ok X G (c.fact 50 (f := .int "MOST_VALUES" 7) rfl)
theorem endD {P : Program} {w : World} {K : Fg} {h : Heap} {mg : Str → Option Value} {f : Addr} (X : K.In h) (G : h.Ns mainGlobals mg) (hfa : mg ("law" : Str) = some (.ref f)) (c : He.SaysD faD fnD K) (cx : exD K = true) :
    ∃ fd : FuncData, (∀ (s : Shared) (v : Value), BindsTo s fd ⟨[v], []⟩ [("_law_script", v)]) ∧ ∀ base : Heap, K.In base → base.Ns mainGlobals mg → FnOk P w K mg base CX0 8 f fd ["_law_script"] (spLaw K) := by
  have T := txt_of X G c cx
  obtain ⟨fd, F⟩ := c.def_ 31 (d := dd_law) rfl
  have e := hfa.symm.trans (He.glo_ok X G (c.fact 31 (f := .glo "law") rfl))
  cases e
  have b := FunD.bindsA (ps := ["_law_script"]) F fun _ _ _ _ _ _ us hl => match us, hl with | [_], _ => rfl
  exact ⟨fd, fun s v => b s [v] rfl, fun base _ _ => ok_law T F⟩
end BL
open PySem PySem.W PySem.Calls PyProof.Rows
set_option maxRecDepth 100000 in
set_option maxHeartbeats 0 in
theorem PySem.Challenge.cw_boundstats_k09_whole_compared_holds : PySem.Challenge.rw_boundstats_k09_whole_compared.Holds := by
  w_on; o_law
  refine HandSHeadRun.head_any (r := OpenLaw.row PySem.Challenge.rw_boundstats_k09_whole_compared) (q := view (OpenLaw.row PySem.Challenge.rw_boundstats_k09_whole_compared).prog [42]) (H := BL.hkD) (ob := BL.obD) (M := 3000) (loose := BL.looseD) (d := HandSHeadRun.topDef (OpenLaw.row PySem.Challenge.rw_boundstats_k09_whole_compared).prog 42) (kwd := []) BL.obD_eq
    (by kernel_rfl) (fun s => by kernel_rfl) BL.runD (by kernel_rfl) (by kernel_rfl) (by kernel_rfl) (by rfl) (by first | assumption | decide +kernel) (by decide +kernel) ⟨rfl, rfl, rfl, rfl, rfl, by decide +kernel⟩ ?hw ?hc
  case hw => w_witness2
  case hc =>
    refine L2.walk_ofE (l := PySem.Challenge.rw_boundstats_k09_whole_compared) (n := 63) (k := 8) (x := "_law_script") (CX := L2.CX0) rfl (by decide) (by kernel_rfl) ⟨rfl, by decide, by decide⟩ ?F (fun _ _ _ _ z => z)
    intro w mg fa h Y G hmg0
    obtain ⟨K, KX, c, cx⟩ := Y
    have hmg : mg ("law" : PySem.Str) = some (.ref fa) := by
      have e : (HandSHeadRun.topDef (OpenLaw.row PySem.Challenge.rw_boundstats_k09_whole_compared).prog 42).name = ("law" : PySem.Str) := by kernel_rfl
      rw [← e]
      exact hmg0
    obtain ⟨fd, hb, hF⟩ := BL.endD (P := (PySem.Challenge.rw_boundstats_k09_whole_compared).prog) (w := w) KX G hmg c cx
    exact ⟨K, fd, BL.spLaw K, KX, hb, fun H a ns hl _ hS => ⟨a, ns, rfl, hS, hl, fun _ => rfl⟩, hF⟩
#print axioms PySem.Challenge.cw_boundstats_k09_whole_compared_holds
