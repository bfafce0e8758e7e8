import PyProof.Rows.All
import Wide.All
import OpenK.AllK
import Wide.FinOn
import HandS.ForMost
import HandS.Evl
import HandS.Walk
import HandS.SortInts
import HandS.Wide
import HandS.IsInst
import HandS.Style
import HandS.Defaults
import HandS.Deep
import HandS.Conv
import HandS.NoneIn
import HandS.More
import HandS.Head0
import HandS.Head1
import HandS.Head2
import HandS.HeadEnd
import HandS.HeadHook1
import HandS.HeadHook2
import HandS.Steps
import HandS.SortRule
import HandS.SetFor
import HandS.TupSets
import HandS.Exc
import HandS.ExcOwn
import HandS.ExcIs
import HandS.ExcValue
import HandS.WordsExc
import PyProof.Rows.CountFlat
import HandS.Strs
import HandS.Iter
import KE.KDictZip
import HandS.Dict
import KE.DatumOrd
import HandS.List
import HandS.TupMul
import HandS.Text
import HandS.FStr
import HandS.SortOrd
import KE.KStateDown
import Lean
import PySem.Challenge.RW_boundstats_k15_whole_unchanged
set_option Elab.async false
set_option linter.all false
set_option maxRecDepth 100000
set_option maxHeartbeats 2000000
/-! typed readings: values as plain data, lists locked once made -/
namespace BL
open PySem PySem.Spec PyProof.Rows L2
abbrev Fg := PySem.W.Frag
/-! ### what stays: tuples, locked things -/
inductive Sta : HO → Prop
  | tup (xs : List V) : Sta (.tup xs)
  | frz (o : Obj) (u : HO) : Sta (.frz o u)
  | ext (φ : Heap → Prop) : Sta (.ext φ)
theorem sta_lst {xs : List V} : ¬ Sta (.lst xs) := fun h => nomatch h
def SF (H H' : Hp) : Prop := ∀ a o, Sta o → H a = some o → H' a = some o
section
variable {H H1 H2 H' : Hp} {p a : Addr} {o u : HO} {xs ys : List V} {K : Fg}
theorem SF.refl (H : Hp) : SF H H := fun _ _ _ h => h
theorem SF.trans (a : SF H H1) (b : SF H1 H2) : SF H H2 := fun x o s h => b x o s (a x o s h)
theorem SF.of (e : Same H H') : SF H H' := fun a o _ h => e a o h
theorem SF.new (h : H p = none) : SF H (upd H p o) := fun a u _ e => by
  rw [upd_ne (ne_of_none e h)]; exact e
theorem SF.chg (h : H p = some u) (n : ¬ Sta u) : SF H (upd H p o) := fun a w s e => by
  by_cases q : a = p
  · subst q; rw [h] at e; cases e; exact absurd s n
  · rw [upd_ne q]; exact e
theorem SF.lst (h : H p = some (.lst xs)) : SF H (upd H p o) := SF.chg h sta_lst
theorem same_new (h : H p = none) : Same H (upd H p o) := fun a u e => by
  rw [upd_ne (ne_of_none e h)]; exact e
/-- what H does not know may change -/
theorem same_mut (e : Same H H') (h : H p = none) : Same H (upd H' p o) := fun a u ha => by
  rw [upd_ne (ne_of_none ha h)]; exact e a u ha
theorem sf_mut (e : SF H H') (h : H p = none) : SF H (upd H' p o) := fun a u s ha => by
  rw [upd_ne (ne_of_none ha h)]; exact e a u s ha
theorem none_back (e : Same H H') (h : H' p = none) : H p = none := e.free h
theorem upd_get (h : H a = some u) (n : a ≠ p) : upd H p o a = some u := by rw [upd_ne n]; exact h
def Fz (H : Hp) (a : Addr) (xs : List V) : Prop := ∃ o, H a = some (.frz o (.lst xs))
theorem Fz.seq (h : Fz H a xs) : SqL K H a xs := by
  obtain ⟨o, h⟩ := h; exact .inl (.inr ⟨o, h⟩)
theorem Fz.sf (e : SF H H') (h : Fz H a xs) : Fz H' a xs := by
  obtain ⟨o, h⟩ := h; exact ⟨o, e _ _ (.frz _ _) h⟩
theorem sqt_sf (e : SF H H') (h : SqT K H a xs) : SqT K H' a xs := by
  rcases h with (h | ⟨o, h⟩) | h
  · exact .inl (.inl (e _ _ (.tup _) h))
  · exact .inl (.inr ⟨o, e _ _ (.frz _ _) h⟩)
  · exact .inr h
theorem sq_lst (h : H a = some (.lst xs)) : SqL K H a xs := .inl (.inl h)
theorem sq_tup (h : H a = some (.tup xs)) : SqT K H a xs := .inl (.inl h)
end
theorem paired_mono {α β : Type} {F G : α → β → Prop} (h : ∀ a b, F a b → G a b) : ∀ {l : List α} {r : List β}, Paired F l r → Paired G l r
  | _, _, .nil => .nil
  | _, _, .cons a b => .cons (h _ _ a) (paired_mono h b)
theorem paired_len {α β : Type} {F : α → β → Prop} {l : List α} {r : List β} (h : Paired F l r) : l.length = r.length := Paired.length h
theorem paired_app {α β : Type} {F : α → β → Prop} : ∀ {l l' : List α} {r r' : List β}, Paired F l r → Paired F l' r' → Paired F (l ++ l') (r ++ r')
  | _, _, _, _, .nil, h => h
  | _, _, _, _, .cons a b, h => .cons a (paired_app b h)
theorem paired_get {α β : Type} {F : α → β → Prop} : ∀ {l : List α} {r : List β} {i : Nat} {y : β}, Paired F l r → r[i]? = some y → ∃ x, l[i]? = some x ∧ F x y
  | _, _, i, _, .nil, e => by simp at e
  | _, _, 0, _, .cons a _, e => by simp at e; subst e; exact ⟨_, rfl, a⟩
  | _, _, i + 1, y, .cons _ b, e => by
    obtain ⟨x, h1, h2⟩ := paired_get (i := i) (y := y) b (by simpa using e)
    exact ⟨x, by simpa using h1, h2⟩
theorem paired_get2 {α β : Type} {F : α → β → Prop} : ∀ {l : List α} {r : List β} {i : Nat} {x : α}, Paired F l r → l[i]? = some x → ∃ y, r[i]? = some y ∧ F x y
  | _, _, i, _, .nil, e => by simp at e
  | _, _, 0, _, .cons a _, e => by simp at e; subst e; exact ⟨_, rfl, a⟩
  | _, _, i + 1, y, .cons _ b, e => by
    obtain ⟨x, h1, h2⟩ := paired_get2 (i := i) (x := y) b (by simpa using e)
    exact ⟨x, by simpa using h1, h2⟩
theorem paired_set {α β : Type} {F : α → β → Prop} {x : α} {y : β} (f : F x y) : ∀ {l : List α} {r : List β} (i : Nat), Paired F l r → Paired F (l.set i x) (r.set i y)
  | _, _, _, .nil => .nil
  | _, _, 0, .cons _ b => .cons f b
  | _, _, i + 1, .cons a b => .cons a (paired_set f i b)
theorem paired_take {α β : Type} {F : α → β → Prop} : ∀ {l : List α} {r : List β} (n : Nat), Paired F l r → Paired F (l.take n) (r.take n)
  | _, _, 0, _ => .nil
  | _, _, _ + 1, .nil => .nil
  | _, _, n + 1, .cons a b => .cons a (paired_take n b)
theorem paired_drop {α β : Type} {F : α → β → Prop} : ∀ {l : List α} {r : List β} (n : Nat), Paired F l r → Paired F (l.drop n) (r.drop n)
  | _, _, 0, h => h
  | _, _, _ + 1, .nil => .nil
  | _, _, n + 1, .cons a b => paired_drop n b

/-! ### data -/
class Rp (α : Type) where
  rep : Fg → Hp → V → α → Prop
  mono : ∀ {K : Fg} {H H' : Hp} {v : V} {x : α}, SF H H' → rep K H v x → rep K H' v x
/-- a triple -/
structure T3 (α β γ : Type) where
  a : α
  b : β
  c : γ
  deriving DecidableEq
instance : Rp Int := ⟨fun _ _ v i => v = .int i, fun _ h => h⟩
instance : Rp Nat := ⟨fun _ _ v i => v = .int (i : Int), fun _ h => h⟩
instance : Rp Bool := ⟨fun _ _ v b => v = .bl b, fun _ h => h⟩
instance : Rp Str := ⟨fun _ _ v b => v = .str b, fun _ h => h⟩
instance : Rp Unit := ⟨fun _ _ v _ => v = .non, fun _ h => h⟩
instance {α β : Type} [Rp α] [Rp β] : Rp (α × β) := ⟨fun K H v p => ∃ a v1 v2, v = .ref a ∧ SqT K H a [v1, v2] ∧ Rp.rep K H v1 p.1 ∧ Rp.rep K H v2 p.2,
  fun e h => by obtain ⟨a, v1, v2, h1, h2, h3, h4⟩ := h; exact ⟨a, v1, v2, h1, sqt_sf e h2, Rp.mono e h3, Rp.mono e h4⟩⟩
instance {α β γ : Type} [Rp α] [Rp β] [Rp γ] : Rp (T3 α β γ) := ⟨fun K H v p => ∃ a v1 v2 v3, v = .ref a ∧ SqT K H a [v1, v2, v3] ∧ Rp.rep K H v1 p.a ∧ Rp.rep K H v2 p.b ∧ Rp.rep K H v3 p.c,
  fun e h => by obtain ⟨a, v1, v2, v3, h1, h2, h3, h4, h5⟩ := h; exact ⟨a, v1, v2, v3, h1, sqt_sf e h2, Rp.mono e h3, Rp.mono e h4, Rp.mono e h5⟩⟩
abbrev RL {α : Type} [Rp α] (K : Fg) (H : Hp) (vs : List V) (l : List α) : Prop := Paired (Rp.rep K H) vs l
theorem RL.mono {α : Type} [Rp α] {K : Fg} {H H' : Hp} {vs : List V} {l : List α} (e : SF H H') (h : RL K H vs l) : RL K H' vs l := paired_mono (fun _ _ => Rp.mono e) h
instance {α : Type} [Rp α] : Rp (List α) := ⟨fun K H v l => ∃ a vs, v = .ref a ∧ Fz H a vs ∧ RL K H vs l,
  fun e h => by obtain ⟨a, vs, h1, h2, h3⟩ := h; exact ⟨a, vs, h1, h2.sf e, h3.mono e⟩⟩
/-- None, or a thing that is not None -/
instance {α : Type} [Rp α] : Rp (Option α) := ⟨fun K H v o => match o with
  | none => v = .non
  | some x => v ≠ .non ∧ Rp.rep K H v x, fun {K H H' v o} e h => by
    cases o with
    | none => exact h
    | some x => exact ⟨h.1, Rp.mono e h.2⟩⟩
instance {α β : Type} [Rp α] [Rp β] : Rp (Sum α β) := ⟨fun K H v o => match o with
  | .inl x => Rp.rep K H v x
  | .inr x => Rp.rep K H v x, fun {K H H' v o} e h => by
    cases o with
    | inl x => exact Rp.mono e h
    | inr x => exact Rp.mono e h⟩
/-- a tuple of any length -/
structure Tp (α : Type) where
  l : List α
  deriving DecidableEq
instance {α : Type} [Rp α] : Rp (Tp α) := ⟨fun K H v t => ∃ a vs, v = .ref a ∧ SqT K H a vs ∧ RL K H vs t.l,
  fun e h => by obtain ⟨a, vs, h1, h2, h3⟩ := h; exact ⟨a, vs, h1, sqt_sf e h2, h3.mono e⟩⟩
section
variable {K : Fg} {H H' : Hp}
theorem rep_int {v : V} {i : Int} : Rp.rep K H v i ↔ v = .int i := Iff.rfl
theorem rl_ints : ∀ {vs : List V} {l : List Int}, RL K H vs l → vs = l.map V.int
  | _, _, .nil => rfl
  | _, _, .cons a b => by rw [List.map_cons, ← rl_ints b, rep_int.mp a]
theorem rl_nats : ∀ {vs : List V} {l : List Nat}, RL K H vs l → vs = (l.map fun n : Nat => (n : Int)).map V.int
  | _, _, .nil => rfl
  | _, _, .cons a b => by
    have e : _ = V.int _ := a
    rw [List.map_cons, List.map_cons, ← rl_nats b, e]
theorem rl_bools : ∀ {vs : List V} {l : List Bool}, RL K H vs l → vs = l.map V.bl
  | _, _, .nil => rfl
  | _, _, .cons a b => by
    have e : _ = V.bl _ := a
    rw [List.map_cons, ← rl_bools b, e]
theorem rl_strs : ∀ {vs : List V} {l : List Str}, RL K H vs l → vs = l.map V.str
  | _, _, .nil => rfl
  | _, _, .cons a b => by
    have e : _ = V.str _ := a
    rw [List.map_cons, ← rl_strs b, e]
theorem rl_of_ints : ∀ (l : List Int), RL K H (l.map V.int) l
  | [] => .nil
  | _ :: r => .cons rfl (rl_of_ints r)
theorem rl_of_nats : ∀ (l : List Nat), RL K H ((l.map fun n : Nat => (n : Int)).map V.int) l
  | [] => .nil
  | _ :: r => .cons rfl (rl_of_nats r)
theorem rl_of_bools : ∀ (l : List Bool), RL K H (l.map V.bl) l
  | [] => .nil
  | _ :: r => .cons rfl (rl_of_bools r)
theorem rl_of_strs : ∀ (l : List Str), RL K H (l.map V.str) l
  | [] => .nil
  | _ :: r => .cons rfl (rl_of_strs r)
end

/-! ### data compared: == of any depth -/
class Rq (α : Type) [Rp α] where
  toD : α → PyData
  dp : ∀ {K : Fg} {H : Hp} {v : V} {x : α}, Rp.rep K H v x → Dp K H v (toD x)
  ok : α → Prop
  dep : Nat
  lay : ∀ x, ok x → (toD x).canLay0 = true
  deep : ∀ x, (toD x).depth ≤ dep
  eqv : ∀ x y : α, PyData.eqv (toD x) (toD y) = true ↔ x = y
class Rt (α : Type) [Rp α] [Rq α] where
  all : ∀ x : α, Rq.ok x
theorem dp_all {α : Type} [Rp α] [Rq α] {K : Fg} {H : Hp} : ∀ {vs : List V} {l : List α}, RL K H vs l → DpAll K H vs (l.map Rq.toD)
  | _, _, .nil => .nil
  | _, _, .cons a b => .cons (Rq.dp a) (dp_all b)
theorem lay_all {α : Type} [Rp α] [Rq α] : ∀ {l : List α}, (∀ x ∈ l, Rq.ok x) → PyData.canLayAll0 (l.map Rq.toD) = true
  | [], _ => rfl
  | x :: r, h => by
    show (PyData.canLay0 (Rq.toD x) && PyData.canLayAll0 (r.map Rq.toD)) = true
    rw [Rq.lay x (h x (List.mem_cons_self ..)), lay_all (l := r) fun y hy => h y (List.mem_cons_of_mem _ hy)]; rfl
theorem deep_all {α : Type} [Rp α] [Rq α] : ∀ {l : List α}, PyData.depthAll (l.map Rq.toD) ≤ Rq.dep α
  | [] => Nat.zero_le _
  | x :: r => by
    show max (PyData.depth (Rq.toD x)) (PyData.depthAll (r.map Rq.toD)) ≤ _
    exact Nat.max_le.mpr ⟨Rq.deep x, deep_all⟩
theorem eqv_all {α : Type} [Rp α] [Rq α] : ∀ {l r : List α}, PyData.eqvAll (l.map Rq.toD) (r.map Rq.toD) = true ↔ l = r
  | [], [] => by simp [PyData.eqvAll]
  | [], _ :: _ => by simp [PyData.eqvAll]
  | _ :: _, [] => by simp [PyData.eqvAll]
  | x :: l, y :: r => by
    show (PyData.eqv (Rq.toD x) (Rq.toD y) && PyData.eqvAll (l.map Rq.toD) (r.map Rq.toD)) = true ↔ _
    rw [Bool.and_eq_true, Rq.eqv, eqv_all, List.cons.injEq]
instance : Rq Int := ⟨.int, fun {K H v x} h => by cases (show v = .int x from h); exact .int _, fun _ => True, 1, fun _ _ => rfl, fun _ => by show PyData.depth _ ≤ 1; simp [PyData.depth], fun x y => by simp [PyData.eqv]⟩
instance : Rq Nat := ⟨fun n => .int (n : Int), fun {K H v x} h => by cases (show v = .int (x : Int) from h); exact .int _, fun _ => True, 1, fun _ _ => rfl, fun _ => by show PyData.depth _ ≤ 1; simp [PyData.depth], fun x y => by simp [PyData.eqv]; omega⟩
instance : Rq Bool := ⟨.bool, fun {K H v x} h => by cases (show v = .bl x from h); exact .bl _, fun _ => True, 1, fun _ _ => rfl, fun _ => by show PyData.depth _ ≤ 1; simp [PyData.depth], fun x y => by simp [PyData.eqv]⟩
instance : Rq Str := ⟨.str, fun {K H v x} h => by cases (show v = .str x from h); exact .str _, fun x => (PyData.str x).canLay0 = true, 1, fun _ h => h, fun _ => by show PyData.depth _ ≤ 1; simp [PyData.depth], fun x y => by simp [PyData.eqv]⟩
instance {α β : Type} [Rp α] [Rp β] [Rq α] [Rq β] : Rq (α × β) := ⟨fun p => .tuple [Rq.toD p.1, Rq.toD p.2], fun {K H v x} h => by
    obtain ⟨a, v1, v2, rfl, h2, h3, h4⟩ := h; exact .tup h2 (.cons (Rq.dp h3) (.cons (Rq.dp h4) .nil)), fun p => Rq.ok p.1 ∧ Rq.ok p.2, max (Rq.dep α) (Rq.dep β) + 1,
  fun p h => by simp [PyData.canLay0, PyData.canLayAll0, Rq.lay p.1 h.1, Rq.lay p.2 h.2],
  fun p => by have := Rq.deep p.1; have := Rq.deep p.2; simp only [PyData.depth, PyData.depthAll]; omega,
  fun p q => by obtain ⟨p1, p2⟩ := p; obtain ⟨q1, q2⟩ := q; simp [PyData.eqv, PyData.eqvAll, Rq.eqv]⟩
instance {α β γ : Type} [Rp α] [Rp β] [Rp γ] [Rq α] [Rq β] [Rq γ] : Rq (T3 α β γ) := ⟨fun p => .tuple [Rq.toD p.a, Rq.toD p.b, Rq.toD p.c], fun {K H v x} h => by
    obtain ⟨a, v1, v2, v3, rfl, h2, h3, h4, h5⟩ := h; exact .tup h2 (.cons (Rq.dp h3) (.cons (Rq.dp h4) (.cons (Rq.dp h5) .nil))), fun p => Rq.ok p.a ∧ Rq.ok p.b ∧ Rq.ok p.c, max (Rq.dep α) (max (Rq.dep β) (Rq.dep γ)) + 1,
  fun p h => by simp [PyData.canLay0, PyData.canLayAll0, Rq.lay p.a h.1, Rq.lay p.b h.2.1, Rq.lay p.c h.2.2],
  fun p => by have := Rq.deep p.a; have := Rq.deep p.b; have := Rq.deep p.c; simp only [PyData.depth, PyData.depthAll]; omega,
  fun p q => by obtain ⟨p1, p2, p3⟩ := p; obtain ⟨q1, q2, q3⟩ := q; simp [PyData.eqv, PyData.eqvAll, Rq.eqv]⟩
instance {α : Type} [Rp α] [Rq α] : Rq (List α) := ⟨fun l => .list (l.map Rq.toD), fun {K H v x} h => by
    obtain ⟨a, vs, rfl, h2, h3⟩ := h; exact .lst h2.seq (dp_all h3), fun l => ∀ x ∈ l, Rq.ok x, Rq.dep α + 1,
  fun p h => by simp only [PyData.canLay0]; exact lay_all h,
  fun p => by have := deep_all (l := p); simp only [PyData.depth]; omega,
  fun p q => by simp only [PyData.eqv]; exact eqv_all⟩
instance {α : Type} [Rp α] [Rq α] : Rq (Tp α) := ⟨fun l => .tuple (l.l.map Rq.toD), fun {K H v x} h => by
    obtain ⟨a, vs, rfl, h2, h3⟩ := h; exact .tup h2 (dp_all h3), fun l => ∀ x ∈ l.l, Rq.ok x, Rq.dep α + 1,
  fun p h => by simp only [PyData.canLay0]; exact lay_all h,
  fun p => by have := deep_all (l := p.l); simp only [PyData.depth]; omega,
  fun p q => by obtain ⟨p⟩ := p; obtain ⟨q⟩ := q; simp only [PyData.eqv, Tp.mk.injEq]; exact eqv_all⟩
instance : Rt Int := ⟨fun _ => trivial⟩
instance : Rt Nat := ⟨fun _ => trivial⟩
instance : Rt Bool := ⟨fun _ => trivial⟩
instance {α β : Type} [Rp α] [Rp β] [Rq α] [Rq β] [Rt α] [Rt β] : Rt (α × β) := ⟨fun p => ⟨Rt.all p.1, Rt.all p.2⟩⟩
instance {α β γ : Type} [Rp α] [Rp β] [Rp γ] [Rq α] [Rq β] [Rq γ] [Rt α] [Rt β] [Rt γ] : Rt (T3 α β γ) := ⟨fun p => ⟨Rt.all p.a, Rt.all p.b, Rt.all p.c⟩⟩
instance {α : Type} [Rp α] [Rq α] [Rt α] : Rt (List α) := ⟨fun _ x _ => Rt.all x⟩
instance {α : Type} [Rp α] [Rq α] [Rt α] : Rt (Tp α) := ⟨fun _ x _ => Rt.all x⟩
theorem shaped_of {α : Type} [Rp α] [Rq α] {x : α} (h : Rq.ok x) (hd : Rq.dep α ≤ 64) : SeqAt.shaped (Rq.toD x) = true := by
  show (PyData.canLay0 (Rq.toD x) && decide (PyData.depth (Rq.toD x) ≤ 64)) = true
  rw [Rq.lay x h, decide_eq_true (Nat.le_trans (Rq.deep x) hd)]; rfl
end BL

set_option Elab.async false
set_option linter.all false
set_option maxRecDepth 100000
set_option maxHeartbeats 2000000
namespace BL
open PySem PySem.Spec PyProof.Rows L2
/-! lists, locked or not, joined and repeated -/
def rCatR : R2 := fun x y H Q => ∃ l b xs zs, x = .ref l ∧ y = .ref b ∧ L2.Rd H l (.lst xs) ∧ L2.Rd H b (.lst zs) ∧ xs.length + zs.length ≤ sizeLine ∧ ∀ p, H p = none → Q (.ref p) (upd H p (.lst (xs ++ zs)))
theorem rd_lst {X : Cx} {pins : List (Addr × Obj)} {σ : L2.St} {H : Hp} {s : Shared} {a : Addr} {xs : List V} (I : Inv X pins σ H s) (h : L2.Rd H a (.lst xs)) :
    xs.length ≤ sizeLine ∧ ∃ (its : List Value) (n : Nat), Vals xs its ∧ xs.length = its.length ∧ s.heap.get? a = some { cls := .type "list", data := .seq its.toArray n } := by
  obtain ⟨z, its, n, r, e⟩ := h.ok I.hok
  exact ⟨z, its, n, r, r.length, e⟩
theorem op_catR {X : Cx} : OpR X (binaryOp .Add) rCatR := by
  intro pins s σ H x y v u Q I rx ry h
  obtain ⟨l, b, xs, zs, rfl, rfl, hH, hB, hz, q⟩ := h
  cases rx
  cases ry
  obtain ⟨z, its, n, r, hl, e⟩ := rd_lst I hH
  obtain ⟨z2, its2, n2, r2, hl2, e2⟩ := rd_lst I hB
  refine PySem.P.add_list e e2 ?_ (by rw [List.size_toArray, List.size_toArray]; omega)
  have ea : its.toArray ++ its2.toArray = (its ++ its2).toArray := by simp
  rw [ea]
  exact ⟨.ref _, _, I.lnew (t' := s.toks) (r.append r2) (by rw [List.length_append]; omega), rfl, q _ I.fresh⟩
/-! ### readings: what an expression gives, all that was tracked kept -/
def Er (K : Fg) (te : TE) (σ : L2.St) (H : Hp) {α : Type} [Rp α] (x : α) : Prop := ∀ H1, Same H H1 → ∀ Q : VK, (∀ v H2, Same H1 H2 → Rp.rep K H2 v x → Q v H2) → te σ H1 Q
/-- a new list, not yet locked -/
def ErL (K : Fg) (te : TE) (σ : L2.St) (H : Hp) {α : Type} [Rp α] (l : List α) : Prop := ∀ H1, Same H H1 → ∀ Q : VK, (∀ p vs H2, Same H1 H2 → H1 p = none → H2 p = some (.lst vs) → RL K H2 vs l → Q (.ref p) H2) → te σ H1 Q
def Et (K : Fg) (tt : TT) (σ : L2.St) (H : Hp) (b : Bool) : Prop := ∀ H1, Same H H1 → ∀ Q : Bool → Hp → Prop, (∀ H2, Same H1 H2 → Q b H2) → tt σ H1 Q
def Ea (K : Fg) (ta : TA) (σ : L2.St) (H : Hp) {α : Type} [Rp α] (l : List α) : Prop := ∀ H1, Same H H1 → ∀ Q : List V → Hp → Prop, (∀ vs H2, Same H1 H2 → RL K H2 vs l → Q vs H2) → ta σ H1 Q
def tFrz (t : TE) : TE := fun σ H Q => t σ H fun v H1 => ∃ a xs, v = .ref a ∧ H1 a = some (.lst xs) ∧ ∀ od, Q v (upd H1 a (.frz od (.lst xs)))
theorem pe_frz {X : Cx} {e : Expr} {t : TE} (h : PE X e t) : PE X e (tFrz t) := ⟨fun pins s σ H Q I q => thn (h.run pins s σ H _ I q) fun u s1 hh => by
  obtain ⟨v, H1, I1, r, a, xs, ev, ha, q⟩ := hh
  obtain ⟨od, I2⟩ := I1.lock ha trivial
  exact ⟨v, _, I2, r, q od⟩⟩
section
variable {K : Fg} {σ : L2.St} {H H' H1 : Hp} {ta tb tc te : TE} {tt uu : TT} {α β γ δ : Type} [Rp α] [Rp β] [Rp γ] [Rp δ] {x : α} {y : β} {z : γ} {v u : V} {r r' : R2} {b c : Bool} {i j : Int}
theorem Er.mono (e : Same H H') (h : Er K te σ H x) : Er K te σ H' x := fun H1 a Q q => h H1 (e.trans a) Q q
theorem Et.mono (e : Same H H') (h : Et K tt σ H b) : Et K tt σ H' b := fun H1 a Q q => h H1 (e.trans a) Q q
theorem Er.to {x' : α} (h : Er K te σ H x) (e : x = x') : Er K te σ H x' := e ▸ h
theorem ErL.to {l l' : List α} (h : ErL K te σ H l) (e : l = l') : ErL K te σ H l' := e ▸ h
theorem Et.to {b' : Bool} (h : Et K tt σ H b) (e : b = b') : Et K tt σ H b' := e ▸ h
theorem er_var {k : Nat} (hv : σ[k]? = some (some v)) (h : Rp.rep K H v x) : Er K (tVar k) σ H x := fun H1 e Q q => ⟨v, hv, q v H1 (Same.refl _) (Rp.mono (SF.of e) h)⟩
/-- a constant -/
theorem er_c (h : ∀ H, Rp.rep K H v x) : Er K (tC v) σ H x := fun H1 _ Q q => q v H1 (Same.refl _) (h H1)
theorem er_int : Er K (tC (.int i)) σ H i := er_c fun _ => rfl
theorem er_str {s : Str} : Er K (tC (.str s)) σ H s := er_c fun _ => rfl
theorem er_bl : Er K (tC (.bl b)) σ H b := er_c fun _ => rfl
theorem er_non : Er K (tC .non) σ H () := er_c fun _ => rfl
/-- a place as a number -/
theorem er_up {n : Nat} (h : Er K te σ H n) : Er K te σ H (n : Int) := h
theorem er_dn {n : Nat} (h : Er K te σ H i) (e : i = (n : Int)) : Er K te σ H n := by subst e; exact h
theorem er_frz {l : List α} (h : ErL K te σ H l) : Er K (tFrz te) σ H l := fun H1 e Q q => h H1 e _ fun p vs H2 e2 hp h2 r =>
  ⟨p, vs, rfl, h2, fun od => q (.ref p) _ (same_mut e2 hp) ⟨p, vs, rfl, ⟨od, upd_same⟩, r.mono (SF.lst h2)⟩⟩
/-! operators by values -/
def R2r (K : Fg) (r : R2) (x : α) (y : β) (z : γ) : Prop := ∀ H v u, Rp.rep K H v x → Rp.rep K H u y → ∀ Q : VK, (∀ w H', Same H H' → Rp.rep K H' w z → Q w H') → r v u H Q
theorem er_op (ha : Er K ta σ H x) (hb : Er K tb σ H y) (hr : R2r K r x y z) : Er K (tOp r ta tb) σ H z := fun H1 e Q q =>
  ha H1 e _ fun v H2 e2 r2 => hb H2 (e.trans e2) _ fun u H3 e3 r3 => hr H3 v u (Rp.mono (SF.of e3) r2) r3 Q fun w H4 e4 r4 => q w H4 ((e2.trans e3).trans e4) r4
theorem rr_add : R2r K (rI0 fun i j => .int (i + j)) i j (i + j) := fun H v u e1 e2 Q q => ⟨i, j, e1, e2, q _ H (Same.refl _) rfl⟩
theorem rr_sub : R2r K (rI0 fun i j => .int (i - j)) i j (i - j) := fun H v u e1 e2 Q q => ⟨i, j, e1, e2, q _ H (Same.refl _) rfl⟩
theorem rr_mul (h : CMul i j) : R2r K (rI CMul fun i j => .int (i * j)) i j (i * j) := fun H v u e1 e2 Q q => ⟨i, j, e1, e2, h, q _ H (Same.refl _) rfl⟩
theorem rr_mulW (h : CMulW i j) : R2r K (rI CMulW fun i j => .int (i * j)) i j (i * j) := fun H v u e1 e2 Q q => ⟨i, j, e1, e2, h, q _ H (Same.refl _) rfl⟩
theorem rr_mod (h : 0 < j) : R2r K (rI (fun _ j => 0 < j) fun i j => .int (i % j)) i j (i % j) := fun H v u e1 e2 Q q => ⟨i, j, e1, e2, h, q _ H (Same.refl _) rfl⟩
theorem rr_div (h : CDiv i j) : R2r K (rI CDiv fun i j => .int (i / j)) i j (i / j) := fun H v u e1 e2 Q q => ⟨i, j, e1, e2, h, q _ H (Same.refl _) rfl⟩
theorem rr_divW (h : CDivW i j) : R2r K (rI CDivW fun i j => .int (i / j)) i j (i / j) := fun H v u e1 e2 Q q => ⟨i, j, e1, e2, h, q _ H (Same.refl _) rfl⟩
theorem rr_pow (h : CPow i j) : R2r K (rI CPow fun i j => .int (i ^ j.toNat)) i j (i ^ j.toNat) := fun H v u e1 e2 Q q => ⟨i, j, e1, e2, h, q _ H (Same.refl _) rfl⟩
theorem rr_lt : R2r K (rI0 fun i j => .bl (decide (i < j))) i j (decide (i < j)) := fun H v u e1 e2 Q q => ⟨i, j, e1, e2, q _ H (Same.refl _) rfl⟩
theorem rr_le : R2r K (rI0 fun i j => .bl (decide (i ≤ j))) i j (decide (i ≤ j)) := fun H v u e1 e2 Q q => ⟨i, j, e1, e2, q _ H (Same.refl _) rfl⟩
theorem rr_gt : R2r K (rI0 fun i j => .bl (decide (j < i))) i j (decide (j < i)) := fun H v u e1 e2 Q q => ⟨i, j, e1, e2, q _ H (Same.refl _) rfl⟩
theorem rr_ge : R2r K (rI0 fun i j => .bl (decide (j ≤ i))) i j (decide (j ≤ i)) := fun H v u e1 e2 Q q => ⟨i, j, e1, e2, q _ H (Same.refl _) rfl⟩
theorem rr_eqI : R2r K rEq i j (decide (i = j)) := fun H v u e1 e2 Q q => by
  cases (show v = .int i from e1); cases (show u = .int j from e2)
  exact ⟨rfl, q _ H (Same.refl _) (by show V.bl _ = V.bl _; simp)⟩
theorem rr_neI : R2r K rNe i j (!decide (i = j)) := fun H v u e1 e2 Q q => by
  cases (show v = .int i from e1); cases (show u = .int j from e2)
  exact ⟨rfl, q _ H (Same.refl _) (by show V.bl _ = V.bl _; simp)⟩
theorem rr_eqB : R2r K rEq b c (decide (b = c)) := fun H v u e1 e2 Q q => by
  cases (show v = .bl b from e1); cases (show u = .bl c from e2)
  exact ⟨rfl, q _ H (Same.refl _) (by show V.bl _ = V.bl _; simp)⟩
theorem rr_neB : R2r K rNe b c (!decide (b = c)) := fun H v u e1 e2 Q q => by
  cases (show v = .bl b from e1); cases (show u = .bl c from e2)
  exact ⟨rfl, q _ H (Same.refl _) (by show V.bl _ = V.bl _; simp)⟩
theorem rr_eqS {s t : Str} : R2r K rEq s t (decide (s = t)) := fun H v u e1 e2 Q q => by
  cases (show v = .str s from e1); cases (show u = .str t from e2)
  exact ⟨rfl, q _ H (Same.refl _) (by show V.bl _ = V.bl _; simp)⟩
theorem rr_neS {s t : Str} : R2r K rNe s t (!decide (s = t)) := fun H v u e1 e2 Q q => by
  cases (show v = .str s from e1); cases (show u = .str t from e2)
  exact ⟨rfl, q _ H (Same.refl _) (by show V.bl _ = V.bl _; simp)⟩
theorem eqv_dec [Rq α] [DecidableEq α] (x y : α) : PyData.eqv (Rq.toD x) (Rq.toD y) = decide (x = y) := by
  by_cases h : x = y
  · rw [(Rq.eqv x y).mpr h, decide_eq_true h]
  · rw [decide_eq_false h]
    cases e : PyData.eqv (Rq.toD x) (Rq.toD y) with
    | false => rfl
    | true => exact absurd ((Rq.eqv x y).mp e) h
theorem rr_eqD [Rq α] [DecidableEq α] {x y : α} (hx : Rq.ok x) (hy : Rq.ok y) (hd : Rq.dep α ≤ 64 := by decide) : R2r K (rEqD K) x y (decide (x = y)) := fun H v u e1 e2 Q q =>
  ⟨_, _, Rq.dp e1, Rq.dp e2, shaped_of hx hd, shaped_of hy hd, by rw [eqv_dec]; exact q _ H (Same.refl _) rfl⟩
theorem rr_neD [Rq α] [DecidableEq α] {x y : α} (hx : Rq.ok x) (hy : Rq.ok y) (hd : Rq.dep α ≤ 64 := by decide) : R2r K (rNeD K) x y (!decide (x = y)) := fun H v u e1 e2 Q q =>
  ⟨_, _, Rq.dp e1, Rq.dp e2, shaped_of hx hd, shaped_of hy hd, by rw [eqv_dec]; exact q _ H (Same.refl _) rfl⟩
theorem rr_eqT [Rq α] [Rt α] [DecidableEq α] {x y : α} (hd : Rq.dep α ≤ 64 := by decide) : R2r K (rEqD K) x y (decide (x = y)) := rr_eqD (Rt.all x) (Rt.all y) hd
theorem rr_neT [Rq α] [Rt α] [DecidableEq α] {x y : α} (hd : Rq.dep α ≤ 64 := by decide) : R2r K (rNeD K) x y (!decide (x = y)) := rr_neD (Rt.all x) (Rt.all y) hd
theorem rr_isB : R2r K (fun x y H Q => ∃ a b : Bool, x = .bl a ∧ y = .bl b ∧ Q (.bl (decide (a = b))) H) b c (decide (b = c)) := fun H v u e1 e2 Q q => ⟨b, c, e1, e2, q _ H (Same.refl _) rfl⟩
theorem rr_notB : R2r K (fun x y H Q => ∃ a b : Bool, x = .bl a ∧ y = .bl b ∧ Q (.bl (!decide (a = b))) H) b c (!decide (b = c)) := fun H v u e1 e2 Q q => ⟨b, c, e1, e2, q _ H (Same.refl _) rfl⟩
/-! items -/
theorem rr_ixL {l : List α} {n : Nat} {x : α} (hx : l[n]? = some x) : R2r K (rIxL K) l (n : Int) x := fun H v u e1 e2 Q q => by
  obtain ⟨a, vs, rfl, h2, h3⟩ := e1
  cases (show u = .int (n : Int) from e2)
  obtain ⟨w, hw, rw⟩ := paired_get h3 hx
  exact ⟨a, vs, n, w, rfl, rfl, h2.seq, atI_nat hw, q w H (Same.refl _) rw⟩
theorem rr_ixI {l : List α} {n : Nat} {x : α} (hi : i = (n : Int)) (hx : l[n]? = some x) : R2r K (rIxL K) l i x := by subst hi; exact rr_ixL hx
theorem rr_ixLast {l : List α} {x : α} (hx : l.getLast? = some x) : R2r K (rIxL K) l (-1 : Int) x := fun H v u e1 e2 Q q => by
  obtain ⟨a, vs, rfl, h2, h3⟩ := e1
  cases (show u = .int (-1) from e2)
  have hn : 0 < l.length := by cases l with
    | nil => cases hx
    | cons _ _ => exact Nat.succ_pos _
  rw [List.getLast?_eq_getElem?] at hx
  obtain ⟨w, hw, rw'⟩ := paired_get h3 hx
  have hl := paired_len h3
  refine ⟨a, vs, -1, w, rfl, rfl, h2.seq, ?_, q w H (Same.refl _) rw'⟩
  rw [← hl] at hw
  unfold atI ixN
  rw [if_neg (by omega), if_pos (by omega)]
  have e : ((-1 : Int) + (vs.length : Int)).toNat = vs.length - 1 := by omega
  rw [e]
  exact hw
theorem rr_ixP0 {p : α × β} : R2r K (rIxT K) p (0 : Int) p.1 := fun H v u e1 e2 Q q => by
  obtain ⟨a, v1, v2, rfl, h2, h3, h4⟩ := e1
  cases (show u = .int 0 from e2)
  exact ⟨a, _, 0, v1, rfl, rfl, h2, atI_nat (j := 0) rfl, q _ H (Same.refl _) h3⟩
theorem rr_ixP1 {p : α × β} : R2r K (rIxT K) p (1 : Int) p.2 := fun H v u e1 e2 Q q => by
  obtain ⟨a, v1, v2, rfl, h2, h3, h4⟩ := e1
  cases (show u = .int 1 from e2)
  exact ⟨a, _, 1, v2, rfl, rfl, h2, atI_nat (j := 1) rfl, q _ H (Same.refl _) h4⟩
theorem rr_ixA {p : T3 α β γ} : R2r K (rIxT K) p (0 : Int) p.a := fun H v u e1 e2 Q q => by
  obtain ⟨a, v1, v2, v3, rfl, h2, h3, h4, h5⟩ := e1
  cases (show u = .int 0 from e2)
  exact ⟨a, _, 0, v1, rfl, rfl, h2, atI_nat (j := 0) rfl, q _ H (Same.refl _) h3⟩
theorem rr_ixB {p : T3 α β γ} : R2r K (rIxT K) p (1 : Int) p.b := fun H v u e1 e2 Q q => by
  obtain ⟨a, v1, v2, v3, rfl, h2, h3, h4, h5⟩ := e1
  cases (show u = .int 1 from e2)
  exact ⟨a, _, 1, v2, rfl, rfl, h2, atI_nat (j := 1) rfl, q _ H (Same.refl _) h4⟩
theorem rr_ixC {p : T3 α β γ} : R2r K (rIxT K) p (2 : Int) p.c := fun H v u e1 e2 Q q => by
  obtain ⟨a, v1, v2, v3, rfl, h2, h3, h4, h5⟩ := e1
  cases (show u = .int 2 from e2)
  exact ⟨a, _, 2, v3, rfl, rfl, h2, atI_nat (j := 2) rfl, q _ H (Same.refl _) h5⟩
/-! one operand -/
theorem er_neg (h : Er K te σ H i) : Er K (tUn (rU fun i => .int (-i)) te) σ H (-i) := fun H1 e Q q => h H1 e _ fun v H2 e2 r => ⟨i, r, q _ H2 e2 rfl⟩
/-! chains, tests -/
theorem er_chain {b b' : Bool} (ha : Er K ta σ H x) (hb : Er K tb σ H y) (hc : Er K tc σ H z) (h1 : R2r K r x y b) (h2 : R2r K r' y z b') : Er K (tChain r r' ta tb tc) σ H (b && b') := fun H1 e Q q =>
  ha H1 e _ fun v H2 e2 r2 => hb H2 (e.trans e2) _ fun u H3 e3 r3 => h1 H3 v u (Rp.mono (SF.of e3) r2) r3 _ fun w H4 e4 r4 => ⟨b, r4, by
    cases b with
    | true =>
      refine iteT ?_
      exact hc H4 (((e.trans e2).trans e3).trans e4) _ fun w' H5 e5 r5 => h2 H5 u w' (Rp.mono (SF.of (e4.trans e5)) r3) r5 Q fun w2 H6 e6 r6 => q w2 H6 ((((e2.trans e3).trans e4).trans e5).trans e6) r6
    | false =>
      refine iteF ?_
      exact q _ H4 ((e2.trans e3).trans e4) rfl⟩
theorem et_test (h : Er K te σ H b) : Et K (tTest te) σ H b := fun H1 e _ q => h H1 e _ fun v H2 e2 r => ⟨b, r, q H2 e2⟩
theorem et_B (h : Er K te σ H b) : Et K (tB te) σ H b := fun H1 e _ q => h H1 e _ fun v H2 e2 r => ⟨b, r, q H2 e2⟩
theorem et_and (h1 : Et K tt σ H b) (h2 : b = true → Et K uu σ H c) : Et K (tAnd tt uu) σ H (b && c) := fun H1 e Q q => h1 H1 e _ fun H2 e2 => by
  cases b with
  | true => exact iteT (h2 rfl H2 (e.trans e2) Q fun H3 e3 => q H3 (e2.trans e3))
  | false => exact iteF (q H2 e2)
theorem et_or (h1 : Et K tt σ H b) (h2 : b = false → Et K uu σ H c) : Et K (tOr tt uu) σ H (b || c) := fun H1 e Q q => h1 H1 e _ fun H2 e2 => by
  cases b with
  | true => exact iteT (q H2 e2)
  | false => exact iteF (h2 rfl H2 (e.trans e2) Q fun H3 e3 => q H3 (e2.trans e3))
theorem et_not (h1 : Et K tt σ H b) : Et K (tNot tt) σ H (!b) := fun H1 e _ q => h1 H1 e _ fun H2 e2 => q H2 e2
theorem et_yes : Et K tYes σ H true := fun H1 e _ q => q H1 (Same.refl _)
theorem er_andV (h1 : Er K ta σ H b) (h2 : b = true → Er K tb σ H c) : Er K (tAndV ta tb) σ H (b && c) := fun H1 e Q q => h1 H1 e _ fun v H2 e2 r => ⟨b, r, by
  cases b with
  | true => exact iteT (h2 rfl H2 (e.trans e2) Q fun v H3 e3 r3 => q v H3 (e2.trans e3) r3)
  | false => exact iteF (q _ H2 e2 rfl)⟩
theorem er_orV (h1 : Er K ta σ H b) (h2 : b = false → Er K tb σ H c) : Er K (tOrV ta tb) σ H (b || c) := fun H1 e Q q => h1 H1 e _ fun v H2 e2 r => ⟨b, r, by
  cases b with
  | true => exact iteT (q _ H2 e2 rfl)
  | false => exact iteF (h2 rfl H2 (e.trans e2) Q fun v H3 e3 r3 => q v H3 (e2.trans e3) r3)⟩
theorem er_notV (h1 : Er K ta σ H b) : Er K (tNotV ta) σ H (!b) := fun H1 e Q q => h1 H1 e _ fun v H2 e2 r => ⟨b, r, q _ H2 e2 rfl⟩
theorem er_if {x' : α} (h : Et K tt σ H b) (h1 : b = true → Er K ta σ H x) (h2 : b = false → Er K tb σ H x') : Er K (tIf tt ta tb) σ H (if b = true then x else x') := fun H1 e Q q => h H1 e _ fun H2 e2 => by
  cases b with
  | true => exact iteT (h1 rfl H2 (e.trans e2) Q fun v H3 e3 r3 => q v H3 (e2.trans e3) (by rw [if_pos rfl]; exact r3))
  | false => exact iteF (h2 rfl H2 (e.trans e2) Q fun v H3 e3 r3 => q v H3 (e2.trans e3) (by rw [if_neg Bool.false_ne_true]; exact r3))
theorem erl_if {l l' : List α} (h : Et K tt σ H b) (h1 : b = true → ErL K ta σ H l) (h2 : b = false → ErL K tb σ H l') : ErL K (tIf tt ta tb) σ H (if b = true then l else l') := fun H1 e Q q => h H1 e _ fun H2 e2 => by
  cases b with
  | true => exact iteT (h1 rfl H2 (e.trans e2) Q fun p vs H3 e3 hp h3 r3 => q p vs H3 (e2.trans e3) (e2.free hp) h3 (by rw [if_pos rfl]; exact r3))
  | false => exact iteF (h2 rfl H2 (e.trans e2) Q fun p vs H3 e3 hp h3 r3 => q p vs H3 (e2.trans e3) (e2.free hp) h3 (by rw [if_neg Bool.false_ne_true]; exact r3))
/-! displays -/
theorem er_pair (h1 : Er K ta σ H x) (h2 : Er K tb σ H y) : Er K (tTup (tCons ta (tCons tb tNil))) σ H (x, y) := fun H1 e Q q =>
  h1 H1 e _ fun v H2 e2 r2 => h2 H2 (e.trans e2) _ fun u H3 e3 r3 => ⟨by show 2 ≤ sizeLine; decide, fun p hp =>
    q (.ref p) _ ((e2.trans e3).trans (same_new hp)) ⟨p, v, u, rfl, sq_tup upd_same, Rp.mono (SF.of (e3.trans (same_new hp))) r2, Rp.mono (SF.new hp) r3⟩⟩
theorem er_three (h1 : Er K ta σ H x) (h2 : Er K tb σ H y) (h3 : Er K tc σ H z) : Er K (tTup (tCons ta (tCons tb (tCons tc tNil)))) σ H (T3.mk x y z) := fun H1 e Q q =>
  h1 H1 e _ fun v H2 e2 r2 => h2 H2 (e.trans e2) _ fun u H3 e3 r3 => h3 H3 ((e.trans e2).trans e3) _ fun w H4 e4 r4 => ⟨by show 3 ≤ sizeLine; decide, fun p hp =>
    q (.ref p) _ (((e2.trans e3).trans e4).trans (same_new hp)) ⟨p, v, u, w, rfl, sq_tup upd_same, Rp.mono (SF.of ((e3.trans e4).trans (same_new hp))) r2, Rp.mono (SF.of (e4.trans (same_new hp))) r3, Rp.mono (SF.new hp) r4⟩⟩
theorem ea_nil : Ea K tNil σ H ([] : List α) := fun H1 _ _ q => q [] H1 (Same.refl _) .nil
theorem ea_cons {tr : TA} {l : List α} (h : Er K ta σ H x) (hr : Ea K tr σ H l) : Ea K (tCons ta tr) σ H (x :: l) := fun H1 e _ q =>
  h H1 e _ fun v H2 e2 r2 => hr H2 (e.trans e2) _ fun vs H3 e3 r3 => q _ H3 (e2.trans e3) (.cons (Rp.mono (SF.of e3) r2) r3)
theorem sz1000 {n : Nat} (h : n ≤ 1000000) : n ≤ sizeLine := Nat.le_trans h (by decide)
theorem erl_lst {t : TA} {l : List α} (h : Ea K t σ H l) (hz : l.length ≤ 1000000 := by first | decide | simp) : ErL K (tLst t) σ H l := fun H1 e Q q =>
  h H1 e _ fun vs H2 e2 r2 => ⟨by rw [paired_len r2]; exact sz1000 hz, fun p hp => q p vs _ (e2.trans (same_new hp)) (e2.free hp) upd_same (r2.mono (SF.new hp))⟩
theorem er_tuple {t : TA} {l : List α} (h : Ea K t σ H l) (hz : l.length ≤ 1000000 := by first | decide | simp) : Er K (tTup t) σ H (Tp.mk l) := fun H1 e Q q =>
  h H1 e _ fun vs H2 e2 r2 => ⟨by rw [paired_len r2]; exact sz1000 hz, fun p hp => q (.ref p) _ (e2.trans (same_new hp)) ⟨p, vs, rfl, sq_tup upd_same, r2.mono (SF.new hp)⟩⟩
theorem erl_cat {l l' : List α} (h1 : Er K ta σ H l) (h2 : Er K tb σ H l') (hz : l.length + l'.length ≤ 1000000) : ErL K (tOp rCatR ta tb) σ H (l ++ l') := fun H1 e Q q =>
  h1 H1 e _ fun v H2 e2 r2 => h2 H2 (e.trans e2) _ fun u H3 e3 r3 => by
    obtain ⟨a, vs, rfl, f1, p1⟩ := Rp.mono (SF.of e3) r2
    obtain ⟨b, us, rfl, f2, p2⟩ := r3
    refine ⟨a, b, vs, us, rfl, rfl, .inr f1, .inr f2, ?_, fun p hp => q p _ _ ((e2.trans e3).trans (same_new hp)) ((e2.trans e3).free hp) upd_same (RL.mono (SF.new hp) (paired_app p1 p2))⟩
    rw [paired_len p1, paired_len p2]; exact sz1000 hz
theorem paired_rep {F : V → α → Prop} {vs : List V} {l : List α} (h : Paired F vs l) : ∀ n : Nat, Paired F (List.replicate n vs).flatten (List.replicate n l).flatten
  | 0 => .nil
  | n + 1 => by
    rw [List.replicate_succ, List.replicate_succ, List.flatten_cons, List.flatten_cons]
    exact paired_app h (paired_rep h n)
theorem erl_rep {l : List α} {k : Int} (h1 : ErL K ta σ H l) (h2 : ∀ H', Same H H' → Er K tb σ H' k) (hk : -1000000 ≤ k ∧ k ≤ 1000000) (hz : l.length * k.toNat ≤ 1000000) : ErL K (tOp rRep ta tb) σ H (List.replicate k.toNat l).flatten := fun H1 e Q q =>
  h1 H1 e _ fun a vs H2 e2 hp h2' p1 => h2 H2 (e.trans e2) H2 (Same.refl _) _ fun u H3 e3 r3 => by
    cases (show u = .int k from r3)
    refine ⟨a, k, vs, rfl, rfl, e3 _ _ h2', by omega, by omega, ?_, fun p hp => q p _ _ ((e2.trans e3).trans (same_new hp)) ((e2.trans e3).free hp) upd_same (RL.mono ((SF.of e3).trans (SF.new hp)) (paired_rep p1 k.toNat))⟩
    rw [paired_len p1]; exact sz1000 hz
end
end BL

set_option Elab.async false
set_option linter.all false
set_option maxRecDepth 100000
set_option maxHeartbeats 2000000
namespace BL
open PySem PySem.Spec PyProof.Rows L2
/-! ### plain functions that the built-ins answer by -/
def mxl : List Int → Int
  | [] => 0
  | [x] => x
  | x :: y :: r => max x (mxl (y :: r))
def mnl : List Int → Int
  | [] => 0
  | [x] => x
  | x :: y :: r => min x (mnl (y :: r))
theorem mxl_mem : ∀ {l : List Int}, l ≠ [] → mxl l ∈ l
  | [x], _ => List.mem_singleton.mpr rfl
  | x :: y :: r, _ => by
    have ih := mxl_mem (l := y :: r) (by simp)
    show max x (mxl (y :: r)) ∈ _
    rcases Int.le_total x (mxl (y :: r)) with h | h
    · rw [Int.max_eq_right h]; exact List.mem_cons_of_mem _ ih
    · rw [Int.max_eq_left h]; exact List.mem_cons_self ..
theorem mxl_le : ∀ {l : List Int} {x : Int}, x ∈ l → x ≤ mxl l
  | [y], x, h => by rw [List.mem_singleton.mp h]; exact Int.le_refl _
  | y :: z :: r, x, h => by
    show x ≤ max y (mxl (z :: r))
    rcases List.mem_cons.mp h with h | h
    · subst h; exact Int.le_max_left ..
    · exact Int.le_trans (mxl_le h) (Int.le_max_right ..)
theorem mnl_mem : ∀ {l : List Int}, l ≠ [] → mnl l ∈ l
  | [x], _ => List.mem_singleton.mpr rfl
  | x :: y :: r, _ => by
    have ih := mnl_mem (l := y :: r) (by simp)
    show min x (mnl (y :: r)) ∈ _
    rcases Int.le_total x (mnl (y :: r)) with h | h
    · rw [Int.min_eq_left h]; exact List.mem_cons_self ..
    · rw [Int.min_eq_right h]; exact List.mem_cons_of_mem _ ih
theorem mnl_le : ∀ {l : List Int} {x : Int}, x ∈ l → mnl l ≤ x
  | [y], x, h => by rw [List.mem_singleton.mp h]; exact Int.le_refl _
  | y :: z :: r, x, h => by
    show min y (mnl (z :: r)) ≤ x
    rcases List.mem_cons.mp h with h | h
    · subst h; exact Int.min_le_left ..
    · exact Int.le_trans (Int.min_le_right ..) (mnl_le h)
theorem mxl_eq {l : List Int} {m : Int} (h1 : m ∈ l) (h2 : ∀ y ∈ l, y ≤ m) : m = mxl l := by
  have h3 := h2 _ (mxl_mem (l := l) (by rintro rfl; cases h1))
  have h4 := mxl_le h1
  omega
theorem mnl_eq {l : List Int} {m : Int} (h1 : m ∈ l) (h2 : ∀ y ∈ l, m ≤ y) : m = mnl l := by
  have h3 := h2 _ (mnl_mem (l := l) (by rintro rfl; cases h1))
  have h4 := mnl_le h1
  omega
/-- sorted, ascending -/
def ins (x : Int) : List Int → List Int
  | [] => [x]
  | y :: r => if x ≤ y then x :: y :: r else y :: ins x r
def srt : List Int → List Int
  | [] => []
  | x :: r => ins x (srt r)
theorem ins_perm (x : Int) : ∀ l : List Int, (ins x l).Perm (x :: l)
  | [] => .refl _
  | y :: r => by
    unfold ins
    split
    · exact .refl _
    · exact ((ins_perm x r).cons y).trans (.swap ..)
theorem srt_perm : ∀ l : List Int, (srt l).Perm l
  | [] => .refl _
  | x :: r => (ins_perm x (srt r)).trans ((srt_perm r).cons x)
theorem ins_sorted (x : Int) : ∀ {l : List Int}, l.Pairwise (· ≤ ·) → (ins x l).Pairwise (· ≤ ·)
  | [], _ => by simp [ins]
  | y :: r, h => by
    obtain ⟨h1, h2⟩ := List.pairwise_cons.mp h
    unfold ins
    split
    · rename_i hxy
      refine List.pairwise_cons.mpr ⟨fun z hz => ?_, h⟩
      rcases List.mem_cons.mp hz with hz | hz
      · subst hz; exact hxy
      · exact Int.le_trans hxy (h1 z hz)
    · rename_i hxy
      refine List.pairwise_cons.mpr ⟨fun z hz => ?_, ins_sorted x h2⟩
      rcases List.mem_cons.mp ((ins_perm x r).mem_iff.mp hz) with hz | hz
      · subst hz; omega
      · exact h1 z hz
theorem srt_sorted : ∀ l : List Int, (srt l).Pairwise (· ≤ ·)
  | [] => .nil
  | x :: r => ins_sorted x (srt_sorted r)
theorem srt_uniq : ∀ {l r : List Int}, l.Perm r → l.Pairwise (· ≤ ·) → r.Pairwise (· ≤ ·) → l = r
  | [], r, h, _, _ => (List.Perm.nil_eq h)
  | x :: l, [], h, _, _ => absurd h.length_eq (by simp)
  | x :: l, y :: r, h, h1, h2 => by
    obtain ⟨a1, a2⟩ := List.pairwise_cons.mp h1
    obtain ⟨b1, b2⟩ := List.pairwise_cons.mp h2
    have e : x = y := by
      have m1 : x ∈ y :: r := h.mem_iff.mp (List.mem_cons_self ..)
      have m2 : y ∈ x :: l := h.mem_iff.mpr (List.mem_cons_self ..)
      have q1 : y ≤ x := by
        rcases List.mem_cons.mp m1 with m | m
        · omega
        · exact b1 x m
      have q2 : x ≤ y := by
        rcases List.mem_cons.mp m2 with m | m
        · omega
        · exact a1 y m
      omega
    subst e
    rw [srt_uniq (List.Perm.cons_inv h) a2 b2]
theorem srt_eq {l r : List Int} (h : l.Perm r) (hs : l.Pairwise (· ≤ ·)) : l = srt r := srt_uniq (h.trans (srt_perm r).symm) hs (srt_sorted r)
theorem srt_len (l : List Int) : (srt l).length = l.length := (srt_perm l).length_eq
def iabs (i : Int) : Int := if i < 0 then -i else i
section
variable {K : Fg} {σ : L2.St} {H H' H1 : Hp} {ta tb tc td te : TE} {tt uu : TT} {α β γ δ : Type} [Rp α] [Rp β] [Rp γ] [Rp δ] {x : α} {y : β} {z : γ} {v u : V} {i j : Int} {b c : Bool}
/-! ### built-ins -/
theorem er_cb1 {r : List V → Hp → VK → Prop} (h : Er K ta σ H x) (hr : ∀ H v, Rp.rep K H v x → ∀ Q : VK, (∀ w H', Same H H' → Rp.rep K H' w y → Q w H') → r [v] H Q) : Er K (tCB r (tCons ta tNil)) σ H y := fun H1 e Q q =>
  h H1 e _ fun v H2 e2 r2 => hr H2 v r2 Q fun w H3 e3 r3 => q w H3 (e2.trans e3) r3
theorem er_cb2 {r : List V → Hp → VK → Prop} (h : Er K ta σ H x) (h' : Er K tb σ H y) (hr : ∀ H v u, Rp.rep K H v x → Rp.rep K H u y → ∀ Q : VK, (∀ w H', Same H H' → Rp.rep K H' w z → Q w H') → r [v, u] H Q) : Er K (tCB r (tCons ta (tCons tb tNil))) σ H z := fun H1 e Q q =>
  h H1 e _ fun v H2 e2 r2 => h' H2 (e.trans e2) _ fun u H3 e3 r3 => hr H3 v u (Rp.mono (SF.of e3) r2) r3 Q fun w H4 e4 r4 => q w H4 ((e2.trans e3).trans e4) r4
theorem erl_cb1 {r : List V → Hp → VK → Prop} {l : List β} (h : Er K ta σ H x) (hr : ∀ H v, Rp.rep K H v x → ∀ Q : VK, (∀ p vs H', Same H H' → H p = none → H' p = some (.lst vs) → RL K H' vs l → Q (.ref p) H') → r [v] H Q) : ErL K (tCB r (tCons ta tNil)) σ H l := fun H1 e Q q =>
  h H1 e _ fun v H2 e2 r2 => hr H2 v r2 Q fun p vs H3 e3 hp h3 r3 => q p vs H3 (e2.trans e3) (e2.free hp) h3 r3
theorem er_sum {l : List Int} (h : Er K ta σ H l) : Er K (tCB (rSum K) (tCons ta tNil)) σ H l.sum := er_cb1 h fun H v r Q q => by
  obtain ⟨a, vs, rfl, h2, h3⟩ := r
  exact ⟨a, l, rfl, by rw [← rl_ints h3]; exact h2.seq, q _ H (Same.refl _) rfl⟩
abbrev rLenC (K : Fg) : List V → Hp → VK → Prop := fun xs H Q => ∃ p ys, xs = [.ref p] ∧ (SqL K H p ys ∨ SqT K H p ys) ∧ Q (.int (ys.length : Int)) H
theorem er_len {l : List α} (h : Er K ta σ H l) : Er K (tCB (rLenC K) (tCons ta tNil)) σ H l.length := er_cb1 h fun H v r Q q => by
  obtain ⟨a, vs, rfl, h2, h3⟩ := r
  exact ⟨a, vs, rfl, .inl h2.seq, by rw [paired_len h3]; exact q _ H (Same.refl _) rfl⟩
theorem er_lenP {p : α × β} (h : Er K ta σ H p) : Er K (tCB (rLenC K) (tCons ta tNil)) σ H (2 : Int) := er_cb1 h fun H v r Q q => by
  obtain ⟨a, v1, v2, rfl, h2, _⟩ := r
  exact ⟨a, _, rfl, .inr h2, q _ H (Same.refl _) rfl⟩
theorem er_lenT {t : Tp α} (h : Er K ta σ H t) : Er K (tCB (rLenC K) (tCons ta tNil)) σ H t.l.length := er_cb1 h fun H v r Q q => by
  obtain ⟨a, vs, rfl, h2, h3⟩ := r
  exact ⟨a, vs, rfl, .inr h2, by rw [paired_len h3]; exact q _ H (Same.refl _) rfl⟩
theorem er_max {l : List Int} (h : Er K ta σ H l) (hn : l ≠ []) : Er K (tCB (rMax K) (tCons ta tNil)) σ H (mxl l) := er_cb1 h fun H v r Q q => by
  obtain ⟨a, vs, rfl, h2, h3⟩ := r
  exact ⟨a, l, rfl, by rw [← rl_ints h3]; exact h2.seq, List.length_pos_iff.mpr hn, fun m h1 h2 => q _ H (Same.refl _) (by rw [← mxl_eq h1 h2]; rfl)⟩
theorem er_min {l : List Int} (h : Er K ta σ H l) (hn : l ≠ []) : Er K (tCB (rMin K) (tCons ta tNil)) σ H (mnl l) := er_cb1 h fun H v r Q q => by
  obtain ⟨a, vs, rfl, h2, h3⟩ := r
  exact ⟨a, l, rfl, by rw [← rl_ints h3]; exact h2.seq, List.length_pos_iff.mpr hn, fun m h1 h2 => q _ H (Same.refl _) (by rw [← mnl_eq h1 h2]; rfl)⟩
abbrev rMax2C : List V → Hp → VK → Prop := fun xs H Q => ∃ i j, xs = [.int i, .int j] ∧ Q (.int (if j > i then j else i)) H
abbrev rMin2C : List V → Hp → VK → Prop := fun xs H Q => ∃ i j, xs = [.int i, .int j] ∧ Q (.int (if j < i then j else i)) H
abbrev rAbsC : List V → Hp → VK → Prop := fun xs H Q => ∃ i, xs = [.int i] ∧ Q (.int (if i < 0 then -i else i)) H
theorem er_max2 (h : Er K ta σ H i) (h' : Er K tb σ H j) : Er K (tCB rMax2C (tCons ta (tCons tb tNil))) σ H (max i j) := er_cb2 h h' fun H v u e1 e2 Q q => by
  cases (show v = .int i from e1); cases (show u = .int j from e2)
  refine ⟨i, j, rfl, q _ H (Same.refl _) (congrArg V.int ?_)⟩
  split <;> omega
theorem er_min2 (h : Er K ta σ H i) (h' : Er K tb σ H j) : Er K (tCB rMin2C (tCons ta (tCons tb tNil))) σ H (min i j) := er_cb2 h h' fun H v u e1 e2 Q q => by
  cases (show v = .int i from e1); cases (show u = .int j from e2)
  refine ⟨i, j, rfl, q _ H (Same.refl _) (congrArg V.int ?_)⟩
  split <;> omega
theorem er_abs (h : Er K ta σ H i) : Er K (tCB rAbsC (tCons ta tNil)) σ H (iabs i) := er_cb1 h fun H v e1 Q q => by
  cases (show v = .int i from e1)
  exact ⟨i, rfl, q _ H (Same.refl _) rfl⟩
theorem erl_sorted {l : List Int} (h : Er K ta σ H l) : ErL K (tCB (rSortedI K) (tCons ta tNil)) σ H (srt l) := erl_cb1 h fun H v r Q q => by
  obtain ⟨a, vs, rfl, h2, h3⟩ := r
  refine ⟨a, l, rfl, by rw [← rl_ints h3]; exact h2.seq, fun ns' p hp hs hn => q p _ _ (same_new hn) hn upd_same ?_⟩
  rw [srt_eq hp hs]; exact rl_of_ints _
theorem er_all {l : List Bool} (h : Er K ta σ H l) : Er K (tCB (rAll K) (tCons ta tNil)) σ H (l.all id) := er_cb1 h fun H v r Q q => by
  obtain ⟨a, vs, rfl, h2, h3⟩ := r
  exact ⟨a, l, rfl, by rw [← rl_bools h3]; exact h2.seq, q _ H (Same.refl _) rfl⟩
theorem er_any {l : List Bool} (h : Er K ta σ H l) : Er K (tCB (rAny K) (tCons ta tNil)) σ H (l.any id) := er_cb1 h fun H v r Q q => by
  obtain ⟨a, vs, rfl, h2, h3⟩ := r
  exact ⟨a, l, rfl, by rw [← rl_bools h3]; exact h2.seq, q _ H (Same.refl _) rfl⟩
abbrev rListC (K : Fg) : List V → Hp → VK → Prop := fun xs H Q => ∃ p ys, xs = [.ref p] ∧ (SqL K H p ys ∨ SqT K H p ys) ∧ ∀ l, H l = none → Q (.ref l) (upd H l (.lst ys))
theorem erl_list {l : List α} (h : Er K ta σ H l) : ErL K (tCB (rListC K) (tCons ta tNil)) σ H l := erl_cb1 h fun H v r Q q => by
  obtain ⟨a, vs, rfl, h2, h3⟩ := r
  exact ⟨a, vs, rfl, .inl h2.seq, fun p hp => q p vs _ (same_new hp) hp upd_same (h3.mono (SF.new hp))⟩
theorem erl_listT {t : Tp α} (h : Er K ta σ H t) : ErL K (tCB (rListC K) (tCons ta tNil)) σ H t.l := erl_cb1 h fun H v r Q q => by
  obtain ⟨a, vs, rfl, h2, h3⟩ := r
  exact ⟨a, vs, rfl, .inr h2, fun p hp => q p vs _ (same_new hp) hp upd_same (h3.mono (SF.new hp))⟩
/-! ### isinstance -/
class Ty (α : Type) [Rp α] where
  n : α → String
  ty : ∀ {K : Fg} {H : Hp} {v : V} {x : α}, Rp.rep K H v x → TyX K H v (.type (n x))
instance : Ty Int := ⟨fun _ => "int", fun {K H v x} h => by cases (show v = .int x from h); exact .base (.int _)⟩
instance : Ty Nat := ⟨fun _ => "int", fun {K H v x} h => by cases (show v = .int (x : Int) from h); exact .base (.int _)⟩
instance : Ty Bool := ⟨fun _ => "bool", fun {K H v x} h => by cases (show v = .bl x from h); exact .base (.bl _)⟩
instance : Ty Str := ⟨fun _ => "str", fun {K H v x} h => by cases (show v = .str x from h); exact .base (.str _)⟩
instance : Ty Unit := ⟨fun _ => "NoneType", fun {K H v x} h => by cases (show v = .non from h); exact .base .non⟩
theorem ty_tup {a : Addr} {vs : List V} (h : SqT K H a vs) : TyX K H (.ref a) (.type "tuple") := by
  rcases h with (h | ⟨o, h⟩) | ⟨o, its, n, h, hc, _⟩
  · exact .base (.tup h)
  · exact .fTuple h
  · exact .kTuple h hc
instance {α : Type} [Rp α] : Ty (List α) := ⟨fun _ => "list", fun {K H v x} h => by obtain ⟨a, vs, rfl, ⟨o, h2⟩, _⟩ := h; exact .base (.frz h2)⟩
instance {α β : Type} [Rp α] [Rp β] : Ty (α × β) := ⟨fun _ => "tuple", fun {K H v x} h => by obtain ⟨a, v1, v2, rfl, h2, _⟩ := h; exact ty_tup h2⟩
instance {α β γ : Type} [Rp α] [Rp β] [Rp γ] : Ty (T3 α β γ) := ⟨fun _ => "tuple", fun {K H v x} h => by obtain ⟨a, v1, v2, v3, rfl, h2, _⟩ := h; exact ty_tup h2⟩
instance {α : Type} [Rp α] : Ty (Tp α) := ⟨fun _ => "tuple", fun {K H v x} h => by obtain ⟨a, vs, rfl, h2, _⟩ := h; exact ty_tup h2⟩
theorem er_isi [Ty α] {s : String} {b : Bool} (h : Er K ta σ H x) (hb : kitB (Ty.n x) s = some b) : Er K (tCB (rIsi K) (tCons ta (tCons (tC (.ty s)) tNil))) σ H b := fun H1 e Q q =>
  h H1 e _ fun v H2 e2 r2 => ⟨v, .ty s, .type (Ty.n x), .type s, b, rfl, .ty s, Ty.ty r2, kit_ty hb, q _ H2 e2 rfl⟩
/-! ### slices -/
theorem paired_cut {F : V → α → Prop} {vs : List V} {l : List α} (h : Paired F vs l) (n m : Nat) : Paired F ((vs.drop n).take m) ((l.drop n).take m) := paired_take m (paired_drop n h)
def Eo (K : Fg) (to : TO) (σ : L2.St) (H : Hp) (o : Option Int) : Prop := ∀ H1, Same H H1 → ∀ Q : Option Int → Hp → Prop, (∀ H2, Same H1 H2 → Q o H2) → to σ H1 Q
theorem eo_none : Eo K tNoPart σ H none := fun H1 _ _ q => q H1 (Same.refl _)
theorem eo_some (h : Er K te σ H i) : Eo K (tPart te) σ H (some i) := fun H1 e _ q => h H1 e _ fun v H2 e2 r => ⟨i, r, q H2 e2⟩
def cutL (l : List α) (lo hi : Option Int) : List α := (l.drop (HT.sIx l.length 0 lo)).take (HT.sIx l.length l.length hi - HT.sIx l.length 0 lo)
theorem erl_sl {tl th : TO} {l : List α} {lo hi : Option Int} (h : Er K te σ H l) (h1 : Eo K tl σ H lo) (h2 : Eo K th σ H hi) : ErL K (tSl (rSlL K) te tl th) σ H (cutL l lo hi) := fun H1 e Q q =>
  h H1 e _ fun v H2 e2 r2 => h1 H2 (e.trans e2) _ fun H3 e3 => h2 H3 ((e.trans e2).trans e3) _ fun H4 e4 => by
    obtain ⟨a, vs, rfl, f, p⟩ := r2
    have f4 : Fz H4 a vs := f.sf (SF.of (e3.trans e4))
    have p4 : RL K H4 vs l := p.mono (SF.of (e3.trans e4))
    refine ⟨a, vs, rfl, f4.seq, fun n hn => q n _ _ (((e2.trans e3).trans e4).trans (same_new hn)) (((e2.trans e3).trans e4).free hn) upd_same ?_⟩
    have hc : RL K H4 (cutV vs lo hi) (cutL l lo hi) := by
      unfold cutV cutL
      rw [paired_len p4]
      exact paired_cut p4 _ _
    exact hc.mono (SF.new hn)
theorem cutL_from (l : List α) (n : Nat) : cutL l (some (n : Int)) none = l.drop n := by
  unfold cutL
  rw [HT.sIx_nat, HT.sIx_none]
  by_cases h : n ≤ l.length
  · rw [Nat.min_eq_left h, List.take_of_length_le (by rw [List.length_drop]; omega)]
  · rw [Nat.min_eq_right (by omega), List.drop_of_length_le (Nat.le_refl _), List.drop_of_length_le (by omega)]; simp
theorem cutL_to (l : List α) (n : Nat) : cutL l none (some (n : Int)) = l.take n := by
  unfold cutL
  rw [HT.sIx_nat, HT.sIx_none, List.drop_zero, Nat.sub_zero]
  by_cases h : n ≤ l.length
  · rw [Nat.min_eq_left h]
  · rw [Nat.min_eq_right (by omega), List.take_of_length_le (Nat.le_refl _), List.take_of_length_le (by omega)]
/-! ### promises: n arguments that stand for data, an answer, all that was tracked kept -/
def ansV (K : Fg) (y : β) (H : Hp) (Q : VK) : Prop := ∀ u H', Same H H' → Rp.rep K H' u y → Q u H'
def ansL (K : Fg) (l : List β) (H : Hp) (Q : VK) : Prop := ∀ p us H', Same H H' → H p = none → H' p = some (.lst us) → RL K H' us l → Q (.ref p) H'
def sp1 (K : Fg) (pre : α → Prop) (f : α → β) : Sp := fun vs H Q _ => ∃ v x, vs = [v] ∧ Rp.rep K H v x ∧ pre x ∧ ansV K (f x) H Q
def sp2 (K : Fg) (pre : α → β → Prop) (f : α → β → γ) : Sp := fun vs H Q _ => ∃ v u x y, vs = [v, u] ∧ Rp.rep K H v x ∧ Rp.rep K H u y ∧ pre x y ∧ ansV K (f x y) H Q
def sp3 (K : Fg) (pre : α → β → γ → Prop) (f : α → β → γ → δ) : Sp := fun vs H Q _ => ∃ v u w x y z, vs = [v, u, w] ∧ Rp.rep K H v x ∧ Rp.rep K H u y ∧ Rp.rep K H w z ∧ pre x y z ∧ ansV K (f x y z) H Q
def sl1 (K : Fg) (pre : α → Prop) (f : α → List β) : Sp := fun vs H Q _ => ∃ v x, vs = [v] ∧ Rp.rep K H v x ∧ pre x ∧ ansL K (f x) H Q
def sl2 (K : Fg) (pre : α → β → Prop) (f : α → β → List γ) : Sp := fun vs H Q _ => ∃ v u x y, vs = [v, u] ∧ Rp.rep K H v x ∧ Rp.rep K H u y ∧ pre x y ∧ ansL K (f x y) H Q
def sl3 (K : Fg) (pre : α → β → γ → Prop) (f : α → β → γ → List δ) : Sp := fun vs H Q _ => ∃ v u w x y z, vs = [v, u, w] ∧ Rp.rep K H v x ∧ Rp.rep K H u y ∧ Rp.rep K H w z ∧ pre x y z ∧ ansL K (f x y z) H Q
theorem er_call1 {pre : α → Prop} {f : α → β} {E : XK} (h : Er K ta σ H x) (hp : pre x) : Er K (tCall (sp1 K pre f) [] E (tCons ta tNil)) σ H (f x) := fun H1 e Q q =>
  h H1 e _ fun v H2 e2 r2 => ⟨v, x, rfl, r2, hp, fun u H3 e3 r3 => q u H3 (e2.trans e3) r3⟩
theorem er_call2 {pre : α → β → Prop} {f : α → β → γ} {E : XK} (h : Er K ta σ H x) (h' : Er K tb σ H y) (hp : pre x y) : Er K (tCall (sp2 K pre f) [] E (tCons ta (tCons tb tNil))) σ H (f x y) := fun H1 e Q q =>
  h H1 e _ fun v H2 e2 r2 => h' H2 (e.trans e2) _ fun u H3 e3 r3 => ⟨v, u, x, y, rfl, Rp.mono (SF.of e3) r2, r3, hp, fun u H4 e4 r4 => q u H4 ((e2.trans e3).trans e4) r4⟩
theorem er_call3 {pre : α → β → γ → Prop} {f : α → β → γ → δ} {E : XK} (h : Er K ta σ H x) (h' : Er K tb σ H y) (h'' : Er K tc σ H z) (hp : pre x y z) : Er K (tCall (sp3 K pre f) [] E (tCons ta (tCons tb (tCons tc tNil)))) σ H (f x y z) := fun H1 e Q q =>
  h H1 e _ fun v H2 e2 r2 => h' H2 (e.trans e2) _ fun u H3 e3 r3 => h'' H3 ((e.trans e2).trans e3) _ fun w H4 e4 r4 =>
    ⟨v, u, w, x, y, z, rfl, Rp.mono (SF.of (e3.trans e4)) r2, Rp.mono (SF.of e4) r3, r4, hp, fun u H5 e5 r5 => q u H5 (((e2.trans e3).trans e4).trans e5) r5⟩
theorem erl_call1 {pre : α → Prop} {f : α → List β} {E : XK} (h : Er K ta σ H x) (hp : pre x) : ErL K (tCall (sl1 K pre f) [] E (tCons ta tNil)) σ H (f x) := fun H1 e Q q =>
  h H1 e _ fun v H2 e2 r2 => ⟨v, x, rfl, r2, hp, fun p us H3 e3 hn h3 r3 => q p us H3 (e2.trans e3) (e2.free hn) h3 r3⟩
theorem erl_call2 {pre : α → β → Prop} {f : α → β → List γ} {E : XK} (h : Er K ta σ H x) (h' : Er K tb σ H y) (hp : pre x y) : ErL K (tCall (sl2 K pre f) [] E (tCons ta (tCons tb tNil))) σ H (f x y) := fun H1 e Q q =>
  h H1 e _ fun v H2 e2 r2 => h' H2 (e.trans e2) _ fun u H3 e3 r3 => ⟨v, u, x, y, rfl, Rp.mono (SF.of e3) r2, r3, hp, fun p us H4 e4 hn h4 r4 => q p us H4 ((e2.trans e3).trans e4) ((e2.trans e3).free hn) h4 r4⟩
theorem erl_call3 {pre : α → β → γ → Prop} {f : α → β → γ → List δ} {E : XK} (h : Er K ta σ H x) (h' : Er K tb σ H y) (h'' : Er K tc σ H z) (hp : pre x y z) : ErL K (tCall (sl3 K pre f) [] E (tCons ta (tCons tb (tCons tc tNil)))) σ H (f x y z) := fun H1 e Q q =>
  h H1 e _ fun v H2 e2 r2 => h' H2 (e.trans e2) _ fun u H3 e3 r3 => h'' H3 ((e.trans e2).trans e3) _ fun w H4 e4 r4 =>
    ⟨v, u, w, x, y, z, rfl, Rp.mono (SF.of (e3.trans e4)) r2, Rp.mono (SF.of e4) r3, r4, hp, fun p us H5 e5 hn h5 r5 => q p us H5 (((e2.trans e3).trans e4).trans e5) (((e2.trans e3).trans e4).free hn) h5 r5⟩
/-! ### statements -/
variable {D : Ends} {tu tw tz : TS} {g : TG}
theorem s_set {k : Nat} (h : Er K te σ H x) (q : ∀ v H1, Same H H1 → Rp.rep K H1 v x → D.nx (σ.set k (some v)) H1) : tAsg te (gName k) D σ H := h H (Same.refl _) _ q
theorem s_setL {k : Nat} {l : List α} (h : ErL K te σ H l) (q : ∀ p vs H1, Same H H1 → H p = none → H1 p = some (.lst vs) → RL K H1 vs l → D.nx (σ.set k (some (.ref p))) H1) : tAsg te (gName k) D σ H := h H (Same.refl _) _ q
theorem q_set {k : Nat} (h : Er K te σ H x) (q : ∀ v H1, Same H H1 → Rp.rep K H1 v x → tz D (σ.set k (some v)) H1) : tSeq (tAsg te (gName k)) tz D σ H := h H (Same.refl _) _ q
theorem q_setL {k : Nat} {l : List α} (h : ErL K te σ H l) (q : ∀ p vs H1, Same H H1 → H p = none → H1 p = some (.lst vs) → RL K H1 vs l → tz D (σ.set k (some (.ref p))) H1) : tSeq (tAsg te (gName k)) tz D σ H := h H (Same.refl _) _ q
theorem s_drop (h : Er K te σ H x) (q : ∀ H1, Same H H1 → D.nx σ H1) : tDrop te D σ H := h H (Same.refl _) _ fun _ H1 e _ => q H1 e
theorem q_drop (h : Er K te σ H x) (q : ∀ H1, Same H H1 → tz D σ H1) : tSeq (tDrop te) tz D σ H := h H (Same.refl _) _ fun _ H1 e _ => q H1 e
theorem s_par {k m : Nat} (h : Er K ta σ H x) (h' : Er K tb σ H y) (q : ∀ v u H1, Same H H1 → Rp.rep K H1 v x → Rp.rep K H1 u y → D.nx ((σ.set k (some v)).set m (some u)) H1) : tPar k m (tCons ta (tCons tb tNil)) D σ H :=
  h H (Same.refl _) _ fun v H1 e r => h' H1 e _ fun u H2 e2 r2 => ⟨v, u, rfl, q v u H2 (e.trans e2) (Rp.mono (SF.of e2) r) r2⟩
theorem q_par {k m : Nat} (h : Er K ta σ H x) (h' : Er K tb σ H y) (q : ∀ v u H1, Same H H1 → Rp.rep K H1 v x → Rp.rep K H1 u y → tz D ((σ.set k (some v)).set m (some u)) H1) : tSeq (tPar k m (tCons ta (tCons tb tNil))) tz D σ H :=
  s_par (D := { D with nx := tz D }) h h' q
theorem tg_pair {p : α × β} {k m : Nat} (h : Rp.rep K H v p) : ∃ v1 v2, Rp.rep K H v1 p.1 ∧ Rp.rep K H v2 p.2 ∧ ∀ Q : L2.St → Hp → Prop, Q ((σ.set k (some v1)).set m (some v2)) H → gTup K 2 (gCons (gName k) (gCons (gName m) gNil)) v σ H Q := by
  obtain ⟨a, v1, v2, rfl, h2, h3, h4⟩ := h
  exact ⟨v1, v2, h3, h4, fun Q q => ⟨a, _, rfl, h2, rfl, v1, _, rfl, v2, _, rfl, rfl, q⟩⟩
theorem tg_three {p : T3 α β γ} {k m n : Nat} (h : Rp.rep K H v p) : ∃ v1 v2 v3, Rp.rep K H v1 p.a ∧ Rp.rep K H v2 p.b ∧ Rp.rep K H v3 p.c ∧ ∀ Q : L2.St → Hp → Prop, Q (((σ.set k (some v1)).set m (some v2)).set n (some v3)) H → gTup K 3 (gCons (gName k) (gCons (gName m) (gCons (gName n) gNil))) v σ H Q := by
  obtain ⟨a, v1, v2, v3, rfl, h2, h3, h4, h5⟩ := h
  exact ⟨v1, v2, v3, h3, h4, h5, fun Q q => ⟨a, _, rfl, h2, rfl, v1, _, rfl, v2, _, rfl, v3, _, rfl, rfl, q⟩⟩
theorem s_unp {p : α × β} {k m : Nat} (h : Er K te σ H p) (q : ∀ v u H1, Same H H1 → Rp.rep K H1 v p.1 → Rp.rep K H1 u p.2 → D.nx ((σ.set k (some v)).set m (some u)) H1) : tAsg te (gTup K 2 (gCons (gName k) (gCons (gName m) gNil))) D σ H :=
  h H (Same.refl _) _ fun v H1 e r => by
    obtain ⟨v1, v2, r1, r2, f⟩ := tg_pair (σ := σ) (k := k) (m := m) r
    exact f _ (q v1 v2 H1 e r1 r2)
theorem q_unp {p : α × β} {k m : Nat} (h : Er K te σ H p) (q : ∀ v u H1, Same H H1 → Rp.rep K H1 v p.1 → Rp.rep K H1 u p.2 → tz D ((σ.set k (some v)).set m (some u)) H1) : tSeq (tAsg te (gTup K 2 (gCons (gName k) (gCons (gName m) gNil)))) tz D σ H :=
  s_unp (D := { D with nx := tz D }) h q
theorem s_ret (h : Er K te σ H x) (q : ∀ v H1, Same H H1 → Rp.rep K H1 v x → D.rt v H1) : tRet te D σ H := h H (Same.refl _) _ q
theorem s_retL {l : List α} (h : ErL K te σ H l) (q : ∀ p vs H1, Same H H1 → H p = none → H1 p = some (.lst vs) → RL K H1 vs l → D.rt (.ref p) H1) : tRet te D σ H := h H (Same.refl _) _ q
theorem s_if (h : Et K tt σ H b) (h1 : b = true → ∀ H1, Same H H1 → tu D σ H1) (h2 : b = false → ∀ H1, Same H H1 → tw D σ H1) : tIfS tt tu tw D σ H := h H (Same.refl _) _ fun H1 e => by
  cases b with
  | true => exact iteT (h1 rfl H1 e)
  | false => exact iteF (h2 rfl H1 e)
theorem q_if (h : Et K tt σ H b) (h1 : b = true → ∀ H1, Same H H1 → tu { D with nx := tz D } σ H1) (h2 : b = false → ∀ H1, Same H H1 → tw { D with nx := tz D } σ H1) : tSeq (tIfS tt tu tw) tz D σ H := s_if (D := { D with nx := tz D }) h h1 h2
theorem q_when (h : Et K tt σ H b) (h1 : b = true → ∀ H1, Same H H1 → tu { D with nx := tz D } σ H1) (h2 : b = false → ∀ H1, Same H H1 → tz D σ H1) : tSeq (tIfS tt tu tNext) tz D σ H := s_if (D := { D with nx := tz D }) h h1 h2
/-- the test is known not to hold -/
theorem q_not (h : Et K tt σ H b) (hb : b = false) (q : ∀ H1, Same H H1 → tz D σ H1) : tSeq (tIfS tt tu tNext) tz D σ H := q_when h (fun e => by rw [hb] at e; cases e) fun _ => q
theorem s_not (h : Et K tt σ H b) (hb : b = false) (q : ∀ H1, Same H H1 → D.nx σ H1) : tIfS tt tu tNext D σ H := s_if h (fun e => by rw [hb] at e; cases e) fun _ => q
/-! lists not locked yet -/
def Un (K : Fg) (H : Hp) (p : Addr) (l : List α) : Prop := ∃ vs, H p = some (.lst vs) ∧ RL K H vs l
theorem Un.of {p : Addr} {vs : List V} {l : List α} (h : H p = some (.lst vs)) (r : RL K H vs l) : Un K H p l := ⟨vs, h, r⟩
theorem Un.mono {p : Addr} {l : List α} (e : Same H H') (h : Un K H p l) : Un K H' p l := by
  obtain ⟨vs, h, r⟩ := h; exact ⟨vs, e _ _ h, r.mono (SF.of e)⟩
/-- from H to H' the list at p alone has changed, new things are there -/
structure Mu (p : Addr) (H H' : Hp) : Prop where
  sf : SF H H'
  ne : ∀ q o, q ≠ p → H q = some o → H' q = some o
theorem Mu.base {p : Addr} {H0 : Hp} (m : Mu p H H') (e : Same H0 H) (h : H0 p = none) : Same H0 H' := fun a o ha => m.ne a o (ne_of_none ha h) (e a o ha)
theorem Mu.trans {p : Addr} {H2 : Hp} (m : Mu p H H') (n : Mu p H' H2) : Mu p H H2 := ⟨m.sf.trans n.sf, fun q o h e => n.ne q o h (m.ne q o h e)⟩
theorem Mu.of {p : Addr} (e : Same H H') : Mu p H H' := ⟨SF.of e, fun q o _ h => e q o h⟩
theorem mu_upd {p : Addr} {vs : List V} {o : HO} (e : Same H H1) (h : H p = some (.lst vs)) : Mu p H (upd H1 p o) := ⟨(SF.of e).trans (SF.lst (e _ _ h)), fun q u n hq => by rw [upd_ne n]; exact e _ _ hq⟩
theorem Un.ne {p q : Addr} {l : List α} (m : Mu p H H') (n : q ≠ p) (h : Un K H q l) : Un K H' q l := by
  obtain ⟨vs, h, r⟩ := h; exact ⟨vs, m.ne _ _ n h, r.mono m.sf⟩
theorem s_app {k : Nat} {p : Addr} {l : List α} (hσ : σ[k]? = some (some (.ref p))) (hu : Un K H p l) (h : Er K te σ H x) (hz : l.length < 1000000) (q : ∀ H2, Mu p H H2 → Un K H2 p (l ++ [x]) → D.nx σ H2) :
    tDrop (tBM K "list" rAppend (tVar k) (tCons te tNil)) D σ H := by
  obtain ⟨vs, hp, r⟩ := hu
  refine ⟨.ref p, hσ, Or.inl ⟨rfl, vs, sq_lst hp⟩, ?_⟩
  refine h H (Same.refl _) _ fun v H2 e2 r2 => ⟨p, vs, v, rfl, rfl, e2 _ _ hp, ?_, q _ (mu_upd e2 hp) ⟨_, upd_same, RL.mono (SF.lst (e2 _ _ hp)) (paired_app (r.mono (SF.of e2)) (.cons r2 .nil))⟩⟩
  rw [paired_len r]; exact Nat.lt_of_lt_of_le hz (by decide)
theorem q_app {k : Nat} {p : Addr} {l : List α} (hσ : σ[k]? = some (some (.ref p))) (hu : Un K H p l) (h : Er K te σ H x) (hz : l.length < 1000000) (q : ∀ H2, Mu p H H2 → Un K H2 p (l ++ [x]) → tz D σ H2) :
    tSeq (tDrop (tBM K "list" rAppend (tVar k) (tCons te tNil))) tz D σ H := s_app (D := { D with nx := tz D }) hσ hu h hz q
theorem s_setI {k : Nat} {p : Addr} {l : List α} {n : Nat} (hσ : σ[k]? = some (some (.ref p))) (hu : Un K H p l) (h : Er K te σ H x) (hi : Er K tb σ H n) (hn : n < l.length) (q : ∀ H2, Mu p H H2 → Un K H2 p (l.set n x) → D.nx σ H2) :
    tAsg te (gSub (tVar k) tb rSetL) D σ H := by
  obtain ⟨vs, hp, r⟩ := hu
  refine h H (Same.refl _) _ fun v H2 e2 r2 => ⟨.ref p, hσ, hi H2 e2 _ fun u H3 e3 r3 => ?_⟩
  cases (show u = .int (n : Int) from r3)
  refine ⟨p, vs, (n : Int), n, rfl, rfl, (e2.trans e3) _ _ hp, ?_, q _ (mu_upd (e2.trans e3) hp) ⟨_, upd_same, RL.mono (SF.lst ((e2.trans e3) _ _ hp)) (paired_set (Rp.mono (SF.of e3) r2) n (r.mono (SF.of (e2.trans e3))))⟩⟩
  rw [paired_len r]
  unfold ixN
  rw [if_pos (by omega), if_pos (by omega)]; simp
theorem q_setI {k : Nat} {p : Addr} {l : List α} {n : Nat} (hσ : σ[k]? = some (some (.ref p))) (hu : Un K H p l) (h : Er K te σ H x) (hi : Er K tb σ H n) (hn : n < l.length) (q : ∀ H2, Mu p H H2 → Un K H2 p (l.set n x) → tz D σ H2) :
    tSeq (tAsg te (gSub (tVar k) tb rSetL)) tz D σ H := s_setI (D := { D with nx := tz D }) hσ hu h hi hn q
theorem er_ixU {k : Nat} {p : Addr} {l : List α} {n : Nat} {x : α} (hσ : σ[k]? = some (some (.ref p))) (hu : Un K H p l) (hi : Er K tb σ H (n : Int)) (hx : l[n]? = some x) : Er K (tOp (rIxL K) (tVar k) tb) σ H x := fun H1 e Q q => by
  obtain ⟨vs, hp, r⟩ := hu
  refine ⟨.ref p, hσ, hi H1 e _ fun u H2 e2 r2 => ?_⟩
  cases (show u = .int (n : Int) from r2)
  obtain ⟨w, hw, rw'⟩ := paired_get r hx
  exact ⟨p, vs, n, w, rfl, rfl, sq_lst ((e.trans e2) _ _ hp), atI_nat hw, q w H2 e2 (Rp.mono (SF.of (e.trans e2)) rw')⟩
theorem er_lenU {k : Nat} {p : Addr} {l : List α} (hσ : σ[k]? = some (some (.ref p))) (hu : Un K H p l) : Er K (tCB (rLenC K) (tCons (tVar k) tNil)) σ H l.length := fun H1 e Q q => by
  obtain ⟨vs, hp, r⟩ := hu
  exact ⟨.ref p, hσ, p, vs, rfl, .inl (sq_lst (e _ _ hp)), by rw [paired_len r]; exact q _ H1 (Same.refl _) rfl⟩
/-- the list in a slot is locked from here on -/
def tFzS (k : Nat) (t : TS) : TS := fun D σ H => ∃ p vs, σ[k]? = some (some (.ref p)) ∧ H p = some (.lst vs) ∧ ∀ od, t D σ (upd H p (.frz od (.lst vs)))
theorem pss_frz {X : Cx} {rest : List Stmt} {t : TS} (k : Nat) (h : PSs X rest t) : PSs X rest (tFzS k t) := ⟨fun pins s σ H D I q => by
  obtain ⟨p, vs, hs, hp, q⟩ := q
  obtain ⟨od, I2⟩ := I.lock hp trivial
  exact h.run pins s σ _ D I2 (q od)⟩
theorem q_frz {k : Nat} {p : Addr} {l : List α} (hσ : σ[k]? = some (some (.ref p))) (hu : Un K H p l) (q : ∀ H2, Mu p H H2 → Rp.rep K H2 (.ref p) l → tz D σ H2) : tFzS k tz D σ H := by
  obtain ⟨vs, hp, r⟩ := hu
  exact ⟨p, vs, hσ, hp, fun od => q _ (mu_upd (Same.refl _) hp) ⟨p, vs, rfl, ⟨od, upd_same⟩, r.mono (SF.lst hp)⟩⟩
theorem s_aug {k : Nat} {f : Int → Int → Int} (hσ : σ[k]? = some (some (.int i))) (h : Er K te σ H j) (q : ∀ H1, Same H H1 → D.nx (σ.set k (some (.int (f i j)))) H1) : tAug k te (ipI f) D σ H :=
  ⟨.int i, hσ, h H (Same.refl _) _ fun v H1 e r => ⟨i, j, rfl, r, q H1 e⟩⟩
theorem q_aug {k : Nat} {f : Int → Int → Int} (hσ : σ[k]? = some (some (.int i))) (h : Er K te σ H j) (q : ∀ H1, Same H H1 → tz D (σ.set k (some (.int (f i j)))) H1) : tSeq (tAug k te (ipI f)) tz D σ H := s_aug (D := { D with nx := tz D }) hσ h q
end
end BL

set_option Elab.async false
set_option linter.all false
set_option maxRecDepth 100000
set_option maxHeartbeats 2000000
namespace BL
open PySem PySem.Spec PyProof.Rows L2
/-! ### what is walked -/
def Src (K : Fg) (wi : TI) (σ : L2.St) (H : Hp) {α : Type} [Rp α] (l : List α) : Prop := ∀ H1, Same H H1 → ∀ RR : It → Hp → Prop,
  (∀ (J : It) (H2 : Hp) (G : Hp → Prop) (Y : Nat → Hp → V → Hp → Prop), Same H1 H2 → Walk J l.length G Y → (∀ H', SF H2 H' → G H') →
    (∀ i x, l[i]? = some x → ∀ H', SF H2 H' → ∀ v H'', Y i H' v H'' → Same H' H'' ∧ Rp.rep K H'' v x) → RR J H2) → wi σ H1 RR
def enumL {α : Type} (l : List α) : List (Nat × α) := (List.range l.length).zip l
def rgI (lo : Int) (n : Nat) : List Int := (List.range n).map fun k : Nat => lo + (k : Int)
section
variable {K : Fg} {σ : L2.St} {H H' H1 : Hp} {ta tb tc td te : TE} {tt uu : TT} {α β γ δ : Type} [Rp α] [Rp β] [Rp γ] [Rp δ] {x : α} {y : β} {z : γ} {v u : V} {i j : Int} {b c : Bool}
theorem src_list {l : List α} (h : Er K te σ H l) : Src K (iList K te) σ H l := fun H1 e RR k => h H1 e _ fun v H2 e2 r => by
  obtain ⟨a, vs, rfl, f, p⟩ := r
  refine ⟨a, rfl, ⟨vs, f.seq⟩, k _ H2 (fun H => SqL K H a vs) (YAt vs) e2 (by rw [← paired_len p]; exact walk_list) (fun H' s => (f.sf s).seq) fun i x hx H' s v H'' y => ?_⟩
  obtain ⟨rfl, hv⟩ := y
  obtain ⟨w, hw, r⟩ := paired_get p hx
  rw [hv] at hw; cases hw
  exact ⟨Same.refl _, Rp.mono s r⟩
theorem src_tup {t : Tp α} (h : Er K te σ H t) : Src K (iTup K te) σ H t.l := fun H1 e RR k => h H1 e _ fun v H2 e2 r => by
  obtain ⟨a, vs, rfl, f, p⟩ := r
  refine ⟨a, rfl, ⟨vs, f⟩, k _ H2 (fun H => SqT K H a vs) (YAt vs) e2 (by rw [← paired_len p]; exact walk_tup) (fun H' s => sqt_sf s f) fun i x hx H' s v H'' y => ?_⟩
  obtain ⟨rfl, hv⟩ := y
  obtain ⟨w, hw, r⟩ := paired_get p hx
  rw [hv] at hw; cases hw
  exact ⟨Same.refl _, Rp.mono s r⟩
theorem src_two {p : α × α} (h : Er K te σ H p) : Src K (iTup K te) σ H [p.1, p.2] := src_tup (t := ⟨[p.1, p.2]⟩) fun H1 e Q q => h H1 e Q fun v H2 e2 r => q v H2 e2 (by
  obtain ⟨a, v1, v2, rfl, h2, h3, h4⟩ := r
  exact ⟨a, _, rfl, h2, .cons h3 (.cons h4 .nil)⟩)
theorem src_range1 {n : Nat} (h : Er K te σ H n) (hz : n ≤ 1000000) : Src K (iRng1 (tCons te tNil)) σ H (List.range n) := fun H1 e RR k => h H1 e _ fun v H2 e2 r => by
  cases (show v = .int (n : Int) from r)
  refine ⟨(n : Int), rfl, by omega, by omega, k _ H2 (fun _ => True) (YFn fun i => .int (0 + i)) e2 ?_ (fun _ _ => trivial) fun i x hx H' s v H'' y => ?_⟩
  · rw [List.length_range, Int.toNat_natCast]; exact walk_range
  · obtain ⟨rfl, rfl⟩ := y
    have hi : i < n := by
      have := (List.getElem?_eq_some_iff.mp hx).1
      rwa [List.length_range] at this
    rw [List.getElem?_range hi] at hx
    cases hx
    exact ⟨Same.refl _, by show V.int _ = V.int _; rw [Int.zero_add]⟩
theorem src_range2 {lo hi : Int} (h : Er K ta σ H lo) (h' : Er K tb σ H hi) (h1 : -1000000 ≤ lo ∧ lo ≤ 1000000) (h2 : -1000000 ≤ hi ∧ hi ≤ 1000000) : Src K (iRng2 (tCons ta (tCons tb tNil))) σ H (rgI lo (hi - lo).toNat) := fun H1 e RR k =>
  h H1 e _ fun v H2 e2 r2 => h' H2 (e.trans e2) _ fun u H3 e3 r3 => by
  cases (show v = .int lo from r2)
  cases (show u = .int hi from r3)
  refine ⟨lo, hi, rfl, ⟨by omega, by omega, by omega, by omega⟩, k _ H3 (fun _ => True) (YFn fun i => .int (lo + i)) (e2.trans e3) ?_ (fun _ _ => trivial) fun i x hx H' s v H'' y => ?_⟩
  · unfold rgI; rw [List.length_map, List.length_range]; exact walk_range
  · obtain ⟨rfl, rfl⟩ := y
    have hi : i < (hi - lo).toNat := by
      have := (List.getElem?_eq_some_iff.mp hx).1
      unfold rgI at this
      rwa [List.length_map, List.length_range] at this
    unfold rgI at hx
    rw [List.getElem?_map, List.getElem?_range hi] at hx
    cases hx
    exact ⟨Same.refl _, rfl⟩
theorem enumL_get {l : List α} {i : Nat} {p : Nat × α} (h : (enumL l)[i]? = some p) : l[i]? = some p.2 ∧ p.1 = i := by
  unfold enumL at h
  rw [List.getElem?_zip_eq_some] at h
  obtain ⟨h1, h2⟩ := h
  have hi : i < l.length := (List.getElem?_eq_some_iff.mp h2).1
  rw [List.getElem?_range hi] at h1
  exact ⟨h2, (Option.some.inj h1).symm⟩
theorem enumL_len (l : List α) : (enumL l).length = l.length := by unfold enumL; rw [List.length_zip, List.length_range, Nat.min_self]
theorem src_enum {l : List α} (h : Er K te σ H l) : Src K (iEnum K (tCons te tNil)) σ H (enumL l) := fun H1 e RR k => h H1 e _ fun v H2 e2 r => by
  obtain ⟨a, vs, rfl, f, p⟩ := r
  refine ⟨a, vs, rfl, f.seq, k _ H2 (fun H => SqL K H a vs) _ e2 (by rw [enumL_len, ← paired_len p]; exact walk_enum) (fun H' s => (f.sf s).seq) fun i x hx H' s v H'' y => ?_⟩
  obtain ⟨T, w1, w2, rfl, hT, rfl, h1, h2⟩ := y
  obtain ⟨g1, g2⟩ := enumL_get hx
  obtain ⟨w, hw, r⟩ := paired_get p g1
  have h2' : vs[i]? = some w2 := h2
  rw [h2'] at hw; cases hw
  refine ⟨same_new hT, T, w1, w2, rfl, sq_tup upd_same, ?_, Rp.mono (s.trans (SF.new hT)) r⟩
  cases h1
  show V.int _ = V.int _
  rw [g2]
theorem src_zip {l : List α} {m : List β} (h : Er K ta σ H l) (h' : Er K tb σ H m) : Src K (iZip K (tCons ta (tCons tb tNil))) σ H (l.zip m) := fun H1 e RR k => h H1 e _ fun v H2 e2 r2 => h' H2 (e.trans e2) _ fun u H3 e3 r3 => by
  obtain ⟨a, vs, rfl, f, p⟩ := r2
  obtain ⟨b, us, rfl, f', p'⟩ := r3
  have f3 := f.sf (SF.of e3)
  have p3 := p.mono (SF.of e3)
  refine ⟨a, b, vs, us, rfl, f3.seq, f'.seq, k _ H3 (fun H => SqL K H a vs ∧ SqL K H b us) _ (e2.trans e3) (walk_zip (by rw [List.length_zip, paired_len p, paired_len p'])) (fun H' s => ⟨(f3.sf s).seq, (f'.sf s).seq⟩) fun i x hx H' s v H'' y => ?_⟩
  obtain ⟨T, w1, w2, rfl, hT, rfl, h1, h2⟩ := y
  rw [List.getElem?_zip_eq_some] at hx
  obtain ⟨w, hw, r⟩ := paired_get p3 hx.1
  obtain ⟨w', hw', r'⟩ := paired_get p' hx.2
  have h1' : vs[i]? = some w1 := h1
  have h2' : us[i]? = some w2 := h2
  rw [h1'] at hw; cases hw
  rw [h2'] at hw'; cases hw'
  exact ⟨same_new hT, T, w1, w2, rfl, sq_tup upd_same, Rp.mono (s.trans (SF.new hT)) r, Rp.mono (s.trans (SF.new hT)) r'⟩
/-! ### for -/
variable {D : Ends} {tu tw tz : TS} {g : TG} {wi : TI}
theorem s_for {l : List α} (hs : Src K wi σ H l) (Pv : Hp → Nat → L2.St → Hp → Prop) (h0 : ∀ H1, Same H H1 → Pv H1 0 σ H1) (hf : ∀ H1 k σ' H', Pv H1 k σ' H' → SF H1 H')
    (turn : ∀ H1 k x σ' H' v H'', Same H H1 → l[k]? = some x → Pv H1 k σ' H' → Same H' H'' → Rp.rep K H'' v x → g v σ' H'' fun σ2 H2 => tu { D with nx := Pv H1 (k + 1), ct := Pv H1 (k + 1), bk := D.nx } σ2 H2)
    (hd : ∀ H1 σ' H', Same H H1 → Pv H1 l.length σ' H' → D.nx σ' H') : tFor wi g tu D σ H := hs H (Same.refl _) _ fun J H2 G Y e2 w hG hY =>
  for_it w (Pv H2) (h0 H2 e2) (fun k σ' H' _ p => hG H' (hf _ _ _ _ p)) (fun k v σ' H' H'' hk p y => by
    obtain ⟨x, hx⟩ : ∃ x, l[k]? = some x := ⟨l[k], List.getElem?_eq_getElem hk⟩
    obtain ⟨s, r⟩ := hY k x hx H' (hf _ _ _ _ p) v H'' y
    exact turn H2 k x σ' H' v H'' e2 hx p s r) fun σ' H' p => hd H2 σ' H' e2 p
theorem q_for {l : List α} (hs : Src K wi σ H l) (Pv : Hp → Nat → L2.St → Hp → Prop) (h0 : ∀ H1, Same H H1 → Pv H1 0 σ H1) (hf : ∀ H1 k σ' H', Pv H1 k σ' H' → SF H1 H')
    (turn : ∀ H1 k x σ' H' v H'', Same H H1 → l[k]? = some x → Pv H1 k σ' H' → Same H' H'' → Rp.rep K H'' v x → g v σ' H'' fun σ2 H2 => tu { D with nx := Pv H1 (k + 1), ct := Pv H1 (k + 1), bk := tz D } σ2 H2)
    (hd : ∀ H1 σ' H', Same H H1 → Pv H1 l.length σ' H' → tz D σ' H') : tSeq (tFor wi g tu) tz D σ H := s_for (D := { D with nx := tz D }) hs Pv h0 hf turn hd
theorem s_while (Pv : L2.St → Hp → Prop) (μ : L2.St → Hp → Nat) (h0 : Pv σ H)
    (hs : ∀ σ' H', Pv σ' H' → ∃ b, Et K tt σ' H' b ∧ (b = true → ∀ H1, Same H' H1 → tu { D with nx := fun σ2 H2 => Pv σ2 H2 ∧ μ σ2 H2 < μ σ' H', ct := fun σ2 H2 => Pv σ2 H2 ∧ μ σ2 H2 < μ σ' H', bk := D.nx } σ' H1) ∧ (b = false → ∀ H1, Same H' H1 → D.nx σ' H1)) : tWhile tt tu D σ H := by
  refine ⟨fun m σ H => m = μ σ H ∧ Pv σ H, ⟨_, rfl, h0⟩, ?_⟩
  rintro m σ' H' ⟨rfl, p⟩
  obtain ⟨b, hb, h1, h2⟩ := hs σ' H' p
  refine hb H' (Same.refl _) _ fun H2 e => ?_
  cases b with
  | true => exact ⟨_, fun σ2 H2 ⟨p', l⟩ => ⟨_, l, rfl, p'⟩, h1 rfl H2 e⟩
  | false => exact h2 rfl H2 e
theorem q_while (Pv : L2.St → Hp → Prop) (μ : L2.St → Hp → Nat) (h0 : Pv σ H)
    (hs : ∀ σ' H', Pv σ' H' → ∃ b, Et K tt σ' H' b ∧ (b = true → ∀ H1, Same H' H1 → tu { D with nx := fun σ2 H2 => Pv σ2 H2 ∧ μ σ2 H2 < μ σ' H', ct := fun σ2 H2 => Pv σ2 H2 ∧ μ σ2 H2 < μ σ' H', bk := tz D } σ' H1) ∧ (b = false → ∀ H1, Same H' H1 → tz D σ' H1)) : tSeq (tWhile tt tu) tz D σ H :=
  s_while (D := { D with nx := tz D }) Pv μ h0 hs
/-! ### comprehensions -/
def mapIf (c : α → Bool) (f : α → β) (l : List α) : List β := (l.filter c).map f
theorem erl_lc {l : List α} {vs : List Nat} {c : α → Bool} {f : α → β} (hs : Src K wi σ H l) (hz : l.length ≤ 1000000)
    (turn : ∀ x, x ∈ l → ∀ v H1, Same H H1 → Rp.rep K H1 v x → ∃ σ2, (∀ Q : L2.St → Hp → Prop, Q σ2 H1 → g v (wipe σ vs) H1 Q) ∧ wipe σ2 vs = wipe σ vs ∧ Et K tt σ2 H1 (c x) ∧ (c x = true → Er K te σ2 H1 (f x))) :
    ErL K (tLc wi g tt te vs) σ H (mapIf c f l) := fun H1 e Q q => hs H1 e _ fun J H2 G Y e2 w hG hY D hD => by
  refine lc_it w (fun k H' => Same H2 H' ∧ ∃ us, H' D = some (.lst us) ∧ RL K H' us (mapIf c f (l.take k))) ⟨same_new hD, [], upd_same, .nil⟩ (fun k H' _ p => hG H' (SF.of p.1)) (fun k v H' H'' hk p y => ?_) fun H' p => ?_
  · obtain ⟨p1, us, p2, p3⟩ := p
    have hx : l[k]? = some l[k] := List.getElem?_eq_getElem hk
    obtain ⟨s, r⟩ := hY k _ hx H' (SF.of p1) v H'' y
    obtain ⟨σ2, hg, hw, ht, he⟩ := turn l[k] (List.mem_of_getElem? hx) v H'' ((e.trans e2).trans (p1.trans s)) r
    refine hg _ ⟨hw, ht H'' (Same.refl _) _ fun H3 e3 => ?_⟩
    have htake : l.take (k + 1) = l.take k ++ [l[k]] := by rw [List.take_add_one, hx]; rfl
    cases hc : c l[k] with
    | true =>
      refine iteT (he hc H3 e3 _ fun w' H4 e4 r4 => ?_)
      have hm : mapIf c f (l.take (k + 1)) = mapIf c f (l.take k) ++ [f l[k]] := by
        unfold mapIf
        rw [htake, List.filter_append, List.map_append]; simp [hc]
      refine ⟨us, (s.trans (e3.trans e4)) _ _ p2, ?_, same_mut (p1.trans (s.trans (e3.trans e4))) hD, us ++ [w'], upd_same, ?_⟩
      · rw [paired_len p3]
        have : (mapIf c f (l.take k)).length ≤ l.length := by
          unfold mapIf
          rw [List.length_map]
          exact Nat.le_trans (List.length_filter_le _ _) (by rw [List.length_take]; exact Nat.min_le_right _ _)
        exact Nat.lt_of_le_of_lt (Nat.le_trans this hz) (by decide)
      · rw [hm]
        exact RL.mono (SF.lst ((s.trans (e3.trans e4)) _ _ p2)) (paired_app (p3.mono (SF.of (s.trans (e3.trans e4)))) (.cons r4 .nil))
    | false =>
      refine iteF ?_
      have hm : mapIf c f (l.take (k + 1)) = mapIf c f (l.take k) := by
        unfold mapIf
        rw [htake, List.filter_append, List.map_append]; simp [hc]
      exact ⟨p1.trans (s.trans e3), us, (s.trans e3) _ _ p2, by rw [hm]; exact p3.mono (SF.of (s.trans e3))⟩
  · obtain ⟨p1, us, p2, p3⟩ := p
    rw [List.take_length] at p3
    exact q D us H' (e2.trans p1) (e2.free hD) p2 p3
/-- for x in ..: one name -/
theorem erl_lc1 {l : List α} {vs : List Nat} {k : Nat} {c : α → Bool} {f : α → β} (hs : Src K wi σ H l) (hz : l.length ≤ 1000000) (hw : ∀ v : V, wipe ((wipe σ vs).set k (some v)) vs = wipe σ vs)
    (turn : ∀ x, x ∈ l → ∀ v H1, Same H H1 → Rp.rep K H1 v x → Et K tt ((wipe σ vs).set k (some v)) H1 (c x) ∧ (c x = true → Er K te ((wipe σ vs).set k (some v)) H1 (f x))) :
    ErL K (tLc wi (gName k) tt te vs) σ H (mapIf c f l) := erl_lc hs hz fun x hx v H1 e r => ⟨_, fun Q q => q, hw v, turn x hx v H1 e r⟩
/-- for x, y in .. -/
theorem erl_lc2 {l : List (α × β)} {vs : List Nat} {k m : Nat} {c : α × β → Bool} {f : α × β → γ} (hs : Src K wi σ H l) (hz : l.length ≤ 1000000) (hw : ∀ v u : V, wipe (((wipe σ vs).set k (some v)).set m (some u)) vs = wipe σ vs)
    (turn : ∀ x, x ∈ l → ∀ v u H1, Same H H1 → Rp.rep K H1 v x.1 → Rp.rep K H1 u x.2 → Et K tt (((wipe σ vs).set k (some v)).set m (some u)) H1 (c x) ∧ (c x = true → Er K te (((wipe σ vs).set k (some v)).set m (some u)) H1 (f x))) :
    ErL K (tLc wi (gTup K 2 (gCons (gName k) (gCons (gName m) gNil))) tt te vs) σ H (mapIf c f l) := erl_lc hs hz fun x hx v H1 e r => by
  obtain ⟨v1, v2, r1, r2, f⟩ := tg_pair (σ := wipe σ vs) (k := k) (m := m) r
  exact ⟨_, f, hw v1 v2, turn x hx v1 v2 H1 e r1 r2⟩
theorem mapIf_all {f : α → β} {l : List α} : mapIf (fun _ => true) f l = l.map f := by unfold mapIf; rw [List.filter_eq_self.mpr fun _ _ => rfl]
/-- no test -/
theorem erl_lm1 {l : List α} {vs : List Nat} {k : Nat} {f : α → β} (hs : Src K wi σ H l) (hz : l.length ≤ 1000000) (hw : ∀ v : V, wipe ((wipe σ vs).set k (some v)) vs = wipe σ vs)
    (turn : ∀ x, x ∈ l → ∀ v H1, Same H H1 → Rp.rep K H1 v x → Er K te ((wipe σ vs).set k (some v)) H1 (f x)) :
    ErL K (tLc wi (gName k) tYes te vs) σ H (l.map f) := (erl_lc1 (c := fun _ => true) hs hz hw fun x hx v H1 e r => ⟨et_yes, fun _ => turn x hx v H1 e r⟩).to mapIf_all
theorem erl_lm2 {l : List (α × β)} {vs : List Nat} {k m : Nat} {f : α × β → γ} (hs : Src K wi σ H l) (hz : l.length ≤ 1000000) (hw : ∀ v u : V, wipe (((wipe σ vs).set k (some v)).set m (some u)) vs = wipe σ vs)
    (turn : ∀ x, x ∈ l → ∀ v u H1, Same H H1 → Rp.rep K H1 v x.1 → Rp.rep K H1 u x.2 → Er K te (((wipe σ vs).set k (some v)).set m (some u)) H1 (f x)) :
    ErL K (tLc wi (gTup K 2 (gCons (gName k) (gCons (gName m) gNil))) tYes te vs) σ H (l.map f) := (erl_lc2 (c := fun _ => true) hs hz hw fun x hx v u H1 e r r' => ⟨et_yes, fun _ => turn x hx v u H1 e r r'⟩).to mapIf_all
end
/-! ### the rules that name the written part, the part given by name (a comprehension's block has the same) -/
section
variable {X : Cx} (K : Fg) (h : X.K = K)
include h
theorem k_ixl : IxR X (rIxL K) := by subst h; exact ix_list
theorem k_ixt : IxR X (rIxT K) := by subst h; exact ix_tup
theorem k_sum (hc : X.calm = true) : CallR X (.builtin "sum") (rSum K) := by subst h; exact cr_sum hc
theorem k_max (hc : X.calm = true) : CallR X (.builtin "max") (rMax K) := by subst h; exact cr_max hc
theorem k_min (hc : X.calm = true) : CallR X (.builtin "min") (rMin K) := by subst h; exact cr_min hc
theorem k_all (hc : X.calm = true) : CallR X (.builtin "all") (rAll K) := by subst h; exact cr_all hc
theorem k_any (hc : X.calm = true) : CallR X (.builtin "any") (rAny K) := by subst h; exact cr_any hc
theorem k_sorted : CallR X (.builtin "sorted") (rSortedI K) := by subst h; exact cr_sortedI
theorem k_len : CallR X (.builtin "len") (rLenC K) := by subst h; exact call_len_seq
theorem k_list : CallR X (.type "list") (rListC K) := by subst h; exact call_list_of
theorem k_isi : CallR X (.builtin "isinstance") (rIsi K) := by subst h; exact call_isi
theorem k_eqD (hu : X.A.units + 64 < cLine) : OpR X (compareOp .Eq) (rEqD K) := by subst h; exact op_eqD hu
theorem k_neD (hu : X.A.units + 64 < cLine) : OpR X (compareOp .NotEq) (rNeD K) := by subst h; exact op_neD hu
theorem k_in : OpR X (compareOp .In) (rIn K false) := by subst h; exact op_in_seq
theorem k_notIn : OpR X (compareOp .NotIn) (rIn K true) := by subst h; exact op_notIn_seq
theorem k_sl : SlR X (rSlL K) := by subst h; exact sl_list
theorem k_pl {tg l : Expr} {tl : TE} (hl : PE X l tl) : PI X tg l (iList K tl) := by subst h; exact pi_list hl
theorem k_pt {tg l : Expr} {tl : TE} (hl : PE X l tl) : PI X tg l (iTup K tl) := by subst h; exact pi_tup hl
theorem k_pe {e : Expr} {ta : TA} {p pos tpos : Pos} {elts : List Expr} {kk : Nat} (hg : Gl X "enumerate") (hm : X.mg "enumerate" = none) (ha : PA X [e] ta) (hs : starEach [e] X.env = [(false, eval e X.env)] := by rfl) :
    PI X (.Tuple elts kk tpos) (.Call (.Name "enumerate" p) [e] [] pos) (iEnum K ta) := by subst h; exact pi_enum hg hm ha hs
theorem k_pz {e e2 : Expr} {ta : TA} {p pos tpos : Pos} {elts : List Expr} {kk : Nat} (hg : Gl X "zip") (hm : X.mg "zip" = none) (ha : PA X [e, e2] ta)
    (hs : starEach [e, e2] X.env = (false, eval e X.env) :: starEach [e2] X.env := by rfl) (hpl : (backTo pos (starEach [e2] X.env)).any (·.1) = false := by rfl) :
    PI X (.Tuple elts kk tpos) (.Call (.Name "zip" p) [e, e2] [] pos) (iZip K ta) := by subst h; exact pi_zip hg hm ha hs hpl
theorem k_gt (n : Nat) {es : List Expr} {k : Nat} {t : TGs} {pos : Pos} (hc : X.calm = true) (hp : PGs X es t)
    (hn : (assignEach es X.env).length = n := by rfl) (hst : (assignEach es X.env).findIdx? (·.1) = none := by rfl) : PG X (.Tuple es k pos) (gTup K n t) := by subst h; exact pg_tup hc hp hn hst
theorem k_app {o e : Expr} {to te : TE} {apos cpos : Pos} (ho : PE X o to) (he : PE X e te)
    (hbase : attributeBase o "append" X.env (eval o X.env) = eval o X.env := by rfl)
    (hfew : ((backTo cpos (starEach [e] X.env)).all (fun x => !x.1) && (backToKw cpos (keywordEach [] X.env)).all (fun x => x.1.isSome)
      && decide ([e].length + ([] : List Keyword).length + (if ([] : List Keyword).isEmpty then 0 else 1) < 30)) = true := by rfl)
    (hline : (apos.endLine == cpos.line) = true := by rfl) (hs : starEach [e] X.env = (false, eval e X.env) :: starEach [] X.env := by rfl) (hplain : (backTo cpos (starEach [] X.env)).any (·.1) = false := by rfl) :
    PE X (.Call (.Attribute o "append" apos) [e] [] cpos) (tBM K "list" rAppend to (tCons te tNil)) := by
  subst h; exact pe_bm PySem.F.plainAttrs_list PySem.F.slot_list_append PySem.F.type_list_append mt_append ho (pa_cons he pa_nil hs) hbase hfew hline hs hplain
end
/-! ### a def by its name -/
def Ok (P : Program) (w : World) (K : Fg) (mg : Str → Option Value) (base : Heap) (CX : CXT) (k : Nat) (x : Str) (ps : List Str) (sp : Sp) : Prop :=
  ∃ f fd, mg x = some (.ref f) ∧ PySem.W.keepIn K (.ref f) = true ∧ Binds K fd ps [] ∧ FnOk P w K mg base CX k f fd ps sp
section
variable {X : Cx} {CX : CXT} {k : Nat} {x : Str} {ps : List Str} {sp : Sp} {E : XK} {t : TA} {e : Expr} {es : List Expr} {p pos : Pos}
theorem pe_fn (G : Ok X.prog X.w X.K X.mg X.base CX k x ps sp) (hr : Room k X.A) (hx : Passes CX X E) (ha : PA X (e :: es) t) (hg : Gl X x := by rfl) (hdb : (x == ("__debug__" : Str)) = false := by decide)
    (he : starEach (e :: es) X.env = (false, eval e X.env) :: starEach es X.env := by rfl) (hpl : (backTo pos (starEach es X.env)).any (·.1) = false := by rfl) : PE X (.Call (.Name x p) (e :: es) [] pos) (tCall sp [] E t) := by
  obtain ⟨f, fd, h1, h2, h3, h4⟩ := G
  exact pe_call h4 hr hg h1 h2 h3 .nil hx ha hdb he hpl
theorem pe_fn0 (G : Ok X.prog X.w X.K X.mg X.base CX k x ps sp) (hr : Room k X.A) (hx : Passes CX X E) (hg : Gl X x := by rfl) (hdb : (x == ("__debug__" : Str)) = false := by decide) : PE X (.Call (.Name x p) [] [] pos) (tCall sp [] E tNil) := by
  obtain ⟨f, fd, h1, h2, h3, h4⟩ := G
  exact pe_call0 h4 hr hg h1 h2 h3 .nil hx hdb
end
theorem Ok.mono {P : Program} {w : World} {K : Fg} {mg : Str → Option Value} {base : Heap} {CX : CXT} {j k : Nat} {x : Str} {ps : List Str} {sp : Sp} (F : Ok P w K mg base CX j x ps sp) (h : j ≤ k) : Ok P w K mg base CX k x ps sp := by
  obtain ⟨f, fd, h1, h2, h3, h4⟩ := F
  exact ⟨f, fd, h1, h2, h3, h4.mono h⟩
/-- a module's number -/
theorem pe_gint {X : Cx} {x : Str} {i : Int} {pos : Pos} (h : ∃ t, X.mg x = some (.int i t)) (hg : Gl X x := by rfl) (hd : (x == ("__debug__" : Str)) = false := by decide) : PE X (.Name x pos) (tC (.int i)) := by
  obtain ⟨t, h⟩ := h
  exact pe_glob hg h ⟨t, rfl⟩ hd
/-- a def of the text: what the head tells -/
def Fd (K : Fg) (mg : Str → Option Value) (x : Str) (st : Stmt) : Prop := ∃ f fd, FunD K x x (defArgs st) (defBody st) (defScope st) [] [] f fd ∧ mg x = some (.ref f)
section
variable {P : Program} {w : World} {K : Fg} {mg : Str → Option Value} {base : Heap}
theorem fnok_of {x : Str} {st : Stmt} {N ps : List Str} {k : Nat} {sp : Sp} {f : Addr} {fd : FuncData} (F : FunD K x x (defArgs st) (defBody st) (defScope st) [] [] f fd) (S : FnScope N ps (defScope st))
    (len : ∀ vs H Q E, sp vs H Q E → vs.length = ps.length)
    (hbody : ∀ (cdv : Value) (A : Around) (outer : List Env) (s : Shared) (H : Hp) (vs : List V) (Q : VK) (E : XK), Room k (A.deeper (envOfC x (defScope st) s.heap.objs.size f cdv)) → sp vs H Q E →
      ∃ t, PSs (cxOf CX0 P w K mg base N x (defScope st) f cdv A outer s H E).nox (defBody st) t ∧ t { nx := fun _ H' => Q .non H', rt := Q } (start N vs) H) : FnOk P w K mg base CX0 (k + 1) f fd ps sp :=
  F.ok S len fun cdv A outer s H vs Q E hr h => by
    obtain ⟨t, h1, h2⟩ := hbody cdv A outer s H vs Q E hr h
    exact ⟨t, PSs.nox h1, h2⟩
/-- a def keeps its promise: its body as a term of rules, and the reading of that term; nothing it raises leaves it -/
theorem ok_of {x : Str} {st : Stmt} {N ps : List Str} {k : Nat} {sp : Sp} (F : Fd K mg x st) (S : FnScope N ps (defScope st))
    (hb : ∀ (kV doc pm : Value) (an : Option Addr) (cdv ct : Value) (us : List Value), us.length = ps.length → bindArgs (PySem.W.fnOf x x (defArgs st) (defBody st) (defScope st) .none kV doc pm an cdv ct) ⟨us, []⟩ = pure (ps.zip us))
    (len : ∀ vs H Q E, sp vs H Q E → vs.length = ps.length)
    (hbody : ∀ (f : Addr) (cdv : Value) (A : Around) (outer : List Env) (s : Shared) (H : Hp) (vs : List V) (Q : VK) (E : XK), Room k (A.deeper (envOfC x (defScope st) s.heap.objs.size f cdv)) → sp vs H Q E →
      ∃ t, PSs (cxOf CX0 P w K mg base N x (defScope st) f cdv A outer s H E).nox (defBody st) t ∧ t { nx := fun _ H' => Q .non H', rt := Q } (start N vs) H) : Ok P w K mg base CX0 (k + 1) x ps sp := by
  obtain ⟨f, fd, F, g⟩ := F
  refine ⟨f, fd, g, F.kp, ?_, F.ok S len fun cdv A outer s H vs Q E hr h => ?_⟩
  · exact F.bindsN hb
  · obtain ⟨t, h1, h2⟩ := hbody f cdv A outer s H vs Q E hr h
    exact ⟨t, PSs.nox h1, h2⟩
end
section
variable {K : Fg} {α β γ δ : Type} [Rp α] [Rp β] [Rp γ] [Rp δ]
theorem len_sp1 {pre : α → Prop} {f : α → β} : ∀ vs H Q E, sp1 K pre f vs H Q E → vs.length = 1 := fun vs H Q E h => by obtain ⟨_, _, rfl, _⟩ := h; rfl
theorem len_sp2 {pre : α → β → Prop} {f : α → β → γ} : ∀ vs H Q E, sp2 K pre f vs H Q E → vs.length = 2 := fun vs H Q E h => by obtain ⟨_, _, _, _, rfl, _⟩ := h; rfl
theorem len_sp3 {pre : α → β → γ → Prop} {f : α → β → γ → δ} : ∀ vs H Q E, sp3 K pre f vs H Q E → vs.length = 3 := fun vs H Q E h => by obtain ⟨_, _, _, _, _, _, rfl, _⟩ := h; rfl
theorem len_sl1 {pre : α → Prop} {f : α → List β} : ∀ vs H Q E, sl1 K pre f vs H Q E → vs.length = 1 := fun vs H Q E h => by obtain ⟨_, _, rfl, _⟩ := h; rfl
theorem len_sl2 {pre : α → β → Prop} {f : α → β → List γ} : ∀ vs H Q E, sl2 K pre f vs H Q E → vs.length = 2 := fun vs H Q E h => by obtain ⟨_, _, _, _, rfl, _⟩ := h; rfl
theorem len_sl3 {pre : α → β → γ → Prop} {f : α → β → γ → List δ} : ∀ vs H Q E, sl3 K pre f vs H Q E → vs.length = 3 := fun vs H Q E h => by obtain ⟨_, _, _, _, _, _, rfl, _⟩ := h; rfl
end
theorem bi1 {x : Str} {a : Arguments} {b : List Stmt} {sc : Scope} {p : Str} (h : ∀ (kV doc pm : Value) (an : Option Addr) (cdv ct u : Value), bindArgs (PySem.W.fnOf x x a b sc .none kV doc pm an cdv ct) ⟨[u], []⟩ = pure [(p, u)]) :
    ∀ (kV doc pm : Value) (an : Option Addr) (cdv ct : Value) (us : List Value), us.length = [p].length → bindArgs (PySem.W.fnOf x x a b sc .none kV doc pm an cdv ct) ⟨us, []⟩ = pure ([p].zip us)
  | kV, doc, pm, an, cdv, ct, [u], _ => h kV doc pm an cdv ct u
theorem bi2 {x : Str} {a : Arguments} {b : List Stmt} {sc : Scope} {p q : Str} (h : ∀ (kV doc pm : Value) (an : Option Addr) (cdv ct u v : Value), bindArgs (PySem.W.fnOf x x a b sc .none kV doc pm an cdv ct) ⟨[u, v], []⟩ = pure [(p, u), (q, v)]) :
    ∀ (kV doc pm : Value) (an : Option Addr) (cdv ct : Value) (us : List Value), us.length = [p, q].length → bindArgs (PySem.W.fnOf x x a b sc .none kV doc pm an cdv ct) ⟨us, []⟩ = pure ([p, q].zip us)
  | kV, doc, pm, an, cdv, ct, [u, v], _ => h kV doc pm an cdv ct u v
theorem bi3 {x : Str} {a : Arguments} {b : List Stmt} {sc : Scope} {p q r : Str} (h : ∀ (kV doc pm : Value) (an : Option Addr) (cdv ct u v w : Value), bindArgs (PySem.W.fnOf x x a b sc .none kV doc pm an cdv ct) ⟨[u, v, w], []⟩ = pure [(p, u), (q, v), (r, w)]) :
    ∀ (kV doc pm : Value) (an : Option Addr) (cdv ct : Value) (us : List Value), us.length = [p, q, r].length → bindArgs (PySem.W.fnOf x x a b sc .none kV doc pm an cdv ct) ⟨us, []⟩ = pure ([p, q, r].zip us)
  | kV, doc, pm, an, cdv, ct, [u, v, w], _ => h kV doc pm an cdv ct u v w
end BL

set_option Elab.async false
set_option linter.all false
set_option maxRecDepth 100000
set_option maxHeartbeats 2000000
namespace BL
open PySem PySem.Spec PyProof.Rows L2
/-! ### draws: the list of numbers at pn and the count, in the list at pd; nothing else changes -/
def Dr (H : Hp) (pd pn : Addr) : Prop := ∃ (ns : List Int) (k : Int), H pd = some (.lst [.ref pn, .int k]) ∧ H pn = some (.lst (ns.map V.int)) ∧ 0 < ns.length ∧ ns.length ≤ 1000 ∧ 0 ≤ k ∧ pd ≠ pn
structure DM (pd pn : Addr) (H H' : Hp) : Prop where
  sf : SF H H'
  ne : ∀ q o, q ≠ pd → q ≠ pn → H q = some o → H' q = some o
section
variable {K : Fg} {σ : L2.St} {H H' H1 : Hp} {pd pn : Addr} {ta tb tc td te : TE} {tt uu : TT} {α β γ δ : Type} [Rp α] [Rp β] [Rp γ] [Rp δ] {x : α} {y : β} {z : γ} {v u : V} {i j : Int} {b c : Bool}
theorem Dr.mono (e : Same H H') (h : Dr H pd pn) : Dr H' pd pn := by
  obtain ⟨ns, k, h1, h2, h3⟩ := h; exact ⟨ns, k, e _ _ h1, e _ _ h2, h3⟩
theorem DM.of (e : Same H H') : DM pd pn H H' := ⟨SF.of e, fun q o _ _ h => e q o h⟩
theorem DM.refl (H : Hp) : DM pd pn H H := DM.of (Same.refl H)
theorem DM.trans {H2 : Hp} (a : DM pd pn H H1) (b : DM pd pn H1 H2) : DM pd pn H H2 := ⟨a.sf.trans b.sf, fun q o n m h => b.ne q o n m (a.ne q o n m h)⟩
theorem Dr.of_mu {p : Addr} (m : Mu p H H') (h1 : pd ≠ p) (h2 : pn ≠ p) (h : Dr H pd pn) : Dr H' pd pn := by
  obtain ⟨ns, k, g1, g2, g3⟩ := h; exact ⟨ns, k, m.ne _ _ h1 g1, m.ne _ _ h2 g2, g3⟩
theorem Dr.pd_ne {p : Addr} (h : Dr H pd pn) (n : H p = none) : pd ≠ p := by obtain ⟨_, _, g1, _⟩ := h; exact ne_of_none g1 n
theorem Dr.pn_ne {p : Addr} (h : Dr H pd pn) (n : H p = none) : pn ≠ p := by obtain ⟨_, _, _, g1, _⟩ := h; exact ne_of_none g1 n
theorem Un.dm {p : Addr} {l : List α} (m : DM pd pn H H') (h1 : p ≠ pd) (h2 : p ≠ pn) (h : Un K H p l) : Un K H' p l := by
  obtain ⟨vs, g, r⟩ := h; exact ⟨vs, m.ne _ _ h1 h2 g, r.mono m.sf⟩
theorem DM.free (m : DM pd pn H H') (dr : Dr H pd pn) {p : Addr} (h : H' p = none) (dr' : Dr H' pd pn) : H p = none := by
  have h1 : p ≠ pd := (dr'.pd_ne h).symm
  have h2 : p ≠ pn := (dr'.pn_ne h).symm
  cases e : H p with
  | none => rfl
  | some o => rw [m.ne p o h1 h2 e] at h; cases h
/-! an expression that may draw: P tells what it can be -/
def Ep (K : Fg) (pd pn : Addr) (te : TE) (σ : L2.St) (H : Hp) {α : Type} [Rp α] (P : α → Prop) : Prop := ∀ H1, DM pd pn H H1 → Dr H1 pd pn → ∀ Q : VK, (∀ v H2 x, DM pd pn H1 H2 → Dr H2 pd pn → P x → Rp.rep K H2 v x → Q v H2) → te σ H1 Q
def EpL (K : Fg) (pd pn : Addr) (te : TE) (σ : L2.St) (H : Hp) {α : Type} [Rp α] (P : List α → Prop) : Prop := ∀ H1, DM pd pn H H1 → Dr H1 pd pn → ∀ Q : VK, (∀ p vs H2 l, DM pd pn H1 H2 → Dr H2 pd pn → P l → H1 p = none → H2 p = some (.lst vs) → RL K H2 vs l → Q (.ref p) H2) → te σ H1 Q
theorem ep_of (h : ∀ H1, DM pd pn H H1 → Er K te σ H1 x) : Ep K pd pn te σ H (fun y => y = x) := fun H1 m dr Q q => h H1 m H1 (Same.refl _) Q fun v H2 e r => q v H2 x (DM.of e) (dr.mono e) rfl r
theorem epl_of {l : List α} (h : ∀ H1, DM pd pn H H1 → ErL K te σ H1 l) : EpL K pd pn te σ H (fun y => y = l) := fun H1 m dr Q q => h H1 m H1 (Same.refl _) Q fun p vs H2 e hp h2 r => q p vs H2 l (DM.of e) (dr.mono e) rfl hp h2 r
theorem dm_frz {p : Addr} {vs : List V} {od : Obj} (m : DM pd pn H H') (dr : Dr H pd pn) (h : H p = none) : DM pd pn H (upd H' p (.frz od (.lst vs))) := ⟨sf_mut m.sf h, fun q o n1 n2 e => by rw [upd_ne (ne_of_none e h)]; exact m.ne q o n1 n2 e⟩
theorem ep_frz {P : List α → Prop} (h : EpL K pd pn te σ H P) : Ep K pd pn (tFrz te) σ H P := fun H1 m dr Q q => h H1 m dr _ fun p vs H2 l m2 dr2 hP hp h2 r => ⟨p, vs, rfl, h2, fun od => by
  have n1 := dr.pd_ne hp
  have n2 := dr.pn_ne hp
  refine q (.ref p) _ l (dm_frz m2 dr hp) ?_ hP ⟨p, vs, rfl, ⟨od, upd_same⟩, RL.mono (SF.lst h2) r⟩
  obtain ⟨ns, k, g1, g2, g3⟩ := dr2
  exact ⟨ns, k, upd_get g1 n1, upd_get g2 n2, g3⟩⟩
theorem ep_op {r : R2} {P : α → Prop} {P2 : α → β → Prop} {f : α → β → γ} (ha : Ep K pd pn ta σ H P) (hb : ∀ x, P x → Ep K pd pn tb σ H (P2 x)) (hr : ∀ x y, P x → P2 x y → R2r K r x y (f x y)) : Ep K pd pn (tOp r ta tb) σ H (fun z => ∃ x y, P x ∧ P2 x y ∧ z = f x y) := fun H1 m dr Q q =>
  ha H1 m dr _ fun v H2 x m2 dr2 hx r2 => hb x hx H2 (m.trans m2) dr2 _ fun u H3 y m3 dr3 hy r3 => hr x y hx hy H3 v u (Rp.mono m3.sf r2) r3 Q fun w H4 e4 r4 => q w H4 _ ((m2.trans m3).trans (DM.of e4)) (dr3.mono e4) ⟨x, y, hx, hy, rfl⟩ r4
theorem ep_pair {P : α → Prop} {P2 : α → β → Prop} (ha : Ep K pd pn ta σ H P) (hb : ∀ x, P x → Ep K pd pn tb σ H (P2 x)) : Ep K pd pn (tTup (tCons ta (tCons tb tNil))) σ H (fun z : α × β => P z.1 ∧ P2 z.1 z.2) := fun H1 m dr Q q =>
  ha H1 m dr _ fun v H2 x m2 dr2 hx r2 => hb x hx H2 (m.trans m2) dr2 _ fun u H3 y m3 dr3 hy r3 => ⟨by show 2 ≤ sizeLine; decide, fun p hp =>
    q (.ref p) _ (x, y) ((m2.trans m3).trans (DM.of (same_new hp))) (dr3.mono (same_new hp)) ⟨hx, hy⟩ ⟨p, v, u, rfl, sq_tup upd_same, Rp.mono (m3.sf.trans (SF.new hp)) r2, Rp.mono (SF.new hp) r3⟩⟩
theorem Ep.imp {P P' : α → Prop} (h : Ep K pd pn te σ H P) (hi : ∀ x, P x → P' x) : Ep K pd pn te σ H P' := fun H1 m dr Q q => h H1 m dr Q fun v H2 x m2 dr2 hx r => q v H2 x m2 dr2 (hi x hx) r
variable {D : Ends} {tu tw tz : TS} {g : TG}
theorem q_setP {k : Nat} {P : α → Prop} (dr : Dr H pd pn) (h : Ep K pd pn te σ H P) (q : ∀ v H1 x, DM pd pn H H1 → Dr H1 pd pn → P x → Rp.rep K H1 v x → tz D (σ.set k (some v)) H1) : tSeq (tAsg te (gName k)) tz D σ H := h H (DM.refl _) dr _ fun v H1 x m d p r => q v H1 x m d p r
theorem q_parP {k n : Nat} {P : α → Prop} {P2 : α → β → Prop} (dr : Dr H pd pn) (h : Ep K pd pn ta σ H P) (h' : ∀ x, P x → Ep K pd pn tb σ H (P2 x)) (q : ∀ v u H1 x y, DM pd pn H H1 → Dr H1 pd pn → P x → P2 x y → Rp.rep K H1 v x → Rp.rep K H1 u y → tz D ((σ.set k (some v)).set n (some u)) H1) :
    tSeq (tPar k n (tCons ta (tCons tb tNil))) tz D σ H := h H (DM.refl _) dr _ fun v H1 x m d p r => h' x p H1 m d _ fun u H2 y m2 d2 p2 r2 => ⟨v, u, rfl, q v u H2 x y (m.trans m2) d2 p p2 (Rp.mono m2.sf r) r2⟩
theorem s_retP {P : α → Prop} (dr : Dr H pd pn) (h : Ep K pd pn te σ H P) (q : ∀ v H1 x, DM pd pn H H1 → Dr H1 pd pn → P x → Rp.rep K H1 v x → D.rt v H1) : tRet te D σ H := h H (DM.refl _) dr _ fun v H1 x m d p r => q v H1 x m d p r
/-! the promises of the draws' defs -/
def spDraw : Sp := fun vs H Q _ => ∃ (pd pn : Addr) (lim : Int), vs = [.ref pd, .int lim] ∧ Dr H pd pn ∧ 0 < lim ∧ lim < 1000000 ∧ ∀ (d : Int) H', 0 ≤ d → d < lim → DM pd pn H H' → Dr H' pd pn → Q (.int d) H'
def spStart (K : Fg) : Sp := fun vs H Q _ => ∃ (a : Addr) (ns : List Int), vs = [.ref a] ∧ SqL K H a (ns.map V.int) ∧ ns.length ≤ 63 ∧ ∀ (pd pn : Addr) H', Same H H' → H pd = none → H pn = none → Dr H' pd pn → Q (.ref pd) H'
def spPick (K : Fg) {α : Type} [Rp α] : Sp := fun vs H Q _ => ∃ (pd pn : Addr) (v : V) (l : List α), vs = [.ref pd, v] ∧ Dr H pd pn ∧ Rp.rep K H v l ∧ 0 < l.length ∧ l.length < 1000000 ∧ ∀ (x : α) u H', x ∈ l → DM pd pn H H' → Dr H' pd pn → Rp.rep K H' u x → Q u H'
/-- a def that draws a list: P of its number tells what comes -/
def spDraws (K : Fg) {α : Type} [Rp α] (pre : Int → Prop) (P : Int → List α → Prop) : Sp := fun vs H Q _ => ∃ (pd pn : Addr) (n : Int), vs = [.ref pd, .int n] ∧ Dr H pd pn ∧ pre n ∧ ∀ p us l H', P n l → DM pd pn H H' → Dr H' pd pn → H p = none → H' p = some (.lst us) → RL K H' us l → Q (.ref p) H'
theorem ep_draw {E : XK} (h : ∀ H1, DM pd pn H H1 → Er K tb σ H1 i) (hσ : ∃ k : Nat, ta = tVar k ∧ σ[k]? = some (some (.ref pd))) (h0 : 0 < i) (h1 : i < 1000000) : Ep K pd pn (tCall spDraw [] E (tCons ta (tCons tb tNil))) σ H (fun d : Int => 0 ≤ d ∧ d < i) := fun H1 m dr Q q => by
  obtain ⟨k, rfl, hk⟩ := hσ
  refine ⟨.ref pd, hk, h H1 m H1 (Same.refl _) _ fun u H2 e r => ?_⟩
  cases (show u = .int i from r)
  exact ⟨pd, pn, i, rfl, dr.mono e, h0, h1, fun d H3 a b m3 d3 => q (.int d) H3 d ((DM.of e).trans m3) d3 ⟨a, b⟩ rfl⟩
theorem ep_pick {E : XK} {l : List α} (h : ∀ H1, DM pd pn H H1 → Er K tb σ H1 l) (hσ : ∃ k : Nat, ta = tVar k ∧ σ[k]? = some (some (.ref pd))) (h0 : 0 < l.length) (h1 : l.length < 1000000) : Ep K pd pn (tCall (spPick K (α := α)) [] E (tCons ta (tCons tb tNil))) σ H (fun x => x ∈ l) := fun H1 m dr Q q => by
  obtain ⟨k, rfl, hk⟩ := hσ
  refine ⟨.ref pd, hk, h H1 m H1 (Same.refl _) _ fun u H2 e r => ?_⟩
  exact ⟨pd, pn, u, l, rfl, dr.mono e, r, h0, h1, fun x w H3 a m3 d3 r3 => q w H3 x ((DM.of e).trans m3) d3 a r3⟩
/-- .. the list's items drawn too -/
theorem ep_pickP {E : XK} {P : List α → Prop} (h : Ep K pd pn tb σ H P) (hσ : ∃ k : Nat, ta = tVar k ∧ σ[k]? = some (some (.ref pd))) (h0 : ∀ l, P l → 0 < l.length ∧ l.length < 1000000) : Ep K pd pn (tCall (spPick K (α := α)) [] E (tCons ta (tCons tb tNil))) σ H (fun x => ∃ l, P l ∧ x ∈ l) := fun H1 m dr Q q => by
  obtain ⟨k, rfl, hk⟩ := hσ
  refine ⟨.ref pd, hk, h H1 m dr _ fun u H2 l m2 d2 hl r => ?_⟩
  exact ⟨pd, pn, u, l, rfl, d2, r, (h0 l hl).1, (h0 l hl).2, fun x w H3 a m3 d3 r3 => q w H3 x (m2.trans m3) d3 ⟨l, hl, a⟩ r3⟩
theorem epl_draws {E : XK} {pre : Int → Prop} {P : Int → List α → Prop} (h : ∀ H1, DM pd pn H H1 → Er K tb σ H1 i) (hσ : ∃ k : Nat, ta = tVar k ∧ σ[k]? = some (some (.ref pd))) (hp : pre i) : EpL K pd pn (tCall (spDraws K pre P) [] E (tCons ta (tCons tb tNil))) σ H (P i) := fun H1 m dr Q q => by
  obtain ⟨k, rfl, hk⟩ := hσ
  refine ⟨.ref pd, hk, h H1 m H1 (Same.refl _) _ fun u H2 e r => ?_⟩
  cases (show u = .int i from r)
  exact ⟨pd, pn, i, rfl, dr.mono e, hp, fun p us l H3 hl m3 d3 hn h3 r3 => q p us H3 l ((DM.of e).trans m3) d3 hl (e.free hn) h3 r3⟩
theorem s_appP {k : Nat} {p : Addr} {l : List α} {P : α → Prop} (dr : Dr H pd pn) (hσ : σ[k]? = some (some (.ref p))) (hu : Un K H p l) (n1 : p ≠ pd) (n2 : p ≠ pn) (h : Ep K pd pn te σ H P) (hz : l.length < 1000000)
    (q : ∀ H2 x, (∀ H0, DM pd pn H0 H → H0 p = none → DM pd pn H0 H2) → Dr H2 pd pn → P x → Un K H2 p (l ++ [x]) → D.nx σ H2) : tDrop (tBM K "list" rAppend (tVar k) (tCons te tNil)) D σ H := by
  obtain ⟨vs, hp, r⟩ := hu
  refine ⟨.ref p, hσ, Or.inl ⟨rfl, vs, sq_lst hp⟩, ?_⟩
  refine h H (DM.refl _) dr _ fun v H2 x m2 d2 hx r2 => ⟨p, vs, v, rfl, rfl, m2.ne _ _ n1 n2 hp, ?_, q _ x (fun H0 m0 h0 => ?_) ?_ hx ⟨_, upd_same, RL.mono (SF.lst (m2.ne _ _ n1 n2 hp)) (paired_app (r.mono m2.sf) (.cons r2 .nil))⟩⟩
  · rw [paired_len r]; exact Nat.lt_of_lt_of_le hz (by decide)
  · exact ⟨sf_mut (m0.sf.trans m2.sf) h0, fun q o a b e => by rw [upd_ne (ne_of_none e h0)]; exact (m0.trans m2).ne q o a b e⟩
  · obtain ⟨ns, k, g1, g2, g3⟩ := d2
    exact ⟨ns, k, upd_get g1 n1.symm, upd_get g2 n2.symm, g3⟩
theorem q_appP {k : Nat} {p : Addr} {l : List α} {P : α → Prop} (dr : Dr H pd pn) (hσ : σ[k]? = some (some (.ref p))) (hu : Un K H p l) (n1 : p ≠ pd) (n2 : p ≠ pn) (h : Ep K pd pn te σ H P) (hz : l.length < 1000000)
    (q : ∀ H2 x, (∀ H0, DM pd pn H0 H → H0 p = none → DM pd pn H0 H2) → Dr H2 pd pn → P x → Un K H2 p (l ++ [x]) → tz D σ H2) : tSeq (tDrop (tBM K "list" rAppend (tVar k) (tCons te tNil))) tz D σ H := s_appP (D := { D with nx := tz D }) dr hσ hu n1 n2 h hz q
/-- for k in range(e), e drawn -/
theorem s_forR {k : Nat} {P : Int → Prop} (dr : Dr H pd pn) (h : Ep K pd pn te σ H P) (hz : ∀ x, P x → -1000000 ≤ x ∧ x ≤ 1000000) (Pv : Int → Nat → L2.St → Hp → Prop) (h0 : ∀ x H1, DM pd pn H H1 → Dr H1 pd pn → P x → Pv x 0 σ H1)
    (turn : ∀ (x : Int) (i : Nat) σ' H', P x → (i : Int) < x → Pv x i σ' H' → tu { D with nx := Pv x (i + 1), ct := Pv x (i + 1), bk := D.nx } (σ'.set k (some (.int (i : Int)))) H') (hd : ∀ x σ' H', P x → Pv x x.toNat σ' H' → D.nx σ' H') : tFor (iRng1 (tCons te tNil)) (gName k) tu D σ H :=
  h H (DM.refl _) dr _ fun v H1 x m d hx r => by
    cases (show v = .int x from r)
    refine ⟨x, rfl, by have := hz x hx; omega, by have := hz x hx; omega, for_range (lo := 0) (n := x.toNat) (Pv x) (h0 x H1 m d hx) (fun i σ' H' hi p => ?_) fun σ' H' p => hd x σ' H' hx p⟩
    have e : (0 : Int) + (i : Int) = (i : Int) := Int.zero_add _
    show tu { D with nx := Pv x (i + 1), ct := Pv x (i + 1), bk := D.nx } (σ'.set k (some (.int ((0 : Int) + (i : Int))))) H'
    rw [e]
    exact turn x i σ' H' hx (by omega) p
theorem q_forR {k : Nat} {P : Int → Prop} (dr : Dr H pd pn) (h : Ep K pd pn te σ H P) (hz : ∀ x, P x → -1000000 ≤ x ∧ x ≤ 1000000) (Pv : Int → Nat → L2.St → Hp → Prop) (h0 : ∀ x H1, DM pd pn H H1 → Dr H1 pd pn → P x → Pv x 0 σ H1)
    (turn : ∀ (x : Int) (i : Nat) σ' H', P x → (i : Int) < x → Pv x i σ' H' → tu { D with nx := Pv x (i + 1), ct := Pv x (i + 1), bk := tz D } (σ'.set k (some (.int (i : Int)))) H') (hd : ∀ x σ' H', P x → Pv x x.toNat σ' H' → tz D σ' H') : tSeq (tFor (iRng1 (tCons te tNil)) (gName k) tu) tz D σ H :=
  s_forR (D := { D with nx := tz D }) dr h hz Pv h0 turn hd
theorem epl_lst2 {P : α → Prop} {P2 : α → α → Prop} (ha : Ep K pd pn ta σ H P) (hb : ∀ x, P x → Ep K pd pn tb σ H (P2 x)) : EpL K pd pn (tLst (tCons ta (tCons tb tNil))) σ H (fun l => ∃ x y, P x ∧ P2 x y ∧ l = [x, y]) := fun H1 m dr Q q =>
  ha H1 m dr _ fun v H2 x m2 dr2 hx r2 => hb x hx H2 (m.trans m2) dr2 _ fun u H3 y m3 dr3 hy r3 => ⟨by show 2 ≤ sizeLine; decide, fun p hp =>
    q p _ _ [x, y] ((m2.trans m3).trans (DM.of (same_new hp))) (dr3.mono (same_new hp)) ⟨x, y, hx, hy, rfl⟩ ((m2.trans m3).free dr hp dr3) upd_same (.cons (Rp.mono (m3.sf.trans (SF.new hp)) r2) (.cons (Rp.mono (SF.new hp) r3) .nil))⟩
/-- the law's own promise -/
def spLaw (K : Fg) : Sp := fun vs H Q _ => ∃ (a : Addr) (ns : List Int), vs = [.ref a] ∧ SqL K H a (ns.map V.int) ∧ ns.length ≤ 63 ∧ ∀ H', Q (.bl true) H'
theorem len_law : ∀ vs H Q E, spLaw K vs H Q E → vs.length = 1 := fun vs H Q E h => by obtain ⟨_, _, rfl, _⟩ := h; rfl
/-- _law_draws = _law_start(_law_script) -/
theorem q_start {k m : Nat} {E : XK} {a : Addr} {ns : List Int} (hσ : σ[m]? = some (some (.ref a))) (hs : SqL K H a (ns.map V.int)) (hz : ns.length ≤ 63) (q : ∀ pd pn H1, Same H H1 → Dr H1 pd pn → tz D (σ.set k (some (.ref pd))) H1) :
    tSeq (tAsg (tCall (spStart K) [] E (tCons (tVar m) tNil)) (gName k)) tz D σ H := ⟨.ref a, hσ, a, ns, rfl, hs, hz, fun pd pn H1 e _ _ d => q pd pn H1 e d⟩
theorem s_true {D : Ends} (h : Er K te σ H b) (hb : b = true) (hQ : ∀ H', D.rt (.bl true) H') : tRet te D σ H := h H (Same.refl _) _ fun v H1 e r => by
  cases (show v = .bl b from r); rw [hb]; exact hQ H1
theorem sub_dr {k : Nat} (h : σ[k]? = some (some (.ref pd))) : ∃ m : Nat, tVar k = tVar m ∧ σ[m]? = some (some (.ref pd)) := ⟨k, rfl, h⟩
end
end BL

set_option Elab.async false
set_option linter.all false
set_option maxRecDepth 100000
set_option maxHeartbeats 2000000
namespace BL
open PySem PySem.Spec PyProof.Rows L2
/-! ### a <= b <= c <= d -/
def tTest3 (r r' r'' : R2) (ta tb tc td : TE) : TT := fun σ H Q => ta σ H fun x H1 => tb σ H1 fun y H2 => r x y H2 fun z H3 => ∃ k, z = .bl k ∧
  (if k = true then tc σ H3 fun x' H4 => r' y x' H4 fun z' H5 => ∃ k', z' = .bl k' ∧ (if k' = true then td σ H5 fun w' H6 => r'' x' w' H6 fun z2 H7 => ∃ k2, z2 = .bl k2 ∧ Q k2 H7 else Q false H5) else Q false H3)
theorem pt_chain3 {X : Cx} {a b c d : Expr} {ta tb tc td : TE} {pos : Pos} {op op' op'' : CmpOp} {r r' r'' : R2} (ho : OpR X (compareOp op) r) (ho' : OpR X (compareOp op') r') (ho'' : OpR X (compareOp op'') r'') (ha : PE X a ta) (hb : PE X b tb) (hc : PE X c tc) (hd : PE X d td)
    (hm : lastMarks [op, op', op''] [b, c, d] = false := by with_unfolding_all rfl) : PT X (.Compare a [op, op', op''] [b, c, d] pos) (tTest3 r r' r'' ta tb tc td) := by
  refine ⟨fun pins s σ H Q I h => ?_⟩
  refine isTrue_chain (thn (ha.run pins s σ H _ I h) fun v s1 ⟨x, H1, I1, r1, q1⟩ => test_link (thn (hb.run pins s1 σ H1 _ I1 q1) fun u s2 ⟨y, H2, I2, r2, q2⟩ =>
    thn (ho pins s2 σ H2 x y v u _ I2 r1 r2 q2) fun d s3 ⟨z, H3, I3, r3, k, e, q3⟩ => ?_)) hm
  subst e
  cases r3
  refine wpAny_truthy_bool ?_
  cases k with
  | false => exact ite_ff ⟨H3, I3, q3⟩
  | true =>
    refine ite_tt (test_link (thn (hc.run pins s3 σ H3 _ I3 q3) fun w' s4 ⟨z', H4, I4, r4, q4⟩ => thn (ho' pins s4 σ H4 y z' u w' _ I4 r2 r4 q4) fun d' s5 ⟨z2, H5, I5, r5, k2, e2, q5⟩ => ?_))
    subst e2
    cases r5
    refine wpAny_truthy_bool ?_
    cases k2 with
    | false => exact ite_ff ⟨H5, I5, q5⟩
    | true =>
      refine ite_tt (test_last (thn (hd.run pins s5 σ H5 _ I5 q5) fun w2 s6 ⟨z3, H6, I6, r6, q6⟩ => thn (ho'' pins s6 σ H6 z' z3 w' w2 _ I6 r4 r6 q6) fun d2 s7 ⟨z4, H7, I7, r7, k3, e3, q7⟩ => ?_))
      subst e3
      cases r7
      exact wpAny_truthy_bool ⟨H7, I7, q7⟩
section
variable {K : Fg} {σ : L2.St} {H H' H1 : Hp} {ta tb tc td te : TE} {tt uu : TT} {α β γ δ : Type} [Rp α] [Rp β] [Rp γ] [Rp δ] {x : α} {y : β} {z : γ} {z2 : δ} {v u : V} {i j : Int} {b c : Bool} {r r' r'' : R2}
theorem et_chain3 {b b' b'' : Bool} (ha : Er K ta σ H x) (hb : Er K tb σ H y) (hc : Er K tc σ H z) (hd : Er K td σ H z2) (h1 : R2r K r x y b) (h2 : R2r K r' y z b') (h3 : R2r K r'' z z2 b'') : Et K (tTest3 r r' r'' ta tb tc td) σ H (b && (b' && b'')) := fun H1 e Q q =>
  ha H1 e _ fun v H2 e2 r2 => hb H2 (e.trans e2) _ fun u H3 e3 r3 => h1 H3 v u (Rp.mono (SF.of e3) r2) r3 _ fun w H4 e4 r4 => ⟨b, r4, by
    have c4 := ((e.trans e2).trans e3).trans e4
    cases b with
    | false => exact iteF (q H4 ((e2.trans e3).trans e4))
    | true =>
      refine iteT (hc H4 c4 _ fun w' H5 e5 r5 => h2 H5 u w' (Rp.mono (SF.of (e4.trans e5)) r3) r5 _ fun w2 H6 e6 r6 => ⟨b', r6, ?_⟩)
      cases b' with
      | false => exact iteF (q H6 (((e2.trans e3).trans e4).trans (e5.trans e6)))
      | true =>
        refine iteT (hd H6 (c4.trans (e5.trans e6)) _ fun w3 H7 e7 r7 => h3 H7 w' w3 (Rp.mono (SF.of (e6.trans e7)) r5) r7 _ fun w4 H8 e8 r8 => ⟨b'', r8, ?_⟩)
        exact q H8 ((((e2.trans e3).trans e4).trans (e5.trans e6)).trans (e7.trans e8))⟩
/-! ### in -/
theorem flat_bls (l : List Bool) : (l.map V.bl).all flatV = true := by rw [List.all_map, List.all_eq_true]; intro x _; rfl
theorem flat_ints (l : List Int) : (l.map V.int).all flatV = true := by rw [List.all_map, List.all_eq_true]; intro x _; rfl
theorem flat_strs' (l : List Str) : (l.map V.str).all flatV = true := by rw [List.all_map, List.all_eq_true]; intro x _; rfl
theorem inV_bl (b : Bool) (l : List Bool) : inV (.bl b) (l.map V.bl) = decide (b ∈ l) := by
  unfold inV
  rw [List.any_map]
  induction l with
  | nil => rfl
  | cons x r ih =>
    rw [List.any_cons, ih]
    show ((x == b) || _) = _
    by_cases e : b = x
    · subst e; simp
    · simp [e]; intro h; exact absurd h.symm e
theorem inV_int (b : Int) (l : List Int) : inV (.int b) (l.map V.int) = decide (b ∈ l) := by
  unfold inV
  rw [List.any_map]
  induction l with
  | nil => rfl
  | cons x r ih =>
    rw [List.any_cons, ih]
    show ((x == b) || _) = _
    by_cases e : b = x
    · subst e; simp
    · simp [e]; intro h; exact absurd h.symm e
theorem inV_str (b : Str) (l : List Str) : inV (.str b) (l.map V.str) = decide (b ∈ l) := by
  unfold inV
  rw [List.any_map]
  induction l with
  | nil => rfl
  | cons x r ih =>
    rw [List.any_cons, ih]
    show ((x == b) || _) = _
    by_cases e : b = x
    · subst e; simp
    · simp [e]; intro h; exact absurd h.symm e
def neg (n b : Bool) : Bool := if n then !b else b
theorem rr_inB {n : Bool} {l : List Bool} : R2r K (rIn K n) b l (neg n (decide (b ∈ l))) := fun H v u e1 e2 Q q => by
  obtain ⟨a, vs, rfl, h2, h3⟩ := e2
  cases (show v = .bl b from e1)
  rw [rl_bools h3] at h2
  exact ⟨a, _, rfl, .inl h2.seq, rfl, flat_bls l, by rw [inV_bl]; exact q _ H (Same.refl _) (by cases n <;> rfl)⟩
theorem rr_inI {n : Bool} {l : List Int} : R2r K (rIn K n) i l (neg n (decide (i ∈ l))) := fun H v u e1 e2 Q q => by
  obtain ⟨a, vs, rfl, h2, h3⟩ := e2
  cases (show v = .int i from e1)
  rw [rl_ints h3] at h2
  exact ⟨a, _, rfl, .inl h2.seq, rfl, flat_ints l, by rw [inV_int]; exact q _ H (Same.refl _) (by cases n <;> rfl)⟩
theorem rr_inS {n : Bool} {s : Str} {l : List Str} : R2r K (rIn K n) s l (neg n (decide (s ∈ l))) := fun H v u e1 e2 Q q => by
  obtain ⟨a, vs, rfl, h2, h3⟩ := e2
  cases (show v = .str s from e1)
  rw [rl_strs h3] at h2
  exact ⟨a, _, rfl, .inl h2.seq, rfl, flat_strs' l, by rw [inV_str]; exact q _ H (Same.refl _) (by cases n <;> rfl)⟩
theorem rr_inST {n : Bool} {s : Str} {t : Tp Str} : R2r K (rIn K n) s t (neg n (decide (s ∈ t.l))) := fun H v u e1 e2 Q q => by
  obtain ⟨a, vs, rfl, h2, h3⟩ := e2
  cases (show v = .str s from e1)
  rw [rl_strs h3] at h2
  exact ⟨a, _, rfl, .inr h2, rfl, flat_strs' t.l, by rw [inV_str]; exact q _ H (Same.refl _) (by cases n <;> rfl)⟩
theorem any_eqv [Rq α] [DecidableEq α] (x : α) (l : List α) : ((l.map Rq.toD).any fun w => PyData.eqv w (Rq.toD x)) = decide (x ∈ l) := by
  rw [List.any_map]
  induction l with
  | nil => rfl
  | cons y r ih =>
    rw [List.any_cons, ih]
    show (PyData.eqv (Rq.toD y) (Rq.toD x) || _) = _
    rw [eqv_dec]
    by_cases e : x = y
    · subst e; simp
    · simp [e]; intro h; exact absurd h.symm e
theorem rr_inD [Rq α] [Rt α] [DecidableEq α] {l : List α} (hd : Rq.dep α + 1 ≤ 64 := by decide) : R2r K (rInD K) x l (decide (x ∈ l)) := fun H v u e1 e2 Q q => by
  have h2 : Dp K H u (.list (l.map Rq.toD)) := Rq.dp e2
  exact ⟨_, _, Rq.dp e1, h2, shaped_of (Rt.all x) (by omega), shaped_of (α := List α) (Rt.all l) hd, by rw [any_eqv]; exact q _ H (Same.refl _) rfl⟩
theorem rr_ninD [Rq α] [Rt α] [DecidableEq α] {l : List α} (hd : Rq.dep α + 1 ≤ 64 := by decide) : R2r K (rNotInD K) x l (!decide (x ∈ l)) := fun H v u e1 e2 Q q => by
  have h2 : Dp K H u (.list (l.map Rq.toD)) := Rq.dp e2
  exact ⟨_, _, Rq.dp e1, h2, shaped_of (Rt.all x) (by omega), shaped_of (α := List α) (Rt.all l) hd, by rw [any_eqv]; exact q _ H (Same.refl _) rfl⟩
/-- a constant tuple of the module -/
theorem er_kt {t : Tp α} {a : Addr} (h : ∀ H, Rp.rep K H (.ref a) t) : Er K (tC (.ref a)) σ H t := er_c h
/-! ### the if's answer is known -/
theorem er_ifT (h : Et K tt σ H true) (ha : Er K ta σ H x) : Er K (tIf tt ta tb) σ H x := fun H1 e Q q => h H1 e _ fun H2 e2 => iteT (ha H2 (e.trans e2) Q fun v H3 e3 r => q v H3 (e2.trans e3) r)
theorem er_ifF (h : Et K tt σ H false) (hb : Er K tb σ H x) : Er K (tIf tt ta tb) σ H x := fun H1 e Q q => h H1 e _ fun H2 e2 => iteF (hb H2 (e.trans e2) Q fun v H3 e3 r => q v H3 (e2.trans e3) r)
/-! ### a list not locked, handed through a check -/
def spThru (K : Fg) (pre : List α → Prop) : Sp := fun vs H Q _ => ∃ (p : Addr) (us : List V) (l : List α), vs = [.ref p] ∧ H p = some (.lst us) ∧ RL K H us l ∧ pre l ∧ ∀ H', Same H H' → Q (.ref p) H'
theorem erl_thru {E : XK} {pre : List α → Prop} {l : List α} (h : ErL K ta σ H l) (hp : pre l) : ErL K (tCall (spThru K pre) [] E (tCons ta tNil)) σ H l := fun H1 e Q q =>
  h H1 e _ fun p vs H2 e2 hn h2 r2 => ⟨p, vs, l, rfl, h2, r2, hp, fun H3 e3 => q p vs H3 (e2.trans e3) hn (e3 _ _ h2) (r2.mono (SF.of e3))⟩
theorem s_retThru {E : XK} {pre : List α → Prop} {l : List α} {D : Ends} {k : Nat} {p : Addr} (hσ : σ[k]? = some (some (.ref p))) (hu : Un K H p l) (hp : pre l) (q : ∀ H1 us, Same H H1 → H1 p = some (.lst us) → RL K H1 us l → D.rt (.ref p) H1) :
    tRet (tCall (spThru K pre) [] E (tCons (tVar k) tNil)) D σ H := by
  obtain ⟨us, h1, r⟩ := hu
  exact ⟨.ref p, hσ, p, us, l, rfl, h1, r, hp, fun H1 e => q H1 us e (e _ _ h1) (r.mono (SF.of e))⟩
/-- a check that runs while its list is locked -/
theorem q_lockd {p : Addr} {us : List V} {l : List α} {D : Ends} {tu tz : TS} (hp : H p = some (.lst us)) (hr : RL K H us l)
    (q : ∀ (od : Obj), Rp.rep K (upd H p (.frz od (.lst us))) (.ref p) l → tu ⟨fun σ' H' => H' p = some (.frz od (.lst us)) ∧ tz D σ' (upd H' p (.lst us)), fun v H' => H' p = some (.frz od (.lst us)) ∧ D.rt v (upd H' p (.lst us)), fun σ' H' => H' p = some (.frz od (.lst us)) ∧ D.bk σ' (upd H' p (.lst us)), fun σ' H' => H' p = some (.frz od (.lst us)) ∧ D.ct σ' (upd H' p (.lst us))⟩ σ (upd H p (.frz od (.lst us)))) :
    tSeq (tLock tu) tz D σ H := ⟨p, .lst us, hp, trivial, fun od => q od ⟨p, us, rfl, ⟨od, upd_same⟩, hr.mono (SF.lst hp)⟩⟩
theorem same_lock {p : Addr} {us : List V} {od : Obj} (hp : H p = some (.lst us)) (e : Same (upd H p (.frz od (.lst us))) H1) : Same H (upd H1 p (.lst us)) := fun a o h => by
  by_cases n : a = p
  · subst n; rw [upd_same]; rw [hp] at h; exact h
  · rw [upd_ne n]; exact e a o (by rw [upd_ne n]; exact h)
/-- a, b = a list of two -/
theorem tg_unl {l : List α} {k m : Nat} {d : α} (h : Rp.rep K H v l) (hl : l.length = 2) : ∃ v1 v2, Rp.rep K H v1 (l.getD 0 d) ∧ Rp.rep K H v2 (l.getD 1 d) ∧ ∀ Q : L2.St → Hp → Prop, Q ((σ.set k (some v1)).set m (some v2)) H → gUnl K 2 (gCons (gName k) (gCons (gName m) gNil)) v σ H Q := by
  obtain ⟨a, vs, rfl, h2, h3⟩ := h
  match l, hl with
  | [x, y], _ =>
    cases h3 with
    | cons r1 h4 =>
      cases h4 with
      | cons r2 h5 =>
        cases h5
        exact ⟨_, _, r1, r2, fun Q q => ⟨a, _, rfl, h2.seq, rfl, _, _, rfl, _, _, rfl, rfl, q⟩⟩
theorem q_unl {l : List α} {k m : Nat} {d : α} {D : Ends} {tz : TS} (h : Er K te σ H l) (hl : l.length = 2) (q : ∀ v u H1, Same H H1 → Rp.rep K H1 v (l.getD 0 d) → Rp.rep K H1 u (l.getD 1 d) → tz D ((σ.set k (some v)).set m (some u)) H1) : tSeq (tAsg te (gUnl K 2 (gCons (gName k) (gCons (gName m) gNil)))) tz D σ H :=
  h H (Same.refl _) _ fun v H1 e r => by
    obtain ⟨v1, v2, r1, r2, f⟩ := tg_unl (σ := σ) (k := k) (m := m) (d := d) r hl
    exact f _ (q v1 v2 H1 e r1 r2)
end
section
variable {X : Cx} (K : Fg) (h : X.K = K)
include h
theorem k_gl (n : Nat) {es : List Expr} {k : Nat} {t : TGs} {pos : Pos} (hc : X.calm = true) (hp : PGs X es t)
    (hn : (assignEach es X.env).length = n := by rfl) (hst : (assignEach es X.env).findIdx? (·.1) = none := by rfl) : PG X (.Tuple es k pos) (gUnl K n t) := by subst h; exact pg_unl hc hp hn hst
theorem k_inD (hu : X.A.units + 65 < cLine) : OpR X (compareOp .In) (rInD K) := by subst h; exact op_inD hu
theorem k_ninD (hu : X.A.units + 65 < cLine) : OpR X (compareOp .NotIn) (rNotInD K) := by subst h; exact op_notInD hu
end
theorem u65 {k : Nat} {A : Around} (r : Room k A) : A.units + 65 < cLine := by have := r.un; omega
/-! ### the head's facts, with tables -/
def hookB (n : Nat) (fa : List He.Fa) (fn : List He.DefD) (ex : Fg → Bool) : PySem.W.Hook where
  α := He.AlD × Bool
  obs := fun s => (He.obsDG n fa fn s.heap.get?, ex (He.frG s.heap.get? (He.asD s.heap.get? n)))
  val := fun _ => (He.valD fn, true)
  says := fun _ h => ∃ K : Fg, K.In h ∧ He.SaysD fa fn K ∧ ex K = true
  of := fun _ _ e => ⟨_, He.frG_in, congrArg Prod.fst e, congrArg Prod.snd e⟩
  keeps := fun _ _ _ ⟨K, hK, c⟩ k => ⟨K, PySem.W.Frag.In.keeps hK k, c⟩
theorem hookB_eq {n : Nat} {fa : List He.Fa} {fn : List He.DefD} {ex : Fg → Bool} {g : Addr → Option Obj} {s : Shared} (h : ∀ a, g a = s.heap.get? a) : ((He.obsDG n fa fn g, ex (He.frG g (He.asD g n))) : He.AlD × Bool) = (hookB n fa fn ex).obs s := by
  have e : g = s.heap.get? := funext h
  rw [e] <;> rfl
theorem rl_dv (K : Fg) (H : Hp) : ∀ l : List Str, RL K H ((l.map He.Dv.str).map (He.Dv.v K)) l
  | [] => .nil
  | _ :: r => .cons rfl (rl_dv K H r)
theorem tup_of {K : Fg} {x : Str} {l : List Str} (h : He.tupB K x (l.map He.Dv.str) = true) (H : Hp) : Rp.rep K H (.ref (He.ga K x)) (Tp.mk l) := ⟨_, _, rfl, He.tupB_ok h H, rl_dv K H l⟩
end BL

set_option Elab.async false
set_option linter.all false
set_option maxRecDepth 100000
set_option maxHeartbeats 2000000
namespace BL
open PySem PySem.Spec PyProof.Rows L2
/-! ### some lists change, nothing else -/
structure Mus (ps : List Addr) (H H' : Hp) : Prop where
  sf : SF H H'
  ne : ∀ q o, q ∉ ps → H q = some o → H' q = some o
section
variable {K : Fg} {σ : L2.St} {H H' H0 H1 H2 : Hp} {pd pn p q : Addr} {ps qs : List Addr} {ta tb tc td te : TE} {tt uu : TT} {α β γ δ : Type} [Rp α] [Rp β] [Rp γ] [Rp δ] {x : α} {y : β} {z : γ} {v u : V} {i j : Int} {b c : Bool}
theorem Mus.of (e : Same H H') : Mus ps H H' := ⟨SF.of e, fun q o _ h => e q o h⟩
theorem Mus.refl (H : Hp) : Mus ps H H := Mus.of (Same.refl H)
theorem Mus.trans (a : Mus ps H H1) (b : Mus ps H1 H2) : Mus ps H H2 := ⟨a.sf.trans b.sf, fun q o n h => b.ne q o n (a.ne q o n h)⟩
theorem Mus.mu (m : Mu p H H') (h : p ∈ ps) : Mus ps H H' := ⟨m.sf, fun q o n e => m.ne q o (fun c => n (c ▸ h)) e⟩
theorem Mus.dm (m : DM pd pn H H') (h1 : pd ∈ ps) (h2 : pn ∈ ps) : Mus ps H H' := ⟨m.sf, fun q o n e => m.ne q o (fun c => n (c ▸ h1)) (fun c => n (c ▸ h2)) e⟩
theorem Mus.sub (m : Mus ps H H') (h : ∀ x ∈ ps, x ∈ qs) : Mus qs H H' := ⟨m.sf, fun q o n e => m.ne q o (fun c => n (h q c)) e⟩
theorem Mus.same0 (m : Mus [] H H') : Same H H' := fun q o e => m.ne q o (by simp) e
theorem Mus.to_dm (m : Mus [pd, pn] H H') : DM pd pn H H' := ⟨m.sf, fun q o n1 n2 e => m.ne q o (by simp [n1, n2]) e⟩
/-- p is new since H0 -/
theorem Mus.fresh (B : Mus ps H0 H) (n : p ∉ ps) (h : H p = none) : H0 p = none := by
  cases e : H0 p with
  | none => rfl
  | some o => rw [B.ne p o n e] at h; cases h
theorem Mus.mut (B : Mus ps H0 H) (h : H0 p = none) (m : Mu p H H') : Mus ps H0 H' := ⟨B.sf.trans m.sf, fun q o n e => m.ne q o (ne_of_none e h) (B.ne q o n e)⟩
theorem Mus.cut (B : Mus ps H0 H) (h : H0 p = none) (m : Mus (p :: ps) H H') : Mus ps H0 H' := ⟨B.sf.trans m.sf, fun q o n e => m.ne q o (fun c => by
  rcases List.mem_cons.mp c with c | c
  · exact ne_of_none e h c
  · exact n c) (B.ne q o n e)⟩
/-- all that changes is new since H0 -/
theorem Mus.base (B : Mus [] H0 H) (m : Mus ps H H') (h : ∀ p ∈ ps, H0 p = none) : Mus [] H0 H' := ⟨B.sf.trans m.sf, fun q o _ e => m.ne q o (fun c => by rw [h q c] at e; cases e) (B.ne q o (by simp) e)⟩
theorem Mus.baseS (B : Mus qs H0 H) (m : Mus ps H H') (h : ∀ p ∈ ps, H0 p = none ∨ p ∈ qs) : Mus qs H0 H' := ⟨B.sf.trans m.sf, fun q o n e => m.ne q o (fun c => by
  rcases h q c with h | h
  · rw [h] at e; cases e
  · exact n h) (B.ne q o n e)⟩
theorem nin0 : p ∉ ([] : List Addr) := by simp
theorem nin (h : p ≠ q) (n : p ∉ ps) : p ∉ q :: ps := fun c => by
  rcases List.mem_cons.mp c with c | c
  · exact h c
  · exact n c
theorem all0 {F : Addr → Prop} : ∀ p ∈ ([] : List Addr), F p := fun _ h => by cases h
theorem allC {F : Addr → Prop} (h : F q) (n : ∀ p ∈ ps, F p) : ∀ p ∈ q :: ps, F p := fun x c => by
  rcases List.mem_cons.mp c with c | c
  · subst c; exact h
  · exact n x c
theorem Un.mus {l : List α} (m : Mus ps H H') (n : p ∉ ps) (h : Un K H p l) : Un K H' p l := by
  obtain ⟨vs, g, r⟩ := h; exact ⟨vs, m.ne _ _ n g, r.mono m.sf⟩
theorem Dr.mus (m : Mus ps H H') (n1 : pd ∉ ps) (n2 : pn ∉ ps) (h : Dr H pd pn) : Dr H' pd pn := by
  obtain ⟨ns, k, g1, g2, g3⟩ := h; exact ⟨ns, k, m.ne _ _ n1 g1, m.ne _ _ n2 g2, g3⟩
theorem Un.nep {l : List α} (h : Un K H q l) (n : H p = none) : q ≠ p := by obtain ⟨_, g, _⟩ := h; exact ne_of_none g n
/-! ### a loop's fold -/
theorem fold_step {l : List α} {f : β → α → β} {a s : β} {k : Nat} {x : α} (hx : l[k]? = some x) (hs : s = (l.take k).foldl f a) : f s x = (l.take (k + 1)).foldl f a := by
  rw [List.take_add_one, hx, List.foldl_append, hs]; rfl
theorem fold_all {l : List α} {f : β → α → β} {a s : β} (hs : s = (l.take l.length).foldl f a) : s = l.foldl f a := by rw [hs, List.take_length]
theorem fold_app1 {γ : Type} (f : α → γ) : ∀ (l : List α) (a : List γ), l.foldl (fun s x => s ++ [f x]) a = a ++ l.map f
  | [], a => by simp
  | x :: l, a => by rw [List.foldl_cons, fold_app1 f l]; simp
theorem fold_app2 {γ δ : Type} (f : α → γ) (g : α → δ) : ∀ (l : List α) (a : List γ × List δ), l.foldl (fun s x => (s.1 ++ [f x], s.2 ++ [g x])) a = (a.1 ++ l.map f, a.2 ++ l.map g)
  | [], a => by simp
  | x :: l, a => by rw [List.foldl_cons, fold_app2 f g l]; simp
/-! ### if: one name is set -/
variable {D : Ends} {tu tw tz : TS}
theorem set_same' {k : Nat} (h : σ[k]? = some (some v)) : σ.set k (some v) = σ := by
  refine List.ext_getElem? fun i => ?_
  rw [List.getElem?_set]
  split
  · rename_i e; subst e
    rw [h]
    split
    · rfl
    · rename_i hn; rw [List.getElem?_eq_none (by omega)] at h; cases h
  · rfl
theorem q_ifset {k : Nat} {x y : α} (hc : Et K tt σ H c) (h1 : c = true → ∀ H1, Same H H1 → Er K te σ H1 y) (hold : σ[k]? = some (some v)) (r0 : Rp.rep K H v x)
    (q : ∀ w H1, Same H H1 → Rp.rep K H1 w (if c = true then y else x) → tz D (σ.set k (some w)) H1) : tSeq (tIfS tt (tAsg te (gName k)) tNext) tz D σ H :=
  q_when hc (fun e H1 s => h1 e H1 s H1 (Same.refl _) _ fun w H2 e2 r2 => q w H2 (s.trans e2) (by rw [if_pos e]; exact r2)) fun e H1 s => by
    have := q v H1 s (by rw [if_neg (by rw [e]; exact Bool.false_ne_true)]; exact Rp.mono (SF.of s) r0)
    rwa [set_same' hold] at this
theorem q_ifset2 {k : Nat} {x y : α} (hc : Et K tt σ H c) (h1 : c = true → ∀ H1, Same H H1 → Er K ta σ H1 y) (h2 : c = false → ∀ H1, Same H H1 → Er K tb σ H1 x)
    (q : ∀ w H1, Same H H1 → Rp.rep K H1 w (if c = true then y else x) → tz D (σ.set k (some w)) H1) : tSeq (tIfS tt (tAsg ta (gName k)) (tAsg tb (gName k))) tz D σ H :=
  q_if hc (fun e H1 s => h1 e H1 s H1 (Same.refl _) _ fun w H2 e2 r2 => q w H2 (s.trans e2) (by rw [if_pos e]; exact r2))
    fun e H1 s => h2 e H1 s H1 (Same.refl _) _ fun w H2 e2 r2 => q w H2 (s.trans e2) (by rw [if_neg (by rw [e]; exact Bool.false_ne_true)]; exact r2)
/-! ### None or a value -/
theorem er_O0 : Er K (tC .non) σ H (none : Option α) := er_c (x := (none : Option α)) fun _ => rfl
class Nn (α : Type) [Rp α] : Prop where
  n : ∀ {K : Fg} {H : Hp} {v : V} {x : α}, Rp.rep K H v x → v ≠ .non
instance : Nn Int := ⟨fun h => by cases h; exact V.noConfusion⟩
instance : Nn Nat := ⟨fun h => by cases h; exact V.noConfusion⟩
instance : Nn Bool := ⟨fun h => by cases h; exact V.noConfusion⟩
instance : Nn Str := ⟨fun h => by cases h; exact V.noConfusion⟩
instance {α : Type} [Rp α] : Nn (List α) := ⟨fun h => by obtain ⟨_, _, rfl, _⟩ := h; exact V.noConfusion⟩
instance {α β : Type} [Rp α] [Rp β] : Nn (α × β) := ⟨fun h => by obtain ⟨_, _, _, rfl, _⟩ := h; exact V.noConfusion⟩
instance {α β γ : Type} [Rp α] [Rp β] [Rp γ] : Nn (T3 α β γ) := ⟨fun h => by obtain ⟨_, _, _, _, rfl, _⟩ := h; exact V.noConfusion⟩
theorem er_O1 [Nn α] (h : Er K te σ H x) : Er K te σ H (some x) := fun H1 e Q q => h H1 e Q fun v H2 e2 r => q v H2 e2 ⟨Nn.n r, r⟩
theorem er_Oget {o : Option α} (h : Er K te σ H o) (ho : o = some x) : Er K te σ H x := fun H1 e Q q => h H1 e Q fun v H2 e2 r => by
  rw [ho] at r; exact q v H2 e2 r.2
theorem opt_non {o : Option α} (h : Rp.rep K H v o) : decide (v = .non) = o.isNone := by
  cases o with
  | none => cases (show v = .non from h); rfl
  | some x => exact decide_eq_false h.1
theorem er_isN {o : Option α} (h : Er K te σ H o) : Er K (tOp rIsN te (tC .non)) σ H o.isNone := fun H1 e Q q => h H1 e _ fun v H2 e2 r => ⟨rfl, q _ H2 e2 (by show V.bl _ = V.bl _; rw [opt_non r])⟩
theorem er_notN {o : Option α} (h : Er K te σ H o) : Er K (tOp rNotN te (tC .non)) σ H (!o.isNone) := fun H1 e Q q => h H1 e _ fun v H2 e2 r => ⟨rfl, q _ H2 e2 (by show V.bl _ = V.bl _; rw [opt_non r])⟩
/-! ### names that count -/
theorem q_augI {k : Nat} {f : Int → Int → Int} (hσ : σ[k]? = some (some v)) (r : Rp.rep K H v i) (h : Er K te σ H j) (q : ∀ w H1, Same H H1 → Rp.rep K H1 w (f i j) → tz D (σ.set k (some w)) H1) : tSeq (tAug k te (ipI f)) tz D σ H := by
  cases (show v = .int i from r)
  exact q_aug hσ h fun H1 e => q _ H1 e rfl
theorem s_ext {k : Nat} {l m : List α} (hσ : σ[k]? = some (some (.ref p))) (hu : Un K H p l) (h : ErL K te σ H m) (hz : l.length + m.length ≤ 1000000) (q : ∀ H2, Mu p H H2 → Un K H2 p (l ++ m) → D.nx σ H2) :
    tAug k te rExt2 D σ H := by
  obtain ⟨vs, hp, r⟩ := hu
  refine ⟨.ref p, hσ, h H (Same.refl _) _ fun b us H2 e2 hn h2 r2 => ?_⟩
  have hp2 := e2 _ _ hp
  refine ⟨p, b, vs, us, rfl, rfl, hp2, h2, ?_, ?_⟩
  · rw [paired_len r, paired_len r2]; exact Nat.le_trans hz (by decide)
  · have e : σ.set k (some (.ref p)) = σ := set_same' hσ
    show D.nx (σ.set k (some (.ref p))) _
    rw [e]
    exact q _ (mu_upd e2 hp) ⟨_, upd_same, RL.mono (SF.lst hp2) (paired_app (r.mono (SF.of e2)) r2)⟩
theorem q_ext {k : Nat} {l m : List α} (hσ : σ[k]? = some (some (.ref p))) (hu : Un K H p l) (h : ErL K te σ H m) (hz : l.length + m.length ≤ 1000000) (q : ∀ H2, Mu p H H2 → Un K H2 p (l ++ m) → tz D σ H2) :
    tSeq (tAug k te rExt2) tz D σ H := s_ext (D := { D with nx := tz D }) hσ hu h hz q
end
section
variable {K : Fg} {σ : L2.St} {H : Hp} {pd pn : Addr} {ta tb tc : TE} {α β : Type} [Rp α] [Rp β] {D : Ends} {tz : TS}
theorem q_parL {k m : Nat} {l : List α} {l' : List β} (h : ErL K ta σ H l) (h' : ErL K tb σ H l')
    (q : ∀ p p' vs vs' H1 H2, Same H H1 → Same H1 H2 → H p = none → H1 p' = none → H1 p = some (.lst vs) → RL K H1 vs l → H2 p' = some (.lst vs') → RL K H2 vs' l' → tz D ((σ.set k (some (.ref p))).set m (some (.ref p'))) H2) : tSeq (tPar k m (tCons ta (tCons tb tNil))) tz D σ H :=
  h H (Same.refl _) _ fun p vs H1 e hp h1 r => h' H1 e _ fun p' vs' H2 e2 hp' h2 r2 => ⟨.ref p, .ref p', rfl, q p p' vs vs' H1 H2 e e2 hp hp' h1 r h2 r2⟩
theorem q_unpL {k m : Nat} {l : List α} {l' : List β} (h : ErL K ta σ H l) (h' : ErL K tb σ H l')
    (q : ∀ p p' vs vs' H1 H2, Same H H1 → Same H1 H2 → H p = none → H1 p' = none → H1 p = some (.lst vs) → RL K H1 vs l → H2 p' = some (.lst vs') → RL K H2 vs' l' → tz D ((σ.set k (some (.ref p))).set m (some (.ref p'))) H2) : tSeq (tAsg (tTup (tCons ta (tCons tb tNil))) (gTup K 2 (gCons (gName k) (gCons (gName m) gNil)))) tz D σ H :=
  h H (Same.refl _) _ fun p vs H1 e hp h1 r => h' H1 e _ fun p' vs' H2 e2 hp' h2 r2 => ⟨by show 2 ≤ sizeLine; decide, fun t ht => ⟨t, _, rfl, sq_tup upd_same, rfl, .ref p, _, rfl, .ref p', _, rfl, rfl, q p p' vs vs' H1 _ e (e2.trans (same_new ht)) hp hp' h1 r ((same_new ht) _ _ h2) (r2.mono (SF.new ht))⟩⟩
theorem epl_lst3 {P : α → Prop} {P2 : α → α → Prop} {P3 : α → α → α → Prop} (ha : Ep K pd pn ta σ H P) (hb : ∀ x, P x → Ep K pd pn tb σ H (P2 x)) (hc : ∀ x y, P x → P2 x y → Ep K pd pn tc σ H (P3 x y)) : EpL K pd pn (tLst (tCons ta (tCons tb (tCons tc tNil)))) σ H (fun l => ∃ x y z, P x ∧ P2 x y ∧ P3 x y z ∧ l = [x, y, z]) := fun H1 m dr Q q =>
  ha H1 m dr _ fun v H2 x m2 dr2 hx r2 => hb x hx H2 (m.trans m2) dr2 _ fun u H3 y m3 dr3 hy r3 => hc x y hx hy H3 ((m.trans m2).trans m3) dr3 _ fun w H4 z m4 dr4 hz r4 => ⟨by show 3 ≤ sizeLine; decide, fun p hp =>
    q p _ _ [x, y, z] (((m2.trans m3).trans m4).trans (DM.of (same_new hp))) (dr4.mono (same_new hp)) ⟨x, y, z, hx, hy, hz, rfl⟩ (((m2.trans m3).trans m4).free dr hp dr4) upd_same (.cons (Rp.mono ((m3.sf.trans m4.sf).trans (SF.new hp)) r2) (.cons (Rp.mono (m4.sf.trans (SF.new hp)) r3) (.cons (Rp.mono (SF.new hp) r4) .nil)))⟩
end
section
variable {K : Fg} {σ : L2.St} {H : Hp} {ta tb tc td : TE} {α β γ δ ε : Type} [Rp α] [Rp β] [Rp γ] [Rp δ] [Rp ε] {x : α} {y : β} {z : γ} {w : δ}
def sp4 (K : Fg) (pre : α → β → γ → δ → Prop) (f : α → β → γ → δ → ε) : Sp := fun vs H Q _ => ∃ v0 v1 v2 v3 x0 x1 x2 x3, vs = [v0, v1, v2, v3] ∧ Rp.rep K H v0 x0 ∧ Rp.rep K H v1 x1 ∧ Rp.rep K H v2 x2 ∧ Rp.rep K H v3 x3 ∧ pre x0 x1 x2 x3 ∧ ansV K (f x0 x1 x2 x3) H Q
theorem er_call4 {pre : α → β → γ → δ → Prop} {f : α → β → γ → δ → ε} {E : XK} (h0 : Er K ta σ H x) (h1 : Er K tb σ H y) (h2 : Er K tc σ H z) (h3 : Er K td σ H w) (hp : pre x y z w) : Er K (tCall (sp4 K pre f) [] E (tCons ta (tCons tb (tCons tc (tCons td tNil))))) σ H (f x y z w) := fun H1 e Q q =>
  h0 H1 e _ fun v0 H2 e2 r0 => h1 H2 (e.trans e2) _ fun v1 H3 e3 r1 => h2 H3 ((e.trans e2).trans e3) _ fun v2 H4 e4 r2 => h3 H4 (((e.trans e2).trans e3).trans e4) _ fun v3 H5 e5 r3 =>
    ⟨v0, v1, v2, v3, x, y, z, w, rfl, Rp.mono (SF.of ((e3.trans e4).trans e5)) r0, Rp.mono (SF.of (e4.trans e5)) r1, Rp.mono (SF.of e5) r2, r3, hp, fun u H6 e6 r6 => q u H6 ((((e2.trans e3).trans e4).trans e5).trans e6) r6⟩
theorem len_sp4 {pre : α → β → γ → δ → Prop} {f : α → β → γ → δ → ε} : ∀ vs H Q E, sp4 K pre f vs H Q E → vs.length = 4 := fun vs H Q E h => by obtain ⟨_, _, _, _, _, _, _, _, rfl, _⟩ := h; rfl
end
theorem bi4 {x : Str} {a : Arguments} {b : List Stmt} {sc : Scope} {p q r t : Str} (h : ∀ (kV doc pm : Value) (an : Option Addr) (cdv ct u v w z : Value), bindArgs (PySem.W.fnOf x x a b sc .none kV doc pm an cdv ct) ⟨[u, v, w, z], []⟩ = pure [(p, u), (q, v), (r, w), (t, z)]) :
    ∀ (kV doc pm : Value) (an : Option Addr) (cdv ct : Value) (us : List Value), us.length = [p, q, r, t].length → bindArgs (PySem.W.fnOf x x a b sc .none kV doc pm an cdv ct) ⟨us, []⟩ = pure ([p, q, r, t].zip us)
  | kV, doc, pm, an, cdv, ct, [u, v, w, z], _ => h kV doc pm an cdv ct u v w z
theorem dead_eq {α : Type} [DecidableEq α] {a b : α} (h : a = b) : (!decide (a = b)) = false := by rw [decide_eq_true h]; rfl
theorem q_last {t : TS} {D : Ends} {σ : L2.St} {H : Hp} (h : tSeq t tNext D σ H) : t D σ H := h
theorem s_gn {k : Nat} {v : V} {σ : L2.St} {H : Hp} {Q : L2.St → Hp → Prop} (h : Q (σ.set k (some v)) H) : gName k v σ H Q := h
theorem s_nx {D : Ends} {σ : L2.St} {H : Hp} (h : D.nx σ H) : tNext D σ H := h
theorem s_nxz {tz : TS} {D : Ends} {σ : L2.St} {H : Hp} (h : tz D σ H) : tNext { D with nx := tz D } σ H := h
theorem Rp.cong {α : Type} [Rp α] {K : Fg} {H : Hp} {v : V} {x y : α} (h : Rp.rep K H v y) (e : x = y) : Rp.rep K H v x := by rw [e]; exact h
theorem find_none {α β : Type} {l : List α} {f : α → Option β} {k : Nat} {x : α} (hx : l[k]? = some x) (hs : (l.take k).findSome? f = none) (hn : f x = none) : (l.take (k + 1)).findSome? f = none := by
  rw [List.take_add_one, hx, List.findSome?_append, hs]; simp [hn]
theorem find_at {α β : Type} {l : List α} {f : α → Option β} {k : Nat} {x : α} {y : β} (hx : l[k]? = some x) (hs : (l.take k).findSome? f = none) (hn : f x = some y) : l.findSome? f = some y := by
  conv => lhs; rw [← List.take_append_drop (k + 1) l, List.take_add_one, hx]
  rw [List.findSome?_append, List.findSome?_append, hs]; simp [hn]
theorem find_all {α β : Type} {l : List α} {f : α → Option β} (hs : (l.take l.length).findSome? f = none) : l.findSome? f = none := by rw [List.take_length] at hs; exact hs
theorem ip_ext {X : Cx} : PIp X .Add rExt2 := fun pins s σ H x y v u Q I r1 r2 h => iop_ext pins s σ H x y v u Q I r1 r2 h
end BL

set_option Elab.async false
set_option linter.all false
set_option maxRecDepth 100000
set_option maxHeartbeats 2000000
namespace BL
open PySem PySem.Spec PyProof.Rows L2
theorem nff {b : Bool} (h : b = false) : ¬ (b = true) := by rw [h]; exact Bool.false_ne_true
theorem fold_grow {α β : Type} {f : List β → α → List β} {c : Nat} : ∀ {l : List α} {a : List β}, (∀ s x, x ∈ l → (f s x).length ≤ s.length + c) → (l.foldl f a).length ≤ a.length + c * l.length
  | [], a, _ => by simp
  | x :: l, a, h => by
    rw [List.foldl_cons, List.length_cons, Nat.mul_add]
    have h1 := h a x (List.mem_cons_self ..)
    have h2 := fold_grow (l := l) (a := f a x) fun s y hy => h s y (List.mem_cons_of_mem _ hy)
    omega
theorem fold_growE {α β : Type} {f : List β → α → List β} (c : Nat) {l : List α} {a s : List β} (hs : s = l.foldl f a) (h : ∀ s x, x ∈ l → (f s x).length ≤ s.length + c) : s.length ≤ a.length + c * l.length := by rw [hs]; exact fold_grow h
theorem fold_inv {α β : Type} {f : β → α → β} {P : β → Prop} : ∀ {l : List α} {a : β}, P a → (∀ s x, x ∈ l → P s → P (f s x)) → P (l.foldl f a)
  | [], _, h, _ => h
  | x :: l, a, h, hs => fold_inv (l := l) (hs a x (List.mem_cons_self ..) h) fun s y hy => hs s y (List.mem_cons_of_mem _ hy)
theorem fold_invE {α β : Type} {f : β → α → β} (P : β → Prop) {l : List α} {a s : β} (hs : s = l.foldl f a) (h : P a) (h2 : ∀ s x, x ∈ l → P s → P (f s x)) : P s := by rw [hs]; exact fold_inv h h2
theorem mapIf_le {α β : Type} {c : α → Bool} {f : α → β} {l : List α} : (mapIf c f l).length ≤ l.length := by unfold mapIf; rw [List.length_map]; exact List.length_filter_le _ _
theorem last_atD {α : Type} {l : List α} {d : α} (h : l ≠ []) : l.getLast? = some (l.getLastD d) := by
  rw [List.getLastD_eq_getLast?]
  cases e : l.getLast? with
  | none => exact absurd (List.getLast?_eq_none_iff.mp e) h
  | some x => rfl
theorem lastD_mem {α : Type} {l : List α} {d : α} (h : l ≠ []) : l.getLastD d ∈ l := List.mem_of_getLast? (last_atD h)
theorem mem_enumN {α : Type} [Rp α] {l : List α} {p : Nat × α} (h : p ∈ enumL l) : l[p.1]? = some p.2 ∧ p.1 < l.length := by
  obtain ⟨i, hi⟩ := List.getElem?_of_mem h
  obtain ⟨h1, h2⟩ := enumL_get hi
  rw [h2]
  exact ⟨h1, (List.getElem?_eq_some_iff.mp h1).1⟩
/-! ### pairs of numbers, sorted -/
/-- a pair of numbers in a tuple of its own -/
structure Pt where
  a : Int
  b : Int
instance : Rp Pt := ⟨fun _ H v p => ∃ t, v = .ref t ∧ H t = some (.tup [.int p.a, .int p.b]), fun {K H H' v p} e h => by
  obtain ⟨t, h1, h2⟩ := h; exact ⟨t, h1, e _ _ (.tup _) h2⟩⟩
def insP (x : Int × Int) : List (Int × Int) → List (Int × Int)
  | [] => [x]
  | y :: r => if SrtO.lexB y x = true then y :: insP x r else x :: y :: r
def srtP : List (Int × Int) → List (Int × Int)
  | [] => []
  | x :: r => insP x (srtP r)
theorem insP_perm (x : Int × Int) : ∀ l : List (Int × Int), (insP x l).Perm (x :: l)
  | [] => .refl _
  | y :: r => by
    unfold insP
    split
    · exact ((insP_perm x r).cons y).trans (.swap ..)
    · exact .refl _
theorem srtP_perm : ∀ l : List (Int × Int), (srtP l).Perm l
  | [] => .refl _
  | x :: r => (insP_perm x (srtP r)).trans ((srtP_perm r).cons x)
abbrev SoP (l : List (Int × Int)) : Prop := l.Pairwise fun x y => SrtO.lexB y x = false
theorem insP_sorted (x : Int × Int) : ∀ {l : List (Int × Int)}, SoP l → SoP (insP x l)
  | [], _ => List.pairwise_singleton _ _
  | y :: r, h => by
    obtain ⟨h1, h2⟩ := List.pairwise_cons.mp h
    unfold insP
    split
    · rename_i c
      refine List.pairwise_cons.mpr ⟨fun z hz => ?_, insP_sorted x h2⟩
      rcases List.mem_cons.mp ((insP_perm x r).mem_iff.mp hz) with e | hz
      · subst e
        have a := SrtO.lexB_iff.mp c
        exact SrtO.lexB_no.mpr (by omega)
      · exact h1 z hz
    · rename_i c
      refine List.pairwise_cons.mpr ⟨fun z hz => ?_, h⟩
      have c' : SrtO.lexB y x = false := by simpa using c
      rcases List.mem_cons.mp hz with e | hz
      · subst e; exact c'
      · have a := SrtO.lexB_no.mp c'
        have b := SrtO.lexB_no.mp (h1 z hz)
        exact SrtO.lexB_no.mpr (by omega)
theorem srtP_sorted : ∀ l : List (Int × Int), SoP (srtP l)
  | [] => .nil
  | x :: r => insP_sorted x (srtP_sorted r)
theorem soP_uniq : ∀ {l r : List (Int × Int)}, l.Perm r → SoP l → SoP r → l = r
  | [], r, h, _, _ => (List.Perm.nil_eq h)
  | x :: l, [], h, _, _ => absurd h.length_eq (by simp)
  | x :: l, y :: r, h, h1, h2 => by
    obtain ⟨a1, a2⟩ := List.pairwise_cons.mp h1
    obtain ⟨b1, b2⟩ := List.pairwise_cons.mp h2
    have e : x = y := by
      have m1 : x ∈ y :: r := h.mem_iff.mp (List.mem_cons_self ..)
      have m2 : y ∈ x :: l := h.mem_iff.mpr (List.mem_cons_self ..)
      rcases List.mem_cons.mp m1 with m | m
      · exact m
      · rcases List.mem_cons.mp m2 with n | n
        · exact n.symm
        · have p := SrtO.lexB_no.mp (a1 y n)
          have q := SrtO.lexB_no.mp (b1 x m)
          exact Prod.ext (by omega) (by omega)
    subst e
    rw [soP_uniq (List.Perm.cons_inv h) a2 b2]
def kP (H : Hp) (v : V) : Int × Int := match v with
  | .ref t => match H t with
    | some (.tup [.int i, .int j]) => (i, j)
    | _ => (0, 0)
  | _ => (0, 0)
theorem kP_at {H : Hp} {t : Addr} {i j : Int} (h : H t = some (.tup [.int i, .int j])) : kP H (.ref t) = (i, j) := by
  show (match H t with | some (.tup [.int i, .int j]) => (i, j) | _ => (0, 0)) = _
  rw [h]
section
variable {K : Fg} {σ : L2.St} {H H' H1 : Hp} {p : Addr} {ta tb tc te : TE} {tt : TT} {α β : Type} [Rp α] [Rp β] {x : α} {v u : V} {i j : Int} {b : Bool}
theorem er_ptup (h1 : Er K ta σ H i) (h2 : Er K tb σ H j) : Er K (tTup (tCons ta (tCons tb tNil))) σ H (Pt.mk i j) := fun H1 e Q q =>
  h1 H1 e _ fun v H2 e2 r2 => h2 H2 (e.trans e2) _ fun u H3 e3 r3 => ⟨by show 2 ≤ sizeLine; decide, fun p hp => by
    cases (show v = .int i from r2); cases (show u = .int j from r3)
    exact q (.ref p) _ ((e2.trans e3).trans (same_new hp)) ⟨p, rfl, upd_same⟩⟩
theorem pt_k : ∀ {vs : List V} {l : List Pt}, RL K H vs l → vs.map (kP H) = l.map fun p => (p.a, p.b)
  | _, _, .nil => rfl
  | _, _, .cons h r => by
    obtain ⟨t, rfl, ht⟩ := h
    rw [List.map_cons, List.map_cons, kP_at ht, pt_k r]
theorem pt_all : ∀ {vs : List V} {l : List Pt}, RL K H vs l → ∀ x ∈ vs, ∃ t, x = V.ref t ∧ H t = some (.tup [.int (kP H x).1, .int (kP H x).2])
  | _, _, .nil, _, h => by cases h
  | _, _, .cons h r, x, hx => by
    rcases List.mem_cons.mp hx with e | hx
    · subst e
      obtain ⟨t, rfl, ht⟩ := h
      exact ⟨t, rfl, by rw [kP_at ht]; exact ht⟩
    · exact pt_all r x hx
theorem rl_pt : ∀ {ys : List V}, (∀ x ∈ ys, ∃ t, x = V.ref t ∧ H t = some (.tup [.int (kP H x).1, .int (kP H x).2])) → RL K H ys (ys.map (kP H))
  | [], _ => .nil
  | y :: ys, h => .cons (by
      obtain ⟨t, e, ht⟩ := h y (List.mem_cons_self ..)
      exact ⟨t, _, _, e, sq_tup ht, rfl, rfl⟩) (rl_pt fun x hx => h x (List.mem_cons_of_mem _ hx))
theorem erl_sortedP {l : List Pt} (h : Er K ta σ H l) : ErL K (tCB (rSortedPO K) (tCons ta tNil)) σ H (srtP (l.map fun p => (p.a, p.b))) := erl_cb1 h fun H v r Q q => by
  obtain ⟨a, vs, rfl, h2, h3⟩ := r
  have ha := pt_all h3
  refine ⟨a, vs, kP H, rfl, h2.seq, ha, fun ys p hs hst hn => q p ys _ (same_new hn) hn upd_same ?_⟩
  have hy : ∀ x ∈ ys, ∃ t, x = V.ref t ∧ H t = some (.tup [.int (kP H x).1, .int (kP H x).2]) := fun x hx => ha x (hst.perm.mem_iff.mp hx)
  have e : srtP (l.map fun p => (p.a, p.b)) = ys.map (kP H) := by
    refine (soP_uniq ?_ ?_ (srtP_sorted _)).symm
    · exact ((hst.perm.map (kP H)).trans (by rw [pt_k h3])).trans (srtP_perm _).symm
    · exact List.pairwise_map.mpr hs
  rw [e]
  exact (rl_pt hy).mono (SF.new hn)
/-! ### lists not locked, read -/
theorem er_lastU {k : Nat} {l : List α} {x : α} (hσ : σ[k]? = some (some (.ref p))) (hu : Un K H p l) (hi : Er K tb σ H (-1 : Int)) (hx : l.getLast? = some x) : Er K (tOp (rIxL K) (tVar k) tb) σ H x := fun H1 e Q q => by
  obtain ⟨vs, hp, r⟩ := hu
  refine ⟨.ref p, hσ, hi H1 e _ fun u H2 e2 r2 => ?_⟩
  cases (show u = .int (-1) from r2)
  have hn : 0 < l.length := by cases l with
    | nil => cases hx
    | cons _ _ => exact Nat.succ_pos _
  rw [List.getLast?_eq_getElem?] at hx
  obtain ⟨w, hw, rw'⟩ := paired_get r hx
  have hl := paired_len r
  refine ⟨p, vs, -1, w, rfl, rfl, sq_lst ((e.trans e2) _ _ hp), ?_, q w H2 e2 (Rp.mono (SF.of (e.trans e2)) rw')⟩
  unfold atI ixN
  rw [if_neg (by decide), if_pos (by omega)]
  show vs[((-1 : Int) + (vs.length : Int)).toNat]? = some w
  rw [show ((-1 : Int) + (vs.length : Int)).toNat = l.length - 1 by omega]
  exact hw
theorem un_dp [Rq α] {l : List α} (h : Un K H p l) : Dp K H (.ref p) (.list (l.map Rq.toD)) := by
  obtain ⟨vs, h1, r⟩ := h
  exact .lst (sq_lst h1) (dp_all r)
theorem er_eqU {k : Nat} [Rq α] [Rt α] [DecidableEq α] {l m : List α} (hσ : σ[k]? = some (some (.ref p))) (hu : Un K H p l) (h : Er K tb σ H m) (hd : Rq.dep (List α) ≤ 64 := by decide) : Er K (tOp (rEqD K) (tVar k) tb) σ H (decide (l = m)) := fun H1 e Q q =>
  ⟨.ref p, hσ, h H1 e _ fun u H2 e2 r2 => ⟨_, _, un_dp (Un.mono (e.trans e2) hu), Rq.dp r2, shaped_of (α := List α) (Rt.all l) hd, shaped_of (α := List α) (Rt.all m) hd, by rw [show PyData.list (l.map Rq.toD) = Rq.toD l from rfl, eqv_dec]; exact q _ H2 e2 rfl⟩⟩
theorem src_range1I (h : Er K te σ H i) (hz : -1000000 ≤ i ∧ i ≤ 1000000) : Src K (iRng1 (tCons te tNil)) σ H (List.range i.toNat) := fun H1 e RR k => h H1 e _ fun v H2 e2 r => by
  cases (show v = .int i from r)
  refine ⟨i, rfl, by omega, by omega, k _ H2 (fun _ => True) (YFn fun j => .int (0 + j)) e2 ?_ (fun _ _ => trivial) fun j x hx H' s v H'' y => ?_⟩
  · rw [List.length_range]; exact walk_range
  · obtain ⟨rfl, rfl⟩ := y
    have hi : j < i.toNat := by
      have := (List.getElem?_eq_some_iff.mp hx).1
      rwa [List.length_range] at this
    rw [List.getElem?_range hi] at hx
    cases hx
    exact ⟨Same.refl _, by show V.int _ = V.int _; rw [Int.zero_add]⟩
/-! ### len(set(numbers)) -/
theorem er_lenSet {l : List Int} (h : Er K ta σ H l) (hn : l.Nodup) (hl : l.length < 64) : Er K (tLenSetI K ta) σ H l.length := fun H1 e Q q => h H1 e _ fun v H2 e2 r => by
  obtain ⟨a, vs, rfl, f, r⟩ := r
  have h2 := rl_ints r
  subst h2
  exact ⟨a, l, rfl, f.seq, hl, hn, q _ H2 e2 rfl⟩
/-! ### while, with what falls -/
variable {D : Ends} {tu tz : TS}
theorem s_whileN (Pv : Nat → L2.St → Hp → Prop) (n : Nat) (h0 : Pv n σ H)
    (hs : ∀ m σ' H', Pv m σ' H' → ∃ b, Et K tt σ' H' b ∧ (b = true → ∀ H1, Same H' H1 → tu { D with nx := fun σ2 H2 => ∃ m', m' < m ∧ Pv m' σ2 H2, ct := fun σ2 H2 => ∃ m', m' < m ∧ Pv m' σ2 H2, bk := D.nx } σ' H1) ∧ (b = false → ∀ H1, Same H' H1 → D.nx σ' H1)) : tWhile tt tu D σ H := by
  refine ⟨Pv, ⟨n, h0⟩, ?_⟩
  rintro m σ' H' p
  obtain ⟨b, hb, h1, h2⟩ := hs m σ' H' p
  refine hb H' (Same.refl _) _ fun H2 e => ?_
  cases b with
  | true => exact ⟨_, fun σ2 H2 ⟨m', l, p'⟩ => ⟨m', l, p'⟩, h1 rfl H2 e⟩
  | false => exact h2 rfl H2 e
theorem q_whileN (Pv : Nat → L2.St → Hp → Prop) (n : Nat) (h0 : Pv n σ H)
    (hs : ∀ m σ' H', Pv m σ' H' → ∃ b, Et K tt σ' H' b ∧ (b = true → ∀ H1, Same H' H1 → tu { D with nx := fun σ2 H2 => ∃ m', m' < m ∧ Pv m' σ2 H2, ct := fun σ2 H2 => ∃ m', m' < m ∧ Pv m' σ2 H2, bk := tz D } σ' H1) ∧ (b = false → ∀ H1, Same H' H1 → tz D σ' H1)) : tSeq (tWhile tt tu) tz D σ H :=
  s_whileN (D := { D with nx := tz D }) Pv n h0 hs
end
section
variable {X : Cx} (K : Fg) (h : X.K = K)
include h
theorem k_sortedP : CallR X (.builtin "sorted") (rSortedPO K) := by subst h; exact cr_sortedPO
theorem k_lenSet {a : Expr} {ta : TE} {p p2 q pos : Pos} (hc : X.calm = true) (hg : Gl X "len") (hm : X.mg "len" = none) (hg2 : Gl X "set") (hm2 : X.mg "set" = none) (ha : PE X a ta)
    (na : starEach [a] X.env = (false, eval a X.env) :: starEach [] X.env := by rfl) : PE X (.Call (.Name "len" p) [.Call (.Name "set" p2) [a] [] q] [] pos) (tLenSetI K ta) := by subst h; exact pe_lenSetI hc hg hm hg2 hm2 ha na
end
end BL

set_option Elab.async false
set_option linter.all false
set_option maxRecDepth 100000
set_option maxHeartbeats 2000000
namespace BL
open PySem PySem.Spec PyProof.Rows L2
section
variable {K : Fg} {σ : L2.St} {H H' H1 : Hp} {pd pn : Addr} {ta tb tc te : TE} {tt : TT} {α β γ δ : Type} [Rp α] [Rp β] [Rp γ] [Rp δ] {x : α} {v u : V} {i j : Int} {b : Bool} {wi : TI} {g : TG}
/-! ### a comprehension that draws -/
theorem epl_lm {l : List α} {vs : List Nat} {P : α → β → Prop} (hs : ∀ H1, DM pd pn H H1 → Src K wi σ H1 l) (hz : l.length ≤ 1000000)
    (turn : ∀ x, x ∈ l → ∀ v H1, DM pd pn H H1 → Rp.rep K H1 v x → ∃ σ2, (∀ Q : L2.St → Hp → Prop, Q σ2 H1 → g v (wipe σ vs) H1 Q) ∧ wipe σ2 vs = wipe σ vs ∧ Ep K pd pn te σ2 H1 (P x)) :
    EpL K pd pn (tLc wi g tYes te vs) σ H (fun out => Paired P l out) := fun H1 m dr Q q => hs H1 m H1 (Same.refl _) _ fun J H2 G Y e2 w hG hY D hD => by
  have d2 := dr.mono e2
  have n1 : D ≠ pd := (d2.pd_ne hD).symm
  have n2 : D ≠ pn := (d2.pn_ne hD).symm
  refine lc_it w (fun k H' => DM pd pn H2 H' ∧ Dr H' pd pn ∧ ∃ us out, H' D = some (.lst us) ∧ RL K H' us out ∧ Paired P (l.take k) out) ⟨DM.of (same_new hD), d2.mono (same_new hD), [], [], upd_same, .nil, .nil⟩ (fun k H' _ p => hG H' p.1.sf) (fun k v H' H'' hk p y => ?_) fun H' p => ?_
  · obtain ⟨p1, p2, us, out, p3, p4, p5⟩ := p
    have hx : l[k]? = some l[k] := List.getElem?_eq_getElem hk
    obtain ⟨s, r⟩ := hY k _ hx H' p1.sf v H'' y
    obtain ⟨σ2, hg, hw, he⟩ := turn l[k] (List.mem_of_getElem? hx) v H'' (m.trans ((DM.of e2).trans (p1.trans (DM.of s)))) r
    refine hg _ ⟨hw, et_yes (K := K) H'' (Same.refl _) _ fun H3 e3 => iteT ?_⟩
    refine he H3 (DM.of e3) ((p2.mono s).mono e3) _ fun w' H4 z m4 d4 hz4 r4 => ?_
    have hD3 : H3 D = some (.lst us) := (s.trans e3) _ _ p3
    have hD4 : H4 D = some (.lst us) := m4.ne _ _ n1 n2 hD3
    have htake : l.take (k + 1) = l.take k ++ [l[k]] := by rw [List.take_add_one, hx]; rfl
    have hlen : us.length ≤ l.length := by
      rw [paired_len p4, ← paired_len p5, List.length_take]; exact Nat.min_le_right _ _
    have mm : DM pd pn H2 H4 := p1.trans ((DM.of (s.trans e3)).trans m4)
    refine ⟨us, hD4, Nat.lt_of_le_of_lt (Nat.le_trans hlen hz) (by decide), ⟨sf_mut mm.sf hD, fun q o a b e => by rw [upd_ne (ne_of_none e hD)]; exact mm.ne q o a b e⟩, ?_, us ++ [w'], out ++ [z], upd_same, ?_, ?_⟩
    · obtain ⟨ns, kk, g1, g2, g3⟩ := d4
      exact ⟨ns, kk, upd_get g1 n1.symm, upd_get g2 n2.symm, g3⟩
    · exact RL.mono (SF.lst hD4) (paired_app (p4.mono ((SF.of (s.trans e3)).trans m4.sf)) (.cons r4 .nil))
    · rw [htake]; exact paired_app p5 (.cons hz4 .nil)
  · obtain ⟨p1, p2, us, out, p3, p4, p5⟩ := p
    rw [List.take_length] at p5
    exact q D us H' out ((DM.of e2).trans p1) p2 p5 (e2.free hD) p3 p4
theorem epl_lm1 {l : List α} {vs : List Nat} {k : Nat} {P : α → β → Prop} (hs : ∀ H1, DM pd pn H H1 → Src K wi σ H1 l) (hz : l.length ≤ 1000000) (hw : ∀ v : V, wipe ((wipe σ vs).set k (some v)) vs = wipe σ vs)
    (turn : ∀ x, x ∈ l → ∀ v H1, DM pd pn H H1 → Rp.rep K H1 v x → Ep K pd pn te ((wipe σ vs).set k (some v)) H1 (P x)) :
    EpL K pd pn (tLc wi (gName k) tYes te vs) σ H (fun out => Paired P l out) := epl_lm hs hz fun x hx v H1 e r => ⟨_, fun Q q => q, hw v, turn x hx v H1 e r⟩
theorem DM.mu_new {p : Addr} {H2 : Hp} (m : DM pd pn H H1) (h : H p = none) (mu : Mu p H1 H2) : DM pd pn H H2 := ⟨m.sf.trans mu.sf, fun q o a b e => mu.ne q o (ne_of_none e h) (m.ne q o a b e)⟩
theorem q_setLP {D : Ends} {tz : TS} {k : Nat} {P : List α → Prop} (dr : Dr H pd pn) (h : EpL K pd pn te σ H P) (q : ∀ v H1 l, DM pd pn H H1 → Dr H1 pd pn → P l → Rp.rep K H1 v l → tz D (σ.set k (some v)) H1)
    (hσ : ∀ p : Addr, (σ.set k (some (.ref p)))[k]? = some (some (.ref p)) := by intros; rfl) : tSeq (tAsg te (gName k)) (tFzS k tz) D σ H := h H (DM.refl _) dr _ fun p vs H1 l m d hP hn h1 r =>
  q_frz (hσ p) (Un.of h1 r) fun H2 mu r2 => q (.ref p) H2 l (m.mu_new hn mu) (d.of_mu mu (dr.pd_ne hn) (dr.pn_ne hn)) hP r2
/-! ### a number in a pair -/
theorem rr_inP {n : Bool} {p : Int × Int} : R2r K (rIn K n) i p (neg n (decide (i ∈ [p.1, p.2]))) := fun H v u e1 e2 Q q => by
  obtain ⟨a, v1, v2, rfl, h2, h3, h4⟩ := e2
  cases (show v = .int i from e1)
  cases (show v1 = .int p.1 from h3)
  cases (show v2 = .int p.2 from h4)
  exact ⟨a, _, rfl, .inr h2, rfl, flat_ints [p.1, p.2], by rw [show [V.int p.1, V.int p.2] = [p.1, p.2].map V.int from rfl, inV_int]; exact q _ H (Same.refl _) (by cases n <;> rfl)⟩
/-! ### a part of the law that is handed the draws: it answers True -/
def ansT (pd pn : Addr) (H : Hp) (Q : VK) : Prop := ∀ H', DM pd pn H H' → Dr H' pd pn → Q (.bl true) H'
def st1 (K : Fg) (pre : α → Prop) : Sp := fun vs H Q _ => ∃ pd pn v0 x0, vs = [.ref pd, v0] ∧ Dr H pd pn ∧ Rp.rep K H v0 x0 ∧ pre x0 ∧ ansT pd pn H Q
def st2 (K : Fg) (pre : α → β → Prop) : Sp := fun vs H Q _ => ∃ pd pn v0 v1 x0 x1, vs = [.ref pd, v0, v1] ∧ Dr H pd pn ∧ Rp.rep K H v0 x0 ∧ Rp.rep K H v1 x1 ∧ pre x0 x1 ∧ ansT pd pn H Q
def st3 (K : Fg) (pre : α → β → γ → Prop) : Sp := fun vs H Q _ => ∃ pd pn v0 v1 v2 x0 x1 x2, vs = [.ref pd, v0, v1, v2] ∧ Dr H pd pn ∧ Rp.rep K H v0 x0 ∧ Rp.rep K H v1 x1 ∧ Rp.rep K H v2 x2 ∧ pre x0 x1 x2 ∧ ansT pd pn H Q
theorem s_trueD {D : Ends} (h : Er K te σ H b) (hb : b = true) (hQ : ∀ H', Same H H' → D.rt (.bl true) H') : tRet te D σ H := h H (Same.refl _) _ fun v H1 e r => by
  cases (show v = .bl b from r); rw [hb]; exact hQ H1 e
/-- return part(draws, ..): True, too -/
theorem s_ret_st3 {D : Ends} {E : XK} {pre : α → β → γ → Prop} {x : α} {y : β} {z : γ} {k : Nat} (hσ : σ[k]? = some (some (.ref pd))) (dr : Dr H pd pn) (h1 : Er K ta σ H x) (h2 : Er K tb σ H y) (h3 : Er K tc σ H z) (hp : pre x y z) (hQ : ∀ H', DM pd pn H H' → Dr H' pd pn → D.rt (.bl true) H') :
    tRet (tCall (st3 K pre) [] E (tCons (tVar k) (tCons ta (tCons tb (tCons tc tNil))))) D σ H :=
  ⟨.ref pd, hσ, h1 H (Same.refl _) _ fun v0 H1 e1 r0 => h2 H1 e1 _ fun v1 H2 e2 r1 => h3 H2 (e1.trans e2) _ fun v2 H3 e3 r2 =>
    ⟨pd, pn, v0, v1, v2, x, y, z, rfl, dr.mono ((e1.trans e2).trans e3), Rp.mono (SF.of (e2.trans e3)) r0, Rp.mono (SF.of e3) r1, r2, hp, fun H' m d => hQ H' ((DM.of ((e1.trans e2).trans e3)).trans m) d⟩⟩
theorem len_st3 {pre : α → β → γ → Prop} : ∀ vs H Q E, st3 K pre vs H Q E → vs.length = 4 := fun vs H Q E h => by obtain ⟨_, _, _, _, _, _, _, _, rfl, _⟩ := h; rfl
theorem len_st2 {pre : α → β → Prop} : ∀ vs H Q E, st2 K pre vs H Q E → vs.length = 3 := fun vs H Q E h => by obtain ⟨_, _, _, _, _, _, rfl, _⟩ := h; rfl
theorem len_st1 {pre : α → Prop} : ∀ vs H Q E, st1 K pre vs H Q E → vs.length = 2 := fun vs H Q E h => by obtain ⟨_, _, _, _, rfl, _⟩ := h; rfl
end
end BL

set_option Elab.async false
set_option linter.all false
set_option maxRecDepth 100000
set_option maxHeartbeats 2000000
namespace BL
open PySem PySem.Spec PyProof.Rows L2
/-! ### a caught error that outlives its suite: told by its class alone -/
def ExT (cls : Value) (a : Addr) : HO := .ext fun h => ∃ (oe : Obj) (vs : Array Value), h.get? a = some oe ∧ Zc cls none oe ∧ oe.data = .fields vs
theorem exT_ok {P : Program} {w : World} {H : Hp} {h : Heap} {a : Addr} {cls : Value} {oe : Obj} (e : h.get? a = some oe) (z : Zc cls none oe) (d : ∃ vs, oe.data = .fields vs) : ObjOk P w H h a (ExT cls a) :=
  ⟨by obtain ⟨vs, d⟩ := d; exact ⟨oe, vs, e, z, d⟩, ⟨oe, e⟩, fun _ _ ⟨o, v, q1, q2, q3⟩ up => ⟨o, v, up o q1, q2, q3⟩⟩
section
variable {X : Cx} {pins : List (Addr × Obj)} {σ : L2.St} {H : Hp} {s : Shared}
/-- a pinned thing that is new since the entry is tracked from here on -/
theorem inv_track {a : Addr} {o : Obj} {u : HO} (I : Inv X ((a, o) :: pins) σ H s) (new0 : X.s_0.heap.get? a = none) (apart : ∀ p ∈ X.pn ++ pins, p.1 ≠ a) (ok : ObjOk X.prog X.w (upd H a u) s.heap a u) : Inv X pins σ (upd H a u) s := by
  have sub : ∀ p ∈ X.pn ++ pins, p ∈ X.pn ++ (a, o) :: pins := fun p hp => by
    rcases List.mem_append.mp hp with h | h
    · exact List.mem_append_left _ h
    · exact List.mem_append_right _ (List.mem_cons_of_mem _ h)
  obtain ⟨ea, na, nL, nF, nc⟩ := I.pin (a, o) (List.mem_append_right _ List.mem_cons_self)
  have cne : ∀ x c, X.env.cells.lookup x = some c → c ≠ a := fun x c e z => by
    obtain ⟨v, q, q1, q2⟩ := I.cell x c e
    rw [z, ea] at q1
    cases q1
    exact nc _ q2
  have B := I.base
  refine ⟨I.ok, I.os, I.bare, ⟨B.keep, B.slot, ?_, B.there, ?_, ?_, ?_⟩, I.loc, I.cell, ?_, ?_, ?_, I.hok.laidN (fun _ _ q => q) na ok, I.len⟩
  · intro b q e n hx
    rw [upd_ne (by rintro rfl; rw [new0] at e; cases e)]
    exact B.free b q e n hx
  · intro b xs e
    have q := B.tups b xs e
    rw [upd_ne (ne_of_none q na)]; exact q
  · intro b z v e
    have q := B.frzs b z v e
    rw [upd_ne (ne_of_none q na)]; exact q
  · intro b ps e
    obtain ⟨m, q⟩ := B.tbls b ps e
    exact ⟨m, by rw [upd_ne (ne_of_none q na)]; exact q⟩
  · rw [upd_ne nL.symm]; exact I.free
  · intro x c e
    rw [upd_ne (cne x c e)]; exact I.freeC x c e
  · intro p hp
    obtain ⟨q1, q2, q3⟩ := I.pin p (sub p hp)
    exact ⟨q1, by rw [upd_ne (apart p hp)]; exact q2, q3⟩
/-- the suite's pin is kept while the suite is left -/
theorem inv_leave {a : Addr} {o : Obj} {p' : List (Addr × Obj)} (I : Inv (X.suite a ((a, o) :: (X.pn ++ pins))) p' σ H s) (ok : X.Ok) : Inv X ((a, o) :: pins) σ H s :=
  { ok := ok, os := I.os, bare := I.bare, base := I.base, loc := I.loc, cell := I.cell, free := I.free, freeC := I.freeC, hok := I.hok, len := I.len
    pin := fun p hp => I.pin p (List.mem_append_left _ (by
      rcases List.mem_append.mp hp with h | h
      · exact List.mem_cons_of_mem _ (List.mem_append_left _ h)
      · rcases List.mem_cons.mp h with h | h
        · rw [h]; exact List.mem_cons_self
        · exact List.mem_cons_of_mem _ (List.mem_append_right _ h))) }
end
/-- what 'except x as n' wishes when the error stays known behind the suite; the clause names a class that every error here has -/
def wKept (K : Fg) (c : Value) (i : Nat) (ts : Addr → Value → TS) (D : Ends) : WX := fun cls d σ H =>
  d = none ∧ PySem.W.exmOne K cls c = some true ∧ ∀ a, H a = none → ts a cls { nx := fun σ' H' => H' a = none → D.nx (σ'.set i none) (upd H' a (ExT cls a)), rt := fun _ _ => False, bk := fun _ _ => False, ct := fun _ _ => False } (σ.set i (some (.ref a))) H
def tTryK (K : Fg) (c : Value) (i : Nat) (ts : Addr → Value → TS) (tb : WX → TS) : TS := fun D σ H => tb (wKept K c i ts D) D σ H
section
variable {X : Cx} {x n : Str} {c : Value} {i : Nat} {body suite : List Stmt} {b0 : Stmt} {np pos pos' : Pos} {tb : WX → TS} {ts : Addr → Value → TS}
theorem ps_try_kept (hst : X.stack = X.env :: X.outer) (hfl : X.env.frame = some X.env.locals) (hN : X.N.Nodup) (hi : X.N[i]? = some n) (hk : X.env.kindOf n = some .local) (hc : Names X x c) (hex : X.ex = [])
    (hb : ∀ (W : WX) (pn : List (Addr × Obj)) (xe : Value → Shared → Prop), Takes (X.tr pn xe) W → PassesOwn (model X.prog X.w) X.A X.env xe → PSs (X.tr pn xe) body (tb W))
    (hsu : ∀ (a : Addr) (oe : Obj) (cls : Value) (pn : List (Addr × Obj)), Zc cls none oe → PSs (X.suite a ((a, oe) :: pn)) (b0 :: suite) (ts a cls)) :
    PS X (.Try body [.ExceptHandler (some (.Name x np)) (some n) (b0 :: suite) pos'] [] [] pos) (tTryK X.K c i ts tb) := by
  constructor
  intro pins s σ H D I reading
  have OK := I.ok
  have around : X.A.frames = some (X.env :: X.outer) := OK.frames.trans (congrArg some hst)
  refine wpAny_Try_except (wpAny_mono (PSs.run (hb (wKept X.K c i ts D) (X.pn ++ pins) (fun e s1 => wpAny (model X.prog X.w) X.A (noteFrame e X.env)
      (fun _ s2 => wpAny (model X.prog X.w) X.A (setFlight e none) (fun _ s3 => wpAny (model X.prog X.w) X.A (handleBy e X.env [.ExceptHandler (some (.Name x np)) (some n) (b0 :: suite) pos'])
        (SP X pins D) X.xe s3) X.xe s2) X.xe s1) ?_ PassesOwn.looking) [] s σ H D (I.toTry _) reading) ?_ fun _ _ he => he)
  · rintro u s' ⟨a, B, g, pins', σ', H', cls, d, rfl, J', nb, up, sky, na, os, ag, hd0, hm, hsuite⟩
    subst hd0
    have J : Inv X pins σ' H' g := J'.ofTry OK
    show wpAny (model X.prog X.w) X.A (noteFrame (.ref a) X.env) _ _ _
    refine Sky.land Zc.steady around hfl (hst ▸ sky) fun h1 f1 u1 => ?_
    have J1 : Inv X pins σ' H' { s' with heap := h1 } := J.landed nb f1.1 (up.trans u1) os ag
    obtain ⟨o1, v1, e1, z1, d1⟩ := f1.there
    have away : a ∉ frs (X.env :: X.outer) := fun hm => by
      obtain ⟨_, o', q1, q2⟩ := f1.2.2.1.mem hm
      rw [e1] at q1
      cases q1
      exact q2 _ d1
    have nL : a ≠ X.env.locals := fun z => away (List.mem_filterMap.mpr ⟨_, List.mem_cons_self, hfl.trans (congrArg some z.symm)⟩)
    have nF : a ∉ X.fs := fun hm => by
      obtain ⟨q, q1, q2⟩ := List.mem_filterMap.mp hm
      exact away (List.mem_filterMap.mpr ⟨q, List.mem_cons_of_mem _ q1, q2⟩)
    have newG : g.heap.get? a = none := by
      cases q : g.heap.get? a with
      | none => rfl
      | some o => have := nb a o q (hst ▸ away); rw [f1.2.1] at this; cases this
    have new0 : X.s_0.heap.get? a = none := by
      cases q : X.s_0.heap.get? a with
      | none => rfl
      | some o =>
        obtain ⟨o', q'⟩ := J.base.there a o q (by rw [hex]; exact List.not_mem_nil)
        rw [newG] at q'; cases q'
    have apart : ∀ p ∈ X.pn ++ pins, p.1 ≠ a := fun p hp z => by
      have q := (J.pin p hp).1
      rw [z, newG] at q; cases q
    refine wpAny_handleBy_cons (codeAny_handlers_test ?_) (by intro q; cases q)
    have look : PySem.W.Looks (model X.prog X.w) h1 (typeOf (.ref a)) cls := fun A Q E s k q => wpAny_typeOf_ref (k _ _ e1) (by rw [z1.1]; exact q)
    have hit := PySem.W.exm_one (M := model X.prog X.w) J1.kIn look hm
    have S1 := J1.suite e1 d1 na nL nF
    have named : ∀ {Q : Value → Shared → Prop} {E : Value → Shared → Prop}, Q c { s' with heap := h1 } → wpAny (model X.prog X.w) (X.A.mark (some (.ref a))) (eval (.Name x np) X.env) Q E { s' with heap := h1 } := fun {Q E} q => by
      obtain ⟨g1, g2, g3 | ⟨g3, g4, g5⟩⟩ := hc
      · exact ld_glob (X := X.suite a ((a, o1) :: (X.pn ++ pins))) S1 g1 g3 q g2
      · exact ld_blt (X := X.suite a ((a, o1) :: (X.pn ++ pins))) S1 g1 g3 g4 q g5 g2
    refine named (hit.here (codeAny_handlers_suite_as ?_))
    refine HandSPX.lands_againZ f1 fun h2 f2 u2 => ?_
    obtain ⟨o2, v2, e2, z2, d2⟩ := f2.there
    have S2 := (J.landed nb f2.1 ((up.trans u1).trans u2) os ag : Inv X pins σ' H' { s' with heap := h2 }).suite e2 d2 na nL nF
    refine store_ok (X := X.suite a ((a, o2) :: (X.pn ++ pins))) (v := .ref a) S2 hN hi (.inl hk) rfl (fun s5 S5 => ?_) (.inr hk)
    refine wpAny_mono ((hsu a o2 cls (X.pn ++ pins) z2).run [] s5 _ H' _ S5 (hsuite a na)) (fun f s6 hsp => ?_) (fun _ _ z => z.elim)
    cases f with
    | next =>
      obtain ⟨σ6, H6, S6, q6⟩ := hsp
      have q7 := q6 (S6.pin (a, o2) (List.mem_append_left _ List.mem_cons_self)).2.1
      refine gone_ok (inv_leave S6 OK) hN hi hk fun s7 J7 => ⟨_, _, inv_track J7 new0 apart (exT_ok (J7.pin (a, o2) (List.mem_append_right _ List.mem_cons_self)).1 z2 ⟨_, d2⟩), q7⟩
    | brk => obtain ⟨_, _, _, q6⟩ := hsp; exact q6.elim
    | cont => obtain ⟨_, _, _, q6⟩ := hsp; exact q6.elim
    | ret u => obtain ⟨_, _, _, _, _, q6⟩ := hsp; exact q6.elim
  · intro f s1 hsp
    cases f with
    | next => obtain ⟨σ', H', J', q⟩ := hsp; exact wpAny_execs_nil ⟨σ', H', J'.ofTry OK, q⟩
    | brk => obtain ⟨σ', H', J', q⟩ := hsp; exact ⟨σ', H', J'.ofTry OK, q⟩
    | cont => obtain ⟨σ', H', J', q⟩ := hsp; exact ⟨σ', H', J'.ofTry OK, q⟩
    | ret u => obtain ⟨v, σ', H', J', r, q⟩ := hsp; exact ⟨v, σ', H', J'.ofTry OK, r, q⟩
end
/-! ### isinstance of an error that is held -/
def rIsX (K : Fg) : List V → Hp → VK → Prop := fun xs H Q => ∃ (a D : Addr) (c : V) (cv : Value) (b : Bool), xs = [.ref a, c] ∧ H a = some (ExT (.ref D) a) ∧ ExcC K D ∧ (∀ u, RelV c u → u = cv) ∧ PySem.W.kitOne K (.ref D) cv = some b ∧ Q (.bl b) H
theorem call_isX {X : Cx} : CallR X (.builtin "isinstance") (rIsX X.K) := by
  rintro pins s σ H xs us Q I r ⟨a, D, c, cv, b, rfl, ha, C, hcv, e, q⟩
  cases r with
  | cons r1 r2 =>
    cases r2 with
    | cons r3 r4 =>
      cases r4
      cases r1
      rw [hcv _ r3]
      obtain ⟨⟨oe, vs, h1, h2, h3⟩, _, _⟩ := I.hok a _ ha
      have J : PySem.W.InstAt s.heap a oe D none := by
        obtain ⟨oc, od, oda, osl⟩ := oe
        obtain ⟨z1, z2⟩ := h2
        dsimp only at z1 z2 h3
        subst z1 z2 h3
        exact ⟨h1, rfl, rfl, trivial⟩
      exact PySem.W.kia_one (PySem.W.handS_kitx_exc C.hg C.hk C.hs C.hd C.ha C.hn C.ht C.hm) I.kIn J e (fun z => nomatch z) fun tk => ⟨.bl b, H, I.kept (t' := tk) fun _ _ z => z, rfl, q⟩
/-! ### the program's errors, by their names -/
def errs : List Str := ["BadBounds", "BadNumber", "BadOrder", "BadText", "NotFound"]
def erC (K : Fg) (c : Str) : Value := .ref (He.ga K c)
def vmro : List Value := [.type "ValueError", .type "Exception", .type "BaseException", .type "object"]
structure ErrOk (K : Fg) (mg : Str → Option Value) (c : Str) : Prop where
  g : mg c = some (erC K c)
  x : PySem.W.excIn K (He.ga K c) vmro "ValueError.__new__" = true
  kp : PySem.W.keepIn K (erC K c) = true
  sb : PySem.W.subIn K (erC K c) (.type "BaseException") = some true
  tp : PySem.W.typeIn K (erC K c) = some (.type "type")
  ex : PySem.W.exmOne K (erC K c) (erC K "BoundError") = some true
  ec : ExcC K (He.ga K c)
  ks : ∀ d ∈ errs, PySem.W.kitOne K (erC K c) (erC K d) = some (decide (c = d))
  kb : PySem.W.kitOne K (erC K c) (erC K "BoundError") = some true
  kv : PySem.W.kitOne K (erC K c) (.type "ValueError") = some true
/-- the same, to be reckoned -/
def errB (K : Fg) (c : Str) : Bool := PySem.W.excIn K (He.ga K c) vmro "ValueError.__new__" && (PySem.W.keepIn K (erC K c) && (decide (PySem.W.subIn K (erC K c) (.type "BaseException") = some true) && (decide (PySem.W.typeIn K (erC K c) = some (.type "type")) &&
  (decide (PySem.W.exmOne K (erC K c) (erC K "BoundError") = some true) && (decide (PySem.W.findIn K (erC K c) "__getattribute__" = some (some (.builtin "BaseException.__getattribute__"))) && (decide (PySem.W.findIn K (erC K c) "__getattr__" = some none) && (PySem.W.hasDictIn K (He.ga K c) &&
  (decide (PySem.W.findIn K (erC K c) "__class__" = some (some (.builtin "object.__class__"))) && (decide (PySem.W.specialIn K (.builtin "object.__class__") "__get__" = some (some (.builtin "getset_descriptor.__get__"))) && (decide (PySem.W.takesIn K (.builtin "object.__class__") = some true) && (decide (PySem.W.mroIn K (He.ga K c) (.type "object") = some true) &&
  (errs.all (fun d => decide (PySem.W.kitOne K (erC K c) (erC K d) = some (decide (c = d)))) && (decide (PySem.W.kitOne K (erC K c) (erC K "BoundError") = some true) && decide (PySem.W.kitOne K (erC K c) (.type "ValueError") = some true))))))))))))))
theorem errB_ok {K : Fg} {mg : Str → Option Value} {c : Str} (g : mg c = some (erC K c)) (h : errB K c = true) : ErrOk K mg c := by
  unfold errB at h
  simp only [Bool.and_eq_true, decide_eq_true_eq, List.all_eq_true] at h
  obtain ⟨h1, h2, h3, h4, h5, h6, h7, h8, h9, h10, h11, h12, h13, h14, h15⟩ := h
  exact ⟨g, h1, h2, h3, h4, h5, ⟨h6, h7, h3, h8, h9, h10, h11, h12⟩, h13, h14, h15⟩
structure Errs (K : Fg) (mg : Str → Option Value) : Prop where
  e : ∀ c ∈ errs, ErrOk K mg c
  b : mg "BoundError" = some (erC K "BoundError")
/-- an error that is held, by its name -/
structure Xn where
  n : Str
  deriving DecidableEq
instance : Rp Xn := ⟨fun K H v x => ∃ a, v = .ref a ∧ H a = some (ExT (erC K x.n) a), fun {K H H' v x} e h => by
  obtain ⟨a, h1, h2⟩ := h; exact ⟨a, h1, e _ _ (.ext _) h2⟩⟩
instance : Nn Xn := ⟨fun h => by obtain ⟨_, rfl, _⟩ := h; exact V.noConfusion⟩
section
variable {K : Fg} {mg : Str → Option Value} {σ : L2.St} {H H' H1 : Hp} {ta tb tc te : TE} {tt : TT} {α β γ δ : Type} [Rp α] [Rp β] [Rp γ] [Rp δ] {x : α} {y : β} {z : γ} {v u : V} {i j : Int} {b : Bool} {W : WX}
/-! ### what may raise -/
def ExR (K : Fg) (W : WX) (te : TE) (σ : L2.St) (H : Hp) {α : Type} [Rp α] (r : Except Str α) : Prop := ∀ H1, Same H H1 → ∀ Q : VK,
  (∀ c, r = .error c → c ∈ errs → ∀ H2, Same H1 H2 → W (erC K c) none σ H2) → (∀ y, r = .ok y → ∀ v H2, Same H1 H2 → Rp.rep K H2 v y → Q v H2) → te σ H1 Q
def ExL (K : Fg) (W : WX) (te : TE) (σ : L2.St) (H : Hp) {α : Type} [Rp α] (r : Except Str (List α)) : Prop := ∀ H1, Same H H1 → ∀ Q : VK,
  (∀ c, r = .error c → c ∈ errs → ∀ H2, Same H1 H2 → W (erC K c) none σ H2) → (∀ y, r = .ok y → ∀ p vs H2, Same H1 H2 → H1 p = none → H2 p = some (.lst vs) → RL K H2 vs y → Q (.ref p) H2) → te σ H1 Q
def ansX (K : Fg) (r : Except Str β) (H : Hp) (Q : VK) (E : XK) : Prop := (∀ y, r = .ok y → ansV K y H Q) ∧ ∀ c, r = .error c → c ∈ errs → ∀ H', Same H H' → E (erC K c) none H'
def ansXL (K : Fg) (r : Except Str (List β)) (H : Hp) (Q : VK) (E : XK) : Prop := (∀ y, r = .ok y → ansL K y H Q) ∧ ∀ c, r = .error c → c ∈ errs → ∀ H', Same H H' → E (erC K c) none H'
def sx1 (K : Fg) (pre : α → Prop) (f : α → Except Str β) : Sp := fun vs H Q E => ∃ v x, vs = [v] ∧ Rp.rep K H v x ∧ pre x ∧ ansX K (f x) H Q E
def sx2 (K : Fg) (pre : α → β → Prop) (f : α → β → Except Str γ) : Sp := fun vs H Q E => ∃ v u x y, vs = [v, u] ∧ Rp.rep K H v x ∧ Rp.rep K H u y ∧ pre x y ∧ ansX K (f x y) H Q E
def sx3 (K : Fg) (pre : α → β → γ → Prop) (f : α → β → γ → Except Str δ) : Sp := fun vs H Q E => ∃ v u w x y z, vs = [v, u, w] ∧ Rp.rep K H v x ∧ Rp.rep K H u y ∧ Rp.rep K H w z ∧ pre x y z ∧ ansX K (f x y z) H Q E
def sxl1 (K : Fg) (pre : α → Prop) (f : α → Except Str (List β)) : Sp := fun vs H Q E => ∃ v x, vs = [v] ∧ Rp.rep K H v x ∧ pre x ∧ ansXL K (f x) H Q E
def sxl2 (K : Fg) (pre : α → β → Prop) (f : α → β → Except Str (List γ)) : Sp := fun vs H Q E => ∃ v u x y, vs = [v, u] ∧ Rp.rep K H v x ∧ Rp.rep K H u y ∧ pre x y ∧ ansXL K (f x y) H Q E
def sxl3 (K : Fg) (pre : α → β → γ → Prop) (f : α → β → γ → Except Str (List δ)) : Sp := fun vs H Q E => ∃ v u w x y z, vs = [v, u, w] ∧ Rp.rep K H v x ∧ Rp.rep K H u y ∧ Rp.rep K H w z ∧ pre x y z ∧ ansXL K (f x y z) H Q E
theorem ex_call1 {pre : α → Prop} {f : α → Except Str β} (h : Er K ta σ H x) (hp : pre x) : ExR K W (tCallS (sx1 K pre f) (WE W) (tCons ta tNil)) σ H (f x) := fun H1 e Q qe q =>
  h H1 e _ fun v H2 e2 r2 => ⟨v, x, rfl, r2, hp, fun y hy u H3 e3 r3 => q y hy u H3 (e2.trans e3) r3, fun c hc hm H3 e3 => qe c hc hm H3 (e2.trans e3)⟩
theorem ex_call2 {pre : α → β → Prop} {f : α → β → Except Str γ} (h : Er K ta σ H x) (h' : Er K tb σ H y) (hp : pre x y) : ExR K W (tCallS (sx2 K pre f) (WE W) (tCons ta (tCons tb tNil))) σ H (f x y) := fun H1 e Q qe q =>
  h H1 e _ fun v H2 e2 r2 => h' H2 (e.trans e2) _ fun u H3 e3 r3 => ⟨v, u, x, y, rfl, Rp.mono (SF.of e3) r2, r3, hp, fun y hy u H4 e4 r4 => q y hy u H4 ((e2.trans e3).trans e4) r4, fun c hc hm H4 e4 => qe c hc hm H4 ((e2.trans e3).trans e4)⟩
theorem ex_call3 {pre : α → β → γ → Prop} {f : α → β → γ → Except Str δ} (h : Er K ta σ H x) (h' : Er K tb σ H y) (h'' : Er K tc σ H z) (hp : pre x y z) : ExR K W (tCallS (sx3 K pre f) (WE W) (tCons ta (tCons tb (tCons tc tNil)))) σ H (f x y z) := fun H1 e Q qe q =>
  h H1 e _ fun v H2 e2 r2 => h' H2 (e.trans e2) _ fun u H3 e3 r3 => h'' H3 ((e.trans e2).trans e3) _ fun w H4 e4 r4 =>
    ⟨v, u, w, x, y, z, rfl, Rp.mono (SF.of (e3.trans e4)) r2, Rp.mono (SF.of e4) r3, r4, hp, fun y hy u H5 e5 r5 => q y hy u H5 (((e2.trans e3).trans e4).trans e5) r5, fun c hc hm H5 e5 => qe c hc hm H5 (((e2.trans e3).trans e4).trans e5)⟩
theorem exl_call1 {pre : α → Prop} {f : α → Except Str (List β)} (h : Er K ta σ H x) (hp : pre x) : ExL K W (tCallS (sxl1 K pre f) (WE W) (tCons ta tNil)) σ H (f x) := fun H1 e Q qe q =>
  h H1 e _ fun v H2 e2 r2 => ⟨v, x, rfl, r2, hp, fun y hy p us H3 e3 hn h3 r3 => q y hy p us H3 (e2.trans e3) (e2.free hn) h3 r3, fun c hc hm H3 e3 => qe c hc hm H3 (e2.trans e3)⟩
theorem exl_call2 {pre : α → β → Prop} {f : α → β → Except Str (List γ)} (h : Er K ta σ H x) (h' : Er K tb σ H y) (hp : pre x y) : ExL K W (tCallS (sxl2 K pre f) (WE W) (tCons ta (tCons tb tNil))) σ H (f x y) := fun H1 e Q qe q =>
  h H1 e _ fun v H2 e2 r2 => h' H2 (e.trans e2) _ fun u H3 e3 r3 => ⟨v, u, x, y, rfl, Rp.mono (SF.of e3) r2, r3, hp, fun y hy p us H4 e4 hn h4 r4 => q y hy p us H4 ((e2.trans e3).trans e4) ((e2.trans e3).free hn) h4 r4, fun c hc hm H4 e4 => qe c hc hm H4 ((e2.trans e3).trans e4)⟩
theorem exl_call3 {pre : α → β → γ → Prop} {f : α → β → γ → Except Str (List δ)} (h : Er K ta σ H x) (h' : Er K tb σ H y) (h'' : Er K tc σ H z) (hp : pre x y z) : ExL K W (tCallS (sxl3 K pre f) (WE W) (tCons ta (tCons tb (tCons tc tNil)))) σ H (f x y z) := fun H1 e Q qe q =>
  h H1 e _ fun v H2 e2 r2 => h' H2 (e.trans e2) _ fun u H3 e3 r3 => h'' H3 ((e.trans e2).trans e3) _ fun w H4 e4 r4 =>
    ⟨v, u, w, x, y, z, rfl, Rp.mono (SF.of (e3.trans e4)) r2, Rp.mono (SF.of e4) r3, r4, hp, fun y hy p us H5 e5 hn h5 r5 => q y hy p us H5 (((e2.trans e3).trans e4).trans e5) (((e2.trans e3).trans e4).free hn) h5 r5, fun c hc hm H5 e5 => qe c hc hm H5 (((e2.trans e3).trans e4).trans e5)⟩
/-- a list that came is locked -/
theorem ex_frz {r : Except Str (List α)} (h : ExL K W te σ H r) : ExR K W (tFrz te) σ H r := fun H1 e Q qe q => h H1 e _ qe fun y hy p vs H2 e2 hp h2 r =>
  ⟨p, vs, rfl, h2, fun od => q y hy (.ref p) _ (same_mut e2 hp) ⟨p, vs, rfl, ⟨od, upd_same⟩, r.mono (SF.lst h2)⟩⟩
/-- what never raises -/
theorem ex_of (h : Er K te σ H x) : ExR K W te σ H (.ok x) := fun H1 e Q _ q => h H1 e Q fun v H2 e2 r => q x rfl v H2 e2 r
theorem exl_of {l : List α} (h : ErL K te σ H l) : ExL K W te σ H (.ok l) := fun H1 e Q _ q => h H1 e Q fun p vs H2 e2 hn h2 r => q l rfl p vs H2 e2 hn h2 r
variable {D : Ends} {tz : TS}
theorem s_dropX {r : Except Str α} (h : ExR K W te σ H r) (hE : ∀ c, r = .error c → c ∈ errs → ∀ H1, Same H H1 → W (erC K c) none σ H1) (q : ∀ y H1, r = .ok y → Same H H1 → D.nx σ H1) : tDrop te D σ H := h H (Same.refl _) _ hE fun y hy _ H1 e _ => q y H1 hy e
theorem q_dropX {r : Except Str α} (h : ExR K W te σ H r) (hE : ∀ c, r = .error c → c ∈ errs → ∀ H1, Same H H1 → W (erC K c) none σ H1) (q : ∀ y H1, r = .ok y → Same H H1 → tz D σ H1) : tSeq (tDrop te) tz D σ H := s_dropX (D := { D with nx := tz D }) h hE q
theorem s_setX {k : Nat} {r : Except Str α} (h : ExR K W te σ H r) (hE : ∀ c, r = .error c → c ∈ errs → ∀ H1, Same H H1 → W (erC K c) none σ H1) (q : ∀ y v H1, r = .ok y → Same H H1 → Rp.rep K H1 v y → D.nx (σ.set k (some v)) H1) : tAsg te (gName k) D σ H := h H (Same.refl _) _ hE fun y hy v H1 e r => q y v H1 hy e r
theorem q_setX {k : Nat} {r : Except Str α} (h : ExR K W te σ H r) (hE : ∀ c, r = .error c → c ∈ errs → ∀ H1, Same H H1 → W (erC K c) none σ H1) (q : ∀ y v H1, r = .ok y → Same H H1 → Rp.rep K H1 v y → tz D (σ.set k (some v)) H1) : tSeq (tAsg te (gName k)) tz D σ H := s_setX (D := { D with nx := tz D }) h hE q
theorem s_retX {r : Except Str α} (h : ExR K W te σ H r) (hE : ∀ c, r = .error c → c ∈ errs → ∀ H1, Same H H1 → W (erC K c) none σ H1) (q : ∀ y v H1, r = .ok y → Same H H1 → Rp.rep K H1 v y → D.rt v H1) : tRet te D σ H := h H (Same.refl _) _ hE fun y hy v H1 e r => q y v H1 hy e r
theorem s_retXL {r : Except Str (List α)} (h : ExL K W te σ H r) (hE : ∀ c, r = .error c → c ∈ errs → ∀ H1, Same H H1 → W (erC K c) none σ H1) (q : ∀ y p vs H1, r = .ok y → Same H H1 → H p = none → H1 p = some (.lst vs) → RL K H1 vs y → D.rt (.ref p) H1) : tRet te D σ H := h H (Same.refl _) _ hE fun y hy p vs H1 e hn h1 r => q y p vs H1 hy e hn h1 r
/-! what a mirror of a def that may raise is made of -/
def bindX {α β : Type} (r : Except Str α) (k : α → Except Str β) : Except Str β := match r with
  | .ok y => k y
  | .error c => .error c
theorem bindX_ok {α β : Type} {r : Except Str α} {k : α → Except Str β} {y : α} (h : r = .ok y) : bindX r k = k y := by rw [h]; rfl
theorem bindX_err {α β : Type} {r : Except Str α} {k : α → Except Str β} {c : Str} (h : r = .error c) : bindX r k = .error c := by rw [h]; rfl
def elimX {α β : Type} (r : Except Str α) (e : Str → β) (k : α → β) : β := match r with
  | .ok y => k y
  | .error c => e c
theorem elimX_ok {α β : Type} {r : Except Str α} {e : Str → β} {k : α → β} {y : α} (h : r = .ok y) : elimX r e k = k y := by rw [h]; rfl
theorem elimX_err {α β : Type} {r : Except Str α} {e : Str → β} {k : α → β} {c : Str} (h : r = .error c) : elimX r e k = e c := by rw [h]; rfl
/-- raise C("..") -/
def tRaiseX (K : Fg) (c : Str) (W : WX) : TS := fun _ σ H => W (erC K c) none σ H
end
section
variable {X : Cx} {W : WX} (K : Fg) (h : X.K = K)
include h
theorem k_raise {c m : Str} {j : Nat} {p p2 pos pos' : Pos} (tk : Takes X W) (e : ErrOk K X.mg c) (hc : X.calm = true := by rfl) (hg : Gl X c := by rfl) (hdb : (c == ("__debug__" : Str)) = false := by decide) :
    PS X (.Raise (some (.Call (.Name c p) [.Constant (.str m) j p2] [] pos)) none pos') (tRaiseX K c W) := by
  subst h
  exact ps_raise hc tk (pmk_own PySem.F.excBase_ValueError e.x e.g e.kp (raises_own e.sb e.tp) hg hdb)
theorem k_isx : CallR X (.builtin "isinstance") (rIsX K) := by subst h; exact call_isX
end
section
variable {X : Cx} {W : WX} {k : Nat} {x : Str} {ps : List Str} {sp : Sp} {t : TA} {e : Expr} {es : List Expr} {p pos : Pos}
theorem pe_fnX (G : Ok X.prog X.w X.K X.mg X.base (L2.CX X.prog X.w) k x ps sp) (hr : Room k X.A) (tk : Takes X W) (ha : PA X (e :: es) t) (hg : Gl X x := by rfl) (hdb : (x == ("__debug__" : Str)) = false := by decide)
    (he : starEach (e :: es) X.env = (false, eval e X.env) :: starEach es X.env := by rfl) (hpl : (backTo pos (starEach es X.env)).any (·.1) = false := by rfl) : PE X (.Call (.Name x p) (e :: es) [] pos) (tCallS sp (WE W) t) := by
  obtain ⟨f, fd, h1, h2, h3, h4⟩ := G
  exact pe_callS h4 hr hg h1 h2 h3 (fun σ => passAt tk σ) ha hdb he hpl
end
section
variable {P : Program} {w : World} {K : Fg} {mg : Str → Option Value} {base : Heap}
theorem okx_of {x : Str} {st : Stmt} {N ps : List Str} {k : Nat} {sp : Sp} (F : Fd K mg x st) (S : FnScope N ps (defScope st))
    (hb : ∀ (kV doc pm : Value) (an : Option Addr) (cdv ct : Value) (us : List Value), us.length = ps.length → bindArgs (PySem.W.fnOf x x (defArgs st) (defBody st) (defScope st) .none kV doc pm an cdv ct) ⟨us, []⟩ = pure (ps.zip us))
    (len : ∀ vs H Q E, sp vs H Q E → vs.length = ps.length)
    (hbody : ∀ (f : Addr) (cdv : Value) (A : Around) (outer : List Env) (s : Shared) (H : Hp) (vs : List V) (Q : VK) (E : XK), Room k (A.deeper (envOfC x (defScope st) s.heap.objs.size f cdv)) → sp vs H Q E →
      ∃ t, PSs (cxOf (L2.CX P w) P w K mg base N x (defScope st) f cdv A outer s H E) (defBody st) t ∧ t { nx := fun _ H' => Q .non H', rt := Q } (start N vs) H) : Ok P w K mg base (L2.CX P w) (k + 1) x ps sp := by
  obtain ⟨f, fd, F, g⟩ := F
  exact ⟨f, fd, g, F.kp, F.bindsN hb, F.ok S len fun cdv A outer s H vs Q E hr h => hbody f cdv A outer s H vs Q E hr h⟩
/-- an error that leaves a def -/
theorem tkD {N : List Str} {x : Str} {sc : Scope} {f : Addr} {cdv : Value} {A : Around} {outer : List Env} {s : Shared} {H : Hp} {E : XK} : Takes (cxOf (L2.CX P w) P w K mg base N x sc f cdv A outer s H E) (fun cls d _ H => E cls d H) := takes_of rfl rfl rfl rfl
end
section
variable {K : Fg} {α β γ δ : Type} [Rp α] [Rp β] [Rp γ] [Rp δ]
theorem len_sx1 {pre : α → Prop} {f : α → Except Str β} : ∀ vs H Q E, sx1 K pre f vs H Q E → vs.length = 1 := fun vs H Q E h => by obtain ⟨_, _, rfl, _⟩ := h; rfl
theorem len_sx2 {pre : α → β → Prop} {f : α → β → Except Str γ} : ∀ vs H Q E, sx2 K pre f vs H Q E → vs.length = 2 := fun vs H Q E h => by obtain ⟨_, _, _, _, rfl, _⟩ := h; rfl
theorem len_sx3 {pre : α → β → γ → Prop} {f : α → β → γ → Except Str δ} : ∀ vs H Q E, sx3 K pre f vs H Q E → vs.length = 3 := fun vs H Q E h => by obtain ⟨_, _, _, _, _, _, rfl, _⟩ := h; rfl
theorem len_sxl1 {pre : α → Prop} {f : α → Except Str (List β)} : ∀ vs H Q E, sxl1 K pre f vs H Q E → vs.length = 1 := fun vs H Q E h => by obtain ⟨_, _, rfl, _⟩ := h; rfl
theorem len_sxl2 {pre : α → β → Prop} {f : α → β → Except Str (List γ)} : ∀ vs H Q E, sxl2 K pre f vs H Q E → vs.length = 2 := fun vs H Q E h => by obtain ⟨_, _, _, _, rfl, _⟩ := h; rfl
theorem len_sxl3 {pre : α → β → γ → Prop} {f : α → β → γ → Except Str (List δ)} : ∀ vs H Q E, sxl3 K pre f vs H Q E → vs.length = 3 := fun vs H Q E h => by obtain ⟨_, _, _, _, _, _, rfl, _⟩ := h; rfl
end
end BL

set_option Elab.async false
set_option linter.all false
set_option maxRecDepth 100000
set_option maxHeartbeats 2000000
namespace BL
open PySem PySem.Spec PyProof.Rows L2
/-! ### list.count of truth values -/
def rCntB (K : Fg) : V → List V → Hp → VK → Prop := fun x xs H Q => ∃ (p : Addr) (bs : List Bool) (k : Bool), x = .ref p ∧ xs = [.bl k] ∧ SqL K H p (bs.map V.bl) ∧ Q (.int (bs.count k : Nat)) H
theorem vals_bl : ∀ {bs : List Bool} {its : List Value}, Vals (bs.map V.bl) its → its = bs.map Value.bool
  | [], _, .nil => rfl
  | b :: bs, _, .cons h r => by rw [List.map_cons, ← vals_bl r, show _ = Value.bool b from h]
theorem countP_bl (k : Bool) : ∀ bs : List Bool, (bs.map Value.bool).countP (isBoolOf k) = bs.count k
  | [] => rfl
  | b :: bs => by
    rw [List.map_cons, List.countP_cons, List.count_cons, countP_bl k bs]
    rfl
theorem mt_countB {X : Cx} : MtR X "list.count" (rCntB X.K) := by
  rintro pins s σ H x xs v us Q I rx rxs ⟨p, bs, k, rfl, rfl, hs, q⟩
  cases rx
  obtain ⟨u, rfl, ru⟩ := rxs.one
  cases (show u = Value.bool k from ru)
  obtain ⟨its, rv, ⟨⟨cls, dd, data, sl⟩, n, ho, hc, hdn, hd⟩, hlen⟩ := I.list hs
  dsimp only at hc hd
  subst hc hd
  have e := vals_bl rv
  refine call_meets PySem.F.slot_list_count ⟨_, ho, rfl⟩ PySem.F.entry_list_count (PySem.F.args_list_count_2 _ _) (SeqAt.list_countAt p its.toArray n dd sl (.bool k) (isBoolOf k)) ⟨ho, fun y hy => ?_, ?_⟩
  · rw [e] at hy
    obtain ⟨b, _, rfl⟩ := List.mem_map.mp (show y ∈ bs.map Value.bool by simpa using hy)
    exact SeqAt.EqAt.bool_bool b k
  · refine ⟨.int (bs.count k : Nat), H, I.tok _, ⟨s.toks, ?_⟩, q⟩
    show Value.int ((its.toArray.toList.countP (isBoolOf k) : Nat) : Int) s.toks = _
    rw [show its.toArray.toList = its from rfl, e, countP_bl]
section
variable {K : Fg} {mg : Str → Option Value} {σ : L2.St} {H H' H1 : Hp} {ta tb tc te to : TE} {α β γ δ : Type} [Rp α] [Rp β] [Rp γ] [Rp δ] {x : α} {y : β} {z : γ} {v u : V} {i j : Int} {b : Bool}
/-! ### a list's method of one argument -/
theorem er_bm1 {r : V → List V → Hp → VK → Prop} {l : List α} {y : β} {z : γ} (ho : Er K to σ H l) (ha : Er K ta σ H y) (hr : ∀ H v u, Rp.rep K H v l → Rp.rep K H u y → ∀ Q : VK, (∀ w H', Same H H' → Rp.rep K H' w z → Q w H') → r v [u] H Q) :
    Er K (tBM K "list" r to (tCons ta tNil)) σ H z := fun H1 e Q q => ho H1 e _ fun v H2 e2 r2 => ⟨by obtain ⟨a, vs, rfl, f, _⟩ := r2; exact .inl ⟨rfl, vs, f.seq⟩, ha H2 (e.trans e2) _ fun u H3 e3 r3 => hr H3 v u (Rp.mono (SF.of e3) r2) r3 Q fun w H4 e4 r4 => q w H4 ((e2.trans e3).trans e4) r4⟩
theorem er_countB {l : List Bool} (ho : Er K to σ H l) (ha : Er K ta σ H b) : Er K (tBM K "list" (rCntB K) to (tCons ta tNil)) σ H (l.count b) := er_bm1 ho ha fun H v u r1 r2 Q q => by
  obtain ⟨a, vs, rfl, h2, h3⟩ := r1
  cases (show u = .bl b from r2)
  rw [rl_bools h3] at h2
  exact ⟨a, l, b, rfl, rfl, h2.seq, q _ H (Same.refl _) rfl⟩
theorem idx_lt {α : Type} [BEq α] [LawfulBEq α] {x : α} : ∀ {l : List α}, x ∈ l → l[l.idxOf x]? = some x ∧ ∀ m z, m < l.idxOf x → l[m]? = some z → z ≠ x
  | [], h => by cases h
  | y :: l, h => by
    by_cases e : y = x
    · subst e
      rw [List.idxOf_cons_self]
      exact ⟨rfl, fun m z hm => absurd hm (Nat.not_lt_zero m)⟩
    · have h2 : x ∈ l := by
        rcases List.mem_cons.mp h with q | q
        · exact absurd q.symm e
        · exact q
      obtain ⟨h3, h4⟩ := idx_lt h2
      rw [List.idxOf_cons, show (y == x) = false from by simpa using e, cond_false]
      refine ⟨h3, fun m z hm hz => ?_⟩
      cases m with
      | zero => cases hz; exact e
      | succ m => exact h4 m z (by omega) hz
theorem er_indexI {l : List Int} (ho : Er K to σ H l) (ha : Er K ta σ H i) (hm : i ∈ l) : Er K (tBM K "list" (rIndex K) to (tCons ta tNil)) σ H (l.idxOf i) := er_bm1 ho ha fun H v u r1 r2 Q q => by
  obtain ⟨a, vs, rfl, h2, h3⟩ := r1
  cases (show u = .int i from r2)
  rw [rl_ints h3] at h2
  obtain ⟨h4, h5⟩ := idx_lt hm
  refine ⟨a, _, .int i, l.idxOf i, .int i, rfl, rfl, h2.seq, rfl, flat_ints l, by rw [List.getElem?_map, h4]; rfl, by show (i == i) = true; simp, fun m z hz e => ?_, q _ H (Same.refl _) rfl⟩
  rw [List.getElem?_map] at e
  cases e2 : l[m]? with
  | none => rw [e2] at e; cases e
  | some k =>
    rw [e2] at e
    cases e
    show (k == i) = false
    simpa using h5 m k hz e2
theorem er_indexB {l : List Bool} (ho : Er K to σ H l) (ha : Er K ta σ H b) (hm : b ∈ l) : Er K (tBM K "list" (rIndex K) to (tCons ta tNil)) σ H (l.idxOf b) := er_bm1 ho ha fun H v u r1 r2 Q q => by
  obtain ⟨a, vs, rfl, h2, h3⟩ := r1
  cases (show u = .bl b from r2)
  rw [rl_bools h3] at h2
  obtain ⟨h4, h5⟩ := idx_lt hm
  refine ⟨a, _, .bl b, l.idxOf b, .bl b, rfl, rfl, h2.seq, rfl, flat_bls l, by rw [List.getElem?_map, h4]; rfl, by show (b == b) = true; simp, fun m z hz e => ?_, q _ H (Same.refl _) rfl⟩
  rw [List.getElem?_map] at e
  cases e2 : l[m]? with
  | none => rw [e2] at e; cases e
  | some k =>
    rw [e2] at e
    cases e
    show (k == b) = false
    simpa using h5 m k hz e2
/-! ### isinstance of a held error -/
theorem er_isX {x : Xn} {c : V} {cv : Value} (T : ErrOk K mg x.n) (h : Er K ta σ H x) (hv : ∀ u, RelV c u → u = cv) (hk : PySem.W.kitOne K (erC K x.n) cv = some b) : Er K (tCB (rIsX K) (tCons ta (tCons (tC c) tNil))) σ H b := fun H1 e Q q =>
  h H1 e _ fun v H2 e2 r2 => by
    obtain ⟨a, rfl, ha⟩ := r2
    exact ⟨a, He.ga K x.n, c, cv, b, rfl, ha, T.ec, hv, hk, q _ H2 e2 rfl⟩
theorem er_isE {x : Xn} {d : Str} (T : ErrOk K mg x.n) (hd : d ∈ errs) (h : Er K ta σ H x) : Er K (tCB (rIsX K) (tCons ta (tCons (tC (.ref (He.ga K d))) tNil))) σ H (decide (x.n = d)) := er_isX T h (fun _ r => r) (T.ks d hd)
theorem er_isBd {x : Xn} (T : ErrOk K mg x.n) (h : Er K ta σ H x) : Er K (tCB (rIsX K) (tCons ta (tCons (tC (.ref (He.ga K "BoundError"))) tNil))) σ H true := er_isX T h (fun _ r => r) T.kb
theorem er_isVE {x : Xn} (T : ErrOk K mg x.n) (h : Er K ta σ H x) : Er K (tCB (rIsX K) (tCons ta (tCons (tC (.ty "ValueError")) tNil))) σ H true := er_isX T h (fun _ r => r) T.kv
end
theorem rep_err {K : Fg} {H : Hp} {a : Addr} {c : Str} : Rp.rep K (upd H a (ExT (erC K c) a)) (.ref a) (some (Xn.mk c) : Option Xn) := ⟨nofun, a, rfl, upd_same⟩
theorem q_tryK {K : Fg} {c : Value} {i : Nat} {ts : Addr → Value → TS} {tb : WX → TS} {tz : TS} {D : Ends} {σ : L2.St} {H : Hp} (h : tb (wKept K c i ts { D with nx := tz D }) { D with nx := tz D } σ H) : tSeq (tTryK K c i ts tb) tz D σ H := h
theorem opt_some {α : Type} {o : Option α} {d : α} (h : o.isNone = false) : o = some (o.getD d) := by
  cases o with
  | none => cases h
  | some x => rfl
/-! ### one of two kinds -/
class Dj (α β : Type) [Rp α] [Rp β] [Rq α] [Rq β] : Prop where
  l : ∀ (x : α) (y : β), PyData.eqv (Rq.toD x) (Rq.toD y) = false
  r : ∀ (x : α) (y : β), PyData.eqv (Rq.toD y) (Rq.toD x) = false
instance {α β : Type} [Rp α] [Rp β] [Rq α] [Rq β] : Dj (α × β) Str := ⟨fun x y => by simp [Rq.toD, PyData.eqv], fun x y => by simp [Rq.toD, PyData.eqv]⟩
instance {α : Type} [Rp α] [Rq α] : Dj (List α) Str := ⟨fun x y => by simp [Rq.toD, PyData.eqv], fun x y => by simp [Rq.toD, PyData.eqv]⟩
instance : Dj Int Str := ⟨fun x y => by simp [Rq.toD, PyData.eqv], fun x y => by simp [Rq.toD, PyData.eqv]⟩
instance : Dj Nat Str := ⟨fun x y => by simp [Rq.toD, PyData.eqv], fun x y => by simp [Rq.toD, PyData.eqv]⟩
instance {α : Type} [Rp α] [Rq α] : Dj (List α) Int := ⟨fun x y => by simp [Rq.toD, PyData.eqv], fun x y => by simp [Rq.toD, PyData.eqv]⟩
instance {α β γ : Type} [Rp α] [Rp β] [Rp γ] [Rq α] [Rq β] [Rq γ] : Dj (α × β) (List γ) := ⟨fun x y => by simp [Rq.toD, PyData.eqv], fun x y => by simp [Rq.toD, PyData.eqv]⟩
instance {α β : Type} [Rp α] [Rp β] [Rq α] [Rq β] [Dj α β] : Rq (Sum α β) := ⟨fun s => match s with
    | .inl x => Rq.toD x
    | .inr y => Rq.toD y, fun {K H v s} h => by
    cases s with
    | inl x => exact Rq.dp (α := α) h
    | inr y => exact Rq.dp (α := β) h, fun s => match s with
    | .inl x => Rq.ok x
    | .inr y => Rq.ok y, max (Rq.dep α) (Rq.dep β), fun s h => by
    cases s with
    | inl x => exact Rq.lay x h
    | inr y => exact Rq.lay y h, fun s => by
    cases s with
    | inl x => exact Nat.le_trans (Rq.deep x) (Nat.le_max_left ..)
    | inr y => exact Nat.le_trans (Rq.deep y) (Nat.le_max_right ..), fun s t => by
    cases s with
    | inl x =>
      cases t with
      | inl y => simp [Rq.eqv]
      | inr y => simp [Dj.l]
    | inr x =>
      cases t with
      | inl y => simp [Dj.r]
      | inr y => simp [Rq.eqv]⟩
instance {α β : Type} [Rp α] [Rp β] [Rq α] [Rq β] [Rt α] [Rt β] [Dj α β] : Rt (Sum α β) := ⟨fun s => by
    cases s with
    | inl x => exact Rt.all (α := α) x
    | inr y => exact Rt.all (α := β) y⟩
section
variable {K : Fg} {σ : L2.St} {H : Hp} {ta tb te : TE} {tt : TT} {α β γ : Type} [Rp α] [Rp β] [Rp γ] {x : α} {y : β} {b : Bool}
theorem er_inl (h : Er K te σ H x) : Er K te σ H (Sum.inl x : Sum α β) := fun H1 e Q q => h H1 e Q fun v H2 e2 r => q v H2 e2 r
theorem er_inr (h : Er K te σ H y) : Er K te σ H (Sum.inr y : Sum α β) := fun H1 e Q q => h H1 e Q fun v H2 e2 r => q v H2 e2 r
end
section
variable {X : Cx} (K : Fg) (h : X.K = K)
include h
theorem k_bm1 {T : String} {id : String} {name : Str} {r : V → List V → Hp → VK → Prop} {o e : Expr} {to te : TE} {apos cpos : Pos} (pa : PlainAttrs T) (slot : Slot T name id) (hty : typeOf (.builtin id) = pure (.type "method_descriptor")) (hm : MtR X id r) (ho : PE X o to) (he : PE X e te)
    (hbase : attributeBase o name X.env (eval o X.env) = eval o X.env := by rfl)
    (hfew : ((backTo cpos (starEach [e] X.env)).all (fun x => !x.1) && (backToKw cpos (keywordEach [] X.env)).all (fun x => x.1.isSome)
      && decide ([e].length + ([] : List Keyword).length + (if ([] : List Keyword).isEmpty then 0 else 1) < 30)) = true := by rfl)
    (hline : (apos.endLine == cpos.line) = true := by rfl) (hs : starEach [e] X.env = (false, eval e X.env) :: starEach [] X.env := by rfl) (hplain : (backTo cpos (starEach [] X.env)).any (·.1) = false := by rfl) :
    PE X (.Call (.Attribute o name apos) [e] [] cpos) (tBM K T r to (tCons te tNil)) := by
  subst h; exact pe_bm pa slot hty hm ho (pa_cons he pa_nil hs) hbase hfew hline hs hplain
theorem k_countB : MtR X "list.count" (rCntB K) := by subst h; exact mt_countB
theorem k_index : MtR X "list.index" (rIndex K) := by subst h; exact mt_index
end
end BL

set_option Elab.async false
set_option linter.all false
set_option maxRecDepth 100000
set_option maxHeartbeats 2000000
namespace BL
open PySem PySem.Spec PyProof.Rows L2
section
variable {K : Fg} {σ : L2.St} {H H' H1 : Hp} {pd pn : Addr} {ta tb tc te : TE} {tt : TT} {α β γ δ : Type} [Rp α] [Rp β] [Rp γ] [Rp δ] {x : α} {y : β} {v u : V} {i j : Int} {b : Bool} {wi : TI} {g : TG} {D : Ends} {tu tz : TS}
/-! ### what is walked is drawn -/
def SrcP (K : Fg) (pd pn : Addr) (wi : TI) (σ : L2.St) (H : Hp) {α : Type} [Rp α] (P : List α → Prop) : Prop := ∀ H1, DM pd pn H H1 → Dr H1 pd pn → ∀ RR : It → Hp → Prop,
  (∀ (l : List α) (J : It) (H2 : Hp) (G : Hp → Prop) (Y : Nat → Hp → V → Hp → Prop), P l → DM pd pn H1 H2 → Dr H2 pd pn → Walk J l.length G Y → (∀ H', SF H2 H' → G H') →
    (∀ i x, l[i]? = some x → ∀ H', SF H2 H' → ∀ v H'', Y i H' v H'' → Same H' H'' ∧ Rp.rep K H'' v x) → RR J H2) → wi σ H1 RR
theorem srcP_range1 {P : Int → Prop} (h : Ep K pd pn te σ H P) (hz : ∀ x, P x → -1000000 ≤ x ∧ x ≤ 1000000) : SrcP K pd pn (iRng1 (tCons te tNil)) σ H (fun l : List Nat => ∃ x : Int, P x ∧ l = List.range x.toNat) := fun H1 m dr RR k => h H1 m dr _ fun v H2 x m2 d2 hx r => by
  cases (show v = .int x from r)
  have hz := hz x hx
  refine ⟨x, rfl, by omega, by omega, k _ _ H2 (fun _ => True) (YFn fun j => .int (0 + j)) ⟨x, hx, rfl⟩ m2 d2 ?_ (fun _ _ => trivial) fun j y hy H' s v H'' z => ?_⟩
  · rw [List.length_range]; exact walk_range
  · obtain ⟨rfl, rfl⟩ := z
    have hj : j < x.toNat := by
      have := (List.getElem?_eq_some_iff.mp hy).1
      rwa [List.length_range] at this
    rw [List.getElem?_range hj] at hy
    cases hy
    exact ⟨Same.refl _, by show V.int _ = V.int _; rw [Int.zero_add]⟩
theorem s_forP {P : List α → Prop} (hs : SrcP K pd pn wi σ H P) (dr : Dr H pd pn) (Pv : List α → Hp → Nat → L2.St → Hp → Prop) (h0 : ∀ l H1, P l → DM pd pn H H1 → Dr H1 pd pn → Pv l H1 0 σ H1) (hf : ∀ l H1 k σ' H', Pv l H1 k σ' H' → SF H1 H')
    (turn : ∀ l H1 k x σ' H' v H'', P l → DM pd pn H H1 → Dr H1 pd pn → l[k]? = some x → Pv l H1 k σ' H' → Same H' H'' → Rp.rep K H'' v x → g v σ' H'' fun σ2 H2 => tu { D with nx := Pv l H1 (k + 1), ct := Pv l H1 (k + 1), bk := D.nx } σ2 H2)
    (hd : ∀ l H1 σ' H', P l → DM pd pn H H1 → Dr H1 pd pn → Pv l H1 l.length σ' H' → D.nx σ' H') : tFor wi g tu D σ H := hs H (DM.refl _) dr _ fun l J H2 G Y hl m2 d2 w hG hY =>
  for_it w (Pv l H2) (h0 l H2 hl m2 d2) (fun k σ' H' _ p => hG H' (hf _ _ _ _ _ p)) (fun k v σ' H' H'' hk p y => by
    obtain ⟨x, hx⟩ : ∃ x, l[k]? = some x := ⟨l[k], List.getElem?_eq_getElem hk⟩
    obtain ⟨s, r⟩ := hY k x hx H' (hf _ _ _ _ _ p) v H'' y
    exact turn l H2 k x σ' H' v H'' hl m2 d2 hx p s r) fun σ' H' p => hd l H2 σ' H' hl m2 d2 p
theorem q_forP {P : List α → Prop} (hs : SrcP K pd pn wi σ H P) (dr : Dr H pd pn) (Pv : List α → Hp → Nat → L2.St → Hp → Prop) (h0 : ∀ l H1, P l → DM pd pn H H1 → Dr H1 pd pn → Pv l H1 0 σ H1) (hf : ∀ l H1 k σ' H', Pv l H1 k σ' H' → SF H1 H')
    (turn : ∀ l H1 k x σ' H' v H'', P l → DM pd pn H H1 → Dr H1 pd pn → l[k]? = some x → Pv l H1 k σ' H' → Same H' H'' → Rp.rep K H'' v x → g v σ' H'' fun σ2 H2 => tu { D with nx := Pv l H1 (k + 1), ct := Pv l H1 (k + 1), bk := tz D } σ2 H2)
    (hd : ∀ l H1 σ' H', P l → DM pd pn H H1 → Dr H1 pd pn → Pv l H1 l.length σ' H' → tz D σ' H') : tSeq (tFor wi g tu) tz D σ H := s_forP (D := { D with nx := tz D }) hs dr Pv h0 hf turn hd
theorem ep_if {P P' : α → Prop} (h : ∀ H1, DM pd pn H H1 → Et K tt σ H1 b) (h1 : b = true → Ep K pd pn ta σ H P) (h2 : b = false → Ep K pd pn tb σ H P') : Ep K pd pn (tIf tt ta tb) σ H (fun x => (b = true ∧ P x) ∨ (b = false ∧ P' x)) := fun H1 m dr Q q => h H1 m H1 (Same.refl _) _ fun H2 e2 => by
  cases b with
  | true => exact iteT (h1 rfl H2 (m.trans (DM.of e2)) (dr.mono e2) Q fun v H3 x m3 d3 hx r => q v H3 x ((DM.of e2).trans m3) d3 (.inl ⟨rfl, hx⟩) r)
  | false => exact iteF (h2 rfl H2 (m.trans (DM.of e2)) (dr.mono e2) Q fun v H3 x m3 d3 hx r => q v H3 x ((DM.of e2).trans m3) d3 (.inr ⟨rfl, hx⟩) r)
/-- a drawn thing is appended -/
theorem q_appPM {k : Nat} {p : Addr} {l : List α} {P : α → Prop} (dr : Dr H pd pn) (hσ : σ[k]? = some (some (.ref p))) (hu : Un K H p l) (n1 : p ≠ pd) (n2 : p ≠ pn) (h : Ep K pd pn te σ H P) (hz : l.length < 1000000)
    (q : ∀ H2 x, Mus [pd, pn, p] H H2 → Dr H2 pd pn → P x → Un K H2 p (l ++ [x]) → tz D σ H2) : tSeq (tDrop (tBM K "list" rAppend (tVar k) (tCons te tNil))) tz D σ H := by
  obtain ⟨vs, hp, r⟩ := hu
  refine ⟨.ref p, hσ, Or.inl ⟨rfl, vs, sq_lst hp⟩, ?_⟩
  refine h H (DM.refl _) dr _ fun v H2 x m2 d2 hx r2 => ⟨p, vs, v, rfl, rfl, m2.ne _ _ n1 n2 hp, ?_, q _ x ⟨m2.sf.trans (SF.lst (m2.ne _ _ n1 n2 hp)), fun q o nq e => ?_⟩ ?_ hx ⟨_, upd_same, RL.mono (SF.lst (m2.ne _ _ n1 n2 hp)) (paired_app (r.mono m2.sf) (.cons r2 .nil))⟩⟩
  · rw [paired_len r]; exact Nat.lt_of_lt_of_le hz (by decide)
  · simp only [List.mem_cons, List.mem_nil_iff, or_false, not_or] at nq
    rw [upd_ne nq.2.2]
    exact m2.ne q o nq.1 nq.2.1 e
  · obtain ⟨ns, k, g1, g2, g3⟩ := d2
    exact ⟨ns, k, upd_get g1 n1.symm, upd_get g2 n2.symm, g3⟩
theorem er_ixUI {k n : Nat} {p : Addr} {l : List α} {x : α} (hσ : σ[k]? = some (some (.ref p))) (hu : Un K H p l) (hi : Er K tb σ H i) (hn : i = (n : Int)) (hx : l[n]? = some x) : Er K (tOp (rIxL K) (tVar k) tb) σ H x := er_ixU hσ hu (hi.to hn) hx
/-! ### x *= e -/
def ipM : TIp := fun x y H Q => ∃ i j, x = .int i ∧ y = .int j ∧ CMul i j ∧ Q (.int (i * j)) H
theorem ip_mulC {X : Cx} : PIp X .Mult ipM := fun pins s σ H x y v u Q I r1 r2 h => iop_mul pins s σ H x y v u Q I r1 r2 h
theorem q_mulI {k : Nat} (hσ : σ[k]? = some (some v)) (r : Rp.rep K H v i) (h : Er K te σ H j) (hm : CMul i j) (q : ∀ w H1, Same H H1 → Rp.rep K H1 w (i * j) → tz D (σ.set k (some w)) H1) : tSeq (tAug k te ipM) tz D σ H := by
  cases (show v = .int i from r)
  exact ⟨.int i, hσ, h H (Same.refl _) _ fun w H1 e r => ⟨i, j, rfl, r, hm, q _ H1 e rfl⟩⟩
section
variable {ε : Type} [Rp ε] {z : γ} {w : δ} {td : TE}
def sl4 (K : Fg) (pre : α → β → γ → δ → Prop) (f : α → β → γ → δ → List ε) : Sp := fun vs H Q _ => ∃ v0 v1 v2 v3 x0 x1 x2 x3, vs = [v0, v1, v2, v3] ∧ Rp.rep K H v0 x0 ∧ Rp.rep K H v1 x1 ∧ Rp.rep K H v2 x2 ∧ Rp.rep K H v3 x3 ∧ pre x0 x1 x2 x3 ∧ ansL K (f x0 x1 x2 x3) H Q
theorem erl_call4 {pre : α → β → γ → δ → Prop} {f : α → β → γ → δ → List ε} {E : XK} (h0 : Er K ta σ H x) (h1 : Er K tb σ H y) (h2 : Er K tc σ H z) (h3 : Er K td σ H w) (hp : pre x y z w) : ErL K (tCall (sl4 K pre f) [] E (tCons ta (tCons tb (tCons tc (tCons td tNil))))) σ H (f x y z w) := fun H1 e Q q =>
  h0 H1 e _ fun v0 H2 e2 r0 => h1 H2 (e.trans e2) _ fun v1 H3 e3 r1 => h2 H3 ((e.trans e2).trans e3) _ fun v2 H4 e4 r2 => h3 H4 (((e.trans e2).trans e3).trans e4) _ fun v3 H5 e5 r3 =>
    ⟨v0, v1, v2, v3, x, y, z, w, rfl, Rp.mono (SF.of ((e3.trans e4).trans e5)) r0, Rp.mono (SF.of (e4.trans e5)) r1, Rp.mono (SF.of e5) r2, r3, hp, fun p us H6 e6 hn h6 r6 => q p us H6 ((((e2.trans e3).trans e4).trans e5).trans e6) ((((e2.trans e3).trans e4).trans e5).free hn) h6 r6⟩
theorem len_sl4 {pre : α → β → γ → δ → Prop} {f : α → β → γ → δ → List ε} : ∀ vs H Q E, sl4 K pre f vs H Q E → vs.length = 4 := fun vs H Q E h => by obtain ⟨_, _, _, _, _, _, _, _, rfl, _⟩ := h; rfl
end
/-! ### the left one of two kinds -/
def sumL {α β : Type} (d : α) : Sum α β → α
  | .inl x => x
  | .inr _ => d
theorem er_getL {s : Sum α β} {d : α} (h : Er K te σ H s) (hs : s = Sum.inl (sumL d s)) : Er K te σ H (sumL d s) := fun H1 e Q q => h H1 e Q fun v H2 e2 r => q v H2 e2 (by rw [hs] at r; exact r)
end
end BL

set_option Elab.async false
set_option linter.all false
set_option maxRecDepth 100000
set_option maxHeartbeats 2000000
namespace BL
open PySem PySem.Spec PyProof.Rows L2
/-! ### set(xs), xs a list of ints -/
/-- the empty set that is filled -/
abbrev fso (w : World) : Obj := { cls := .type "set", dict := none, data := .set #[] 0 (.fresh 0 0 (!w.params.followText "set-order")) }
section
variable {P : Program} {w : World} {A : Around} {E : Value → Shared → Prop} {s : Shared}
/-- what set.__init__ leaves of the list's ints -/
def Filled (w : World) (s : Shared) (ns : List Int) (s₂ : Shared) : Prop := ∃ h' tk c, s₂ = { s with heap := h', toks := tk } ∧ SetR w h' s.heap.objs.size (fun j => decide (j ∈ ns)) c ∧ ∀ b o, s.heap.get? b = some o → h'.get? b = some o
set_option maxHeartbeats 4000000 in
theorem set_fill {l : Addr} {items : Array Value} {ns : List Int} (hh : A.handled = none) (hl : s.heap.IsList l items) (hit : IntsAre items.toList ns) (hb : ns.length + 1 < scanBound) :
    codeAny (model P w) A (.call (.builtin "set.__init__") ⟨[.ref s.heap.objs.size, .ref l], []⟩) (wants (fun r s₂ => r = .none ∧ Filled w s ns s₂) E) { s with heap := s.heap.push (fso w) } := by
  have hlen := IntsAre.length hit
  rw [Array.length_toList] at hlen
  obtain ⟨⟨cl, di, da, sl⟩, hob, hcl, nl, hda⟩ := hl
  obtain rfl : cl = _ := hcl
  obtain rfl : da = _ := hda
  have hlt : l < s.heap.objs.size := Heap.lt_size hob
  have hob1 : (s.heap.push (fso w)).get? l = _ := Heap.get?_push_of_some (fso w) hob
  have hlist : (s.heap.push (fso w)).IsList l items := ⟨_, hob1, rfl, nl, rfl⟩
  have hset : (s.heap.push (fso w)).get? s.heap.objs.size = some (fso w) := Heap.get?_push_size _ rfl
  have hz1 : (s.heap.push (fso w)).objs.size = s.heap.objs.size + 1 := Heap.size_push ..
  have hT : Shared.TypeIs { s with heap := s.heap.push (fso w) } (.ref s.heap.objs.size) "set" := ⟨_, hset, rfl⟩
  have n1 := F.sub_list_set
  have n2 := F.sub_list_frozenset
  have n3 : (Value.type "list" == Value.type "dict") = false := by decide
  refine codeAny_call_builtin F.called_set.init.plain F.entry_set_init (check_set_init_1 hT ?_)
  unfold Builtin.«set.__init__» noKeywords Builtin.Frozenset.updateFrom
  generalize hw : pyIter = walk
  wp_walk
  subst hw
  refine wpAny_pyIter_list hlist (wpAny_bind (wpAny_runValue ?_))
  have hz2 : l < (s.heap.push (fso w)).objs.size := by rw [hz1]; exact Nat.lt_succ_of_lt hlt
  have hdl : l ≠ (s.heap.push (fso w)).objs.size := Nat.ne_of_lt hz2
  have hd0 : s.heap.objs.size ∉ [(s.heap.push (fso w)).objs.size, l] := fun m => by
    rcases List.mem_cons.mp m with e | e
    · exact absurd e (Nat.ne_of_lt (by omega))
    · exact absurd (List.mem_singleton.mp e).symm (Nat.ne_of_lt (by omega))
  have hat : ∀ (i : Nat) (v : Value), items[i]? = some v → ∃ k t, ns[i]? = some k ∧ v = .int k t := fun i v hv => by
    have hi : i < ns.length := by have := (Array.getElem?_eq_some_iff.mp hv).1; omega
    obtain ⟨t, e⟩ := IntsAre.int_at hit i v (by rw [Array.getElem?_toList]; exact hv)
    exact ⟨_, t, List.getElem?_eq_getElem hi, by rw [e, List.getD_eq_getElem?_getD, List.getElem?_eq_getElem hi]; rfl⟩
  refine set_update_ints (Walks.list (by simp [hh]) _ l hdl items).toS s.heap.objs.size hd0 ns hlen hb hat items.size 0 _ rfl (Nat.zero_le _)
    ⟨⟨_, Heap.get?_push_size _ rfl, rfl, rfl⟩, hlist.push _⟩ ⟨0, Nat.le_refl 0, setR_new_at (Heap.get?_push_of_some _ hset)⟩ fun s2 c mv hc hR => ?_
  obtain ⟨h2, g2, d2, t2, o2⟩ := s2
  cases (mv.gens : g2 = s.gens)
  cases (mv.drawn : d2 = s.drawn)
  cases (mv.os : o2 = s.os)
  refine wpAny_pure (wpAny_pure ⟨rfl, h2, t2, c, rfl, hR, fun b o e => ?_⟩)
  have hb0 : b < s.heap.objs.size := Heap.lt_size e
  refine mv.heap b o (fun m => ?_) (Heap.get?_push_of_some _ (Heap.get?_push_of_some _ e))
  rcases List.mem_cons.mp m with z | z
  · exact absurd z (Nat.ne_of_lt (by omega))
  · exact absurd ((List.mem_singleton.mp z).trans hz1) (Nat.ne_of_lt (Nat.lt_succ_of_lt hb0))
theorem setI_list {l : Addr} {items : Array Value} {ns : List Int} {Q : Value → Shared → Prop} (hh : A.handled = none) (hl : s.heap.IsList l items) (hit : IntsAre items.toList ns) (hb : ns.length + 1 < scanBound)
    (h : ∀ s₂, Filled w s ns s₂ → Q (.ref s.heap.objs.size) s₂) : wpAny (model P w) A (call (.type "set") [.ref l]) Q E s := by
  obtain ⟨_, _, hmro⟩ := F.called_set.mro
  have k1 := F.called_set.made
  have k2 := F.called_set.sub
  have k3 := F.called_set.notType
  have k4 := F.called_set.canCreate
  have k5 := F.typeCall_set_1 (.ref l)
  refine wpAny_call (codeAny_of_tree (wpAny_pure ⟨Code.quiet_builtin _ (by decide +kernel), codeAny_builtin F.entry_type_call ?_⟩))
  rw [Around.under_plain (weight_type_call_type "set" [.ref l] []) rfl]
  repeat any_goals first | assumption | wp_step
  refine codeAny_mono (code_set_led1 (.ref l) (E := E) (Q₁ := fun v s₁ => v = .ref s.heap.objs.size ∧ s₁ = { s with heap := s.heap.push (fso w) }) ⟨rfl, rfl⟩) fun r s₁ hr => ?_
  match r, hr with
  | .error _, hr => exact hr
  | .ok (.ret _), hr =>
    obtain ⟨rfl, rfl⟩ := hr
    have hT : Shared.TypeIs { s with heap := s.heap.push (fso w) } (.ref s.heap.objs.size) "set" := ⟨_, Heap.get?_push_size _ rfl, rfl⟩
    have k6 := F.called_set.init.lookup
    have k7 := F.called_set.init.bind (.ref s.heap.objs.size)
    repeat any_goals first | assumption | wp_step
    refine codeAny_mono (set_fill (E := E) (by simp [hh]) hl hit hb) fun r₂ s₂ hr₂ => ?_
    match r₂, hr₂ with
    | .error _, hr₂ => exact hr₂
    | .ok (.ret _), hr₂ =>
      obtain ⟨rfl, f⟩ := hr₂
      repeat any_goals first | assumption | wp_step
      exact h _ f
end
/-! ### sorted(set(xs)) -/
theorem filled_few {w : World} {h : Heap} {a : Addr} {ns : List Int} {c : Nat} (R : SetR w h a (fun j => decide (j ∈ ns)) c) : ∃ L : List Int, L.Nodup ∧ L.length = c ∧ ∀ k, k ∈ L ↔ k ∈ ns := by
  obtain ⟨o, es, ep, t, _, _, _, _, nd, hm, _, _, hn, _⟩ := R
  exact ⟨es.toList.map keyOf, nd, by rw [List.length_map, Array.length_toList]; exact hn, fun k => by rw [← hm k, decide_eq_true_eq]⟩
def rSetI (K : Fg) (w : World) : List V → Hp → VK → Prop := fun xs H Q => ∃ (l : Addr) (ns : List Int), xs = [V.ref l] ∧ SqL K H l (ns.map V.int) ∧ ns.length < 4000 ∧
  ∀ p c, H p = none → (∃ L : List Int, L.Nodup ∧ L.length = c ∧ ∀ k, k ∈ L ↔ k ∈ ns) → Q (.ref p) (upd H p (SetO w p (fun j => decide (j ∈ ns)) c))
theorem cr_setI {X : Cx} (hc : X.calm = true) : CallR X (.type "set") (rSetI X.K X.w) := by
  intro pins s σ H xs us Q I r h
  obtain ⟨l, ns, rfl, hl, hb, q⟩ := h
  rw [Vals.ref1 r]
  obtain ⟨its, rv, pl, hz⟩ := I.list hl
  refine setI_list (P := X.prog) (w := X.w) (I.ok.hd hc) pl.isList (ns := ns) (by simpa using rv.ints) (by unfold scanBound; omega) fun s2 f => ?_
  obtain ⟨h2, tk, c, rfl, R, k⟩ := f
  exact ⟨.ref _, _, I.laid (t' := tk) k (Nat.le_refl _) (setO_new R), rfl, q _ c (I.hok.fresh (Nat.le_refl _)) (filled_few R)⟩
/-- the members in strictly rising order -/
def insS (x : Int) : List Int → List Int
  | [] => [x]
  | y :: r => if x < y then x :: y :: r else if x = y then y :: r else y :: insS x r
def srtS : List Int → List Int
  | [] => []
  | x :: r => insS x (srtS r)
theorem insS_mem (x k : Int) : ∀ l : List Int, k ∈ insS x l ↔ k = x ∨ k ∈ l
  | [] => by simp [insS]
  | y :: r => by
    unfold insS
    split
    · simp
    · split
      · next h => subst h; simp
      · rw [List.mem_cons, insS_mem x k r, List.mem_cons]; exact or_left_comm
theorem srtS_mem (k : Int) : ∀ l : List Int, k ∈ srtS l ↔ k ∈ l
  | [] => Iff.rfl
  | x :: r => by show k ∈ insS x (srtS r) ↔ _; rw [insS_mem, srtS_mem k r, List.mem_cons]
theorem insS_up (x : Int) : ∀ {l : List Int}, l.Pairwise (· < ·) → (insS x l).Pairwise (· < ·)
  | [], _ => by simp [insS]
  | y :: r, h => by
    obtain ⟨h1, h2⟩ := List.pairwise_cons.mp h
    unfold insS
    split
    · refine List.pairwise_cons.mpr ⟨fun z hz => ?_, h⟩
      rcases List.mem_cons.mp hz with e | e
      · omega
      · have := h1 z e; omega
    · split
      · exact h
      · refine List.pairwise_cons.mpr ⟨fun z hz => ?_, insS_up x h2⟩
        rcases (insS_mem x z r).mp hz with e | e
        · omega
        · exact h1 z e
theorem srtS_up : ∀ l : List Int, (srtS l).Pairwise (· < ·)
  | [] => .nil
  | x :: r => insS_up x (srtS_up r)
theorem up_ext : ∀ {l r : List Int}, l.Pairwise (· < ·) → r.Pairwise (· < ·) → (∀ k, k ∈ l ↔ k ∈ r) → l = r
  | [], [], _, _, _ => rfl
  | [], y :: r, _, _, h => absurd ((h y).mpr (List.mem_cons_self ..)) (by simp)
  | x :: l, [], _, _, h => absurd ((h x).mp (List.mem_cons_self ..)) (by simp)
  | x :: l, y :: r, h1, h2, h => by
    obtain ⟨a1, a2⟩ := List.pairwise_cons.mp h1
    obtain ⟨b1, b2⟩ := List.pairwise_cons.mp h2
    have e : x = y := by
      have m1 := List.mem_cons.mp ((h x).mp (List.mem_cons_self ..))
      have m2 := List.mem_cons.mp ((h y).mpr (List.mem_cons_self ..))
      rcases m1 with m | m
      · exact m
      · rcases m2 with q | q
        · exact q.symm
        · have := a1 y q; have := b1 x m; omega
    subst e
    rw [up_ext a2 b2 fun k => ⟨fun m => ?_, fun m => ?_⟩]
    · rcases List.mem_cons.mp ((h k).mp (List.mem_cons_of_mem _ m)) with q | q
      · have := a1 k m; omega
      · exact q
    · rcases List.mem_cons.mp ((h k).mpr (List.mem_cons_of_mem _ m)) with q | q
      · have := b1 k m; omega
      · exact q
theorem srtS_eq {ns l : List Int} (hu : ns.Pairwise (· < ·)) (h : ∀ k, k ∈ ns ↔ k ∈ l) : ns = srtS l := up_ext hu (srtS_up l) fun k => (h k).trans (srtS_mem k l).symm
theorem up_len : ∀ (n : Nat) (a : Int) {l : List Int}, l.Pairwise (· < ·) → (∀ k ∈ l, a ≤ k ∧ k < a + n) → l.length ≤ n
  | _, _, [], _, _ => Nat.zero_le _
  | 0, a, x :: l, _, h => by have := h x (List.mem_cons_self ..); omega
  | n + 1, a, x :: l, hu, h => by
    obtain ⟨a1, a2⟩ := List.pairwise_cons.mp hu
    have h0 := h x (List.mem_cons_self ..)
    have := up_len n (a + 1) a2 fun k hk => by
      have := a1 k hk; have := h k (List.mem_cons_of_mem _ hk); omega
    simp only [List.length_cons]; omega
theorem nd_srtS {L l : List Int} (nd : L.Nodup) (h : ∀ k, k ∈ L ↔ k ∈ l) : L.length = (srtS l).length := by
  have n2 : (srtS l).Nodup := (srtS_up l).imp fun h => by omega
  exact ((List.perm_ext_iff_of_nodup nd n2).mpr fun k => (h k).trans (srtS_mem k l).symm).length_eq
section
variable {K : Fg} {w : World} {σ : L2.St} {H : Hp} {ta : TE}
theorem erl_srtS {l : List Int} (h : Er K ta σ H l) (h1 : l.length < 4000) (h2 : (srtS l).length < 64) : ErL K (tCB (rSortedSet w) (tCons (tCB (rSetI K w) (tCons ta tNil)) tNil)) σ H (srtS l) := fun H1 e Q q => h H1 e _ fun v H2 e2 r => by
  obtain ⟨a, vs, rfl, f, hv⟩ := r
  refine ⟨a, l, rfl, by rw [← rl_ints hv]; exact f.seq, h1, fun p c hp ⟨L, nd, hL, hm⟩ => ?_⟩
  have e3 : Same H2 (upd H2 p (SetO w p (fun j => decide (j ∈ l)) c)) := same_new hp
  refine ⟨p, _, c, rfl, upd_same, by rw [← hL, nd_srtS nd hm]; exact h2, fun ns p2 up hk _ hp2 => q p2 _ _ ((e2.trans e3).trans (same_new hp2)) ((e2.trans e3).free hp2) upd_same ?_⟩
  rw [← srtS_eq up fun k => (hk k).trans decide_eq_true_iff]
  exact rl_of_ints _
end
/-! ### list(range(..)) -/
theorem paired_map {α β : Type} {F : V → α → Prop} {f : β → V} {g : β → α} (h : ∀ b, F (f b) (g b)) : ∀ l : List β, Paired F (l.map f) (l.map g)
  | [] => .nil
  | b :: l => .cons (h b) (paired_map h l)
section
variable {K : Fg} {σ : L2.St} {H : Hp} {ta tb : TE}
theorem erl_range1 {n : Nat} (h : Er K ta σ H n) (hz : n ≤ 1000000) : ErL K (tLstRg (tRg1 ta)) σ H (List.range n) := fun H1 e Q q => h H1 e _ fun v H2 e2 r => by
  refine ⟨(n : Int), (show v = .int n from r), ⟨by omega, by omega, by omega, by omega, by omega⟩, fun p hp => q p _ _ (e2.trans (same_new hp)) (e2.free hp) upd_same ?_⟩
  unfold rgV
  rw [show ((n : Int) - 0).toNat = n by omega]
  have := paired_map (F := Rp.rep K (upd H2 p (.lst ((List.range n).map fun i : Nat => V.int (0 + (i : Int)))))) (f := fun i : Nat => V.int (0 + (i : Int))) (g := fun i : Nat => i) (fun i => show V.int (0 + (i : Int)) = V.int i by rw [Int.zero_add]) (List.range n)
  rw [List.map_id'] at this
  exact this
theorem erl_range2 {i j : Int} (h : Er K ta σ H i) (h' : Er K tb σ H j) (h1 : -1000000 ≤ i ∧ i ≤ 1000000) (h2 : -1000000 ≤ j ∧ j ≤ 1000000) : ErL K (tLstRg (tRg2 ta tb)) σ H (rgI i (j - i).toNat) := fun H1 e Q q => h H1 e _ fun v H2 e2 r => h' H2 (e.trans e2) _ fun u H3 e3 r3 => by
  refine ⟨i, j, (show v = .int i from r), (show u = .int j from r3), ⟨by omega, by omega, by omega, by omega, by omega⟩, fun p hp => q p _ _ ((e2.trans e3).trans (same_new hp)) ((e2.trans e3).free hp) upd_same ?_⟩
  exact paired_map (F := Rp.rep K _) (f := fun k : Nat => V.int (i + (k : Int))) (g := fun k : Nat => i + (k : Int)) (fun k => rfl) _
end
section
variable {X : Cx} (K : Fg) (h : X.K = K)
include h
theorem k_setI (hc : X.calm = true) : CallR X (.type "set") (rSetI K X.w) := by subst h; exact cr_setI hc
end
end BL

set_option Elab.async false
set_option linter.all false
set_option maxRecDepth 100000
set_option maxHeartbeats 2000000
namespace BL
open PySem PySem.Spec PyProof.Rows L2
/-! ### zip, walked with one name -/
/-- a zip: what it says of its tuple -/
abbrev ZipO (h : Heap) (z TI TO : Addr) (v : Value) (f : Bool) : Prop := h.get? z = some { cls := .type "zip", dict := none, data := .fields #[v, .bool f, .bool false, .ref TI, .ref TO], slots := #[] }
section
variable {prog : Program} {w : World} {A : Around} {E : Value → Shared → Prop} {s : Shared} {z TI TO i1 i2 l1 l2 : Addr} {k1 k2 : Nat} {xs ys : Array Value} {x y a b v : Value} {f : Bool}
/-- its tuple may be taken again -/
def FreeZ (prog : Program) (w : World) (z : Addr) (s : Shared) : Prop := ∀ (A : Around) (E : Value → Shared → Prop) (Q : Bool → Shared → Prop), Q true s → wpAny (model prog w) A (Builtin.SmallTypes.ownedTupleIsFree (.ref z)) Q E s
theorem free_none (hz : ZipO s.heap z TI TO .none f) : FreeZ prog w z s := fun A E Q q => by
  unfold Builtin.SmallTypes.ownedTupleIsFree
  exact wpAny_bind (wpAny_field hz rfl (x := .none) rfl (wpAny_pure q))
theorem free_dead {T : Addr} (hz : ZipO s.heap z TI TO (rawInt T) f) (hT : s.heap.get? T = none) : FreeZ prog w z s := fun A E Q q => by
  unfold Builtin.SmallTypes.ownedTupleIsFree
  refine wpAny_bind (wpAny_field hz rfl (x := rawInt T) rfl ?_)
  show wpAny _ _ (loadIfAlive ((T : Int).toNat) >>= _) _ _ _
  rw [Int.toNat_natCast]
  refine wpAny_bind ?_
  have e : ∀ R : Option Obj → Shared → Prop, R none s → wpAny (model prog w) A (loadIfAlive T) R E s := fun R r => by
    have r' : R (s.heap.get? T) s := by rw [hT]; exact r
    exact fun _ _ _ => r'
  exact e _ (wpAny_pure q)
/-- all but these stay -/
def Stay (ps : List Addr) (h h' : Heap) : Prop := ∀ c o, c ∉ ps → h.get? c = some o → h'.get? c = some o
theorem Stay.refl {ps : List Addr} (h : Heap) : Stay ps h h := fun _ _ _ e => e
theorem Stay.but {ps : List Addr} {h h1 h2 : Heap} {p : Addr} (a : Stay ps h h1) (m : p ∈ ps) (b : Heap.SameBut p h1 h2) : Stay ps h h2 := fun c o n e => b.extBut c o (fun q => n (q ▸ m)) (a c o n e)
theorem Stay.ext {ps : List Addr} {h h1 h2 : Heap} {p : Addr} (a : Stay ps h h1) (m : p ∈ ps) (b : ∀ c o, c ≠ p → h1.get? c = some o → h2.get? c = some o) : Stay ps h h2 := fun c o n e => b c o (fun q => n (q ▸ m)) (a c o n e)
theorem Stay.push {ps : List Addr} {h h1 : Heap} (a : Stay ps h h1) (o : Obj) : Stay ps h (h1.push o) := fun c u n e => Heap.get?_push_of_some _ (a c u n e)
set_option maxHeartbeats 4000000 in
theorem zipn_item (D : ZipApart z TI TO i1 i2 l1 l2) (hf : FreeZ prog w z s) (hz : ZipO s.heap z TI TO v f) (hTI : IsPair s.heap TI (.ref i1) (.ref i2)) (hTO : IsPair s.heap TO a b)
    (h1 : s.heap.IsListIter i1 l1 k1) (h2 : s.heap.IsListIter i2 l2 k2) (hl1 : s.heap.IsList l1 xs) (hl2 : s.heap.IsList l2 ys) (hx : xs[k1]? = some x) (hy : ys[k2]? = some y) {Q : Value → Shared → Prop}
    (hQ : ∀ h', ZipO h' z TI TO (rawInt s.heap.objs.size) false → IsPair h' TO x y → h'.IsListIter i1 l1 (k1 + 1) → h'.IsListIter i2 l2 (k2 + 1) → IsPair h' s.heap.objs.size x y → Stay [z, TO, i1, i2] s.heap h' → Q (.ref s.heap.objs.size) { s with heap := h' }) :
    wpAny (model prog w) A (Builtin.«zip.__next__» ⟨[.ref z], []⟩) (fun fin s' => ∃ u, fin = .done (.ret u) ∧ Q u s') E s := by
  unfold Builtin.«zip.__next__»
  show wpAny _ _ (field _ 2 >>= _) _ _ _
  refine wpAny_bind (wpAny_field hz rfl rfl ?_)
  show wpAny _ _ (field _ 3 >>= _) _ _ _
  refine wpAny_bind (wpAny_field hz rfl rfl (wpAny_bind (wpAny_seqItems hTI rfl ?_)))
  show wpAny _ _ (Builtin.SmallTypes.ownedTupleIsFree _ >>= _) _ _ _
  refine wpAny_bind (hf _ _ _ ?_)
  rw [if_pos rfl]
  refine wpAny_bind (wpAny_rule (wpAny_bind (wpAny_field hz rfl rfl (wpAny_bind (wpAny_setField_rec hz (by simp) fun g1 z1 b1 => ?_)))))
  replace z1 : ZipO g1 z TI TO .ellipsis f := z1
  refine wpAny_bind ?_
  simp only [List.forIn_cons, List.forIn_nil, List.zipIdx_cons, List.zipIdx_nil]
  have s1 : Stay [z, TO, i1, i2] s.heap g1 := (Stay.refl _).but (by simp) b1
  refine wpAny_bind (wpAny_bind (wpAny_onRaise ?_))
  show wpAny _ _ (Builtin.SmallTypes.nextOf _ >>= _) _ _ _
  refine wpAny_bind (wpAny_nextOf_list_item (h1.extBut b1.extBut D.i1z) (hl1.extBut b1.extBut D.l1z) hx fun g2 j1 b2 => wpAny_pure ?_)
  have t2 : IsPair g2 TO a b := b2.extBut _ _ D.TOi1 (b1.extBut _ _ D.TOz hTO)
  refine wpAny_bind (wpAny_seqItems t2 rfl (wpAny_bind (wpAny_updateSeq_pair t2 fun g3 t3 b3 => wpAny_bind (wpAny_letGo (wpAny_pure ?_)))))
  replace t3 : IsPair g3 TO x b := t3
  refine wpAny_bind (wpAny_bind (wpAny_onRaise ?_))
  show wpAny _ _ (Builtin.SmallTypes.nextOf _ >>= _) _ _ _
  have k3 := ((h2.extBut b1.extBut D.i2z).extBut b2.extBut D.i12.symm).extBut b3.extBut D.TOi2.symm
  have m3 := ((hl2.extBut b1.extBut D.l2z).extBut b2.extBut D.l2i1).extBut b3.extBut D.l2TO
  refine wpAny_bind (wpAny_nextOf_list_item k3 m3 hy fun g4 j2 b4 => wpAny_pure ?_)
  have t4 : IsPair g4 TO x b := b4.extBut _ _ D.TOi2 t3
  refine wpAny_bind (wpAny_seqItems t4 rfl (wpAny_bind (wpAny_updateSeq_pair t4 fun g5 t5 b5 => wpAny_bind (wpAny_letGo (wpAny_pure (wpAny_pure ?_))))))
  replace t5 : IsPair g5 TO x y := t5
  have hs : g5.objs.size = s.heap.objs.size := by rw [b5.1, b4.1, b3.1, b2.1, b1.1]
  have z5 : ZipO g5 z TI TO .ellipsis f := b5.extBut _ _ D.TOz.symm (b4.extBut _ _ D.i2z.symm (b3.extBut _ _ D.TOz.symm (b2.extBut _ _ D.i1z.symm z1)))
  have s5 : Stay [z, TO, i1, i2] s.heap g5 := ((((s1.but (by simp) b2).but (by simp) b3).but (by simp) b4).but (by simp) b5)
  have c1 : g5.IsListIter i1 l1 (k1 + 1) := ((j1.extBut b3.extBut D.TOi1.symm).extBut b4.extBut D.i12).extBut b5.extBut D.TOi1.symm
  have c2 : g5.IsListIter i2 l2 (k2 + 1) := j2.extBut b5.extBut D.TOi2.symm
  refine wpAny_bind (wpAny_seqItems t5 rfl (wpAny_bind (wpAny_newTuple ?_)))
  show wpAny _ _ (Builtin.SmallTypes.ownedTupleHandOut _ (.ref g5.objs.size) >>= _) _ _ _
  unfold Builtin.SmallTypes.ownedTupleHandOut
  have zl : z < g5.objs.size := Heap.lt_size z5
  refine wpAny_bind (wpAny_bind (wpAny_setField_rec (Heap.get?_push_of_some _ z5) (by simp) fun g6 z6 b6 => ?_))
  replace z6 : ZipO g6 z TI TO (rawInt g5.objs.size) f := z6
  refine wpAny_setField_rec z6 (by simp) fun g7 z7 b7 => wpAny_pure ⟨_, rfl, ?_⟩
  replace z7 : ZipO g7 z TI TO (rawInt g5.objs.size) false := z7
  have s7 : Stay [z, TO, i1, i2] s.heap g7 := ((s5.push _).but (by simp) b6).but (by simp) b7
  have on : ∀ c o, c ≠ z → g5.get? c = some o → g7.get? c = some o := fun c o n e => b7.extBut _ _ n (b6.extBut _ _ n (Heap.get?_push_of_some _ e))
  have new : IsPair g7 g5.objs.size x y := b7.extBut _ _ (Nat.ne_of_gt zl) (b6.extBut _ _ (Nat.ne_of_gt zl) (Heap.get?_push_size _ rfl))
  show Q (.ref g5.objs.size) _
  rw [hs] at z7 new ⊢
  exact hQ g7 z7 (on _ _ D.TOz t5) (c1.at fun o e => on _ o D.i1z e) (c2.at fun o e => on _ o D.i2z e) new s7
set_option maxHeartbeats 4000000 in
theorem zipn_end (hh : A.handled = none) (D : ZipApart z TI TO i1 i2 l1 l2) (hf : FreeZ prog w z s) (hz : ZipO s.heap z TI TO v f) (hTI : IsPair s.heap TI (.ref i1) (.ref i2)) (hTO : IsPair s.heap TO a b)
    (h1 : s.heap.IsListIter i1 l1 k1) (h2 : s.heap.IsListIter i2 l2 k2) (hl1 : s.heap.IsList l1 xs) (hl2 : s.heap.IsList l2 ys) (hend : xs[k1]? = none ∨ ys[k2]? = none) {Q : Fin → Shared → Prop}
    (hE : ∀ h' e, Stay [z, TO, i1, i2] s.heap h' → (∃ o, h'.get? e = some o ∧ o.cls = .type "StopIteration") → E (.ref e) { s with heap := h' }) : wpAny (model prog w) A (Builtin.«zip.__next__» ⟨[.ref z], []⟩) Q E s := by
  unfold Builtin.«zip.__next__»
  show wpAny _ _ (field _ 2 >>= _) _ _ _
  refine wpAny_bind (wpAny_field hz rfl rfl ?_)
  show wpAny _ _ (field _ 3 >>= _) _ _ _
  refine wpAny_bind (wpAny_field hz rfl rfl (wpAny_bind (wpAny_seqItems hTI rfl ?_)))
  show wpAny _ _ (Builtin.SmallTypes.ownedTupleIsFree _ >>= _) _ _ _
  refine wpAny_bind (hf _ _ _ ?_)
  rw [if_pos rfl]
  refine wpAny_bind (wpAny_rule (wpAny_bind (wpAny_field hz rfl rfl (wpAny_bind (wpAny_setField_rec hz (by simp) fun g1 z1 b1 => ?_)))))
  replace z1 : ZipO g1 z TI TO .ellipsis f := z1
  refine wpAny_bind ?_
  simp only [List.forIn_cons, List.forIn_nil, List.zipIdx_cons, List.zipIdx_nil]
  have s1 : Stay [z, TO, i1, i2] s.heap g1 := (Stay.refl _).but (by simp) b1
  refine wpAny_bind (wpAny_bind (wpAny_onRaise ?_))
  show wpAny _ _ (Builtin.SmallTypes.nextOf _ >>= _) _ _ _
  have p1 := h1.extBut b1.extBut D.i1z
  have q1 := hl1.extBut b1.extBut D.l1z
  have fin : ∀ (g2 g : Heap) (e : Addr), Stay [z, TO, i1, i2] s.heap g2 → ZipO g2 z TI TO .ellipsis f → ∀ it, it ∈ [z, TO, i1, i2] → it ≠ z → (∀ c o, c ≠ it → g2.get? c = some o → g.get? c = some o) → (∃ o, g.get? e = some o ∧ o.cls = .type "StopIteration") →
      wpAny (model prog w) A (setField (.ref z) 0 .none) (fun _ s' => E (.ref e) s') E { s with heap := g } := fun g2 g e st zz it mi hi ke ho => by
    obtain ⟨o, ho, hc⟩ := ho
    have z3 : ZipO g z TI TO .ellipsis f := ke _ _ hi.symm zz
    have ne : e ≠ z := fun q => by subst q; rw [z3] at ho; cases ho; simp at hc
    exact wpAny_setField_rec z3 (by simp) fun g3 _ b3 => hE g3 e ((st.ext mi ke).but (by simp) b3) ⟨o, b3.extBut _ _ ne ho, hc⟩
  cases hx : xs[k1]? with
  | none => exact wpAny_bind (wpAny_nextOf_list_end hh p1 q1 hx fun g2 e ke ho => fin g1 g2 e s1 z1 i1 (by simp) D.i1z ke ho)
  | some x =>
    have hy : ys[k2]? = none := hend.resolve_left (by rw [hx]; exact nofun)
    refine wpAny_bind (wpAny_nextOf_list_item p1 q1 hx fun g2 j1 b2 => wpAny_pure ?_)
    have t2 : IsPair g2 TO a b := b2.extBut _ _ D.TOi1 (b1.extBut _ _ D.TOz hTO)
    refine wpAny_bind (wpAny_seqItems t2 rfl (wpAny_bind (wpAny_updateSeq_pair t2 fun g3 t3 b3 => wpAny_bind (wpAny_letGo (wpAny_pure ?_)))))
    refine wpAny_bind (wpAny_bind (wpAny_onRaise ?_))
    show wpAny _ _ (Builtin.SmallTypes.nextOf _ >>= _) _ _ _
    have k3 := ((h2.extBut b1.extBut D.i2z).extBut b2.extBut D.i12.symm).extBut b3.extBut D.TOi2.symm
    have m3 := ((hl2.extBut b1.extBut D.l2z).extBut b2.extBut D.l2i1).extBut b3.extBut D.l2TO
    have z3 : ZipO g3 z TI TO .ellipsis f := b3.extBut _ _ D.TOz.symm (b2.extBut _ _ D.i1z.symm z1)
    exact wpAny_bind (wpAny_nextOf_list_end hh k3 m3 hy fun g4 e ke ho => fin g3 g4 e ((s1.but (by simp) b2).but (by simp) b3) z3 i2 (by simp) D.i2z ke ho)
theorem zipn_pyItem (D : ZipApart z TI TO i1 i2 l1 l2) (hf : FreeZ prog w z s) (hz : ZipO s.heap z TI TO v f) (hTI : IsPair s.heap TI (.ref i1) (.ref i2)) (hTO : IsPair s.heap TO a b)
    (h1 : s.heap.IsListIter i1 l1 k1) (h2 : s.heap.IsListIter i2 l2 k2) (hl1 : s.heap.IsList l1 xs) (hl2 : s.heap.IsList l2 ys) (hx : xs[k1]? = some x) (hy : ys[k2]? = some y) {Q : Option Value → Shared → Prop}
    (hQ : ∀ h', ZipO h' z TI TO (rawInt s.heap.objs.size) false → IsPair h' TO x y → h'.IsListIter i1 l1 (k1 + 1) → h'.IsListIter i2 l2 (k2 + 1) → IsPair h' s.heap.objs.size x y → Stay [z, TO, i1, i2] s.heap h' → Q (some (.ref s.heap.objs.size)) { s with heap := h' }) :
    wpAny (model prog w) A (pyNext (.ref z)) Q E s := by
  have ty : s.TypeIs (.ref z) "zip" := ⟨_, hz, rfl⟩
  unfold pyNext
  exact wpAny_bind (wpAny_attempt (wpAny_callSpecial?_slot (name := Str.ofString "__next__") ty F.slot_zip_next (wpAny_call_entry F.slot_zip_next ty F.entry_zip_next (zipn_item D (fun A E Q q => hf A E Q q) hz hTI hTO h1 h2 hl1 hl2 hx hy fun h' b1 b2 b3 b4 b5 b6 => wpAny_pure (hQ h' b1 b2 b3 b4 b5 b6)) (F.args_zip_next_1 _))))
theorem zipn_pyEnd (hh : A.handled = none) (D : ZipApart z TI TO i1 i2 l1 l2) (hf : FreeZ prog w z s) (hz : ZipO s.heap z TI TO v f) (hTI : IsPair s.heap TI (.ref i1) (.ref i2)) (hTO : IsPair s.heap TO a b)
    (h1 : s.heap.IsListIter i1 l1 k1) (h2 : s.heap.IsListIter i2 l2 k2) (hl1 : s.heap.IsList l1 xs) (hl2 : s.heap.IsList l2 ys) (hend : xs[k1]? = none ∨ ys[k2]? = none) {Q : Option Value → Shared → Prop}
    (hQ : ∀ h', Stay [z, TO, i1, i2] s.heap h' → Q none { s with heap := h' }) : wpAny (model prog w) A (pyNext (.ref z)) Q E s := by
  have ty : s.TypeIs (.ref z) "zip" := ⟨_, hz, rfl⟩
  unfold pyNext
  refine wpAny_bind (wpAny_attempt (wpAny_callSpecial?_slot (name := Str.ofString "__next__") ty F.slot_zip_next (wpAny_call_entry F.slot_zip_next ty F.entry_zip_next (zipn_end (A := A.in1) hh D (fun A E Q q => hf A E Q q) hz hTI hTO h1 h2 hl1 hl2 hend fun h' e st ho => ?_) (F.args_zip_next_1 _))))
  obtain ⟨o, ho, hc⟩ := ho
  exact wpAny_bind (wpAny_isInstance (T := "StopIteration") (b := true) ⟨o, ho, hc⟩ isSubtype_stop (wpAny_pure (hQ _ st)))
end
/-- what its zip may be at each turn -/
def ZipS (z TI TO i1 i2 l1 l2 : Addr) (i : Nat) (h : Heap) : Prop := ∃ v f, ZipO h z TI TO v f ∧ (v = .none ∨ ∃ T : Addr, v = rawInt T) ∧ IsPair h TI (.ref i1) (.ref i2) ∧ (∃ x y, IsPair h TO x y) ∧ h.IsListIter i1 l1 i ∧ h.IsListIter i2 l2 i
theorem turn_zipN {P : Program} {w : World} {K : Fg} {nm : Str} {np : Pos} {a b z TI TO i1 i2 : Addr} (D : ZipApart z TI TO i1 i2 a b) : Turn P w K (.Name nm np) (Itz K a b) [z, TI, TO, i1, i2] z (ZipS z TI TO i1 i2 a b) where
  mem := by simp
  obj := fun i h st c hc => by
    obtain ⟨v, f, hz, _, hTI, ⟨x, y, hTO⟩, ⟨o1, e1, _, d1⟩, ⟨o2, e2, _, d2⟩⟩ := st
    simp only [List.mem_cons, List.mem_nil_iff, or_false] at hc
    rcases hc with q | q | q | q | q
    · exact q ▸ ⟨_, hz, nofun⟩
    · exact q ▸ ⟨_, hTI, nofun⟩
    · exact q ▸ ⟨_, hTO, nofun⟩
    · exact q ▸ ⟨o1, e1, fun v q => by rw [d1] at q; cases q⟩
    · exact q ▸ ⟨o2, e2, fun v q => by rw [d2] at q; cases q⟩
  keep := fun i h h' st k => by
    obtain ⟨v, f, hz, hv, hTI, ⟨x, y, hTO⟩, h1, h2⟩ := st
    exact ⟨v, f, k z (by simp) _ hz, hv, k TI (by simp) _ hTI, ⟨x, y, k TO (by simp) _ hTO⟩, h1.at fun o q => k i1 (by simp) o q, h2.at fun o q => k i2 (by simp) o q⟩
  item := by
    rintro X rfl rfl rfl hc i pins s σ H E I hf ⟨v, f, hz, hv, hTI, ⟨x0, y0, hTO⟩, h1, h2⟩ ⟨xs, ys, x, y, hqx, hqy, hx, hy⟩
    obtain ⟨its, rv, p, _⟩ := I.list hqx
    obtain ⟨its2, rv2, p2, _⟩ := I.list hqy
    obtain ⟨u, hu, ru⟩ := rv.get hx
    obtain ⟨u2, hu2, ru2⟩ := rv2.get hy
    have fresh : ∀ c ∈ [z, TI, TO, i1, i2], c < s.heap.objs.size := fun c hc => by
      simp only [List.mem_cons, List.mem_nil_iff, or_false] at hc
      rcases hc with q | q | q | q | q
      · exact q ▸ Heap.lt_size hz
      · exact q ▸ Heap.lt_size hTI
      · exact q ▸ Heap.lt_size hTO
      · obtain ⟨_, e, _⟩ := h1; exact q ▸ Heap.lt_size e
      · obtain ⟨_, e, _⟩ := h2; exact q ▸ Heap.lt_size e
    have done : ∀ h', (∃ v f, ZipO h' z TI TO v f ∧ (v = .none ∨ ∃ T : Addr, v = rawInt T)) → IsPair h' TI (.ref i1) (.ref i2) → (∃ x y, IsPair h' TO x y) → h'.IsListIter i1 a (i + 1) → h'.IsListIter i2 b (i + 1) → IsPair h' s.heap.objs.size u u2 → Stay [z, TO, i1, i2] s.heap h' →
        ∃ u', some (Value.ref s.heap.objs.size) = some u' ∧ wpAny (model X.prog X.w) X.A (letOwnedTupleGo (.Name nm np) (.ref z) u') (fun _ s2 => ∃ x H', Inv X pins σ H' s2 ∧ RelV x u' ∧ (Itz X.K a b).yld i H x H' ∧ ZipS z TI TO i1 i2 a b (i + 1) s2.heap ∧ ∀ b ∈ [z, TI, TO, i1, i2], H' b = none) E { s with heap := h' } := fun h' ⟨v', f', z', hv'⟩ tI tO j1 j2 new st => by
      refine ⟨_, rfl, ?_⟩
      have ok : ObjOk X.prog X.w (upd H s.heap.objs.size (.tup [x, y])) h' s.heap.objs.size (.tup [x, y]) := ⟨by show 2 ≤ sizeLine; decide, [u, u2], .cons ru (.cons ru2 .nil), ⟨_, new, rfl, _, rfl⟩⟩
      have I1 : Inv X pins σ (upd H s.heap.objs.size (.tup [x, y])) { s with heap := h' } :=
        I.turnedNew (t' := s.toks) (ch := [z, TI, TO, i1, i2]) (fun c o n q => st c o (fun m => n (by simp only [List.mem_cons, List.mem_nil_iff, or_false] at m; rcases m with q | q | q | q <;> simp [q])) q) hf (Nat.le_refl _) ok
      refine wpAny_pure ⟨.ref s.heap.objs.size, _, I1, rfl, ⟨_, x, y, rfl, I.hok.fresh (Nat.le_refl _), rfl, fun l hl => by rw [I.list_inj hl hqx]; exact hx, fun l hl => by rw [I.list_inj hl hqy]; exact hy⟩, ⟨v', f', z', hv', tI, tO, j1, j2⟩, fun c hc => ?_⟩
      rw [upd_ne (Nat.ne_of_lt (fresh c hc))]
      exact (hf c hc).1
    have nTI : TI ∉ [z, TO, i1, i2] := by
      simp only [List.mem_cons, List.mem_nil_iff, or_false, not_or]
      exact ⟨D.TIz, D.TITO, D.TIi1, D.TIi2⟩
    by_cases fr : FreeZ X.prog X.w z s
    · exact zipn_pyItem D fr hz hTI hTO h1 h2 p.isList p2.isList (x := u) (y := u2) (by simpa using hu) (by simpa using hu2) fun h' z' tO j1 j2 new st => done h' ⟨_, _, z', .inr ⟨_, rfl⟩⟩ (st _ _ nTI hTI) ⟨_, _, tO⟩ j1 j2 new st
    · rcases hv with rfl | ⟨T, rfl⟩
      · exact absurd (free_none hz) fr
      · cases hT : s.heap.get? T with
        | none => exact absurd (free_dead hz hT) fr
        | some oT =>
          exact PySem.wpAny_pyNext_zip_item_held D hz hT hTI h1 h2 p.isList p2.isList (x := u) (y := u2) (by simpa using hu) (by simpa using hu2) fun h' z' j1 j2 new _ k =>
            done h' ⟨_, _, z', .inr ⟨_, rfl⟩⟩ (k _ _ D.TIz D.TIi1 D.TIi2 hTI) ⟨_, _, k _ _ D.TOz D.TOi1 D.TOi2 hTO⟩ j1 j2 new fun c o n q => k c o (fun e => n (by simp [e])) (fun e => n (by simp [e])) (fun e => n (by simp [e])) q
  done := by
    rintro X rfl rfl rfl hc i pins s σ H E I hf ⟨v, f, hz, hv, hTI, ⟨x0, y0, hTO⟩, h1, h2⟩ ⟨xs, ys, hqx, hqy, hend⟩
    obtain ⟨its, rv, p, _⟩ := I.list hqx
    obtain ⟨its2, rv2, p2, _⟩ := I.list hqy
    have e1 := rv.length
    have e2 := rv2.length
    have he : its.toArray[i]? = none ∨ its2.toArray[i]? = none := hend.imp (fun q => by simp; omega) (fun q => by simp; omega)
    by_cases fr : FreeZ X.prog X.w z s
    · exact zipn_pyEnd (I.ok.hd hc) D fr hz hTI hTO h1 h2 p.isList p2.isList he fun h' st =>
        ⟨rfl, I.turnedL (t' := s.toks) (ch := [z, TI, TO, i1, i2]) (fun c o n q => st c o (fun m => n (by simp only [List.mem_cons, List.mem_nil_iff, or_false] at m; rcases m with q | q | q | q <;> simp [q])) q) hf⟩
    · rcases hv with rfl | ⟨T, rfl⟩
      · exact absurd (free_none hz) fr
      · cases hT : s.heap.get? T with
        | none => exact absurd (free_dead hz hT) fr
        | some oT =>
          exact PySem.wpAny_pyNext_zip_end_held (I.ok.hd hc) D hz hT hTI h1 h2 p.isList p2.isList he fun h' k =>
            ⟨rfl, I.turnedL (t' := s.toks) (ch := [z, TI, TO, i1, i2]) (fun c o n q => k c o (fun e => n (by simp [e])) (fun e => n (by simp [e])) (fun e => n (by simp [e])) q) hf⟩
  self := fun A i s Q E st h => by
    obtain ⟨v, f, hz, _⟩ := st
    have ty : s.TypeIs (.ref z) "zip" := ⟨_, hz, rfl⟩
    refine wpAny_pyIter_slot ty F.slot_zip_iter (wpAny_call_entry F.slot_zip_iter ty F.entry_zip_iter ?_ (F.args_zip_iter_1 _))
    show wpAny _ _ (ret (.ref z)) _ _ s
    exact wpAny_pure ⟨_, rfl, "zip", _, ty, F.slot_zip_next.lookup, h⟩
theorem pi_zipN {X : Cx} {e e2 : Expr} {ta : TA} {p pos np : Pos} {nm : Str} (hg : Gl X "zip") (hm : X.mg "zip" = none) (ha : PA X [e, e2] ta)
    (hs : starEach [e, e2] X.env = (false, eval e X.env) :: starEach [e2] X.env := by rfl) (hpl : (backTo pos (starEach [e2] X.env)).any (·.1) = false := by rfl) : PI X (.Name nm np) (.Call (.Name "zip" p) [e, e2] [] pos) (iZip X.K ta) := by
  refine ⟨fun pins s σ H R I h => ?_⟩
  refine Call_ (ld_blt I hg hm PyProof.Rows.boot_zip (PyProof.Rows.callWith_type1 (thn (ha.run pos pins s σ H _ I h) fun us s1 ⟨vs, H1, I1, r1, q1⟩ => ?_) hs hpl))
  obtain ⟨a, b, xs, ys, ex, hqx, hqy, q⟩ := q1
  subst ex
  obtain ⟨u1, u2, rfl, r1, r2⟩ : ∃ u1 u2, us = [u1, u2] ∧ RelV (.ref a) u1 ∧ RelV (.ref b) u2 := by
    cases r1 with
    | cons r t =>
      cases t with
      | cons r' t' =>
        cases t'
        exact ⟨_, _, rfl, r, r'⟩
  cases (show u1 = .ref a from r1)
  cases (show u2 = .ref b from r2)
  obtain ⟨its, rv, p1, _⟩ := I1.list hqx
  obtain ⟨its2, rv2, p2, _⟩ := I1.list hqy
  have la : a < s1.heap.objs.size := p1.lt
  have lb : b < s1.heap.objs.size := p2.lt
  refine call_zip_2 p1.isList p2.isList fun h' hz hTI hTO j1 j2 hsz k => wpAny_pyIter_zip hz ?_
  have I2 : Inv X pins σ H1 { s1 with heap := h' } := I1.kept (t' := s1.toks) k
  have st0 : ZipS (s1.heap.objs.size + 4) (s1.heap.objs.size + 2) (s1.heap.objs.size + 3) s1.heap.objs.size (s1.heap.objs.size + 1) a b 0 h' := ⟨.none, false, hz, .inl rfl, hTI, ⟨_, _, hTO⟩, j1, j2⟩
  refine ⟨s1.heap.objs.size + 4, [s1.heap.objs.size + 4, s1.heap.objs.size + 2, s1.heap.objs.size + 3, s1.heap.objs.size, s1.heap.objs.size + 1], _, _, H1, rfl, I2, turn_zipN (PySem.W.ktu_apart s1.heap.objs.size a b la lb), st0, fun c hc => ?_, q⟩
  have le : s1.heap.objs.size ≤ c := by
    simp only [List.mem_cons, List.mem_nil_iff, or_false] at hc
    rcases hc with q | q | q | q | q
    · rw [q]; exact Nat.le_add_right _ _
    · rw [q]; exact Nat.le_add_right _ _
    · rw [q]; exact Nat.le_add_right _ _
    · rw [q]; exact Nat.le_refl _
    · rw [q]; exact Nat.le_add_right _ _
  exact I1.fpOk le (I1.hok.fresh le)
section
variable {K : Fg} {α : Type} [Rp α] {x : α}
theorem rr_inDi [Rq α] [Rt α] [DecidableEq α] {l : List α} {i : Decidable (x ∈ l)} (hd : Rq.dep α + 1 ≤ 64 := by decide) : R2r K (rInD K) x l (@decide (x ∈ l) i) := by
  have h := rr_inD (K := K) (x := x) (l := l) hd
  rw [show @decide (x ∈ l) i = @decide (x ∈ l) (List.instDecidableMemOfLawfulBEq x l) from decide_eq_decide.mpr Iff.rfl]; exact h
theorem rr_ninDi [Rq α] [Rt α] [DecidableEq α] {l : List α} {i : Decidable (x ∈ l)} (hd : Rq.dep α + 1 ≤ 64 := by decide) : R2r K (rNotInD K) x l (!@decide (x ∈ l) i) := by
  have h := rr_ninD (K := K) (x := x) (l := l) hd
  rw [show @decide (x ∈ l) i = @decide (x ∈ l) (List.instDecidableMemOfLawfulBEq x l) from decide_eq_decide.mpr Iff.rfl]; exact h
end
section
variable {X : Cx} (K : Fg) (h : X.K = K)
include h
theorem k_pzN {e e2 : Expr} {ta : TA} {p pos np : Pos} {nm : Str} (hg : Gl X "zip") (hm : X.mg "zip" = none) (ha : PA X [e, e2] ta)
    (hs : starEach [e, e2] X.env = (false, eval e X.env) :: starEach [e2] X.env := by rfl) (hpl : (backTo pos (starEach [e2] X.env)).any (·.1) = false := by rfl) :
    PI X (.Name nm np) (.Call (.Name "zip" p) [e, e2] [] pos) (iZip K ta) := by subst h; exact pi_zipN hg hm ha hs hpl
end
end BL

set_option Elab.async false
set_option linter.all false
set_option maxRecDepth 100000
set_option maxHeartbeats 2000000
namespace BL
open PySem PySem.Spec PyProof.Rows L2
/-! ### dicts of ints by ints -/
structure Dt where
  l : List (Int × Int)
def encD (l : List (Int × Int)) : List (Key × V) := l.map fun p => ((Sum.inl p.1 : Key), V.int p.2)
/-- a dict that is locked -/
instance : Rp Dt := ⟨fun _ H v d => ∃ a o, v = .ref a ∧ H a = some (.frz o (.dK (encD d.l))), fun {K H H' v d} e h => by
  obtain ⟨a, o, h1, h2⟩ := h; exact ⟨a, o, h1, e _ _ (.frz _ _) h2⟩⟩
def Dt.get (d : Dt) (k : Int) : Option Int := (d.l.find? fun p => decide (p.1 = k)).map (·.2)
def Dt.put (d : Dt) (k v : Int) : Dt := ⟨if (d.l.any fun p => decide (p.1 = k)) = true then d.l.map (fun p => if p.1 = k then (p.1, v) else p) else d.l ++ [(k, v)]⟩
theorem enc_get (d : Dt) (k : Int) : valV (encD d.l) (Sum.inl k) = (d.get k).map V.int := by
  obtain ⟨l⟩ := d
  unfold Dt.get
  show valV (encD l) (Sum.inl k) = _
  induction l with
  | nil => rfl
  | cons p l ih =>
    by_cases h : p.1 = k
    · subst h
      show valV (((Sum.inl p.1 : Key), V.int p.2) :: encD l) (Sum.inl p.1) = _
      rw [valV_pos rfl]
      simp
    · show valV (((Sum.inl p.1 : Key), V.int p.2) :: encD l) (Sum.inl k) = _
      rw [valV_neg (by simpa using h), ih]
      simp [List.find?_cons, h]
theorem enc_put (d : Dt) (k v : Int) : putK (encD d.l) (Sum.inl k) (V.int v) = encD (d.put k v).l := by
  obtain ⟨l⟩ := d
  unfold putK Dt.put encD
  have e : ((l.map fun p => ((Sum.inl p.1 : Key), V.int p.2)).any fun kv => decide (kv.1 = Sum.inl k)) = l.any fun p => decide (p.1 = k) := by
    rw [List.any_map]
    congr 1
    funext p
    simp [Function.comp]
  simp only [e]
  split
  · rw [List.map_map, List.map_map]
    refine List.map_congr_left fun p _ => ?_
    simp only [Function.comp]
    by_cases h : p.1 = k
    · rw [if_pos h, if_pos (by rw [h])]
    · rw [if_neg h, if_neg (by simpa using h)]
  · rw [List.map_append]; rfl
theorem put_len (d : Dt) (k v : Int) : (d.put k v).l.length ≤ d.l.length + 1 := by
  unfold Dt.put
  split
  · rw [List.length_map]; omega
  · rw [List.length_append, List.length_singleton]; omega
theorem get_nil (k : Int) : Dt.get ⟨[]⟩ k = none := rfl
theorem get_put (d : Dt) (k v j : Int) : (d.put k v).get j = if j = k then some v else d.get j := by
  have h := valV_put (encD d.l) (Sum.inl k) (Sum.inl j) (V.int v)
  rw [enc_put, enc_get, enc_get] at h
  by_cases e : j = k
  · subst e
    rw [if_pos rfl] at h ⊢
    cases g : (d.put j v).get j with
    | none => rw [g] at h; cases h
    | some x => rw [g] at h; cases h; rfl
  · rw [if_neg (by simpa using e)] at h
    rw [if_neg e]
    cases g : (d.put k v).get j with
    | none =>
      cases g2 : d.get j with
      | none => rfl
      | some y => rw [g, g2] at h; cases h
    | some x =>
      cases g2 : d.get j with
      | none => rw [g, g2] at h; cases h
      | some y => rw [g, g2] at h; cases h; rfl
theorem get_mem {d : Dt} {k : Int} : k ∈ d.l.map (·.1) ↔ d.get k ≠ none := by
  unfold Dt.get
  rw [ne_eq, Option.map_eq_none_iff, List.find?_eq_none, List.mem_map]
  constructor
  · rintro ⟨p, hp, rfl⟩ h
    have := h p hp
    simp at this
  · intro h
    simp only [decide_eq_true_eq, Classical.not_forall, Decidable.not_not] at h
    obtain ⟨p, hp, e⟩ := h
    exact ⟨p, hp, e⟩
/-- a dict that may change -/
def Ud (K : Fg) (H : Hp) (p : Addr) (d : Dt) : Prop := H p = some (.dK (encD d.l))
theorem sta_dk {kvs : List (Key × V)} : ¬ Sta (.dK kvs) := fun h => nomatch h
section
variable {K : Fg} {σ : L2.St} {H H' H1 : Hp} {pd pn p q : Addr} {ps : List Addr} {ta tb tc te td : TE} {D : Ends} {tz : TS} {d : Dt} {i j k : Int} {u v : V} {α : Type} [Rp α] {x : α}
theorem Ud.mono (e : Same H H') (h : Ud K H p d) : Ud K H' p d := e _ _ h
theorem Ud.ne (m : Mu p H H') (n : q ≠ p) (h : Ud K H q d) : Ud K H' q d := m.ne _ _ n h
theorem Ud.dm (m : DM pd pn H H') (h1 : p ≠ pd) (h2 : p ≠ pn) (h : Ud K H p d) : Ud K H' p d := m.ne _ _ h1 h2 h
theorem Ud.mus (m : Mus ps H H') (n : p ∉ ps) (h : Ud K H p d) : Ud K H' p d := m.ne _ _ n h
theorem Ud.nep (h : Ud K H q d) (n : H p = none) : q ≠ p := ne_of_none h n
theorem mu_dk {kvs : List (Key × V)} {o : HO} (e : Same H H1) (h : H p = some (.dK kvs)) : Mu p H (upd H1 p o) := ⟨(SF.of e).trans (SF.chg (e _ _ h) sta_dk), fun q u n hq => by rw [upd_ne n]; exact e _ _ hq⟩
theorem q_newD {m : Nat} (qq : ∀ p H1, Same H H1 → H p = none → Ud K H1 p ⟨[]⟩ → tz D (σ.set m (some (.ref p))) H1) : tSeq (tAsg tDNewK (gName m)) tz D σ H := fun p hp => qq p _ (same_new hp) hp upd_same
theorem q_putD {m : Nat} (hσ : σ[m]? = some (some (.ref p))) (hu : Ud K H p d) (hv : Er K te σ H j) (hk : Er K tb σ H k) (hz : d.l.length < 1000000) (qq : ∀ H2, Mu p H H2 → Ud K H2 p (d.put k j) → tz D σ H2) :
    tSeq (sDPut (tVar m) tb te) tz D σ H := hv H (Same.refl _) _ fun v H1 e1 r1 => ⟨.ref p, hσ, hk H1 e1 _ fun u H2 e2 r2 => by
  cases (show v = .int j from r1)
  cases (show u = .int k from r2)
  have h2 : H2 p = some (.dK (encD d.l)) := (e1.trans e2) _ _ hu
  refine ⟨p, _, rfl, .inl ⟨_, Sum.inl k, h2, rfl, ?_, rfl⟩, qq _ (mu_dk (e1.trans e2) hu) ?_⟩
  · unfold encD; rw [List.length_map]; exact Nat.lt_of_lt_of_le hz (by decide)
  · show upd H2 p _ p = _
    rw [upd_same, enc_put]⟩
theorem er_getDU {m : Nat} (hσ : σ[m]? = some (some (.ref p))) (hu : Ud K H p d) (hk : Er K tb σ H k) (hx : Er K tc σ H j) : Er K (tDGet2 (tVar m) tb tc) σ H ((d.get k).getD j) := fun H1 e Q q => by
  refine ⟨.ref p, hσ, p, rfl, .inl ⟨_, .inl (e _ _ hu)⟩, hk H1 e _ fun u H2 e2 r2 => hx H2 (e.trans e2) _ fun w H3 e3 r3 => ?_⟩
  cases (show u = .int k from r2)
  cases (show w = .int j from r3)
  refine ⟨_, .inl ⟨_, Sum.inl k, .inl (((e.trans e2).trans e3) _ _ hu), rfl, rfl⟩, ?_⟩
  rw [enc_get]
  have e5 : ((d.get k).map V.int).getD (.int j) = V.int ((d.get k).getD j) := by cases d.get k <;> rfl
  rw [e5]
  exact q _ H3 (e2.trans e3) rfl
theorem er_getD (hd : Er K td σ H d) (hk : Er K tb σ H k) (hx : Er K tc σ H j) : Er K (tDGet2 td tb tc) σ H ((d.get k).getD j) := fun H1 e Q q => hd H1 e _ fun v H2 e2 r => by
  obtain ⟨a, o, rfl, ha⟩ := r
  refine ⟨a, rfl, .inl ⟨_, .inr ⟨o, ha⟩⟩, hk H2 (e.trans e2) _ fun u H3 e3 r3 => hx H3 ((e.trans e2).trans e3) _ fun w H4 e4 r4 => ?_⟩
  cases (show u = .int k from r3)
  cases (show w = .int j from r4)
  refine ⟨_, .inl ⟨_, Sum.inl k, .inr ⟨o, (e3.trans e4) _ _ ha⟩, rfl, rfl⟩, ?_⟩
  rw [enc_get]
  have e5 : ((d.get k).map V.int).getD (.int j) = V.int ((d.get k).getD j) := by cases d.get k <;> rfl
  rw [e5]
  exact q _ H4 ((e2.trans e3).trans e4) rfl
theorem er_ixD (hd : Er K td σ H d) (hk : Er K tb σ H k) (hx : d.get k = some j) : Er K (tDGet td tb) σ H j := fun H1 e Q q => hd H1 e _ fun v H2 e2 r => by
  obtain ⟨a, o, rfl, ha⟩ := r
  refine hk H2 (e.trans e2) _ fun u H3 e3 r3 => ?_
  cases (show u = .int k from r3)
  refine ⟨a, .int j, rfl, .inl ⟨_, Sum.inl k, .inr ⟨o, e3 _ _ ha⟩, rfl, ?_⟩, q _ H3 (e2.trans e3) rfl⟩
  rw [enc_get, hx]; rfl
theorem src_keysD (hd : Er K td σ H d) : Src K (iKeys td) σ H (d.l.map (·.1)) := fun H1 e RR kk => hd H1 e _ fun v H2 e2 r => by
  obtain ⟨a, o, rfl, ha⟩ := r
  refine ⟨a, o, rfl, .inl ⟨_, ha, kk _ H2 (fun H => H a = some (.frz o (.dK (encD d.l)))) _ e2 (by have := walk_keys (d := a) (o := o) (kvs := encD d.l); unfold encD at this ⊢; rw [List.length_map] at this ⊢; exact this) (fun H' s => s _ _ (.frz _ _) ha) fun i x hx H' s v H'' y => ?_⟩⟩
  obtain ⟨rfl, k, w, hk, rfl⟩ := y
  refine ⟨Same.refl _, ?_⟩
  rw [List.getElem?_map] at hx
  rw [List.getElem?_map] at hk
  cases g : d.l[i]? with
  | none => rw [g] at hx; cases hx
  | some p =>
    rw [g] at hx hk
    cases hx
    cases hk
    rfl
/-- {k: v} -/
theorem er_dispD (hk : Er K tb σ H k) (hv : Er K te σ H j) (hfrz : True := trivial) : ∀ H1, Same H H1 → ∀ Q : VK, (∀ p H2, Same H1 H2 → H1 p = none → Ud K H2 p ⟨[(k, j)]⟩ → Q (.ref p) H2) → tDisp [(tb, te)] σ H1 Q := fun H1 e Q q p hp => by
  have e1 : Same H1 (upd H1 p (.dK [])) := same_new hp
  refine hk _ (e.trans e1) _ fun u H2 e2 r2 => hv H2 ((e.trans e1).trans e2) _ fun w H3 e3 r3 => ?_
  cases (show u = .int k from r2)
  cases (show w = .int j from r3)
  have h3 : H3 p = some (.dK []) := (e2.trans e3) _ _ upd_same
  refine ⟨h3, [((Sum.inl k : Key), V.int j)], rfl, by simp, q p _ (fun a o ha => ?_) hp ?_⟩
  · have n : a ≠ p := ne_of_none ha hp
    rw [upd_ne n]
    exact ((e1.trans e2).trans e3) _ _ ha
  · show upd H3 p _ p = _
    rw [upd_same]; rfl
def tFrzD (t : TE) : TE := fun σ H Q => t σ H fun v H1 => ∃ a kvs, v = .ref a ∧ H1 a = some (.dK kvs) ∧ ∀ od, Q v (upd H1 a (.frz od (.dK kvs)))
theorem pe_frzD {X : Cx} {e : Expr} {t : TE} (h : PE X e t) : PE X e (tFrzD t) := ⟨fun pins s σ H Q I q => thn (h.run pins s σ H _ I q) fun u s1 hh => by
  obtain ⟨x, H1, I1, rx, a, kvs, ex, ha, q⟩ := hh
  obtain ⟨od, I2⟩ := I1.lock ha trivial
  exact ⟨x, _, I2, rx, q od⟩⟩
theorem er_frzDisp (hk : Er K tb σ H k) (hv : Er K te σ H j) : Er K (tFrzD (tDisp [(tb, te)])) σ H (Dt.mk [(k, j)]) := fun H1 e Q q => er_dispD hk hv trivial H1 e _ fun p H2 e2 hp u =>
  ⟨p, _, rfl, u, fun od => q (.ref p) _ (same_mut e2 hp) ⟨p, od, rfl, upd_same⟩⟩
def tFzD (k : Nat) (t : TS) : TS := fun D σ H => ∃ p kvs, σ[k]? = some (some (.ref p)) ∧ H p = some (.dK kvs) ∧ ∀ od, t D σ (upd H p (.frz od (.dK kvs)))
theorem pss_frzD {X : Cx} {rest : List Stmt} {t : TS} (k : Nat) (h : PSs X rest t) : PSs X rest (tFzD k t) := ⟨fun pins s σ H D I q => by
  obtain ⟨p, vs, hs, hp, q⟩ := q
  obtain ⟨od, I2⟩ := I.lock hp trivial
  exact h.run pins s σ _ D I2 (q od)⟩
theorem q_frzD {m : Nat} (hσ : σ[m]? = some (some (.ref p))) (hu : Ud K H p d) (qq : ∀ H2, Mu p H H2 → Rp.rep K H2 (.ref p) d → tz D σ H2) : tFzD m tz D σ H :=
  ⟨p, _, hσ, hu, fun od => qq _ (mu_dk (Same.refl _) hu) ⟨p, od, rfl, upd_same⟩⟩
end
/-! ### the greatest list -/
def mxL : List (List Int) → List Int
  | [] => []
  | x :: r => PySem.W.maxOf x r
def rMaxLL (K : Fg) : List V → Hp → VK → Prop := fun xs H Q => ∃ (a : Addr) (us : List V) (x : List Int) (r : List (List Int)), xs = [V.ref a] ∧ SqL K H a us ∧ DpAll K H us ((x :: r).map PySem.W.Datum.toD) ∧
  ∀ (i : Nat) (u : V), us[i]? = some u → (x :: r)[i]? = some (PySem.W.maxOf x r) → Q u H
theorem cr_maxLL {X : Cx} (hc : X.calm = true) (hu : X.A.units + 64 < cLine) : CallR X (.builtin "max") (rMaxLL X.K) := by
  intro pins s σ H vs us0 Q I rr h
  obtain ⟨a, us, x, r, rfl, hs, hd, q⟩ := h
  obtain ⟨its, rv, hl, _⟩ := I.list hs
  rw [Vals.ref1 rr]
  obtain ⟨as, rs⟩ := Dp.readsAll I _ _ _ hd rv
  have hn : its.toArray.size = r.length + 1 := by
    have := PySem.W.readsAll_len (vs := its.toArray) (by simpa using rs)
    simpa using this
  have hd0 : PySem.W.Datum.depth (List Int) ≤ 8 := by decide
  have hdep := Nat.le_trans (PySem.W.depthAll_map (x :: r)) hd0
  refine PySem.call_max_walkH (PySem.W.iter_listW (A := X.A.in1) (I.ok.hd hc) hl.isList fun s2 e W st hfp hw hk => ?_)
  refine ⟨_, _, _, _, _, _, _, s.heap, _, rfl, W, st, hfp, by omega, hw, hk, PySem.W.cmpIn_gt (A := X.A.in1) (by simpa using rs) (PySem.W.alikeAll_datum (x :: r)) (by show X.A.units + 1 + _ < _; omega), fun v s' hP m => ?_⟩
  obtain ⟨h', tk, rfl, hk'⟩ := PySem.W.moved_old e rfl m
  obtain ⟨e1, e2⟩ := PySem.W.argBest_fold (fun a b => PySem.W.dataLt b a) PyData.none (PySem.W.Datum.toD x) (r.map PySem.W.Datum.toD) r.length (by simp)
  have l1 : its.length = r.length + 1 := by simpa using hn
  have l2 : us.length = its.length := rv.length
  rw [show its.toArray.size - 1 = r.length by omega] at hP
  have e3 : (r.map PySem.W.Datum.toD).take r.length = r.map PySem.W.Datum.toD := List.take_of_length_le (by simp)
  rw [e3] at e2
  have e4 : (r.map PySem.W.Datum.toD).foldl (fun a y => if PySem.W.dataLt a y = true then y else a) (PySem.W.Datum.toD x) = PySem.W.Datum.toD (PySem.W.maxOf x r) := PySem.W.maxD_map x r
  rw [e4] at e2
  replace hP : its[argBest (fun i j => PySem.W.dataLt ((PySem.W.Datum.toD x :: r.map PySem.W.Datum.toD).getD j PyData.none) ((PySem.W.Datum.toD x :: r.map PySem.W.Datum.toD).getD i PyData.none)) r.length]? = some v := by simpa using hP
  generalize argBest (fun i j => PySem.W.dataLt ((PySem.W.Datum.toD x :: r.map PySem.W.Datum.toD).getD j PyData.none) ((PySem.W.Datum.toD x :: r.map PySem.W.Datum.toD).getD i PyData.none)) r.length = k at e1 e2 hP
  have hk2 : k < us.length := by omega
  obtain ⟨u', hu', ru⟩ := rv.get (List.getElem?_eq_getElem hk2)
  rw [hP] at hu'
  cases hu'
  refine ⟨us[k], H, I.kept (t' := tk) hk', ru, q k _ (List.getElem?_eq_getElem hk2) ?_⟩
  have hk3 : k < (x :: r).length := by simp only [List.length_cons]; omega
  have e5 : (PySem.W.Datum.toD x :: r.map PySem.W.Datum.toD).getD k PyData.none = PySem.W.Datum.toD ((x :: r)[k]) := by
    rw [show PySem.W.Datum.toD x :: r.map PySem.W.Datum.toD = (x :: r).map PySem.W.Datum.toD from rfl, List.getD_eq_getElem?_getD, List.getElem?_map, List.getElem?_eq_getElem hk3]; rfl
  rw [e5] at e2
  rw [List.getElem?_eq_getElem hk3]
  have e6 := PySem.W.Datum.eqv ((x :: r)[k]) (PySem.W.maxOf x r)
  rw [e2, PySem.W.Datum.eqv, decide_eq_true rfl] at e6
  rw [of_decide_eq_true e6.symm]
section
variable {K : Fg} {σ : L2.St} {H : Hp} {ta : TE}
theorem rl_toD : ∀ {us : List V} {l : List (List Int)}, RL K H us l → DpAll K H us (l.map PySem.W.Datum.toD) := fun h => dp_all h
theorem er_maxLL {l : List (List Int)} (h : Er K ta σ H l) (hn : l ≠ []) : Er K (tCB (rMaxLL K) (tCons ta tNil)) σ H (mxL l) := er_cb1 h fun H v rr Q q => by
  obtain ⟨a, us, rfl, h2, h3⟩ := rr
  match l, hn, h3 with
  | x :: r, _, h3 =>
    refine ⟨a, us, x, r, rfl, h2.seq, rl_toD h3, fun i u hu hx => q u H (Same.refl _) ?_⟩
    obtain ⟨w, hw, rw'⟩ := paired_get h3 hx
    rw [hu] at hw
    cases hw
    exact rw'
end
section
variable {X : Cx} (K : Fg) (h : X.K = K)
include h
theorem k_maxLL (hc : X.calm = true) (hu : X.A.units + 64 < cLine) : CallR X (.builtin "max") (rMaxLL K) := by subst h; exact cr_maxLL hc hu
end
theorem u1 {k : Nat} {A : Around} (r : Room k A) : A.units + 1 < cLine := by have := r.un; omega
end BL

set_option Elab.async false
set_option linter.all false
set_option maxRecDepth 100000
set_option maxHeartbeats 2000000
namespace BL
open PySem PySem.Spec PyProof.Rows L2
/-! ### a tuple of numbers as a key -/
structure Kt where
  s : List Int
instance : Rp Kt := ⟨fun _ H v k => ∃ t, v = .ref t ∧ H t = some (.tup ((k.s.map (Sum.inl : Int → Key)).map kV)), fun {K H H' v k} e h => by
  obtain ⟨t, h1, h2⟩ := h; exact ⟨t, h1, e _ _ (.tup _) h2⟩⟩
def rTupC (K : Fg) : List V → Hp → VK → Prop := fun xs H Q => ∃ p ys, xs = [.ref p] ∧ ((SqL K H p ys ∧ ∀ l, H l = none → Q (.ref l) (upd H l (.tup ys))) ∨ (SqT K H p ys ∧ Q (.ref p) H))
theorem key_vs (s : List Int) : (s.map (Sum.inl : Int → Key)).map kV = s.map V.int := by rw [List.map_map]; rfl
section
variable {K : Fg} {σ : L2.St} {H H' H1 H2 : Hp} {p q : Addr} {ta tb tc te td : TE} {tt : TT} {D : Ends} {tz : TS} {α β : Type} [Rp α] [Rp β] {x : α} {y : β} {i j : Int} {u v : V} {b : Bool} {J : Hp → Prop} {wi : TI} {g : TG}
theorem er_keyT {l : List Int} (h : Er K ta σ H l) : Er K (tCB (rTupC K) (tCons ta tNil)) σ H (Kt.mk l) := er_cb1 h fun H v r Q q => by
  obtain ⟨a, vs, rfl, h2, h3⟩ := r
  refine ⟨a, vs, rfl, .inl ⟨h2.seq, fun t ht => q _ _ (same_new ht) ⟨t, rfl, ?_⟩⟩⟩
  rw [upd_same, key_vs, rl_ints h3]
/-! ### what may change one dict -/
structure Jk (p : Addr) (J : Hp → Prop) : Prop where
  mono : ∀ {H H'}, Same H H' → J H → J H'
  off : ∀ {H q o}, q ≠ p → J H → J (upd H q o)
  ne : ∀ {H q}, J H → H q = none → q ≠ p
def Ek (K : Fg) (p : Addr) (J : Hp → Prop) (te : TE) (σ : L2.St) (H : Hp) {α : Type} [Rp α] (x : α) : Prop := ∀ H1, Mu p H H1 → J H1 → ∀ Q : VK, (∀ v H2, Mu p H1 H2 → J H2 → Rp.rep K H2 v x → Q v H2) → te σ H1 Q
def EkL (K : Fg) (p : Addr) (J : Hp → Prop) (te : TE) (σ : L2.St) (H : Hp) {α : Type} [Rp α] (l : List α) : Prop := ∀ H1, Mu p H H1 → J H1 → ∀ Q : VK, (∀ a vs H2, Mu p H1 H2 → J H2 → H1 a = none → H2 a = some (.lst vs) → RL K H2 vs l → Q (.ref a) H2) → te σ H1 Q
theorem Mu.refl (H : Hp) : Mu p H H := Mu.of (Same.refl H)
theorem mu_new {a : Addr} {o : HO} (m : Mu p H H') (h : H a = none) : Mu p H (upd H' a o) := ⟨sf_mut m.sf h, fun q u n e => by rw [upd_ne (ne_of_none e h)]; exact m.ne q u n e⟩
theorem ek_of (jk : Jk p J) (h : ∀ H1, Mu p H H1 → J H1 → Er K te σ H1 x) : Ek K p J te σ H x := fun H1 m j Q q => h H1 m j H1 (Same.refl _) Q fun v H2 e r => q v H2 (Mu.of e) (jk.mono e j) r
theorem ek_frz {l : List α} (jk : Jk p J) (h : EkL K p J te σ H l) : Ek K p J (tFrz te) σ H l := fun H1 m j Q q => h H1 m j _ fun a vs H2 m2 j2 hn h2 r =>
  ⟨a, vs, rfl, h2, fun od => q (.ref a) _ (mu_new m2 hn) (jk.off (jk.ne j hn) j2) ⟨a, vs, rfl, ⟨od, upd_same⟩, RL.mono (SF.lst h2) r⟩⟩
theorem ek_sum {l : List Int} (jk : Jk p J) (h : Ek K p J ta σ H l) : Ek K p J (tCB (rSum K) (tCons ta tNil)) σ H l.sum := fun H1 m j Q q => h H1 m j _ fun v H2 m2 j2 r => by
  obtain ⟨a, vs, rfl, h2, h3⟩ := r
  exact ⟨a, l, rfl, by rw [← rl_ints h3]; exact h2.seq, q _ H2 m2 j2 rfl⟩
theorem ekl_lm1 {l : List α} {vs : List Nat} {k : Nat} {f : α → β} (jk : Jk p J) (hs : ∀ H1, Mu p H H1 → J H1 → Src K wi σ H1 l) (hz : l.length ≤ 1000000) (hw : ∀ v : V, wipe ((wipe σ vs).set k (some v)) vs = wipe σ vs)
    (turn : ∀ x, x ∈ l → ∀ v H1, Mu p H H1 → J H1 → Rp.rep K H1 v x → Ek K p J te ((wipe σ vs).set k (some v)) H1 (f x)) : EkL K p J (tLc wi (gName k) tYes te vs) σ H (l.map f) := fun H1 m j Q q => hs H1 m j H1 (Same.refl _) _ fun X H2 G Y e2 w hG hY D hD => by
  have j2 := jk.mono e2 j
  have nD : D ≠ p := jk.ne j2 hD
  refine lc_it w (fun k H' => Mu p H2 H' ∧ J H' ∧ ∃ us, H' D = some (.lst us) ∧ RL K H' us ((l.take k).map f)) ⟨Mu.of (same_new hD), jk.mono (same_new hD) j2, [], upd_same, .nil⟩ (fun k H' _ p => hG H' p.1.sf) (fun k v H' H'' hk z y => ?_) fun H' z => ?_
  · obtain ⟨p1, p2, us, p3, p4⟩ := z
    have hx : l[k]? = some l[k] := List.getElem?_eq_getElem hk
    obtain ⟨s, r⟩ := hY k _ hx H' p1.sf v H'' y
    have he := turn l[k] (List.mem_of_getElem? hx) v H'' (m.trans ((Mu.of e2).trans (p1.trans (Mu.of s)))) (jk.mono s p2) r
    refine ⟨hw v, et_yes (K := K) H'' (Same.refl _) _ fun H3 e3 => iteT ?_⟩
    refine he H3 (Mu.of e3) (jk.mono e3 (jk.mono s p2)) _ fun w' H4 m4 j4 r4 => ?_
    have hD3 : H3 D = some (.lst us) := (s.trans e3) _ _ p3
    have hD4 : H4 D = some (.lst us) := m4.ne _ _ nD hD3
    have htake : l.take (k + 1) = l.take k ++ [l[k]] := by rw [List.take_add_one, hx]; rfl
    have hlen : us.length ≤ l.length := by
      rw [paired_len p4, List.length_map, List.length_take]; exact Nat.min_le_right _ _
    have mm : Mu p H2 H4 := p1.trans ((Mu.of (s.trans e3)).trans m4)
    refine ⟨us, hD4, Nat.lt_of_le_of_lt (Nat.le_trans hlen hz) (by decide), mu_new mm hD, jk.off nD j4, us ++ [w'], upd_same, ?_⟩
    rw [htake, List.map_append]
    exact RL.mono (SF.lst hD4) (paired_app (p4.mono ((SF.of (s.trans e3)).trans m4.sf)) (.cons r4 .nil))
  · obtain ⟨p1, p2, us, p3, p4⟩ := z
    rw [List.take_length] at p4
    exact q D us H' ((Mu.of e2).trans p1) p2 (e2.free hD) p3 p4
/-! ### the dict of known numbers -/
def KO (V0 : List Int → Int) (n : Nat) (p : Addr) (H : Hp) : Prop := ∃ kvs : List (List Key × V), H p = some (.dT kvs) ∧ (kvs.map (·.1)).Nodup ∧ ∀ q ∈ kvs, ∃ s : List Int, q.1 = s.map Sum.inl ∧ q.2 = V.int (V0 s) ∧ s.Pairwise (· < ·) ∧ ∀ x ∈ s, 0 ≤ x ∧ x < (n : Int)
variable {V0 : List Int → Int} {n : Nat}
theorem ko_jk : Jk p (KO V0 n p) := ⟨fun e h => by
  obtain ⟨kvs, h1, h2⟩ := h; exact ⟨kvs, e _ _ h1, h2⟩, fun nq h => by
  obtain ⟨kvs, h1, h2⟩ := h; exact ⟨kvs, by rw [upd_ne nq.symm]; exact h1, h2⟩, fun h e => by
  obtain ⟨kvs, h1, _⟩ := h; exact (ne_of_none h1 e).symm⟩
theorem inl_inj : ∀ {s t : List Int}, s.map (Sum.inl : Int → Key) = t.map Sum.inl → s = t
  | [], [], _ => rfl
  | [], _ :: _, h => by cases h
  | _ :: _, [], h => by cases h
  | x :: s, y :: t, h => by
    rw [List.map_cons, List.map_cons] at h
    injection h with h1 h2
    injection h1 with h1
    rw [h1, inl_inj h2]
theorem val_some {κ : Type} [DecidableEq κ] {kvs : List (κ × V)} {k : κ} {v : V} (h : valV kvs k = some v) : (k, v) ∈ kvs := by
  unfold valV at h
  obtain ⟨q, hq, rfl⟩ := Option.map_eq_some_iff.mp h
  have h1 := List.mem_of_find?_eq_some hq
  have h2 := List.find?_some hq
  have h2 : q.1 = k := of_decide_eq_true h2
  rw [← h2]; exact h1
theorem ko_val {kvs : List (List Key × V)} (h : ∀ q ∈ kvs, ∃ s : List Int, q.1 = s.map Sum.inl ∧ q.2 = V.int (V0 s) ∧ s.Pairwise (· < ·) ∧ ∀ x ∈ s, 0 ≤ x ∧ x < (n : Int)) (s : List Int) : valV kvs (s.map Sum.inl) = none ∨ valV kvs (s.map Sum.inl) = some (V.int (V0 s)) := by
  cases e : valV kvs (s.map Sum.inl) with
  | none => exact .inl rfl
  | some v =>
    obtain ⟨t, h1, h2, _⟩ := h _ (val_some e)
    refine .inr ?_
    rw [show v = V.int (V0 t) from h2, inl_inj (show s.map (Sum.inl : Int → Key) = t.map Sum.inl from h1)]
/-- lists that are cut out of another -/
def subsL : List Int → List (List Int)
  | [] => [[]]
  | x :: l => subsL l ++ (subsL l).map (x :: ·)
theorem subs_len : ∀ l : List Int, (subsL l).length = 2 ^ l.length
  | [] => rfl
  | x :: l => by
    show (subsL l ++ (subsL l).map (x :: ·)).length = _
    rw [List.length_append, List.length_map, subs_len l, List.length_cons, Nat.pow_succ]; omega
theorem subs_mem : ∀ (m : Nat) (a : Int) {s : List Int}, s.Pairwise (· < ·) → (∀ x ∈ s, a ≤ x ∧ x < a + m) → s ∈ subsL ((List.range m).map fun k : Nat => a + (k : Int))
  | 0, a, [], _, _ => List.mem_singleton.mpr rfl
  | 0, a, x :: s, _, h => by have := h x (List.mem_cons_self ..); omega
  | m + 1, a, s, hu, h => by
    have e : (List.range (m + 1)).map (fun k : Nat => a + (k : Int)) = a :: (List.range m).map fun k : Nat => (a + 1) + (k : Int) := by
      rw [List.range_succ_eq_map, List.map_cons, List.map_map]
      congr 1
      · show a + ((0 : Nat) : Int) = a; omega
      · refine List.map_congr_left fun k _ => ?_
        simp only [Function.comp]; omega
    rw [e]
    show s ∈ subsL _ ++ (subsL _).map (a :: ·)
    match s, hu, h with
    | [], _, _ => exact List.mem_append_left _ (subs_mem m (a + 1) .nil fun _ h => by cases h)
    | x :: s, hu, h =>
      obtain ⟨u1, u2⟩ := List.pairwise_cons.mp hu
      have hx := h x (List.mem_cons_self ..)
      by_cases c : x = a
      · refine List.mem_append_right _ (List.mem_map.mpr ⟨s, subs_mem m (a + 1) u2 fun y hy => ?_, by rw [c]⟩)
        have := u1 y hy; have := h y (List.mem_cons_of_mem _ hy); omega
      · refine List.mem_append_left _ (subs_mem m (a + 1) hu fun y hy => ?_)
        rcases List.mem_cons.mp hy with q | q
        · rw [q]; omega
        · have := u1 y q; have := h y (List.mem_cons_of_mem _ q); omega
theorem nodup_sub {α : Type} [DecidableEq α] : ∀ {l m : List α}, l.Nodup → (∀ x ∈ l, x ∈ m) → l.length ≤ m.length
  | [], _, _, _ => Nat.zero_le _
  | x :: l, m, nd, h => by
    obtain ⟨n1, n2⟩ := List.nodup_cons.mp nd
    have hx := h x (List.mem_cons_self ..)
    have := nodup_sub (m := m.erase x) n2 fun y hy => (List.mem_erase_of_ne (fun (e : y = x) => n1 (e ▸ hy))).mpr (h y (List.mem_cons_of_mem _ hy))
    rw [List.length_erase_of_mem hx] at this
    have := List.length_pos_of_mem hx
    simp only [List.length_cons]; omega
theorem ko_len {kvs : List (List Key × V)} (hn : n ≤ 10) (nd : (kvs.map (·.1)).Nodup) (h : ∀ q ∈ kvs, ∃ s : List Int, q.1 = s.map Sum.inl ∧ q.2 = V.int (V0 s) ∧ s.Pairwise (· < ·) ∧ ∀ x ∈ s, 0 ≤ x ∧ x < (n : Int)) : kvs.length ≤ 1024 := by
  have h1 := nodup_sub (m := (subsL ((List.range n).map fun k : Nat => (0 : Int) + (k : Int))).map fun s => s.map (Sum.inl : Int → Key)) nd fun k hk => by
    obtain ⟨q, hq, rfl⟩ := List.mem_map.mp hk
    obtain ⟨s, e1, _, e3, e4⟩ := h q hq
    exact List.mem_map.mpr ⟨s, subs_mem n 0 e3 fun x hx => by have := e4 x hx; omega, e1.symm⟩
  rw [List.length_map, List.length_map, subs_len, List.length_map, List.length_range] at h1
  have := Nat.pow_le_pow_right (show 0 < 2 by decide) hn
  have : 2 ^ 10 = 1024 := by decide
  omega
theorem ko_put (h : KO V0 n p H) {kvs : List (List Key × V)} (hk : H p = some (.dT kvs)) {s : List Int} (hu : s.Pairwise (· < ·)) (hr : ∀ x ∈ s, 0 ≤ x ∧ x < (n : Int)) : KO V0 n p (upd H p (.dT (putK kvs (s.map Sum.inl) (V.int (V0 s))))) := by
  obtain ⟨kvs', h1, h2, h3⟩ := h
  rw [hk] at h1
  cases h1
  refine ⟨_, upd_same, ?_, fun q hq => ?_⟩
  · unfold putK
    split
    · rw [List.map_map]
      have e : kvs.map ((fun q : List Key × V => q.1) ∘ fun kv => if kv.1 = s.map Sum.inl then (kv.1, V.int (V0 s)) else kv) = kvs.map (·.1) := List.map_congr_left fun q _ => by
        simp only [Function.comp]; split <;> rfl
      rw [e]; exact h2
    · next c =>
      rw [List.map_append]
      refine List.nodup_append.mpr ⟨h2, by simp, fun x hx y hy e => ?_⟩
      obtain ⟨q, hq, rfl⟩ := List.mem_map.mp hx
      rw [List.map_singleton, List.mem_singleton] at hy
      exact c (List.any_eq_true.mpr ⟨q, hq, decide_eq_true (e.trans hy)⟩)
  · unfold putK at hq
    split at hq
    · obtain ⟨q0, hq0, rfl⟩ := List.mem_map.mp hq
      split
      · next c => exact ⟨s, c, rfl, hu, hr⟩
      · exact h3 q0 hq0
    · rcases List.mem_append.mp hq with c | c
      · exact h3 q c
      · rw [List.mem_singleton.mp c]; exact ⟨s, rfl, rfl, hu, hr⟩
/-- key not in known: whichever it is; if it is in, its number is right -/
theorem et_notinK {m k : Nat} (hσ : σ[m]? = some (some (.ref p))) (ho : KO V0 n p H) (hk : σ[k]? = some (some v)) {s : List Int} (rk : Rp.rep K H v (Kt.mk s)) :
    ∃ b : Bool, Et K (tB (tDNotIn (tVar k) (tVar m))) σ H b ∧ (b = false → ∃ kvs, H p = some (.dT kvs) ∧ valV kvs (s.map Sum.inl) = some (V.int (V0 s))) := by
  obtain ⟨kvs, h1, h2, h3⟩ := ho
  obtain ⟨t, rfl, ht⟩ := rk
  refine ⟨!(valV kvs (s.map Sum.inl)).isSome, fun H1 e Q q => ⟨.ref t, hk, .ref p, hσ, p, _, rfl, .inr ⟨kvs, _, t, .inl (e _ _ h1), rfl, e _ _ ht, rfl⟩, _, rfl, q H1 (Same.refl _)⟩, fun hb => ⟨kvs, h1, ?_⟩⟩
  rcases ko_val h3 s with c | c
  · rw [c] at hb; cases hb
  · exact c
theorem q_putK {m k : Nat} (hn : n ≤ 10) (hσ : σ[m]? = some (some (.ref p))) (ho : KO V0 n p H) (hk : σ[k]? = some (some v)) {s : List Int} (rk : Rp.rep K H v (Kt.mk s)) (hu : s.Pairwise (· < ·)) (hr : ∀ x ∈ s, 0 ≤ x ∧ x < (n : Int)) (h : Ek K p (KO V0 n p) te σ H (V0 s))
    (qq : ∀ H2, Mu p H H2 → KO V0 n p H2 → (∃ kvs, H2 p = some (.dT kvs) ∧ valV kvs (s.map Sum.inl) = some (V.int (V0 s))) → tz D σ H2) : tSeq (sDPut (tVar m) (tVar k) te) tz D σ H := h H (Mu.refl _) ho _ fun w H1 m1 j1 r => ⟨.ref p, hσ, v, hk, by
  cases (show w = .int (V0 s) from r)
  obtain ⟨t, rfl, ht⟩ := rk
  obtain ⟨kvs, h1, h2, h3⟩ := id j1
  have h4 := ko_len hn h2 h3
  refine ⟨p, _, rfl, .inr ⟨kvs, _, t, h1, rfl, m1.sf _ _ (.tup _) ht, Nat.lt_of_le_of_lt h4 (by decide), rfl⟩, qq _ ?_ (ko_put j1 h1 hu hr) ⟨_, upd_same, ?_⟩⟩
  · exact ⟨m1.sf.trans (SF.chg h1 nofun), fun q o nq e => by rw [upd_ne nq]; exact m1.ne q o nq e⟩
  · rw [valV_put, if_pos rfl]⟩
theorem s_retK {m k : Nat} (hσ : σ[m]? = some (some (.ref p))) (hk : σ[k]? = some (some v)) {s : List Int} (rk : Rp.rep K H v (Kt.mk s)) (hv : ∃ kvs, H p = some (.dT kvs) ∧ valV kvs (s.map Sum.inl) = some (V.int (V0 s))) (q : D.rt (.int (V0 s)) H) : tRet (tDGet (tVar m) (tVar k)) D σ H := by
  obtain ⟨t, rfl, ht⟩ := rk
  obtain ⟨kvs, h1, h2⟩ := hv
  exact ⟨.ref p, hσ, .ref t, hk, p, .int (V0 s), rfl, .inr ⟨kvs, _, t, .inl h1, rfl, ht, h2.symm⟩, q⟩
end
section
variable {X : Cx} (K : Fg) (h : X.K = K)
include h
theorem k_tupC : CallR X (.type "tuple") (rTupC K) := by subst h; exact call_tuple_of
end
end BL

set_option Elab.async false
set_option linter.all false
set_option maxRecDepth 100000
set_option maxHeartbeats 2000000
namespace BL
open PySem PySem.Spec PyProof.Rows L2
section
variable {K : Fg} {σ : L2.St} {H : Hp} {ta te to : TE} {i : Int}
theorem er_countI {l : List Int} (ho : Er K to σ H l) (ha : Er K ta σ H i) : Er K (tBM K "list" (rCntI K) to (tCons ta tNil)) σ H (l.count i) := er_bm1 ho ha fun H v u r1 r2 Q q => by
  obtain ⟨a, vs, rfl, h2, h3⟩ := r1
  cases (show u = .int i from r2)
  rw [rl_ints h3] at h2
  exact ⟨a, l, i, rfl, rfl, h2.seq, q _ H (Same.refl _) rfl⟩
theorem er_twice {α : Type} [Rp α] {x : α} (h : Er K te σ H x) (hc : Er K ta σ H (2 : Int)) : Er K (tOp (rRepT K) (tTup (tCons te tNil)) ta) σ H ((x, x) : α × α) := fun H1 e Q q =>
  h H1 e _ fun v H2 e2 r2 => ⟨by show 1 ≤ sizeLine; decide, fun p hp => hc _ ((e.trans e2).trans (same_new hp)) _ fun u H3 e3 r3 => by
    cases (show u = .int 2 from r3)
    refine ⟨p, 2, [v], rfl, rfl, sq_tup (e3 _ _ upd_same), by simp, by decide, by decide, by simp, fun p2 hp2 => ?_⟩
    have es := (same_new hp).trans e3
    exact q (.ref p2) _ ((e2.trans es).trans (same_new hp2)) ⟨p2, v, v, rfl, sq_tup upd_same, Rp.mono ((SF.of es).trans (SF.new hp2)) r2, Rp.mono ((SF.of es).trans (SF.new hp2)) r2⟩⟩
end
section
variable {X : Cx} (K : Fg) (h : X.K = K)
include h
theorem k_repT : OpR X (binaryOp .Mult) (rRepT K) := by subst h; exact op_repT
theorem k_countI : MtR X "list.count" (rCntI K) := by subst h; exact mt_lcount
end
end BL

set_option Elab.async false
set_option linter.all false
set_option maxRecDepth 100000
set_option maxHeartbeats 2000000
namespace BL
open PySem PySem.Spec PyProof.Rows L2
theorem erase_idx {i : Int} : ∀ {l : List Int}, i ∈ l → l.eraseIdx (l.idxOf i) = l.erase i
  | [], h => by cases h
  | y :: l, h => by
    by_cases e : y = i
    · subst e
      rw [List.idxOf_cons_self, List.eraseIdx_cons_zero, List.erase_cons_head]
    · have h2 : i ∈ l := (List.mem_cons.mp h).resolve_left fun q => e q.symm
      rw [List.idxOf_cons, show (y == i) = false from by simpa using e, cond_false, List.eraseIdx_cons_succ, erase_idx h2, List.erase_cons_tail (by simpa using e)]
section
variable {K : Fg} {σ : L2.St} {H H' : Hp} {pd pn p : Addr} {ta tb te : TE} {D : Ends} {tz : TS} {i : Int} {α : Type} [Rp α]
/-- l.remove(x), l of numbers -/
theorem q_remU {k : Nat} {l : List Int} (hσ : σ[k]? = some (some (.ref p))) (hu : Un K H p l) (h : Er K te σ H i) (hm : i ∈ l) (q : ∀ H2, Mu p H H2 → Un K H2 p (l.erase i) → tz D σ H2) : tSeq (tDrop (tBM K "list" rRemI (tVar k) (tCons te tNil))) tz D σ H := by
  obtain ⟨vs, hp, r⟩ := hu
  refine ⟨.ref p, hσ, Or.inl ⟨rfl, vs, sq_lst hp⟩, h H (Same.refl _) _ fun v H2 e2 r2 => ?_⟩
  cases (show v = .int i from r2)
  rw [rl_ints r] at hp
  obtain ⟨h4, h5⟩ := idx_lt hm
  have hp2 := e2 _ _ hp
  refine ⟨p, l, i, l.idxOf i, rfl, rfl, hp2, h4, fun m hlt e => h5 m i hlt e rfl, q _ (mu_upd e2 hp) ⟨_, upd_same, ?_⟩⟩
  rw [erase_idx hm]
  exact rl_of_ints _
theorem er_neU {k : Nat} [Rq α] [Rt α] [DecidableEq α] {l m : List α} (hσ : σ[k]? = some (some (.ref p))) (hu : Un K H p l) (h : Er K tb σ H m) (hd : Rq.dep (List α) ≤ 64 := by decide) : Er K (tOp (rNeD K) (tVar k) tb) σ H (!decide (l = m)) := fun H1 e Q q =>
  ⟨.ref p, hσ, h H1 e _ fun u H2 e2 r2 => ⟨_, _, un_dp (Un.mono (e.trans e2) hu), Rq.dp r2, shaped_of (α := List α) (Rt.all l) hd, shaped_of (α := List α) (Rt.all m) hd, by rw [show PyData.list (l.map Rq.toD) = Rq.toD l from rfl, eqv_dec]; exact q _ H2 e2 rfl⟩⟩
theorem erl_rangeI {n : Nat} (h : Er K ta σ H n) (hz : n ≤ 1000000) : ErL K (tLstRg (tRg1 ta)) σ H (rgI 0 n) := fun H1 e Q q => h H1 e _ fun v H2 e2 r => by
  refine ⟨(n : Int), (show v = .int n from r), ⟨by omega, by omega, by omega, by omega, by omega⟩, fun p hp => q p _ _ (e2.trans (same_new hp)) (e2.free hp) upd_same ?_⟩
  unfold rgV
  rw [show ((n : Int) - 0).toNat = n by omega]
  exact paired_map (F := Rp.rep K _) (f := fun k : Nat => V.int (0 + (k : Int))) (g := fun k : Nat => 0 + (k : Int)) (fun k => rfl) _
def spPickU (K : Fg) {α : Type} [Rp α] : Sp := fun vs H Q _ => ∃ (pd pn p : Addr) (l : List α), vs = [.ref pd, .ref p] ∧ Dr H pd pn ∧ p ≠ pd ∧ p ≠ pn ∧ Un K H p l ∧ 0 < l.length ∧ l.length < 1000000 ∧ ∀ (x : α) u H', x ∈ l → DM pd pn H H' → Dr H' pd pn → Rp.rep K H' u x → Q u H'
theorem ep_pickU {E : XK} {k m : Nat} {l : List α} (hd : σ[k]? = some (some (.ref pd))) (hσ : σ[m]? = some (some (.ref p))) (hu : Un K H p l) (n1 : p ≠ pd) (n2 : p ≠ pn) (h0 : 0 < l.length) (h1 : l.length < 1000000) :
    Ep K pd pn (tCall (spPickU K (α := α)) [] E (tCons (tVar k) (tCons (tVar m) tNil))) σ H (fun x => x ∈ l) := fun H1 mm dr Q q =>
  ⟨.ref pd, hd, .ref p, hσ, pd, pn, p, l, rfl, dr, n1, n2, Un.dm mm n1 n2 hu, h0, h1, fun x u H' hx m d r => q u H' x m d hx r⟩
/-- l[draw below len(l)] of a list that may change -/
theorem ep_ixPick {m : Nat} {l : List α} {tb : TE} (hσ : σ[m]? = some (some (.ref p))) (hu : Un K H p l) (n1 : p ≠ pd) (n2 : p ≠ pn) (hd : Ep K pd pn tb σ H (fun y : Int => 0 ≤ y ∧ y < (l.length : Int))) : Ep K pd pn (tOp (rIxL K) (tVar m) tb) σ H (fun x => x ∈ l) := fun H1 mm dr Q q =>
  ⟨.ref p, hσ, hd H1 mm dr _ fun w H3 y m3 d3 hy r3 => by
    cases (show w = .int y from r3)
    obtain ⟨vs, hp, r⟩ := Un.dm (mm.trans m3) n1 n2 hu
    have hl : y.toNat < l.length := by omega
    obtain ⟨u, hw, rw'⟩ := paired_get r (List.getElem?_eq_getElem hl)
    obtain ⟨n, rfl⟩ : ∃ n : Nat, y = (n : Int) := ⟨y.toNat, by omega⟩
    rw [Int.toNat_natCast] at hw
    exact ⟨p, vs, n, u, rfl, rfl, sq_lst hp, atI_nat hw, q u H3 _ m3 d3 (List.getElem_mem hl) rw'⟩⟩
end
section
variable {X : Cx} (K : Fg) (h : X.K = K)
include h
theorem k_rem {o e : Expr} {to te : TE} {apos cpos : Pos} (ho : PE X o to) (he : PE X e te)
    (hbase : attributeBase o "remove" X.env (eval o X.env) = eval o X.env := by rfl)
    (hfew : ((backTo cpos (starEach [e] X.env)).all (fun x => !x.1) && (backToKw cpos (keywordEach [] X.env)).all (fun x => x.1.isSome)
      && decide ([e].length + ([] : List Keyword).length + (if ([] : List Keyword).isEmpty then 0 else 1) < 30)) = true := by rfl)
    (hline : (apos.endLine == cpos.line) = true := by rfl) (hs : starEach [e] X.env = (false, eval e X.env) :: starEach [] X.env := by rfl) (hplain : (backTo cpos (starEach [] X.env)).any (·.1) = false := by rfl) :
    PE X (.Call (.Attribute o "remove" apos) [e] [] cpos) (tBM K "list" rRemI to (tCons te tNil)) := by
  subst h; exact pe_bm PySem.F.plainAttrs_list PySem.F.slot_list_remove PySem.F.type_list_remove mt_remove ho (pa_cons he pa_nil hs) hbase hfew hline hs hplain
end
end BL

set_option Elab.async false
set_option linter.all false
set_option maxRecDepth 100000
set_option maxHeartbeats 2000000
namespace BL
open PySem PySem.Spec PyProof.Rows L2
theorem paired_rev {α β : Type} {F : α → β → Prop} : ∀ {l : List α} {r : List β}, Paired F l r → Paired F l.reverse r.reverse
  | _, _, .nil => .nil
  | _, _, .cons a b => by rw [List.reverse_cons, List.reverse_cons]; exact paired_app (paired_rev b) (.cons a .nil)
section
variable {K : Fg} {σ : L2.St} {H H' H1 H2 : Hp} {p q : Addr} {ta tb tc te td : TE} {tt : TT} {D : Ends} {tz tu tw : TS} {α β γ δ : Type} [Rp α] [Rp β] [Rp γ] [Rp δ] {x : α} {y : β} {z : γ} {i j : Int} {u v : V} {b : Bool} {J : Hp → Prop} {wi : TI} {g : TG} {pd pn : Addr}
/-! ### one dict may change: operators, calls, tests, statements -/
theorem ek_op {r : R2} (jk : Jk p J) (ha : Ek K p J ta σ H x) (hb : Ek K p J tb σ H y) (hr : R2r K r x y z) : Ek K p J (tOp r ta tb) σ H z := fun H1 m j Q q =>
  ha H1 m j _ fun v H2 m2 j2 r2 => hb H2 (m.trans m2) j2 _ fun u H3 m3 j3 r3 => hr H3 v u (Rp.mono m3.sf r2) r3 Q fun w H4 e4 r4 => q w H4 ((m2.trans m3).trans (Mu.of e4)) (jk.mono e4 j3) r4
theorem ek_call3 {pre : α → β → γ → Prop} {f : α → β → γ → δ} {E : XK} (jk : Jk p J) (h : Ek K p J ta σ H x) (h' : Ek K p J tb σ H y) (h'' : Ek K p J tc σ H z) (hp : pre x y z) : Ek K p J (tCall (sp3 K pre f) [] E (tCons ta (tCons tb (tCons tc tNil)))) σ H (f x y z) := fun H1 m j Q q =>
  h H1 m j _ fun v H2 m2 j2 r2 => h' H2 (m.trans m2) j2 _ fun u H3 m3 j3 r3 => h'' H3 ((m.trans m2).trans m3) j3 _ fun w H4 m4 j4 r4 =>
    ⟨v, u, w, x, y, z, rfl, Rp.mono (m3.trans m4).sf r2, Rp.mono m4.sf r3, r4, hp, fun u H5 e5 r5 => q u H5 (((m2.trans m3).trans m4).trans (Mu.of e5)) (jk.mono e5 j4) r5⟩
def Ekt (K : Fg) (p : Addr) (J : Hp → Prop) (tt : TT) (σ : L2.St) (H : Hp) (b : Bool) : Prop := ∀ H1, Mu p H H1 → J H1 → ∀ Q : Bool → Hp → Prop, (∀ H2, Mu p H1 H2 → J H2 → Q b H2) → tt σ H1 Q
theorem ekt_B (h : Ek K p J te σ H b) : Ekt K p J (tB te) σ H b := fun H1 m j _ q => h H1 m j _ fun v H2 m2 j2 r => ⟨b, r, q H2 m2 j2⟩
theorem ekt_not (h : Ekt K p J tt σ H b) : Ekt K p J (tNot tt) σ H (!b) := fun H1 m j _ q => h H1 m j _ fun H2 m2 j2 => q H2 m2 j2
theorem q_ifK (ho : J H) (h : Ekt K p J tt σ H b) (h1 : b = true → ∀ H1, Mu p H H1 → J H1 → tu { D with nx := tz D } σ H1) (h2 : b = false → ∀ H1, Mu p H H1 → J H1 → tz D σ H1) : tSeq (tIfS tt tu tNext) tz D σ H := h H (Mu.refl _) ho _ fun H1 m j => by
  cases b with
  | true => exact iteT (h1 rfl H1 m j)
  | false => exact iteF (h2 rfl H1 m j)
theorem q_newK {k : Nat} {V0 : List Int → Int} {n : Nat} (q : ∀ p H1, Same H H1 → H p = none → KO V0 n p H1 → tz D (σ.set k (some (.ref p))) H1) : tSeq (tAsg tDNewT (gName k)) tz D σ H := fun p hp => q p _ (same_new hp) hp ⟨[], upd_same, List.nodup_nil, fun _ h => by cases h⟩
theorem q_parK {k m : Nat} {i : Int} {V0 : List Int → Int} {n : Nat} (q : ∀ p H1, Same H H1 → H p = none → KO V0 n p H1 → tz D ((σ.set k (some (.int i))).set m (some (.ref p))) H1) : tSeq (tPar k m (tCons (tC (.int i)) (tCons tDNewT tNil))) tz D σ H := fun p hp => ⟨.int i, .ref p, rfl, q p _ (same_new hp) hp ⟨[], upd_same, List.nodup_nil, fun _ h => by cases h⟩⟩
theorem q_setK {k : Nat} (ho : J H) (h : Ek K p J te σ H x) (q : ∀ v H1, Mu p H H1 → J H1 → Rp.rep K H1 v x → tz D (σ.set k (some v)) H1) : tSeq (tAsg te (gName k)) tz D σ H := h H (Mu.refl _) ho _ fun v H1 m j r => q v H1 m j r
theorem s_augK {k : Nat} {f : Int → Int → Int} (hσ : σ[k]? = some (some (.int i))) (ho : J H) (h : Ek K p J te σ H j) (q : ∀ H1, Mu p H H1 → J H1 → D.nx (σ.set k (some (.int (f i j)))) H1) : tAug k te (ipI f) D σ H :=
  ⟨.int i, hσ, h H (Mu.refl _) ho _ fun v H1 m j r => ⟨i, _, rfl, r, q H1 m j⟩⟩
theorem mu_base {H0 : Hp} (e : Same H0 H) (h : H0 p = none) (m : Mu p H H') : Same H0 H' := Mu.base m e h
/-! ### a drawn list is walked -/
theorem srcP_list {P : List α → Prop} (h : Ep K pd pn te σ H P) : SrcP K pd pn (iList K te) σ H P := fun H1 m dr RR k => h H1 m dr _ fun v H2 l m2 d2 hl r => by
  obtain ⟨a, vs, rfl, f, p⟩ := r
  refine ⟨a, rfl, ⟨vs, f.seq⟩, k l _ H2 (fun H => SqL K H a vs) (YAt vs) hl m2 d2 (by rw [← paired_len p]; exact walk_list) (fun H' s => (f.sf s).seq) fun i x hx H' s v H'' y => ?_⟩
  obtain ⟨rfl, hv⟩ := y
  obtain ⟨w, hw, r⟩ := paired_get p hx
  rw [hv] at hw; cases hw
  exact ⟨Same.refl _, Rp.mono s r⟩
theorem erl_rev {l : List α} (h : Er K te σ H l) : ErL K (tRevL K te) σ H l.reverse := fun H1 e Q q => h H1 e _ fun v H2 e2 r => by
  obtain ⟨a, vs, rfl, f, p⟩ := r
  refine ⟨a, vs, rfl, f.seq, fun n hn => q n _ _ (e2.trans (same_new hn)) (e2.free hn) upd_same (RL.mono (SF.new hn) (paired_rev p))⟩
end
section
variable {X : Cx} (K : Fg) (h : X.K = K)
include h
theorem k_revL {e : Expr} {te : TE} {k : Nat} {p1 p2 p3 pos : Pos} (he : PE X e te) : PE X (.Subscript e (.Slice none none (some (.UnaryOp .USub (.Constant (.int 1) k p1) p2)) p3) pos) (tRevL K te) := by subst h; exact pe_revL he
end
end BL

set_option Elab.async false
set_option linter.all false
set_option maxRecDepth 100000
set_option maxHeartbeats 2000000
namespace BL
open PySem PySem.Spec PyProof.Rows L2
/-! ### list(zip(a, b)) -/
theorem zip_no_len : typeLookup (.type "zip") "__len__" = pure none := by rw [typeLookup_type, builtinLookup_eq_fast]; kernel_rfl
theorem zip_no_hint : typeLookup (.type "zip") "__length_hint__" = pure none := by rw [typeLookup_type, builtinLookup_eq_fast]; kernel_rfl
section
variable {X : Cx} {pins : List (Addr × Obj)} {σ : L2.St} {H H1 : Hp} {s : Shared} {a b z TI TO i1 i2 S : Addr} {A : Around} {E : Value → Shared → Prop} {xs ys : List V} {x y : V} {i : Nat}
abbrev ZF (X : Cx) (pins : List (Addr × Obj)) (H : Hp) (z TI TO i1 i2 : Addr) : Prop := ∀ c ∈ [z, TI, TO, i1, i2], FpOk X pins H c
theorem zip_next (D : ZipApart z TI TO i1 i2 a b) (I : Inv X pins σ H s) (hf : ZF X pins H z TI TO i1 i2) (st : ZipS z TI TO i1 i2 a b i s.heap) (hqx : SqL X.K H a xs) (hqy : SqL X.K H b ys) (hx : xs[i]? = some x) (hy : ys[i]? = some y) {Q : Option Value → Shared → Prop}
    (hQ : ∀ h' T, Inv X pins σ (upd H T (.tup [x, y])) { s with heap := h' } → H T = none → ZipS z TI TO i1 i2 a b (i + 1) h' → (∀ c ∈ [z, TI, TO, i1, i2], upd H T (.tup [x, y]) c = none) → Q (some (.ref T)) { s with heap := h' }) :
    wpAny (model X.prog X.w) A (pyNext (.ref z)) Q E s := by
  obtain ⟨v, f, hz, hv, hTI, ⟨x0, y0, hTO⟩, h1, h2⟩ := st
  obtain ⟨its, rv, p, _⟩ := I.list hqx
  obtain ⟨its2, rv2, p2, _⟩ := I.list hqy
  obtain ⟨u, hu, ru⟩ := rv.get hx
  obtain ⟨u2, hu2, ru2⟩ := rv2.get hy
  have fresh : ∀ c ∈ [z, TI, TO, i1, i2], c < s.heap.objs.size := fun c hc => by
    simp only [List.mem_cons, List.mem_nil_iff, or_false] at hc
    rcases hc with q | q | q | q | q
    · exact q ▸ Heap.lt_size hz
    · exact q ▸ Heap.lt_size hTI
    · exact q ▸ Heap.lt_size hTO
    · obtain ⟨_, e, _⟩ := h1; exact q ▸ Heap.lt_size e
    · obtain ⟨_, e, _⟩ := h2; exact q ▸ Heap.lt_size e
  have done : ∀ h', (∃ v f, ZipO h' z TI TO v f ∧ (v = .none ∨ ∃ T : Addr, v = rawInt T)) → IsPair h' TI (.ref i1) (.ref i2) → (∃ x y, IsPair h' TO x y) → h'.IsListIter i1 a (i + 1) → h'.IsListIter i2 b (i + 1) → IsPair h' s.heap.objs.size u u2 → Stay [z, TO, i1, i2] s.heap h' →
      Q (some (Value.ref s.heap.objs.size)) { s with heap := h' } := fun h' ⟨v', f', z', hv'⟩ tI tO j1 j2 new st => by
    have ok : ObjOk X.prog X.w (upd H s.heap.objs.size (.tup [x, y])) h' s.heap.objs.size (.tup [x, y]) := ⟨by show 2 ≤ sizeLine; decide, [u, u2], .cons ru (.cons ru2 .nil), ⟨_, new, rfl, _, rfl⟩⟩
    have I1 : Inv X pins σ (upd H s.heap.objs.size (.tup [x, y])) { s with heap := h' } :=
      I.turnedNew (t' := s.toks) (ch := [z, TI, TO, i1, i2]) (fun c o n q => st c o (fun m => n (by simp only [List.mem_cons, List.mem_nil_iff, or_false] at m; rcases m with q | q | q | q <;> simp [q])) q) hf (Nat.le_refl _) ok
    refine hQ h' _ I1 (I.hok.fresh (Nat.le_refl _)) ⟨v', f', z', hv', tI, tO, j1, j2⟩ fun c hc => ?_
    rw [upd_ne (Nat.ne_of_lt (fresh c hc))]
    exact (hf c hc).1
  have nTI : TI ∉ [z, TO, i1, i2] := by
    simp only [List.mem_cons, List.mem_nil_iff, or_false, not_or]
    exact ⟨D.TIz, D.TITO, D.TIi1, D.TIi2⟩
  by_cases fr : FreeZ X.prog X.w z s
  · exact zipn_pyItem D fr hz hTI hTO h1 h2 p.isList p2.isList (x := u) (y := u2) (by simpa using hu) (by simpa using hu2) fun h' z' tO j1 j2 new st => done h' ⟨_, _, z', .inr ⟨_, rfl⟩⟩ (st _ _ nTI hTI) ⟨_, _, tO⟩ j1 j2 new st
  · rcases hv with rfl | ⟨T, rfl⟩
    · exact absurd (free_none hz) fr
    · cases hT : s.heap.get? T with
      | none => exact absurd (free_dead hz hT) fr
      | some oT =>
        exact PySem.wpAny_pyNext_zip_item_held D hz hT hTI h1 h2 p.isList p2.isList (x := u) (y := u2) (by simpa using hu) (by simpa using hu2) fun h' z' j1 j2 new _ k =>
          done h' ⟨_, _, z', .inr ⟨_, rfl⟩⟩ (k _ _ D.TIz D.TIi1 D.TIi2 hTI) ⟨_, _, k _ _ D.TOz D.TOi1 D.TOi2 hTO⟩ j1 j2 new fun c o n q => k c o (fun e => n (by simp [e])) (fun e => n (by simp [e])) (fun e => n (by simp [e])) q
theorem zip_stop (hh : A.handled = none) (D : ZipApart z TI TO i1 i2 a b) (I : Inv X pins σ H s) (hf : ZF X pins H z TI TO i1 i2) (st : ZipS z TI TO i1 i2 a b i s.heap) (hqx : SqL X.K H a xs) (hqy : SqL X.K H b ys) (hend : xs.length ≤ i ∨ ys.length ≤ i) {Q : Option Value → Shared → Prop}
    (hQ : ∀ h', Inv X pins σ H { s with heap := h' } → Q none { s with heap := h' }) : wpAny (model X.prog X.w) A (pyNext (.ref z)) Q E s := by
  obtain ⟨v, f, hz, hv, hTI, ⟨x0, y0, hTO⟩, h1, h2⟩ := st
  obtain ⟨its, rv, p, _⟩ := I.list hqx
  obtain ⟨its2, rv2, p2, _⟩ := I.list hqy
  have e1 := rv.length
  have e2 := rv2.length
  have he : its.toArray[i]? = none ∨ its2.toArray[i]? = none := hend.imp (fun q => by simp; omega) (fun q => by simp; omega)
  by_cases fr : FreeZ X.prog X.w z s
  · exact zipn_pyEnd hh D fr hz hTI hTO h1 h2 p.isList p2.isList he fun h' st =>
      hQ h' (I.turnedL (t' := s.toks) (ch := [z, TI, TO, i1, i2]) (fun c o n q => st c o (fun m => n (by simp only [List.mem_cons, List.mem_nil_iff, or_false] at m; rcases m with q | q | q | q <;> simp [q])) q) hf)
  · rcases hv with rfl | ⟨T, rfl⟩
    · exact absurd (free_none hz) fr
    · cases hT : s.heap.get? T with
      | none => exact absurd (free_dead hz hT) fr
      | some oT =>
        exact PySem.wpAny_pyNext_zip_end_held hh D hz hT hTI h1 h2 p.isList p2.isList he fun h' k =>
          hQ h' (I.turnedL (t' := s.toks) (ch := [z, TI, TO, i1, i2]) (fun c o n q => k c o (fun e => n (by simp [e])) (fun e => n (by simp [e])) (fun e => n (by simp [e])) q) hf)
/-- the tuples that came -/
def ZT (H : Hp) (xs ys us : List V) : Prop := ∀ (j : Nat) u, us[j]? = some u → ∃ T x y, u = .ref T ∧ H T = some (.tup [x, y]) ∧ xs[j]? = some x ∧ ys[j]? = some y
theorem ext_zip (hh : A.handled = none) (D : ZipApart z TI TO i1 i2 a b) (hS : H1 S = none) {R : Result → Shared → Prop} (hqx : SqL X.K H1 a xs) (hqy : SqL X.K H1 b ys) (hz : min xs.length ys.length ≤ 1000000) :
    ∀ (k i : Nat) (s : Shared) (H : Hp) (us : List V), min xs.length ys.length - i = k → i ≤ min xs.length ys.length → Inv X pins σ H s → ZF X pins H z TI TO i1 i2 → ZipS z TI TO i1 i2 a b i s.heap → Same H1 H → H S = some (.lst us) → us.length = i → ZT H xs ys us →
    (∀ s' H' us', Inv X pins σ H' s' → Same H1 H' → H' S = some (.lst us') → us'.length = min xs.length ys.length → ZT H' xs ys us' → R (.ok (.ret .none)) s') →
    codeAny (model X.prog X.w) A (.builtin "list.extend.loop" ⟨[.ref S, .ref z, .none], []⟩) R s := by
  intro k
  induction k with
  | zero =>
    intro i s H us hk hi I hf st e hHS hl hzt hR
    refine codeAny_builtin F.entry_extend_loop ?_
    rw [Around.under_plainId F.plain_extend_loop _]
    show wpAny _ A.in1 (pyNext (.ref z) >>= _) _ _ s
    refine wpAny_bind (zip_stop (A := A.in1) hh D I hf st (e.seq hqx) (e.seq hqy) (by omega) fun h' I' => ?_)
    exact wpAny_pure (hR _ H us I' e hHS (by omega) hzt)
  | succ k ih =>
    intro i s H us hk hi I hf st e hHS hl hzt hR
    obtain ⟨x, hx⟩ : ∃ x, xs[i]? = some x := ⟨xs[i]'(by omega), List.getElem?_eq_getElem (by omega)⟩
    obtain ⟨y, hy⟩ : ∃ y, ys[i]? = some y := ⟨ys[i]'(by omega), List.getElem?_eq_getElem (by omega)⟩
    refine codeAny_builtin F.entry_extend_loop ?_
    rw [Around.under_plainId F.plain_extend_loop _]
    show wpAny _ A.in1 (pyNext (.ref z) >>= _) _ _ s
    refine wpAny_bind (zip_next D I hf st (e.seq hqx) (e.seq hqy) hx hy fun h' T I' hT st' hn => ?_)
    have nST : S ≠ T := ne_of_none hHS hT
    have hS2 : upd H T (.tup [x, y]) S = some (.lst us) := by rw [upd_ne nST]; exact hHS
    obtain ⟨hzz, its, n, rv, hlen, hg⟩ := I'.lstM hS2
    show wpAny _ A.in1 (updateSeq S (·.push (.ref T)) >>= _) _ _ _
    refine wpAny_bind (wpAny_updateSeq hg rfl (wpAny_pure ⟨plainId_quiet F.plain_extend_loop _, ?_⟩) (by have hq := sizeLine_eq; simp only [List.size_toArray]; omega) (by have hq := sizeLine_eq; show (its.toArray.push (.ref T)).size ≤ sizeLine + 1; rw [Array.size_push, List.size_toArray]; omega))
    have I2 := I'.lset (its' := its ++ [.ref T]) (ys := us ++ [.ref T]) (f := (·.push (.ref T))) (t' := s.toks) hS2 hg (by simp) (rv.append (.cons (show RelV (.ref T) (.ref T) from rfl) .nil)) (by rw [List.length_append, List.length_singleton, sizeLine_eq]; omega)
    have hne : ∀ c ∈ [z, TI, TO, i1, i2], c ≠ S := fun c hc q => by have := hn c hc; rw [q, hS2] at this; cases this
    refine ih (i + 1) _ _ (us ++ [.ref T]) (by omega) (by omega) I2 (fun c hc => ⟨?_, (hf c hc).2⟩) ?_ ?_ upd_same (by rw [List.length_append, List.length_singleton, hl]) ?_ hR
    · rw [upd_ne (hne c hc)]; exact hn c hc
    · exact (turn_zipN (P := X.prog) (w := X.w) (K := X.K) (nm := "") (np := ⟨0, 0, 0, 0⟩) D).keep _ _ _ st' fun c hc o q => (Heap.get?_update_other _ _ (Ne.symm (hne c hc))).trans q
    · exact same_mut (e.trans (same_new hT)) hS
    · intro j u hu
      rw [List.getElem?_append] at hu
      split at hu
      · obtain ⟨T', x', y', e1, e2, e3, e4⟩ := hzt j u hu
        refine ⟨T', x', y', e1, ?_, e3, e4⟩
        have n1 : T' ≠ T := ne_of_none e2 hT
        have n2 : T' ≠ S := fun q => by rw [q, hHS] at e2; cases e2
        rw [upd_ne n2, upd_ne n1]; exact e2
      · have hj : j = us.length := by
          have h3 := (List.getElem?_eq_some_iff.mp hu).1
          simp only [List.length_singleton] at h3; omega
        subst hj
        rw [Nat.sub_self] at hu
        cases hu
        refine ⟨T, x, y, rfl, ?_, by rw [hl]; exact hx, by rw [hl]; exact hy⟩
        rw [upd_ne nST.symm]; exact upd_same
end
/-- list(zip(..)) -/
def tLstZip (K : Fg) (ta : TA) : TE := fun σ H Q => ta σ H fun vs H1 => ∃ a b xs ys, vs = [.ref a, .ref b] ∧ SqL K H1 a xs ∧ SqL K H1 b ys ∧ min xs.length ys.length ≤ 1000000 ∧
  ∀ p H2 us, Same H1 H2 → H1 p = none → H2 p = some (.lst us) → us.length = min xs.length ys.length → ZT H2 xs ys us → Q (.ref p) H2
theorem pe_listZip {X : Cx} {e e2 : Expr} {ta : TA} {p p2 pos pos2 : Pos} (hc : X.calm = true) (hgl : Gl X "list") (hml : X.mg "list" = none) (hg : Gl X "zip") (hm : X.mg "zip" = none) (ha : PA X [e, e2] ta)
    (hs : starEach [e, e2] X.env = (false, eval e X.env) :: starEach [e2] X.env := by rfl) (hpl : (backTo pos2 (starEach [e2] X.env)).any (·.1) = false := by rfl)
    (na : starEach [(.Call (.Name "zip" p2) [e, e2] [] pos2)] X.env = (false, eval (.Call (.Name "zip" p2) [e, e2] [] pos2) X.env) :: starEach [] X.env := by rfl) :
    PE X (.Call (.Name "list" p) [.Call (.Name "zip" p2) [e, e2] [] pos2] [] pos) (tLstZip X.K ta) := by
  refine ⟨fun pins s σ H Q I h => ?_⟩
  refine Call_ (ld_blt I hgl hml boot_list (PyProof.Rows.callWith_type1 (args_cons (Call_ (ld_blt I hg hm PyProof.Rows.boot_zip (PyProof.Rows.callWith_type1 (thn (ha.run pos2 pins s σ H _ I h) fun us s1 ⟨vs, H1, I1, r1, q1⟩ => ?_) hs hpl))) na) na))
  obtain ⟨a, b, xs, ys, ex, hqx, hqy, hz, q⟩ := q1
  subst ex
  obtain ⟨u1, u2, rfl, r1, r2⟩ : ∃ u1 u2, us = [u1, u2] ∧ RelV (.ref a) u1 ∧ RelV (.ref b) u2 := by
    cases r1 with
    | cons r t =>
      cases t with
      | cons r' t' =>
        cases t'
        exact ⟨_, _, rfl, r, r'⟩
  cases (show u1 = .ref a from r1)
  cases (show u2 = .ref b from r2)
  obtain ⟨its, rv, p1, _⟩ := I1.list hqx
  obtain ⟨its2, rv2, p2, _⟩ := I1.list hqy
  have la : a < s1.heap.objs.size := p1.lt
  have lb : b < s1.heap.objs.size := p2.lt
  refine call_zip_2 p1.isList p2.isList fun h' hz0 hTI hTO j1 j2 hsz k => args_nil ?_
  have I2 : Inv X pins σ H1 { s1 with heap := h' } := I1.kept (t' := s1.toks) k
  have st0 : ZipS (s1.heap.objs.size + 4) (s1.heap.objs.size + 2) (s1.heap.objs.size + 3) s1.heap.objs.size (s1.heap.objs.size + 1) a b 0 h' := ⟨.none, false, hz0, .inl rfl, hTI, ⟨_, _, hTO⟩, j1, j2⟩
  have D := PySem.W.ktu_apart s1.heap.objs.size a b la lb
  have hf : ZF X pins H1 (s1.heap.objs.size + 4) (s1.heap.objs.size + 2) (s1.heap.objs.size + 3) s1.heap.objs.size (s1.heap.objs.size + 1) := fun c hc => by
    have le : s1.heap.objs.size ≤ c := by
      simp only [List.mem_cons, List.mem_nil_iff, or_false] at hc
      rcases hc with q | q | q | q | q
      · rw [q]; exact Nat.le_add_right _ _
      · rw [q]; exact Nat.le_add_right _ _
      · rw [q]; exact Nat.le_add_right _ _
      · rw [q]; exact Nat.le_refl _
      · rw [q]; exact Nat.le_add_right _ _
    exact I1.fpOk le (I1.hok.fresh le)
  generalize s1.heap.objs.size + 4 = z at *
  generalize s1.heap.objs.size + 2 = TI at *
  generalize s1.heap.objs.size + 3 = TO at *
  generalize s1.heap.objs.size + 1 = i2 at *
  generalize s1.heap.objs.size = i1 at *
  have hh : X.A.handled = none := I2.ok.hd hc
  show wpAny _ _ (call (.type "list") [.ref z]) _ _ _
  refine callType_codes (Q₁ := fun obj s₁ => obj = .ref h'.objs.size ∧ s₁ = { s1 with heap := h'.push { cls := .type "list", data := .seq #[] } }) F.called_list (F.typeCall_list_1 _) F.entry_list_init
    (code_list_new _ ⟨rfl, rfl⟩) fun obj s₁ h₁ => ?_
  obtain ⟨rfl, rfl⟩ := h₁
  have hSn : H1 h'.objs.size = none := I2.hok.fresh (Nat.le_refl _)
  have I3 : Inv X pins σ (upd H1 h'.objs.size (.lst [])) { s1 with heap := h'.push { cls := .type "list", data := .seq #[] } } := I2.lnew (its := []) (t' := s1.toks) .nil (by show 0 ≤ sizeLine; exact Nat.zero_le _)
  have hS : (h'.push { cls := .type "list", data := .seq #[] }).get? h'.objs.size = some { cls := .type "list", data := .seq #[] } := Heap.get?_push_size _ rfl
  have zlt : z < h'.objs.size := Heap.lt_size hz0
  generalize hSS : h'.objs.size = S at *
  refine ⟨⟨_, hS, rfl⟩, F.args_list_init_2 _ _, ?_⟩
  show wpAny _ _ (do let old ← Builtin.List.listItems (.ref S); Builtin.List.listUpdate (.ref S) (fun _ => #[]); letGo old.toList.reverse; Builtin.List.listExtendWith (.ref S) (.ref z) .none) _ _ _
  refine wpAny_bind ?_
  unfold Builtin.List.listItems
  refine wpAny_bind (wpAny_seqItems hS rfl (wpAny_pure ?_))
  show wpAny _ _ (updateSeq S (fun _ => #[]) >>= fun _ => letGo (#[] : Array Value).toList.reverse >>= fun _ => Builtin.List.listExtendWith (.ref S) (.ref z) .none) _ _ _
  refine wpAny_bind (wpAny_updateSeq hS rfl ?_)
  have uS : upd H1 S (.lst []) S = some (.lst []) := upd_same
  have I4 := I3.lset (its := []) (its' := []) (ys := []) (f := fun _ => (#[] : Array Value)) (t' := s1.toks) uS hS rfl .nil (Nat.zero_le _)
  have hS₂ := Heap.get?_update_self (Obj.mapSeq (fun _ => (#[] : Array Value))) hS rfl
  have keepZ : ∀ {h1 h2 : Heap} {n : Nat}, ZipS z TI TO i1 i2 a b n h1 → (∀ c ∈ [z, TI, TO, i1, i2], ∀ o, h1.get? c = some o → h2.get? c = some o) → ZipS z TI TO i1 i2 a b n h2 := fun st k => (turn_zipN (P := X.prog) (w := X.w) (K := X.K) (nm := "") (np := ⟨0, 0, 0, 0⟩) D).keep _ _ _ st k
  have neS : ∀ c ∈ [z, TI, TO, i1, i2], c ≠ S := fun c hc q => by
    obtain ⟨o, ho, _⟩ := (turn_zipN (P := X.prog) (w := X.w) (K := X.K) (nm := "") (np := ⟨0, 0, 0, 0⟩) D).obj 0 h' st0 c hc
    have := Heap.lt_size ho
    rw [q, hSS] at this; exact Nat.lt_irrefl _ this
  have st1 := keepZ st0 (h2 := h'.push { cls := .type "list", data := .seq #[] }) fun c hc o e => Heap.get?_push_of_some _ e
  have st2 := keepZ st1 (h2 := (h'.push { cls := .type "list", data := .seq #[] }).update S (Obj.mapSeq (fun _ => (#[] : Array Value)))) fun c hc o e => (Heap.get?_update_other _ _ (Ne.symm (neS c hc))).trans e
  refine wpAny_bind (wpAny_letGo ?_)
  generalize (h'.push { cls := .type "list", data := .seq #[] }).update S (Obj.mapSeq (fun _ => (#[] : Array Value))) = h2 at *
  have hz2 : ∃ v f, ZipO h2 z TI TO v f := by obtain ⟨v, f, hz, _⟩ := st2; exact ⟨v, f, hz⟩
  obtain ⟨zv, zf, hz2⟩ := hz2
  have ty : (({ s1 with heap := h2 } : Shared)).TypeIs (.ref z) "zip" := ⟨_, hz2, rfl⟩
  unfold Builtin.List.listExtendWith
  refine wpAny_bind (wpAny_typeOf (T := "zip") ty ?_)
  have g1 : Builtin.List.listSameRef (.ref S) (.ref z) = false := by simp [Builtin.List.listSameRef, (neS z (by simp)).symm]
  have g2 : (Value.type "zip" == Value.type "list") = false := by decide
  have g3 : (Value.type "zip" == Value.type "tuple") = false := by decide
  simp only [g1, g2, g3, Bool.or_false, Bool.false_eq_true, if_false]
  refine wpAny_bind ((turn_zipN (P := X.prog) (w := X.w) (K := X.K) (nm := "") (np := ⟨0, 0, 0, 0⟩) D).self _ 0 _ _ _ st2 ?_)
  have key : ∀ (h3 : Heap) (H3 : Hp) (tk : Nat), Inv X pins σ H3 { s1 with heap := h3, toks := tk } → H3 = upd H1 S (.lst []) → ZipS z TI TO i1 i2 a b 0 h3 → ∀ R : Result → Shared → Prop, (∀ s' H' us', Inv X pins σ H' s' → Same H1 H' → H' S = some (.lst us') → us'.length = min xs.length ys.length → ZT H' xs ys us' → R (.ok (.ret .none)) s') →
      codeAny (model X.prog X.w) X.A.in1 (.builtin "list.extend.loop" ⟨[.ref S, .ref z, .none], []⟩) R { s1 with heap := h3, toks := tk } := fun h3 H3 tk I5 e st R hR => by
    subst e
    exact ext_zip (A := X.A.in1) hh D hSn hqx hqy hz _ 0 _ _ [] rfl (Nat.zero_le _) I5 (fun c hc => ⟨by rw [upd_ne (neS c hc)]; exact (hf c hc).1, (hf c hc).2⟩) st (same_new hSn) upd_same rfl (fun j u hu => by simp at hu) hR
  refine wpAny_bind (wpAny_holding ?_)
  unfold Builtin.List.listLengthHint
  refine wpAny_bind (wpAny_specialOf ty zip_no_len ?_)
  show wpAny _ _ (specialOf (Value.ref z) (Str.ofString "__length_hint__") >>= _) _ _ _
  refine wpAny_bind (wpAny_specialOf ty zip_no_hint ?_)
  refine wpAny_pure ?_
  show wpAny _ _ (rule "list.extend.makes-room" >>= fun _ => Builtin.List.listTouch (.ref S) >>= fun _ => again (.builtin "list.extend.loop" ⟨[.ref S, .ref z, .none], []⟩)) _ _ _
  refine wpAny_bind (wpAny_rule ?_)
  refine wpAny_bind ?_
  show wpAny _ _ (updateSeq S (·.push .none) >>= fun _ => updateSeq S (·.pop)) _ _ _
  have u4 : upd (upd H1 S (.lst [])) S (.lst []) S = some (.lst []) := upd_same
  refine wpAny_bind (wpAny_updateSeq hS₂ rfl ?_)
  have I5 := I4.lset (its := []) (its' := [.none]) (ys := [.non]) (f := (·.push Value.none)) (t' := s1.toks) u4 hS₂ rfl (.cons rfl .nil) (by show 1 ≤ sizeLine; decide)
  have hS₃ := Heap.get?_update_self (Obj.mapSeq (·.push Value.none)) hS₂ rfl
  refine wpAny_updateSeq hS₃ rfl ?_
  have I6 := I5.lset (its := [.none]) (its' := []) (ys := []) (f := (·.pop)) (t' := s1.toks) upd_same hS₃ rfl .nil (Nat.zero_le _)
  have st3 := keepZ st2 (h2 := h2.update S (Obj.mapSeq (·.push Value.none))) fun c hc o e => (Heap.get?_update_other _ _ (Ne.symm (neS c hc))).trans e
  have st4 := keepZ st3 (h2 := (h2.update S (Obj.mapSeq (·.push Value.none))).update S (Obj.mapSeq (·.pop))) fun c hc o e => (Heap.get?_update_other _ _ (Ne.symm (neS c hc))).trans e
  refine wpAny_pure ⟨plainId_quiet F.plain_extend_loop _, key _ _ _ I6 ?_ st4 _ fun s' H' us' I' e' h' hl' zt' => ?_⟩
  · funext c
    by_cases hc : c = S
    · subst hc; rw [upd_same, upd_same]
    · rw [upd_ne hc, upd_ne hc, upd_ne hc, upd_ne hc]
  · exact ⟨rfl, .ref S, H', I', rfl, q S H' us' e' hSn h' hl' zt'⟩
section
variable {K : Fg} {σ : L2.St} {H : Hp} {ta tb : TE} {α β : Type} [Rp α] [Rp β]
theorem rl_zip {H : Hp} : ∀ {vs us ws : List V} {l : List α} {m : List β}, RL K H vs l → RL K H us m → ws.length = min vs.length us.length → ZT H vs us ws → RL K H ws (l.zip m)
  | [], us, ws, l, m, r1, r2, hl, h => by
    cases r1
    have : ws = [] := List.length_eq_zero_iff.mp (by simpa using hl)
    subst this
    exact .nil
  | v :: vs, [], ws, l, m, r1, r2, hl, h => by
    cases r2
    have : ws = [] := List.length_eq_zero_iff.mp (by simpa using hl)
    subst this
    rw [List.zip_nil_right]
    exact .nil
  | v :: vs, u :: us, [], l, m, r1, r2, hl, h => by simp at hl
  | v :: vs, u :: us, w :: ws, _ :: l, _ :: m, .cons a1 r1, .cons a2 r2, hl, h => by
    obtain ⟨T, x, y, rfl, hT, hx, hy⟩ := h 0 w rfl
    cases hx; cases hy
    refine .cons ⟨T, _, _, rfl, sq_tup hT, a1, a2⟩ (rl_zip r1 r2 (by simp at hl; omega) fun j z hz => ?_)
    obtain ⟨T', x', y', e1, e2, e3, e4⟩ := h (j + 1) z hz
    exact ⟨T', x', y', e1, e2, e3, e4⟩
theorem erl_listZip {l : List α} {m : List β} (h1 : Er K ta σ H l) (h2 : Er K tb σ H m) (hz : l.length ≤ 1000000) : ErL K (tLstZip K (tCons ta (tCons tb tNil))) σ H (l.zip m) := fun H1 e Q q =>
  h1 H1 e _ fun v H2 e2 r2 => h2 H2 (e.trans e2) _ fun u H3 e3 r3 => by
    obtain ⟨a, vs, rfl, f, p⟩ := Rp.mono (SF.of e3) r2
    obtain ⟨b, us, rfl, f', p'⟩ := r3
    have := paired_len p
    refine ⟨a, b, vs, us, rfl, f.seq, f'.seq, by omega, fun n H4 ws e4 hn h4 hl zt => q n ws H4 ((e2.trans e3).trans e4) ((e2.trans e3).free hn) h4 (rl_zip (p.mono (SF.of e4)) (p'.mono (SF.of e4)) hl zt)⟩
end
section
variable {X : Cx} (K : Fg) (h : X.K = K)
include h
theorem k_listZip {e e2 : Expr} {ta : TA} {p p2 pos pos2 : Pos} (hc : X.calm = true) (hgl : Gl X "list") (hml : X.mg "list" = none) (hg : Gl X "zip") (hm : X.mg "zip" = none) (ha : PA X [e, e2] ta)
    (hs : starEach [e, e2] X.env = (false, eval e X.env) :: starEach [e2] X.env := by rfl) (hpl : (backTo pos2 (starEach [e2] X.env)).any (·.1) = false := by rfl)
    (na : starEach [(.Call (.Name "zip" p2) [e, e2] [] pos2)] X.env = (false, eval (.Call (.Name "zip" p2) [e, e2] [] pos2) X.env) :: starEach [] X.env := by rfl) :
    PE X (.Call (.Name "list" p) [.Call (.Name "zip" p2) [e, e2] [] pos2] [] pos) (tLstZip K ta) := by subst h; exact pe_listZip hc hgl hml hg hm ha hs hpl na
end
end BL

set_option Elab.async false
set_option linter.all false
set_option maxRecDepth 100000
set_option maxHeartbeats 2000000
namespace BL
open PySem PySem.Spec PyProof.Rows L2
/-! ### a value of any kind -/
inductive Dyn where
  | non | bl (b : Bool) | int (i : Int) | str (s : Str) | tup (l : List Dyn) | lst (l : List Dyn)
mutual
def repD (K : Fg) (H : Hp) : V → Dyn → Prop
  | v, .non => v = .non
  | v, .bl b => v = .bl b
  | v, .int i => v = .int i
  | v, .str s => v = .str s
  | v, .tup l => ∃ a vs, v = .ref a ∧ SqT K H a vs ∧ repDs K H vs l
  | v, .lst l => ∃ a vs, v = .ref a ∧ Fz H a vs ∧ repDs K H vs l
def repDs (K : Fg) (H : Hp) : List V → List Dyn → Prop
  | [], [] => True
  | v :: vs, d :: ds => repD K H v d ∧ repDs K H vs ds
  | _, _ => False
end
mutual
theorem repD_mono {K : Fg} {H H' : Hp} (e : SF H H') : ∀ {v : V} {d : Dyn}, repD K H v d → repD K H' v d
  | _, .non, h => by unfold repD at h ⊢; exact h
  | _, .bl _, h => by unfold repD at h ⊢; exact h
  | _, .int _, h => by unfold repD at h ⊢; exact h
  | _, .str _, h => by unfold repD at h ⊢; exact h
  | _, .tup l, h => by
    unfold repD at h ⊢
    obtain ⟨a, vs, h1, h2, h3⟩ := h
    exact ⟨a, vs, h1, sqt_sf e h2, repDs_mono e h3⟩
  | _, .lst l, h => by
    unfold repD at h ⊢
    obtain ⟨a, vs, h1, h2, h3⟩ := h
    exact ⟨a, vs, h1, h2.sf e, repDs_mono e h3⟩
theorem repDs_mono {K : Fg} {H H' : Hp} (e : SF H H') : ∀ {vs : List V} {ds : List Dyn}, repDs K H vs ds → repDs K H' vs ds
  | [], [], _ => by unfold repDs; trivial
  | v :: vs, d :: ds, h => by
    unfold repDs at h ⊢
    exact ⟨repD_mono e h.1, repDs_mono e h.2⟩
  | [], _ :: _, h => by unfold repDs at h; exact h.elim
  | _ :: _, [], h => by unfold repDs at h; exact h.elim
end
instance : Rp Dyn := ⟨repD, fun {K H H' v x} e h => repD_mono e h⟩
theorem repDs_rl {K : Fg} {H : Hp} : ∀ {vs : List V} {ds : List Dyn}, repDs K H vs ds ↔ RL K H vs ds
  | [], [] => ⟨fun _ => .nil, fun _ => by unfold repDs; trivial⟩
  | v :: vs, d :: ds => by
    constructor
    · intro h
      unfold repDs at h
      exact .cons h.1 (repDs_rl.mp h.2)
    · intro h
      cases h with
      | cons a b => unfold repDs; exact ⟨a, repDs_rl.mpr b⟩
  | [], _ :: _ => ⟨fun h => by unfold repDs at h; exact h.elim, fun h => by cases h⟩
  | _ :: _, [] => ⟨fun h => by unfold repDs at h; exact h.elim, fun h => by cases h⟩
def Dyn.isI : Dyn → Bool | .int _ => true | .bl _ => true | _ => false
def Dyn.isB : Dyn → Bool | .bl _ => true | _ => false
def Dyn.isS : Dyn → Bool | .str _ => true | _ => false
def Dyn.isT : Dyn → Bool | .tup _ => true | _ => false
def Dyn.isL : Dyn → Bool | .lst _ => true | _ => false
def Dyn.toI : Dyn → Int | .int i => i | _ => 0
def Dyn.toS : Dyn → Str | .str s => s | _ => Str.empty
def Dyn.ls : Dyn → List Dyn | .tup l => l | .lst l => l | _ => []
def Dyn.at (d : Dyn) (n : Nat) : Dyn := d.ls.getD n .non
theorem Dyn.int_of : ∀ {d : Dyn}, d.isI = true → d.isB = false → d = .int d.toI
  | .int _, _, _ => rfl
  | .bl _, _, h => nomatch h
  | .non, h, _ => nomatch h
  | .str _, h, _ => nomatch h
  | .tup _, h, _ => nomatch h
  | .lst _, h, _ => nomatch h
theorem Dyn.tup_of {d : Dyn} (h : d.isT = true) : d = .tup d.ls := by cases d <;> first | rfl | cases h
theorem Dyn.lst_of {d : Dyn} (h : d.isL = true) : d = .lst d.ls := by cases d <;> first | rfl | cases h
theorem Dyn.str_of {d : Dyn} (h : d.isS = true) : d = .str d.toS := by cases d <;> first | rfl | cases h
instance : Ty Dyn := ⟨fun d => match d with
  | .non => "NoneType" | .bl _ => "bool" | .int _ => "int" | .str _ => "str" | .tup _ => "tuple" | .lst _ => "list", fun {K H v d} h => by
  cases d with
  | non => exact Ty.ty (α := Unit) (x := ()) (show v = .non by have h : repD K H v .non := h; unfold repD at h; exact h)
  | bl b => exact Ty.ty (α := Bool) (x := b) (show v = .bl b by have h : repD K H v (.bl b) := h; unfold repD at h; exact h)
  | int i => exact Ty.ty (α := Int) (x := i) (show v = .int i by have h : repD K H v (.int i) := h; unfold repD at h; exact h)
  | str s => exact Ty.ty (α := Str) (x := s) (show v = .str s by have h : repD K H v (.str s) := h; unfold repD at h; exact h)
  | tup l =>
    have h : repD K H v (.tup l) := h
    unfold repD at h
    obtain ⟨a, vs, rfl, h2, _⟩ := h
    exact ty_tup h2
  | lst l =>
    have h : repD K H v (.lst l) := h
    unfold repD at h
    obtain ⟨a, vs, rfl, ⟨o, h2⟩, _⟩ := h
    exact .base (.frz h2)⟩
section
variable {K : Fg} {σ : L2.St} {H H' H1 : Hp} {ta tb te : TE} {tt : TT} {α β : Type} [Rp α] [Rp β] {x : α} {y : β} {d : Dyn} {v : V} {i : Int} {b : Bool}
/-! what is known of a kind, as a value of any kind -/
theorem rd_int {v : V} {i : Int} : Rp.rep K H v (Dyn.int i) ↔ v = .int i := by show repD K H v (.int i) ↔ _; unfold repD; exact Iff.rfl
theorem rd_bl {v : V} {i : Bool} : Rp.rep K H v (Dyn.bl i) ↔ v = .bl i := by show repD K H v (.bl i) ↔ _; unfold repD; exact Iff.rfl
theorem rd_str {v : V} {i : Str} : Rp.rep K H v (Dyn.str i) ↔ v = .str i := by show repD K H v (.str i) ↔ _; unfold repD; exact Iff.rfl
theorem rd_non {v : V} : Rp.rep K H v Dyn.non ↔ v = .non := by show repD K H v .non ↔ _; unfold repD; exact Iff.rfl
theorem rd_tupl {v : V} {l : List Dyn} : Rp.rep K H v (Dyn.tup l) ↔ Rp.rep K H v (Tp.mk l) := by
  show repD K H v (.tup l) ↔ ∃ a vs, v = .ref a ∧ SqT K H a vs ∧ RL K H vs l
  unfold repD
  simp only [repDs_rl]
theorem rd_list {v : V} {l : List Dyn} : Rp.rep K H v (Dyn.lst l) ↔ Rp.rep K H v l := by
  show repD K H v (.lst l) ↔ ∃ a vs, v = .ref a ∧ Fz H a vs ∧ RL K H vs l
  unfold repD
  simp only [repDs_rl]
theorem Er.via {x : α} {y : β} (h : Er K te σ H x) (f : ∀ H v, Rp.rep K H v x → Rp.rep K H v y) : Er K te σ H y := fun H1 e Q q => h H1 e Q fun v H2 e2 r => q v H2 e2 (f H2 v r)
theorem er_dI (h : Er K te σ H i) : Er K te σ H (Dyn.int i) := h.via fun _ _ r => rd_int.mpr r
theorem er_dN {n : Nat} (h : Er K te σ H n) : Er K te σ H (Dyn.int (n : Int)) := h.via fun _ _ r => rd_int.mpr r
theorem er_dB (h : Er K te σ H b) : Er K te σ H (Dyn.bl b) := h.via fun _ _ r => rd_bl.mpr r
theorem er_dS {s : Str} (h : Er K te σ H s) : Er K te σ H (Dyn.str s) := h.via fun _ _ r => rd_str.mpr r
theorem er_d0 {u : Unit} (h : Er K te σ H u) : Er K te σ H Dyn.non := h.via fun _ _ r => rd_non.mpr r
theorem er_dT {l : List Dyn} (h : Er K te σ H (Tp.mk l)) : Er K te σ H (Dyn.tup l) := h.via fun _ _ r => rd_tupl.mpr r
theorem er_dL {l : List Dyn} (h : Er K te σ H l) : Er K te σ H (Dyn.lst l) := h.via fun _ _ r => rd_list.mpr r
theorem er_getI (h : Er K te σ H d) (e : d = .int d.toI) : Er K te σ H d.toI := h.via fun _ _ r => by rw [e] at r; exact rd_int.mp r
theorem er_getS (h : Er K te σ H d) (e : d = .str d.toS) : Er K te σ H d.toS := h.via fun _ _ r => by rw [e] at r; exact rd_str.mp r
theorem er_getT (h : Er K te σ H d) (e : d = .tup d.ls) : Er K te σ H (Tp.mk d.ls) := h.via fun _ _ r => by rw [e] at r; exact rd_tupl.mp r
theorem er_getLs (h : Er K te σ H d) (e : d = .lst d.ls) : Er K te σ H d.ls := h.via fun _ _ r => by rw [e] at r; exact rd_list.mp r
theorem rp_getI {v : V} (h : Rp.rep K H v d) (e : d = .int d.toI) : Rp.rep K H v d.toI := by rw [e] at h; exact rd_int.mp h
/-! data as values of any kind -/
class Td (α : Type) [Rp α] where
  dy : α → Dyn
  rp : ∀ {K : Fg} {H : Hp} {v : V} {x : α}, Rp.rep K H v x → Rp.rep K H v (dy x)
instance : Td Int := ⟨.int, fun h => rd_int.mpr h⟩
instance : Td Nat := ⟨fun n => .int (n : Int), fun h => rd_int.mpr h⟩
instance : Td Bool := ⟨.bl, fun h => rd_bl.mpr h⟩
instance : Td Str := ⟨.str, fun h => rd_str.mpr h⟩
instance : Td Dyn := ⟨id, fun h => h⟩
instance [Td α] [Td β] : Td (α × β) := ⟨fun p => .tup [Td.dy p.1, Td.dy p.2], fun {K H v x} h => by
  obtain ⟨a, v1, v2, rfl, h2, h3, h4⟩ := h
  exact rd_tupl.mpr ⟨a, _, rfl, h2, .cons (Td.rp h3) (.cons (Td.rp h4) .nil)⟩⟩
theorem td_all [Td α] : ∀ {vs : List V} {l : List α}, RL K H vs l → RL K H vs (l.map Td.dy)
  | _, _, .nil => .nil
  | _, _, .cons a b => .cons (Td.rp a) (td_all b)
instance [Td α] : Td (List α) := ⟨fun l => .lst (l.map Td.dy), fun {K H v x} h => by
  obtain ⟨a, vs, rfl, h2, h3⟩ := h
  exact rd_list.mpr ⟨a, vs, rfl, h2, td_all h3⟩⟩
instance [Td α] : Td (Tp α) := ⟨fun t => .tup (t.l.map Td.dy), fun {K H v x} h => by
  obtain ⟨a, vs, rfl, h2, h3⟩ := h
  exact rd_tupl.mpr ⟨a, vs, rfl, h2, td_all h3⟩⟩
theorem er_dy [Td α] (h : Er K te σ H x) : Er K te σ H (Td.dy x) := h.via fun _ _ r => Td.rp r
/-! isinstance -/
theorem kit_int : ∀ d : Dyn, kitB (Ty.n d) "int" = some d.isI
  | .non => show kitB "NoneType" "int" = some false from by decide +kernel
  | .bl _ => show kitB "bool" "int" = some true from by decide +kernel
  | .int _ => show kitB "int" "int" = some true from by decide +kernel
  | .str _ => show kitB "str" "int" = some false from by decide +kernel
  | .tup _ => show kitB "tuple" "int" = some false from by decide +kernel
  | .lst _ => show kitB "list" "int" = some false from by decide +kernel
theorem kit_bool : ∀ d : Dyn, kitB (Ty.n d) "bool" = some d.isB
  | .non => show kitB "NoneType" "bool" = some false from by decide +kernel
  | .bl _ => show kitB "bool" "bool" = some true from by decide +kernel
  | .int _ => show kitB "int" "bool" = some false from by decide +kernel
  | .str _ => show kitB "str" "bool" = some false from by decide +kernel
  | .tup _ => show kitB "tuple" "bool" = some false from by decide +kernel
  | .lst _ => show kitB "list" "bool" = some false from by decide +kernel
theorem kit_str : ∀ d : Dyn, kitB (Ty.n d) "str" = some d.isS
  | .non => show kitB "NoneType" "str" = some false from by decide +kernel
  | .bl _ => show kitB "bool" "str" = some false from by decide +kernel
  | .int _ => show kitB "int" "str" = some false from by decide +kernel
  | .str _ => show kitB "str" "str" = some true from by decide +kernel
  | .tup _ => show kitB "tuple" "str" = some false from by decide +kernel
  | .lst _ => show kitB "list" "str" = some false from by decide +kernel
theorem kit_tuple : ∀ d : Dyn, kitB (Ty.n d) "tuple" = some d.isT
  | .non => show kitB "NoneType" "tuple" = some false from by decide +kernel
  | .bl _ => show kitB "bool" "tuple" = some false from by decide +kernel
  | .int _ => show kitB "int" "tuple" = some false from by decide +kernel
  | .str _ => show kitB "str" "tuple" = some false from by decide +kernel
  | .tup _ => show kitB "tuple" "tuple" = some true from by decide +kernel
  | .lst _ => show kitB "list" "tuple" = some false from by decide +kernel
theorem kit_list : ∀ d : Dyn, kitB (Ty.n d) "list" = some d.isL
  | .non => show kitB "NoneType" "list" = some false from by decide +kernel
  | .bl _ => show kitB "bool" "list" = some false from by decide +kernel
  | .int _ => show kitB "int" "list" = some false from by decide +kernel
  | .str _ => show kitB "str" "list" = some false from by decide +kernel
  | .tup _ => show kitB "tuple" "list" = some false from by decide +kernel
  | .lst _ => show kitB "list" "list" = some true from by decide +kernel
/-! items of a tuple of any length -/
theorem rr_ixTp {t : Tp α} {n : Nat} {x : α} (hi : i = (n : Int)) (hx : t.l[n]? = some x) : R2r K (rIxT K) t i x := fun H v u e1 e2 Q q => by
  subst hi
  obtain ⟨a, vs, rfl, h2, h3⟩ := e1
  cases (show u = .int (n : Int) from e2)
  obtain ⟨w, hw, rw'⟩ := paired_get h3 hx
  exact ⟨a, vs, n, w, rfl, rfl, h2, atI_nat hw, q w H (Same.refl _) rw'⟩
end
/-! ### two promises of one def -/
theorem codeAny_mono' {M : Model} {A : Around} {c : Code} {R R' : Result → Shared → Prop} {s : Shared} (h : codeAny M A c R s) (k : ∀ r s', R r s' → R' r s') : codeAny M A c R' s := codeAny_mono h k
section
variable {P : Program} {w : World} {K : Fg} {mg : Str → Option Value} {base : Heap} {CX : CXT} {k : Nat} {x : Str} {ps : List Str} {sp sp' : Sp}
def spOr (sp sp' : Sp) : Sp := fun vs H Q E => sp vs H Q E ∨ sp' vs H Q E
end
end BL

set_option Elab.async false
set_option linter.all false
set_option maxRecDepth 100000
set_option maxHeartbeats 2000000
namespace BL
open PySem PySem.Spec PyProof.Rows L2
/-! ### methods, that may raise; objects made -/
def tMethX (C : Addr) (m : Str) (sp : Sp) (E : L2.St → XK) (ta : TE) (t : TA) : TE := fun σ H Q => ta σ H fun x H1 => ∃ a dx fs, x = .ref a ∧ H1 a = some (.ins C dx fs) ∧ fs.lookup m = none ∧ t σ H1 fun vs H2 => sp (x :: vs) H2 Q (E σ)
def tMakeX (C : Addr) (sp : Sp) (E : L2.St → XK) (t : TA) : TE := fun σ H Q => t σ H fun vs H1 => ∀ x dx, H1 x = none → H1 dx = none → dx ≠ x → sp (.ref x :: vs) (upd (upd H1 dx (.own x)) x (.ins C dx [])) (fun v H2 => v = .non ∧ Q (.ref x) H2) (E σ)
section
variable {X : Cx} {CX : CXT} {k : Nat} {f C : Addr} {fd : FuncData} {ps : List Str} {sp : Sp} {E : L2.St → XK} {x m : Str} {p pos apos : Pos} {e o : Expr} {es : List Expr} {ta : TE} {t : TA}
theorem pe_methX {pl : Sem Bool} (he : PE X o ta) (c : Cls X.K C) (hm : Meth X.K C m f) (F : FnOk X.prog X.w X.K X.mg X.base CX k f fd ps sp) (hr : Room k X.A) (hb : Binds X.K fd ps []) (hx : ∀ σ, PassesAt CX X σ (E σ)) (ha : PA X (e :: es) t)
    (hst : starEach (e :: es) X.env = (false, eval e X.env) :: starEach es X.env := by rfl) (hpl : (backTo pos (starEach es X.env)).any (·.1) = false := by rfl)
    (ht : eval (.Call (.Attribute o m apos) (e :: es) [] pos) X.env = (do
      let ov ← eval o X.env
      standAt apos.atName
      let (f, first) ← holding [ov] (getMethod ov m pl)
      callWith pos f first (backTo pos (starEach (e :: es) X.env)) (backToKw pos (keywordEach [] X.env))) := by rfl) :
    PE X (.Call (.Attribute o m apos) (e :: es) [] pos) (tMethX C m sp E ta t) := by
  refine ⟨fun pins s σ H Q I h => ?_⟩
  refine PySem.W.methodCall_KW (pl := pl) (thn (he.run pins s σ H _ I h) fun u s1 ⟨x, H1, I1, rx, a, dx, fs, ex, ea, l, q⟩ => ?_) ht
  subst ex
  obtain rfl : u = Value.ref a := rx
  refine getmeth_ok I1 ea c hm l ?_
  refine PySem.W.callWith_K (first := [.ref a]) (h₀ := X.base) I.ok.mod.kin hm.kp (thn (ha.run pos pins s1 σ H1 _ I1 q) fun us s2 ⟨vs, H2, I2, r, q2⟩ => ⟨I2.kIn, ?_⟩) hst hpl
  exact run_fnS (us := .ref a :: us) (vs := .ref a :: vs) F hr hb (hx σ) I2 (.cons rfl r) q2
theorem pe_methX0 {pl : Sem Bool} (he : PE X o ta) (c : Cls X.K C) (hm : Meth X.K C m f) (F : FnOk X.prog X.w X.K X.mg X.base CX k f fd ps sp) (hr : Room k X.A) (hb : Binds X.K fd ps []) (hx : ∀ σ, PassesAt CX X σ (E σ))
    (ht : eval (.Call (.Attribute o m apos) [] [] pos) X.env = (do
      let ov ← eval o X.env
      standAt apos.atName
      let (f, first) ← holding [ov] (getMethod ov m pl)
      callWith pos f first (backTo pos (starEach [] X.env)) (backToKw pos (keywordEach [] X.env))) := by rfl) :
    PE X (.Call (.Attribute o m apos) [] [] pos) (tMethX C m sp E ta tNil) := by
  refine ⟨fun pins s σ H Q I h => ?_⟩
  refine PySem.W.methodCall_KW (pl := pl) (thn (he.run pins s σ H _ I h) fun u s1 ⟨x, H1, I1, rx, a, dx, fs, ex, ea, l, q⟩ => ?_) ht
  subst ex
  obtain rfl : u = Value.ref a := rx
  refine getmeth_ok I1 ea c hm l ?_
  exact PySem.W.callWith_K0 (first := [.ref a]) I1.kIn hm.kp (run_fnS (us := [.ref a]) (vs := [.ref a]) F hr hb (hx σ) I1 (.cons rfl .nil) q)
theorem run_makeX {pins : List (Addr × Obj)} {σ : L2.St} {H : Hp} {s : Shared} {Q : VK} {us : List Value} {vs : List V} {E : XK} (M : Mk X.K C f) (F : FnOk X.prog X.w X.K X.mg X.base CX k f fd ps sp) (hr : Room (k + 1) X.A) (hb : Binds X.K fd ps [])
    (hx : PassesAt CX X σ E) (I : Inv X pins σ H s) (r : Vals vs us)
    (h : ∀ x dx, H x = none → H dx = none → dx ≠ x → sp (.ref x :: vs) (upd (upd H dx (.own x)) x (.ins C dx [])) (fun v H2 => v = .non ∧ Q (.ref x) H2) E) :
    wpAny (model X.prog X.w) X.A (call (.ref C) us) (EP X pins σ Q) X.xe s := by
  have hq := h (s.heap.objs.size + 1) s.heap.objs.size (I.hok.fresh (Nat.le_succ _)) (I.hok.fresh (Nat.le_refl _)) (Nat.ne_of_lt (Nat.lt_succ_self _))
  have I2 := Inv.made (C := C) I
  have r2 : Vals (V.ref (s.heap.objs.size + 1) :: vs) (Value.ref (s.heap.objs.size + 1) :: us) := .cons rfl r
  have hl : (Value.ref (s.heap.objs.size + 1) :: us).length = ps.length := by
    have e := r2.length
    rw [F.len _ _ _ _ hq] at e
    exact e.symm
  have b := hb _ (Value.ref (s.heap.objs.size + 1) :: us) I2.kIn (by rw [List.append_nil]; exact hl)
  rw [List.append_nil] at b
  refine wpAny_call (make_map (f := f) I.kIn M.makes M.init (beq_iff_eq.mp M.fn) (codeAny_mono (F.run _ X.stack _ _ ⟨Value.ref (s.heap.objs.size + 1) :: us, []⟩ (Value.ref (s.heap.objs.size + 1) :: us) _ _ E (hr.make C us [])
    (I2.env0.make C us []) b r2 hq) fun r s' hq' => ?_))
  cases r with
  | error e => exact hx pins _ _ e s' I2 hq'
  | ok fl =>
    cases fl with
    | ret u =>
      obtain ⟨v, H', I3, rv, ev, q3⟩ := I2.after hq'
      subst ev
      exact ⟨rv, ⟨V.ref (s.heap.objs.size + 1), H', I3, rfl, q3⟩⟩
    | next => exact False.elim hq'
    | brk => exact False.elim hq'
    | cont => exact False.elim hq'
theorem pe_makeX (M : Mk X.K C f) (F : FnOk X.prog X.w X.K X.mg X.base CX k f fd ps sp) (hr : Room (k + 1) X.A) (hg : Gl X x) (hm : X.mg x = some (.ref C)) (hb : Binds X.K fd ps []) (hx : ∀ σ, PassesAt CX X σ (E σ))
    (ha : PA X (e :: es) t) (hdb : (x == ("__debug__" : Str)) = false := by decide) (he : starEach (e :: es) X.env = (false, eval e X.env) :: starEach es X.env := by rfl) (hpl : (backTo pos (starEach es X.env)).any (·.1) = false := by rfl) :
    PE X (.Call (.Name x p) (e :: es) [] pos) (tMakeX C sp E t) := by
  refine ⟨fun pins s σ H Q I h => ?_⟩
  refine wpAny_Call_Name_kw (ld_glob I hg hm ?_ hdb)
  refine PySem.W.callWith_K (h₀ := X.base) I.ok.mod.kin M.kp (thn (ha.run pos pins s σ H _ I h) fun us s1 ⟨vs, H1, I1, r, q⟩ => ⟨I1.kIn, ?_⟩) he hpl
  exact run_makeX M F hr hb (hx σ) I1 r q
end
/-! ### a promise without errors, with errors -/
section
variable {P : Program} {w : World} {K : Fg} {mg : Str → Option Value} {base : Heap} {k : Nat} {f : Addr} {fd : FuncData} {ps : List Str} {sp sp' : Sp}
def noE : XK := fun _ _ _ => False
theorem fn_calm (F : FnOk P w K mg base (L2.CX P w) k f fd ps sp) : FnOk P w K mg base CX0 k f fd ps (fun vs H Q _ => sp vs H Q noE) :=
  ⟨fun vs H Q E h => F.len _ _ _ _ h, fun A outer s H args us vs Q E hr he hb hv hs => codeAny_mono (F.run A outer s H args us vs Q noE hr he hb hv hs) fun r s' hq => by
    cases r with
    | error e => obtain ⟨_, _, _, _, _, _, _, _, _, _, _, _, h⟩ := hq; exact h
    | ok fl => cases fl <;> exact hq⟩
theorem fn_lift (F : FnOk P w K mg base CX0 k f fd ps sp) : FnOk P w K mg base (L2.CX P w) k f fd ps sp :=
  ⟨F.len, fun A outer s H args us vs Q E hr he hb hv hs => codeAny_mono (F.run A outer s H args us vs Q E hr he hb hv hs) fun r s' hq => by
    cases r with
    | error e => exact False.elim hq
    | ok fl => cases fl <;> exact hq⟩
theorem Ok.calm {x : Str} (F : Ok P w K mg base (L2.CX P w) k x ps sp) : Ok P w K mg base CX0 k x ps (fun vs H Q _ => sp vs H Q noE) := by
  obtain ⟨f, fd, h1, h2, h3, h4⟩ := F
  exact ⟨f, fd, h1, h2, h3, fn_calm h4⟩
theorem Ok.lift {x : Str} (F : Ok P w K mg base CX0 k x ps sp) : Ok P w K mg base (L2.CX P w) k x ps sp := by
  obtain ⟨f, fd, h1, h2, h3, h4⟩ := F
  exact ⟨f, fd, h1, h2, h3, fn_lift h4⟩
theorem addr_inj {a b : Addr} (h : (some (Value.ref a) : Option Value) = some (Value.ref b)) : a = b := by cases h; rfl
end
section
variable {X : Cx} {W : WX} {k j : Nat} {x : Str} {ps ps' : List Str} {sp sp' : Sp} {t : TA} {e : Expr} {es : List Expr} {p pos : Pos}
theorem pe_fnOr (G : Ok X.prog X.w X.K X.mg X.base (L2.CX X.prog X.w) k x ps sp) (G' : Ok X.prog X.w X.K X.mg X.base (L2.CX X.prog X.w) j x ps' sp') (hr : Room k X.A) (hr' : Room j X.A) (tk : Takes X W) (ha : PA X (e :: es) t) (hg : Gl X x := by rfl) (hdb : (x == ("__debug__" : Str)) = false := by decide)
    (he : starEach (e :: es) X.env = (false, eval e X.env) :: starEach es X.env := by rfl) (hpl : (backTo pos (starEach es X.env)).any (·.1) = false := by rfl) : PE X (.Call (.Name x p) (e :: es) [] pos) (tCallS (spOr sp sp') (WE W) t) := by
  obtain ⟨f, fd, h1, h2, h3, h4⟩ := G
  obtain ⟨f', fd', g1, g2, g3, g4⟩ := G'
  have ef := addr_inj (h1.symm.trans g1)
  subst ef
  refine ⟨fun pins s σ H Q I h => ?_⟩
  refine wpAny_Call_Name_kw (ld_glob I hg h1 ?_ hdb)
  refine PySem.W.callWith_K (h₀ := X.base) I.ok.mod.kin h2 (thn (ha.run pos pins s σ H _ I h) fun us s1 ⟨vs, H1, I1, r, q⟩ => ⟨I1.kIn, ?_⟩) he hpl
  rcases q with q | q
  · exact run_fnS h4 hr h3 (passAt tk σ) I1 r q
  · exact run_fnS g4 hr' g3 (passAt tk σ) I1 r q
end
/-! ### a method by its name -/
def Md (K : Fg) (C m q : Str) (st : Stmt) : Prop := ∃ f fd, FunD K m q (defArgs st) (defBody st) (defScope st) [] [] f fd ∧ Meth K (He.ga K C) m f
def OkM (P : Program) (w : World) (K : Fg) (mg : Str → Option Value) (base : Heap) (CX : CXT) (k : Nat) (C m : Str) (ps : List Str) (sp : Sp) : Prop := ∃ f fd, Meth K (He.ga K C) m f ∧ Binds K fd ps [] ∧ FnOk P w K mg base CX k f fd ps sp
/-- the class as the top has made it -/
structure Kls (K : Fg) (mg : Str → Option Value) (C : Str) (fs : List Str) : Prop where
  cl : Cls K (He.ga K C)
  na : ∀ f ∈ fs, NoAttr K (He.ga K C) f
  g : mg C = some (.ref (He.ga K C))
section
variable {P : Program} {w : World} {K : Fg} {mg : Str → Option Value} {base : Heap} {C m q : Str} {k : Nat} {ps : List Str} {sp : Sp}
theorem okm_of {st : Stmt} {N : List Str} (F : Md K C m q st) (S : FnScope N ps (defScope st))
    (hb : ∀ (kV doc pm : Value) (an : Option Addr) (cdv ct : Value) (us : List Value), us.length = ps.length → bindArgs (PySem.W.fnOf m q (defArgs st) (defBody st) (defScope st) .none kV doc pm an cdv ct) ⟨us, []⟩ = pure (ps.zip us))
    (len : ∀ vs H Q E, sp vs H Q E → vs.length = ps.length)
    (hbody : ∀ (f : Addr) (cdv : Value) (A : Around) (outer : List Env) (s : Shared) (H : Hp) (vs : List V) (Q : VK) (E : XK), Room k (A.deeper (envOfC q (defScope st) s.heap.objs.size f cdv)) → sp vs H Q E →
      ∃ t, PSs (cxOf (L2.CX P w) P w K mg base N q (defScope st) f cdv A outer s H E) (defBody st) t ∧ t { nx := fun _ H' => Q .non H', rt := Q } (start N vs) H) : OkM P w K mg base (L2.CX P w) (k + 1) C m ps sp := by
  obtain ⟨f, fd, F, g⟩ := F
  exact ⟨f, fd, g, F.bindsN hb, F.ok S len fun cdv A outer s H vs Q E hr h => hbody f cdv A outer s H vs Q E hr h⟩
theorem OkM.calm (F : OkM P w K mg base (L2.CX P w) k C m ps sp) : OkM P w K mg base CX0 k C m ps (fun vs H Q _ => sp vs H Q noE) := by
  obtain ⟨f, fd, h1, h2, h3⟩ := F
  exact ⟨f, fd, h1, h2, fn_calm h3⟩
/-- an error that leaves a method -/
theorem tkM {N : List Str} {x : Str} {sc : Scope} {f : Addr} {cdv : Value} {A : Around} {outer : List Env} {s : Shared} {H : Hp} {E : XK} : Takes (cxOf (L2.CX P w) P w K mg base N x sc f cdv A outer s H E) (fun cls d _ H => E cls d H) := takes_of rfl rfl rfl rfl
end
def noEs : L2.St → XK := fun _ _ _ _ => False
section
variable {X : Cx} {W : WX} {k : Nat} {C m x : Str} {ps fs : List Str} {sp : Sp} {t : TA} {ta : TE} {e o : Expr} {es : List Expr} {p pos apos : Pos}
theorem pe_m {pl : Sem Bool} (G : OkM X.prog X.w X.K X.mg X.base (L2.CX X.prog X.w) k C m ps sp) (c : Kls X.K X.mg C fs) (hr : Room k X.A) (tk : Takes X W) (he : PE X o ta) (ha : PA X (e :: es) t)
    (hst : starEach (e :: es) X.env = (false, eval e X.env) :: starEach es X.env := by rfl) (hpl : (backTo pos (starEach es X.env)).any (·.1) = false := by rfl)
    (ht : eval (.Call (.Attribute o m apos) (e :: es) [] pos) X.env = (do
      let ov ← eval o X.env
      standAt apos.atName
      let (f, first) ← holding [ov] (getMethod ov m pl)
      callWith pos f first (backTo pos (starEach (e :: es) X.env)) (backToKw pos (keywordEach [] X.env))) := by rfl) : PE X (.Call (.Attribute o m apos) (e :: es) [] pos) (tMethX (He.ga X.K C) m sp (WE W) ta t) := by
  obtain ⟨f, fd, h1, h2, h3⟩ := G
  exact pe_methX he c.cl h1 h3 hr h2 (passAt tk) ha hst hpl ht
theorem pe_m0 {pl : Sem Bool} (G : OkM X.prog X.w X.K X.mg X.base (L2.CX X.prog X.w) k C m ps sp) (c : Kls X.K X.mg C fs) (hr : Room k X.A) (tk : Takes X W) (he : PE X o ta)
    (ht : eval (.Call (.Attribute o m apos) [] [] pos) X.env = (do
      let ov ← eval o X.env
      standAt apos.atName
      let (f, first) ← holding [ov] (getMethod ov m pl)
      callWith pos f first (backTo pos (starEach [] X.env)) (backToKw pos (keywordEach [] X.env))) := by rfl) : PE X (.Call (.Attribute o m apos) [] [] pos) (tMethX (He.ga X.K C) m sp (WE W) ta tNil) := by
  obtain ⟨f, fd, h1, h2, h3⟩ := G
  exact pe_methX0 he c.cl h1 h3 hr h2 (passAt tk) ht
/-- .. where no error comes -/
theorem pe_mC {pl : Sem Bool} (G : OkM X.prog X.w X.K X.mg X.base CX0 k C m ps sp) (c : Kls X.K X.mg C fs) (hr : Room k X.A) (he : PE X o ta) (ha : PA X (e :: es) t)
    (hst : starEach (e :: es) X.env = (false, eval e X.env) :: starEach es X.env := by rfl) (hpl : (backTo pos (starEach es X.env)).any (·.1) = false := by rfl)
    (ht : eval (.Call (.Attribute o m apos) (e :: es) [] pos) X.env = (do
      let ov ← eval o X.env
      standAt apos.atName
      let (f, first) ← holding [ov] (getMethod ov m pl)
      callWith pos f first (backTo pos (starEach (e :: es) X.env)) (backToKw pos (keywordEach [] X.env))) := by rfl) : PE X (.Call (.Attribute o m apos) (e :: es) [] pos) (tMethX (He.ga X.K C) m sp noEs ta t) := by
  obtain ⟨f, fd, h1, h2, h3⟩ := G
  exact pe_methX he c.cl h1 h3 hr h2 (fun σ pins H s e s' I h => False.elim h) ha hst hpl ht
theorem pe_mC0 {pl : Sem Bool} (G : OkM X.prog X.w X.K X.mg X.base CX0 k C m ps sp) (c : Kls X.K X.mg C fs) (hr : Room k X.A) (he : PE X o ta)
    (ht : eval (.Call (.Attribute o m apos) [] [] pos) X.env = (do
      let ov ← eval o X.env
      standAt apos.atName
      let (f, first) ← holding [ov] (getMethod ov m pl)
      callWith pos f first (backTo pos (starEach [] X.env)) (backToKw pos (keywordEach [] X.env))) := by rfl) : PE X (.Call (.Attribute o m apos) [] [] pos) (tMethX (He.ga X.K C) m sp noEs ta tNil) := by
  obtain ⟨f, fd, h1, h2, h3⟩ := G
  exact pe_methX0 he c.cl h1 h3 hr h2 (fun σ pins H s e s' I h => False.elim h) ht
/-- C(..): G its __init__'s promise -/
theorem pe_mk (G : OkM X.prog X.w X.K X.mg X.base (L2.CX X.prog X.w) k C "__init__" ps sp) (M : Mk X.K (He.ga X.K C) (He.ma X.K (He.ga X.K C) "__init__")) (c : Kls X.K X.mg C fs) (hr : Room (k + 1) X.A) (tk : Takes X W) (hg : Gl X C) (ha : PA X (e :: es) t)
    (hdb : (C == ("__debug__" : Str)) = false := by decide) (he : starEach (e :: es) X.env = (false, eval e X.env) :: starEach es X.env := by rfl) (hpl : (backTo pos (starEach es X.env)).any (·.1) = false := by rfl) :
    PE X (.Call (.Name C p) (e :: es) [] pos) (tMakeX (He.ga X.K C) sp (WE W) t) := by
  obtain ⟨f, fd, h1, h2, h3⟩ := G
  have ef : f = He.ma X.K (He.ga X.K C) "__init__" := by
    have h := h1.at_.symm.trans M.init
    cases h; rfl
  subst ef
  exact pe_makeX M h3 hr hg c.g h2 (passAt tk) ha hdb he hpl
theorem pe_mkC (G : OkM X.prog X.w X.K X.mg X.base CX0 k C "__init__" ps sp) (M : Mk X.K (He.ga X.K C) (He.ma X.K (He.ga X.K C) "__init__")) (c : Kls X.K X.mg C fs) (hr : Room (k + 1) X.A) (hg : Gl X C) (ha : PA X (e :: es) t)
    (hdb : (C == ("__debug__" : Str)) = false := by decide) (he : starEach (e :: es) X.env = (false, eval e X.env) :: starEach es X.env := by rfl) (hpl : (backTo pos (starEach es X.env)).any (·.1) = false := by rfl) :
    PE X (.Call (.Name C p) (e :: es) [] pos) (tMakeX (He.ga X.K C) sp noEs t) := by
  obtain ⟨f, fd, h1, h2, h3⟩ := G
  have ef : f = He.ma X.K (He.ga X.K C) "__init__" := by
    have h := h1.at_.symm.trans M.init
    cases h; rfl
  subst ef
  exact pe_makeX M h3 hr hg c.g h2 (fun σ pins H s e s' I h => False.elim h) ha hdb he hpl
/-- len(o), o with a __len__ of the text -/
def rLenO (C : Addr) (sp : Sp) : List V → Hp → VK → Prop := fun xs H Q => ∃ a dx fs, xs = [.ref a] ∧ H a = some (.ins C dx fs) ∧ sp [.ref a] H (fun v H' => ∃ n : Nat, v = .int (n : Int) ∧ n < 1000000 ∧ Q v H') noE
theorem cr_lenO (G : OkM X.prog X.w X.K X.mg X.base CX0 k C "__len__" ps sp) (hr : Room (k + 1) X.A) : CallR X (.builtin "len") (rLenO (He.ga X.K C) sp) := by
  intro pins s σ H xs us Q I r h
  obtain ⟨a, dx, fs, rfl, ha, hq⟩ := h
  obtain ⟨f, fd, h1, h2, h3⟩ := G
  obtain ⟨u, rfl, rx⟩ := vals1 r
  cases rx
  obtain ⟨mA, J, _⟩ := ins_get I.hok ha
  obtain ⟨od, J, _⟩ := J.look
  obtain ⟨m, hF⟩ := I.fr
  refine PySem.W.len_K hF I.ok.mod.kin J h1.at_ h1.fn ?_
  have e0 : Env0 X.prog X.w X.K X.mg X.base X.A.in1 X.stack s H := I.env0.in1
  have hl := h3.len _ _ _ _ hq
  have b := h2 s [.ref a] I.kIn (by rw [List.append_nil]; simpa using hl)
  rw [List.append_nil] at b
  refine wpAny_call (codeAny_mono (h3.run X.A.in1 X.stack s H ⟨[.ref a], []⟩ [.ref a] [.ref a] _ noE hr.in1 e0 b (.cons rfl .nil) hq) fun r s' hq' => ?_)
  cases r with
  | error e => exact False.elim hq'
  | ok fl =>
    cases fl with
    | ret w =>
      obtain ⟨z, H', I', rz, n, rfl, hn, q⟩ := I.after hq'
      obtain ⟨t, rfl⟩ := rz
      exact ⟨⟨by omega, by omega⟩, .int (n : Int), H', I'.tok _, ⟨_, rfl⟩, q⟩
    | next => exact False.elim hq'
    | brk => exact False.elim hq'
    | cont => exact False.elim hq'
end
end BL

set_option Elab.async false
set_option linter.all false
set_option maxRecDepth 100000
set_option maxHeartbeats 2000000
namespace BL
open PySem PySem.Spec PyProof.Rows L2
/-! ### an object with a list of bounds, and lists of what came before -/
structure Ts where
  now : List (Int × Int)
  past : List (List (Int × Int))
def fsT (n q : Addr) : List (Str × V) := [("now", .ref n), ("past", .ref q)]
theorem fsT_now {n q : Addr} : (fsT n q).lookup ("now" : Str) = some (.ref n) := rfl
theorem fsT_past {n q : Addr} : (fsT n q).lookup ("past" : Str) = some (.ref q) := rfl
theorem fsT_put {n q m : Addr} : putF "now" (.ref m) (fsT n q) = fsT m q := rfl
theorem fsT_new {n q : Addr} : putF "past" (.ref q) (putF "now" (.ref n) []) = fsT n q := rfl
def TA (K : Fg) (H : Hp) (p : Addr) (fp : List Addr) (s : Ts) : Prop := ∃ (dx n q : Addr) (as : List Addr), fp = p :: n :: q :: as ∧ H p = some (.ins (He.ga K "Teller") dx (fsT n q)) ∧ Un K H n s.now ∧ H q = some (.lst (as.map V.ref)) ∧ Paired (fun a b => Un K H a b) as s.past ∧ fp.Nodup
def Gr (H : Hp) (fp fp' : List Addr) : Prop := ∀ a ∈ fp', a ∈ fp ∨ H a = none
theorem paired_mem {α β : Type} {F G : α → β → Prop} : ∀ {l : List α} {r : List β}, (∀ a b, a ∈ l → F a b → G a b) → Paired F l r → Paired G l r
  | _, _, _, .nil => .nil
  | _, _, h, .cons a b => .cons (h _ _ List.mem_cons_self a) (paired_mem (fun a b m => h a b (List.mem_cons_of_mem _ m)) b)
section
variable {K : Fg} {σ : L2.St} {H H' H1 : Hp} {ta tb te tv : TE} {p : Addr} {fp fp' ps : List Addr} {s : Ts} {α : Type} [Rp α] {l : List α} {x : α} {i : Int} {b : Bool} {D : Ends} {tz : TS} {pd pn : Addr}
theorem TA.keep (h : TA K H p fp s) (k : ∀ a ∈ fp, ∀ o, H a = some o → H' a = some o) (f : SF H H') : TA K H' p fp s := by
  obtain ⟨dx, n, q, as, rfl, h1, ⟨vs, h2, h2'⟩, h3, h4, h5⟩ := h
  refine ⟨dx, n, q, as, rfl, k _ (by simp) _ h1, ⟨vs, k _ (by simp) _ h2, h2'.mono f⟩, k _ (by simp) _ h3, paired_mem (fun a b m hu => ?_) h4, h5⟩
  obtain ⟨us, hu, hr⟩ := hu
  exact ⟨us, k _ (by simp [m]) _ hu, hr.mono f⟩
theorem TA.mono (e : Same H H') (h : TA K H p fp s) : TA K H' p fp s := h.keep (fun a _ o q => e a o q) (SF.of e)
theorem TA.mus (m : Mus ps H H') (n : ∀ a ∈ fp, a ∉ ps) (h : TA K H p fp s) : TA K H' p fp s := h.keep (fun a ha o q => m.ne a o (n a ha) q) m.sf
theorem TA.dm (m : DM pd pn H H') (h1 : pd ∉ fp) (h2 : pn ∉ fp) (h : TA K H p fp s) : TA K H' p fp s := h.keep (fun a ha o q => m.ne a o (fun c => h1 (c ▸ ha)) (fun c => h2 (c ▸ ha)) q) m.sf
theorem TA.there (h : TA K H p fp s) : ∀ a ∈ fp, H a ≠ none := by
  obtain ⟨dx, n, q, as, rfl, h1, ⟨vs, h2, h2'⟩, h3, h4, h5⟩ := h
  have h6 : ∀ a ∈ as, H a ≠ none := by
    clear h5 h3
    intro a ha
    generalize s.past = r at h4
    induction h4 with
    | nil => cases ha
    | cons c d ih =>
      rcases List.mem_cons.mp ha with rfl | ha
      · obtain ⟨us, hu, _⟩ := c; rw [hu]; exact fun z => nomatch z
      · exact ih ha
  intro a ha
  simp only [List.mem_cons] at ha
  rcases ha with rfl | rfl | rfl | ha
  · rw [h1]; exact fun z => nomatch z
  · rw [h2]; exact fun z => nomatch z
  · rw [h3]; exact fun z => nomatch z
  · exact h6 a ha
theorem TA.self (h : TA K H p fp s) : ∃ dx fs, H p = some (.ins (He.ga K "Teller") dx fs) ∧ ∀ m : Str, (("now" : Str) == m) = false → (("past" : Str) == m) = false → fs.lookup m = none := by
  obtain ⟨dx, n, q, as, rfl, h1, _⟩ := h
  refine ⟨dx, _, h1, fun m e1 e2 => ?_⟩
  have e1' : (m == ("now" : Str)) = false := by rw [beq_eq_false_iff_ne] at e1 ⊢; exact fun c => e1 c.symm
  have e2' : (m == ("past" : Str)) = false := by rw [beq_eq_false_iff_ne] at e2 ⊢; exact fun c => e2 c.symm
  simp only [fsT, List.lookup, e1', e2']
theorem Gr.out (g : Gr H fp fp') {a : Addr} (h : H a ≠ none) (hn : a ∉ fp) : a ∉ fp' := fun c => (g a c).elim hn h
/-! a value that is there, whatever is new -/
def Vs (te : TE) (σ : L2.St) (H : Hp) (v : V) : Prop := ∀ H1, Same H H1 → ∀ Q : VK, Q v H1 → te σ H1 Q
theorem vs_var {k : Nat} {v : V} (h : σ[k]? = some (some v)) : Vs (tVar k) σ H v := fun _ _ _ q => ⟨v, h, q⟩
theorem vs_fld {k : Nat} {a C dx : Addr} {fs : List (Str × V)} {f : Str} {v : V} (h : σ[k]? = some (some (.ref a))) (ha : H a = some (.ins C dx fs)) (hc : Cls K C) (hn : NoAttr K C f) (hl : fs.lookup f = some v) : Vs (tFld K (tVar k) f) σ H v :=
  fun H1 e Q q => ⟨.ref a, h, a, C, dx, fs, v, rfl, e _ _ ha, hc, hn, hl, q⟩
theorem er_ixV {a : Addr} {n : Nat} (h : Vs ta σ H (.ref a)) (hu : Un K H a l) (hi : Er K tb σ H (n : Int)) (hx : l[n]? = some x) : Er K (tOp (rIxL K) ta tb) σ H x := fun H1 e Q q => by
  obtain ⟨vs, hp, r⟩ := hu
  refine h H1 e _ (hi H1 e _ fun u H2 e2 r2 => ?_)
  cases (show u = .int (n : Int) from r2)
  obtain ⟨w, hw, rw'⟩ := paired_get r hx
  exact ⟨a, vs, n, w, rfl, rfl, sq_lst ((e.trans e2) _ _ hp), atI_nat hw, q w H2 e2 (Rp.mono (SF.of (e.trans e2)) rw')⟩
theorem er_lenV {a : Addr} (h : Vs ta σ H (.ref a)) (hu : Un K H a l) : Er K (tCB (rLenC K) (tCons ta tNil)) σ H l.length := fun H1 e Q q => by
  obtain ⟨vs, hp, r⟩ := hu
  exact h H1 e _ ⟨a, vs, rfl, .inl (sq_lst (e _ _ hp)), by rw [paired_len r]; exact q _ H1 (Same.refl _) rfl⟩
theorem er_lenR {a : Addr} {vs : List V} (h : Vs ta σ H (.ref a)) (hp : H a = some (.lst vs)) : Er K (tCB (rLenC K) (tCons ta tNil)) σ H vs.length := fun H1 e Q q =>
  h H1 e _ ⟨a, vs, rfl, .inl (sq_lst (e _ _ hp)), q _ H1 (Same.refl _) rfl⟩
theorem erl_listV {a : Addr} (h : Vs ta σ H (.ref a)) (hu : Un K H a l) : ErL K (tCB (rListC K) (tCons ta tNil)) σ H l := fun H1 e Q q => by
  obtain ⟨vs, hp, r⟩ := hu
  refine h H1 e _ ?_
  exact ⟨a, vs, rfl, .inl (sq_lst (e _ _ hp)), fun p hn => q p vs _ (same_new hn) hn upd_same (r.mono ((SF.of e).trans (SF.new hn)))⟩
/-! what changes the object -/
theorem q_appLst {q : Addr} {us : List V} (h : Vs ta σ H (.ref q)) (hq : H q = some (.lst us)) (hz : us.length < 1000000) (he : ErL K te σ H l) (k : ∀ a vs H2, Same H H2 → H a = none → H2 a = some (.lst vs) → RL K H2 vs l → tz D σ (upd H2 q (.lst (us ++ [.ref a])))) :
    tSeq (tDrop (tBM K "list" rAppend ta (tCons te tNil))) tz D σ H :=
  h H (Same.refl _) _ ⟨Or.inl ⟨rfl, us, sq_lst hq⟩, he H (Same.refl _) _ fun a vs H2 e2 hn ha r => ⟨q, us, .ref a, rfl, rfl, e2 _ _ hq, Nat.lt_of_lt_of_le hz (by decide), k a vs H2 e2 hn ha r⟩⟩
theorem q_setV {a : Addr} {n : Nat} (ho : Vs ta σ H (.ref a)) (hu : Un K H a l) (h : Er K te σ H x) (hi : Er K tb σ H (n : Int)) (hn : n < l.length) (k : ∀ H2 us, Same H H2 → RL K (upd H2 a (.lst us)) us (l.set n x) → tz D σ (upd H2 a (.lst us))) : tSeq (tAsg te (gSub ta tb rSetL)) tz D σ H := by
  obtain ⟨vs, hp, r⟩ := hu
  refine h H (Same.refl _) _ fun v H2 e2 r2 => ho H2 e2 _ (hi H2 e2 _ fun u H3 e3 r3 => ?_)
  cases (show u = .int (n : Int) from r3)
  refine ⟨a, vs, (n : Int), n, rfl, rfl, (e2.trans e3) _ _ hp, ?_, k H3 _ (e2.trans e3) (RL.mono (SF.lst ((e2.trans e3) _ _ hp)) (paired_set (Rp.mono (SF.of e3) r2) n (r.mono (SF.of (e2.trans e3)))))⟩
  rw [paired_len r]
  unfold ixN
  rw [if_pos (by omega), if_pos (by omega)]; simp
theorem un_upd {a c : Addr} {o : HO} {us : List V} (hu : Un K H a l) (hc : H c = some (.lst us)) (n : a ≠ c) : Un K (upd H c o) a l := hu.ne (p := c) (mu_upd (Same.refl _) hc) n
theorem ta_app {dx n q a : Addr} {as : List Addr} {vs : List V} {m : List (Int × Int)} (h1 : H p = some (.ins (He.ga K "Teller") dx (fsT n q))) (h2 : Un K H n s.now) (h3 : H q = some (.lst (as.map V.ref))) (h4 : Paired (fun a b => Un K H a b) as s.past) (h5 : (p :: n :: q :: as).Nodup)
    (e : Same H H1) (hn : H a = none) (ha : H1 a = some (.lst vs)) (r : RL K H1 vs m) : TA K (upd H1 q (.lst (as.map V.ref ++ [.ref a]))) p (p :: n :: q :: (as ++ [a])) ⟨s.now, s.past ++ [m]⟩ := by
  have T : TA K H p (p :: n :: q :: as) s := ⟨dx, n, q, as, rfl, h1, h2, h3, h4, h5⟩
  have hm : a ∉ p :: n :: q :: as := fun c => T.there a c hn
  have h5' := h5
  simp only [List.nodup_cons, List.mem_cons, not_or] at h5'
  obtain ⟨⟨n1, n2, n3⟩, ⟨n4, n5⟩, n6, n7⟩ := h5'
  simp only [List.mem_cons, not_or] at hm
  have hq1 := e _ _ h3
  refine ⟨dx, n, q, as ++ [a], rfl, upd_get (e _ _ h1) n2, un_upd (h2.mono e) hq1 n4, by rw [upd_same, List.map_append]; rfl, paired_app (paired_mem (fun c b mc hu => un_upd (hu.mono e) hq1 (fun z => n6 (z ▸ mc))) h4) (.cons (un_upd ⟨vs, ha, r⟩ hq1 hm.2.2.1) .nil), ?_⟩
  rw [show p :: n :: q :: (as ++ [a]) = (p :: n :: q :: as) ++ [a] from rfl, List.nodup_append]
  exact ⟨h5, by simp, fun x hx y hy => by simp at hy; subst hy; rintro rfl; simp only [List.mem_cons] at hx; exact hx.elim hm.1 fun hx => hx.elim hm.2.1 fun hx => hx.elim hm.2.2.1 hm.2.2.2⟩
theorem ta_set {dx n q : Addr} {as : List Addr} {us vs : List V} {m : List (Int × Int)} (h1 : H p = some (.ins (He.ga K "Teller") dx (fsT n q))) (h2 : H n = some (.lst vs)) (h3 : H q = some (.lst (as.map V.ref))) (h4 : Paired (fun a b => Un K H a b) as s.past) (h5 : (p :: n :: q :: as).Nodup)
    (r : RL K (upd H n (.lst us)) us m) : TA K (upd H n (.lst us)) p (p :: n :: q :: as) ⟨m, s.past⟩ := by
  have h5' := h5
  simp only [List.nodup_cons, List.mem_cons, not_or] at h5'
  obtain ⟨⟨n1, n2, n3⟩, ⟨n4, n5⟩, n6, n7⟩ := h5'
  exact ⟨dx, n, q, as, rfl, upd_get h1 n1, ⟨us, upd_same, r⟩, upd_get h3 (Ne.symm n4), paired_mem (fun c b mc hu => un_upd hu h2 (fun z => n5 (z ▸ mc))) h4, h5⟩
/-- `self.now = self.past.pop()` -/
theorem q_pop {dx n q : Addr} {as : List Addr} (hσ : σ[0]? = some (some (.ref p))) (h1 : H p = some (.ins (He.ga K "Teller") dx (fsT n q))) (h2 : Un K H n s.now) (h3 : H q = some (.lst (as.map V.ref))) (h4 : Paired (fun a b => Un K H a b) as s.past) (h5 : (p :: n :: q :: as).Nodup)
    (hc : Cls K (He.ga K "Teller")) (hn : NoAttr K (He.ga K "Teller") "now") (hp : NoAttr K (He.ga K "Teller") "past") {l : List (List (Int × Int))} {m : List (Int × Int)} (hl : s.past = l ++ [m])
    (k : ∀ H2 as' a, as = as' ++ [a] → Mus [p, q] H H2 → TA K H2 p (p :: a :: q :: as') ⟨m, l⟩ → tz D σ H2) : tSeq (sFld K (tVar 0) (tBM0 K "list" rPop (tFld K (tVar 0) "past")) "now") tz D σ H := by
  rw [hl] at h4
  obtain ⟨as', a, rfl, hA, hB⟩ : ∃ as' a, as = as' ++ [a] ∧ Paired (fun a b => Un K H a b) as' l ∧ Un K H a m := by
    clear k h5 h3 hl
    induction l generalizing as with
    | nil =>
      cases h4 with
      | cons x y => cases y; exact ⟨[], _, rfl, .nil, x⟩
    | cons b l ih =>
      cases h4 with
      | cons x y =>
        obtain ⟨as', a, rfl, hA, hB⟩ := ih y
        exact ⟨_ :: as', a, rfl, .cons x hA, hB⟩
  have h5' := h5
  simp only [List.nodup_cons, List.mem_cons, List.mem_append, List.mem_singleton, not_or, List.nodup_append] at h5'
  obtain ⟨⟨n1, n2, n3, n3', -⟩, ⟨n4, n5, n5', -⟩, ⟨n6, n6', -⟩, n7, n8, n9⟩ := h5'
  refine vs_fld (K := K) hσ h1 hc hp fsT_past H (Same.refl _) (fun x H1 => tyV K "list" x H1 ∧ rPop x [] H1 _) ⟨Or.inl ⟨rfl, _, sq_lst h3⟩, q, _, .ref a, rfl, rfl, h3, by simp, ?_⟩
  have e1 : (upd H q (.lst ((as' ++ [a]).map V.ref).dropLast)) p = some (.ins (He.ga K "Teller") dx (fsT n q)) := upd_get h1 n2
  refine ⟨.ref p, hσ, p, _, dx, _, rfl, e1, hc, hn, (by show 2 < 1000; decide), ?_⟩
  rw [fsT_put]
  have g1 : Mu q H (upd H q (.lst ((as' ++ [a]).map V.ref).dropLast)) := mu_upd (Same.refl _) h3
  have hpi : ¬ Sta (.ins (He.ga K "Teller") dx (fsT n q)) := fun h => nomatch h
  refine k _ as' a rfl ⟨g1.sf.trans (SF.chg e1 hpi), fun c o hc hH => ?_⟩ ⟨dx, a, q, as', rfl, upd_same, ?_, ?_, ?_, ?_⟩
  · simp only [List.mem_cons, not_or] at hc
    rw [upd_ne hc.1]
    exact g1.ne c o hc.2.1 hH
  · have z := hB.ne g1 (fun z => n6' z.symm)
    obtain ⟨us, z1, z2⟩ := z
    exact ⟨us, by rw [upd_ne (show a ≠ p from fun z => n3' z.symm)]; exact z1, z2.mono (SF.chg e1 hpi)⟩
  · rw [upd_ne (Ne.symm n2), upd_same, List.map_append, List.map_singleton, List.dropLast_concat]
  · refine paired_mem (fun c b mc hu => ?_) hA
    obtain ⟨us, z1, z2⟩ := hu.ne g1 (fun z => n6 (z ▸ mc))
    exact ⟨us, by rw [upd_ne (show c ≠ p from fun z => n3 (z ▸ mc))]; exact z1, z2.mono (SF.chg e1 hpi)⟩
  · simp only [List.nodup_cons, List.mem_cons, not_or]
    refine ⟨⟨n3', n2, n3⟩, ⟨fun z => n6' z.symm, fun z => n9 a z a (.inl rfl) rfl⟩, n6, n7⟩
theorem q_fldL {C dx : Addr} {fs : List (Str × V)} {f : Str} (hσ : σ[0]? = some (some (.ref p))) (hp : H p = some (.ins C dx fs)) (hc : Cls K C) (hn : NoAttr K C f) (hl : fs.length < 1000) (h : ErL K te σ H l) (k : ∀ a vs H2, Same H H2 → H a = none → H2 a = some (.lst vs) → RL K H2 vs l → tz D σ (upd H2 p (.ins C dx (putF f (.ref a) fs)))) :
    tSeq (sFld K (tVar 0) te f) tz D σ H := h H (Same.refl _) _ fun a vs H2 e2 hn2 ha r => ⟨.ref p, hσ, p, C, dx, fs, rfl, e2 _ _ hp, hc, hn, hl, k a vs H2 e2 hn2 ha r⟩
theorem s_fldL {C dx : Addr} {fs : List (Str × V)} {f : Str} (hσ : σ[0]? = some (some (.ref p))) (hp : H p = some (.ins C dx fs)) (hc : Cls K C) (hn : NoAttr K C f) (hl : fs.length < 1000) (h : ErL K te σ H l) (k : ∀ a vs H2, Same H H2 → H a = none → H2 a = some (.lst vs) → RL K H2 vs l → D.nx σ (upd H2 p (.ins C dx (putF f (.ref a) fs)))) :
    sFld K (tVar 0) te f D σ H := h H (Same.refl _) _ fun a vs H2 e2 hn2 ha r => ⟨.ref p, hσ, p, C, dx, fs, rfl, e2 _ _ hp, hc, hn, hl, k a vs H2 e2 hn2 ha r⟩
/-! what its methods promise -/
def spTi (K : Fg) (pre : List (Int × Int) → Prop) : Sp := fun vs H Q _ => ∃ (p dx : Addr) (v : V) (b : List (Int × Int)), vs = [.ref p, v] ∧ H p = some (.ins (He.ga K "Teller") dx []) ∧ Rp.rep K H v b ∧ pre b ∧ ∀ H' fp, Mus [p] H H' → (∀ a ∈ fp, a = p ∨ H a = none) → TA K H' p fp ⟨b, []⟩ → Q .non H'
def Small (s : Ts) : Prop := s.now.length ≤ 100000 ∧ s.past.length < 1000000
def spTv {β : Type} [Rp β] (K : Fg) (f : Ts → β) : Sp := fun vs H Q _ => ∃ p fp s, vs = [.ref p] ∧ TA K H p fp s ∧ Small s ∧ ansV K (f s) H Q
def spTl {β : Type} [Rp β] (K : Fg) (f : Ts → List β) : Sp := fun vs H Q _ => ∃ p fp s, vs = [.ref p] ∧ TA K H p fp s ∧ Small s ∧ ansL K (f s) H Q
def ansTl {β : Type} [Rp β] (K : Fg) (p : Addr) (fp : List Addr) (r : Except Str (β × Ts)) (H : Hp) (Q : VK) (E : XK) : Prop :=
  (∀ y s', r = .ok (y, s') → ∀ v H' fp', Mus fp H H' → Gr H fp fp' → TA K H' p fp' s' → Rp.rep K H' v y → Q v H') ∧ ∀ c, r = .error c → c ∈ errs → ∀ H', Same H H' → E (erC K c) none H'
def ansTlL {β : Type} [Rp β] (K : Fg) (p : Addr) (fp : List Addr) (r : Except Str (List β × Ts)) (H : Hp) (Q : VK) (E : XK) : Prop :=
  (∀ y s', r = .ok (y, s') → ∀ a us H' fp', Mus fp H H' → Gr H fp fp' → TA K H' p fp' s' → H a = none → a ∉ fp' → H' a = some (.lst us) → RL K H' us y → Q (.ref a) H') ∧ ∀ c, r = .error c → c ∈ errs → ∀ H', Same H H' → E (erC K c) none H'
def spTell (K : Fg) (f : Ts → Int → Int → Int → Except Str ((Int × Int) × Ts)) : Sp := fun vs H Q E => ∃ (p : Addr) (fp : List Addr) (s : Ts) (v1 v2 v3 : V) (k l h : Int), vs = [.ref p, v1, v2, v3] ∧ Rp.rep K H v1 k ∧ Rp.rep K H v2 l ∧ Rp.rep K H v3 h ∧ TA K H p fp s ∧ Small s ∧ ansTl K p fp (f s k l h) H Q E
def spUndo (K : Fg) (f : Ts → Except Str (List (Int × Int) × Ts)) : Sp := fun vs H Q E => ∃ p fp s, vs = [.ref p] ∧ TA K H p fp s ∧ Small s ∧ ansTlL K p fp (f s) H Q E
end
end BL

set_option Elab.async false
set_option linter.all false
set_option maxRecDepth 100000
set_option maxHeartbeats 2000000
namespace BL
open PySem PySem.Spec PyProof.Rows L2
/-! ### texts of numbers, texts joined -/
def itxt (i : Int) : Str := toString i
theorem itxt_len {i : Int} (h : -50 ≤ i ∧ i ≤ 50) : (itxt i).length ≤ 3 := by
  have h2 : ∀ n : Fin 101, (itxt ((n.val : Int) - 50)).length ≤ 3 := by decide +kernel
  have h3 := h2 ⟨(i + 50).toNat, by omega⟩
  rwa [show (((i + 50).toNat : Nat) : Int) - 50 = i by omega] at h3
section
variable {K : Fg} {σ : L2.St} {H H' H1 : Hp} {ta tb te : TE} {i : Int} {a y out acc : Str} {ts : List TE} {ys : List Str}
def rStrC : List V → Hp → VK → Prop := fun xs H Q => ∃ i, xs = [.int i] ∧ i.natAbs.log2 < 1920 ∧ Q (.str (toString i)) H
theorem er_strI (h : Er K ta σ H i) (hz : i.natAbs.log2 < 1920) : Er K (tCB rStrC (tCons ta tNil)) σ H (itxt i) := er_cb1 h fun H v r Q q => by
  cases (show v = .int i from r)
  exact ⟨i, rfl, hz, q _ H (Same.refl _) rfl⟩
theorem er_fmtI (h : Er K te σ H i) (hz : i.natAbs.log2 < 1920) : Er K (tFmt te) σ H (itxt i) := fun H1 e Q q => h H1 e _ fun v H2 e2 r => .inr ⟨i, r, hz, q _ H2 e2 rfl⟩
theorem er_fmtS (h : Er K te σ H a) (hz : a.length ≤ sizeLine) : Er K (tFmt te) σ H a := fun H1 e Q q => h H1 e _ fun v H2 e2 r => .inl ⟨a, r, hz, q _ H2 e2 rfl⟩
def EJ (K : Fg) (ts : List TE) (σ : L2.St) (H : Hp) (acc out : Str) : Prop := ∀ H1, Same H H1 → ∀ Q : Str → Hp → Prop, (∀ H2, Same H1 H2 → Q out H2) → tJs ts acc σ H1 Q
theorem ej_nil : EJ K [] σ H acc acc := fun H1 _ Q q => q H1 (Same.refl _)
theorem ej_cons (h : Er K te σ H y) (hz : (acc ++ y).length ≤ sizeLine) (r : EJ K ts σ H (acc ++ y) out) : EJ K (te :: ts) σ H acc out := fun H1 e Q q =>
  h H1 e _ fun v H2 e2 rv => ⟨y, rv, hz, r H2 (e.trans e2) Q fun H3 e3 => q H3 (e2.trans e3)⟩
theorem er_js (h : EJ K ts σ H Str.empty out) : Er K (fun σ H Q => tJs ts Str.empty σ H fun out H1 => Q (.str out) H1) σ H out := fun H1 e Q q => h H1 e _ fun H2 e2 => q _ H2 e2 rfl
def rJoinC (K : Fg) : V → List V → Hp → VK → Prop := fun x xs H Q => ∃ a p, ∃ ys : List Str, x = .str a ∧ xs = [.ref p] ∧ (SqL K H p (ys.map V.str) ∨ SqT K H p (ys.map V.str)) ∧
    (ys.map (·.length)).sum + ys.length * a.length ≤ 16777216 ∧ Q (.str (Txt.join a ys)) H
theorem er_join (h : Er K ta σ H a) (h' : Er K tb σ H ys) (hz : (ys.map (·.length)).sum + ys.length * a.length ≤ 16777216) : Er K (tM1 (rJoinC K) ta tb) σ H (Txt.join a ys) := fun H1 e Q q =>
  h H1 e _ fun v H2 e2 r => ⟨⟨a, r⟩, h' H2 (e.trans e2) _ fun u H3 e3 r3 => by
    obtain ⟨p, vs, rfl, hf, rl⟩ := r3
    have := rl_strs rl
    subst this
    exact ⟨a, p, ys, r, rfl, .inl hf.seq, hz, q _ H3 (e2.trans e3) rfl⟩⟩
def rCatSC : R2 := fun x y H Q => ∃ i j, x = .str i ∧ y = .str j ∧ i.length + j.length ≤ sizeLine ∧ Q (.str (i ++ j)) H
theorem rr_catS (hz : a.length + y.length ≤ sizeLine) : R2r K rCatSC a y (a ++ y) := fun H v u e1 e2 Q q => ⟨a, y, e1, e2, hz, q _ H (Same.refl _) rfl⟩
end
section
variable {X : Cx} (K : Fg) (h : X.K = K)
include h
theorem k_str : CallR X (.type "str") rStrC := call_str_int
theorem k_join {o e : Expr} {to te : TE} {apos pos : Pos} (ho : PE X o to) (he : PE X e te) (hs : starEach [e] X.env = [(false, eval e X.env)] := by rfl) (hbase : attributeBase o "join" X.env (eval o X.env) = eval o X.env := by rfl) (hline : (apos.endLine == pos.line) = true := by rfl) :
    PE X (.Call (.Attribute o "join" apos) [e] [] pos) (tM1 (rJoinC K) to te) := by subst h; exact pe_join ho he hs hbase hline
theorem k_catS : OpR X (binaryOp .Add) rCatSC := op_add_str
theorem k_fstr {v1 v2 : Expr} {rest : List Expr} {ts : List TE} {pos : Pos} (h : PJ X (v1 :: v2 :: rest) ts) : PE X (.JoinedStr (v1 :: v2 :: rest) pos) (fun σ H Q => tJs ts Str.empty σ H fun out H1 => Q (.str out) H1) := pe_joined h
end
theorem txt_sum {α : Type} {f : α → Str} {n : Nat} : ∀ {l : List α}, (∀ x ∈ l, (f x).length ≤ n) → ((l.map f).map (·.length)).sum ≤ l.length * n
  | [], _ => by simp
  | x :: l, h => by
    have h1 := h x List.mem_cons_self
    have h2 := txt_sum (l := l) (n := n) fun y m => h y (List.mem_cons_of_mem _ m)
    simp only [List.map_cons, List.sum_cons, List.length_cons]
    rw [Nat.add_mul]
    omega
theorem str_len (a b : Str) : (a ++ b).length = a.length + b.length := by
  show (a.cps ++ b.cps).size = _
  simp [Str.length]
end BL

set_option Elab.async false
set_option linter.all false
set_option maxRecDepth 100000
set_option maxHeartbeats 2000000
namespace BL
open PySem PySem.Spec PyProof.Rows L2
/-! ### an error's class, where not all of the errors are there -/
structure ErrQ (K : Fg) (mg : Str → Option Value) (c : Str) : Prop where
  g : mg c = some (erC K c)
  x : PySem.W.excIn K (He.ga K c) vmro "ValueError.__new__" = true
  kp : PySem.W.keepIn K (erC K c) = true
  sb : PySem.W.subIn K (erC K c) (.type "BaseException") = some true
  tp : PySem.W.typeIn K (erC K c) = some (.type "type")
def errQB (K : Fg) (c : Str) : Bool := PySem.W.excIn K (He.ga K c) vmro "ValueError.__new__" && (PySem.W.keepIn K (erC K c) && (decide (PySem.W.subIn K (erC K c) (.type "BaseException") = some true) && decide (PySem.W.typeIn K (erC K c) = some (.type "type"))))
theorem errQB_ok {K : Fg} {mg : Str → Option Value} {c : Str} (g : mg c = some (erC K c)) (h : errQB K c = true) : ErrQ K mg c := by
  unfold errQB at h
  simp only [Bool.and_eq_true, decide_eq_true_eq] at h
  obtain ⟨h1, h2, h3, h4⟩ := h
  exact ⟨g, h1, h2, h3, h4⟩
structure ErrsL (K : Fg) (mg : Str → Option Value) (l : List Str) : Prop where
  e : ∀ d ∈ l, ErrQ K mg d
theorem k_raiseQ {X : Cx} {W : WX} (K : Fg) (h : X.K = K) {c m : Str} {j : Nat} {p p2 pos pos' : Pos} (tk : Takes X W) (e : ErrQ K X.mg c) (hc : X.calm = true := by rfl) (hg : Gl X c := by rfl) (hdb : (c == ("__debug__" : Str)) = false := by decide) :
    PS X (.Raise (some (.Call (.Name c p) [.Constant (.str m) j p2] [] pos)) none pos') (tRaiseX K c W) := by
  subst h
  exact ps_raise hc tk (pmk_own PySem.F.excBase_ValueError e.x e.g e.kp (raises_own e.sb e.tp) hg hdb)
/-! ### a method's parameters -/
theorem bm1 {x y : Str} {a : Arguments} {b : List Stmt} {sc : Scope} {p : Str} (h : ∀ (kV doc pm : Value) (an : Option Addr) (cdv ct u : Value), bindArgs (PySem.W.fnOf x y a b sc .none kV doc pm an cdv ct) ⟨[u], []⟩ = pure [(p, u)]) :
    ∀ (kV doc pm : Value) (an : Option Addr) (cdv ct : Value) (us : List Value), us.length = [p].length → bindArgs (PySem.W.fnOf x y a b sc .none kV doc pm an cdv ct) ⟨us, []⟩ = pure ([p].zip us)
  | kV, doc, pm, an, cdv, ct, [u], _ => h kV doc pm an cdv ct u
theorem bm2 {x y : Str} {a : Arguments} {b : List Stmt} {sc : Scope} {p q : Str} (h : ∀ (kV doc pm : Value) (an : Option Addr) (cdv ct u v : Value), bindArgs (PySem.W.fnOf x y a b sc .none kV doc pm an cdv ct) ⟨[u, v], []⟩ = pure [(p, u), (q, v)]) :
    ∀ (kV doc pm : Value) (an : Option Addr) (cdv ct : Value) (us : List Value), us.length = [p, q].length → bindArgs (PySem.W.fnOf x y a b sc .none kV doc pm an cdv ct) ⟨us, []⟩ = pure ([p, q].zip us)
  | kV, doc, pm, an, cdv, ct, [u, v], _ => h kV doc pm an cdv ct u v
theorem bm4 {x y : Str} {a : Arguments} {b : List Stmt} {sc : Scope} {p q r t : Str} (h : ∀ (kV doc pm : Value) (an : Option Addr) (cdv ct u v w z : Value), bindArgs (PySem.W.fnOf x y a b sc .none kV doc pm an cdv ct) ⟨[u, v, w, z], []⟩ = pure [(p, u), (q, v), (r, w), (t, z)]) :
    ∀ (kV doc pm : Value) (an : Option Addr) (cdv ct : Value) (us : List Value), us.length = [p, q, r, t].length → bindArgs (PySem.W.fnOf x y a b sc .none kV doc pm an cdv ct) ⟨us, []⟩ = pure ([p, q, r, t].zip us)
  | kV, doc, pm, an, cdv, ct, [u, v, w, z], _ => h kV doc pm an cdv ct u v w z
/-! ### the object's methods, called -/
section
variable {K : Fg} {σ : L2.St} {H H' H1 : Hp} {ta tb tc td te : TE} {p : Addr} {fp fp' : List Addr} {s s' : Ts} {k : Nat} {m : Str} {β : Type} [Rp β] {D : Ends} {tz tu : TS} {pd pn : Addr} {W : WX} {i j l : Int}
theorem er_tv {f : Ts → β} (hσ : σ[k]? = some (some (.ref p))) (t : TA K H p fp s) (hz : Small s) (m1 : (("now" : Str) == m) = false := by decide) (m2 : (("past" : Str) == m) = false := by decide) : Er K (tMethX (He.ga K "Teller") m (fun vs H Q _ => spTv K f vs H Q noE) noEs (tVar k) tNil) σ H (f s) := fun H1 e Q q => by
  obtain ⟨dx, fs, h1, h2⟩ := (t.mono e).self
  exact ⟨.ref p, hσ, p, dx, fs, rfl, h1, h2 _ m1 m2, p, fp, s, rfl, t.mono e, hz, fun v H2 e2 r => q v H2 e2 r⟩
theorem erl_tl {f : Ts → List β} (hσ : σ[k]? = some (some (.ref p))) (t : TA K H p fp s) (hz : Small s) (m1 : (("now" : Str) == m) = false := by decide) (m2 : (("past" : Str) == m) = false := by decide) : ErL K (tMethX (He.ga K "Teller") m (fun vs H Q _ => spTl K f vs H Q noE) noEs (tVar k) tNil) σ H (f s) := fun H1 e Q q => by
  obtain ⟨dx, fs, h1, h2⟩ := (t.mono e).self
  exact ⟨.ref p, hσ, p, dx, fs, rfl, h1, h2 _ m1 m2, p, fp, s, rfl, t.mono e, hz, fun a vs H2 e2 hn ha r => q a vs H2 e2 hn ha r⟩
theorem er_tlen {f : Ts → Nat} (hσ : σ[k]? = some (some (.ref p))) (t : TA K H p fp s) (hz : Small s) (hf : f s < 1000000) : Er K (tCB (rLenO (He.ga K "Teller") (fun vs H Q _ => spTv K f vs H Q noE)) (tCons (tVar k) tNil)) σ H (f s) := fun H1 e Q q => by
  obtain ⟨dx, fs, h1, h2⟩ := (t.mono e).self
  exact ⟨.ref p, hσ, p, dx, fs, rfl, h1, p, fp, s, rfl, t.mono e, hz, fun v H2 e2 r => ⟨f s, r, hf, q v H2 e2 r⟩⟩
theorem Gr.of (e : Same H H1) (g : Gr H1 fp fp') : Gr H fp fp' := fun a ha => (g a ha).imp id fun h => e.free h
theorem ev_tell {f : Ts → Int → Int → Int → Except Str ((Int × Int) × Ts)} {Q : VK} (hσ : σ[k]? = some (some (.ref p))) (t : TA K H p fp s) (hz : Small s) (h1 : Er K ta σ H i) (h2 : Er K tb σ H j) (h3 : Er K tc σ H l)
    (q : ∀ y s', f s i j l = .ok (y, s') → ∀ v H' fp', Mus fp H H' → Gr H fp fp' → TA K H' p fp' s' → Rp.rep K H' v y → Q v H') (qe : ∀ c, f s i j l = .error c → c ∈ errs → ∀ H', Same H H' → W (erC K c) none σ H') :
    tMethX (He.ga K "Teller") "tell" (spTell K f) (WE W) (tVar k) (tCons ta (tCons tb (tCons tc tNil))) σ H Q := by
  obtain ⟨dx, fs, g1, g2⟩ := t.self
  refine ⟨.ref p, hσ, p, dx, fs, rfl, g1, g2 _ (by decide) (by decide), h1 H (Same.refl _) _ fun v1 H1 e1 r1 => h2 H1 e1 _ fun v2 H2 e2 r2 => h3 H2 (e1.trans e2) _ fun v3 H3 e3 r3 => ?_⟩
  have e := (e1.trans e2).trans e3
  exact ⟨p, fp, s, v1, v2, v3, i, j, l, rfl, Rp.mono (SF.of (e2.trans e3)) r1, Rp.mono (SF.of e3) r2, r3, t.mono e, hz, fun y s' hy v H' fp' m g t' r => q y s' hy v H' fp' ((Mus.of e).trans m) (g.of e) t' r, fun c hc hm H' e' => qe c hc hm H' (e.trans e')⟩
theorem ev_tellC {f : Ts → Int → Int → Int → Except Str ((Int × Int) × Ts)} {Q : VK} {y : Int × Int} (hσ : σ[k]? = some (some (.ref p))) (t : TA K H p fp s) (hz : Small s) (h1 : Er K ta σ H i) (h2 : Er K tb σ H j) (h3 : Er K tc σ H l)
    (hok : f s i j l = .ok (y, s')) (q : ∀ v H' fp', Mus fp H H' → Gr H fp fp' → TA K H' p fp' s' → Rp.rep K H' v y → Q v H') :
    tMethX (He.ga K "Teller") "tell" (fun vs H Q _ => spTell K f vs H Q noE) noEs (tVar k) (tCons ta (tCons tb (tCons tc tNil))) σ H Q := by
  obtain ⟨dx, fs, g1, g2⟩ := t.self
  refine ⟨.ref p, hσ, p, dx, fs, rfl, g1, g2 _ (by decide) (by decide), h1 H (Same.refl _) _ fun v1 H1 e1 r1 => h2 H1 e1 _ fun v2 H2 e2 r2 => h3 H2 (e1.trans e2) _ fun v3 H3 e3 r3 => ?_⟩
  have e := (e1.trans e2).trans e3
  exact ⟨p, fp, s, v1, v2, v3, i, j, l, rfl, Rp.mono (SF.of (e2.trans e3)) r1, Rp.mono (SF.of e3) r2, r3, t.mono e, hz, fun y' s'' hy v H' fp' m g t' r => by rw [hok] at hy; cases hy; exact q v H' fp' ((Mus.of e).trans m) (g.of e) t' r, fun c hc => by rw [hok] at hc; cases hc⟩
theorem ev_undo {f : Ts → Except Str (List (Int × Int) × Ts)} {Q : VK} (hσ : σ[k]? = some (some (.ref p))) (t : TA K H p fp s) (hz : Small s)
    (q : ∀ y s', f s = .ok (y, s') → ∀ a us H' fp', Mus fp H H' → Gr H fp fp' → TA K H' p fp' s' → H a = none → a ∉ fp' → H' a = some (.lst us) → RL K H' us y → Q (.ref a) H') (qe : ∀ c, f s = .error c → c ∈ errs → ∀ H', Same H H' → W (erC K c) none σ H') :
    tMethX (He.ga K "Teller") "undo" (spUndo K f) (WE W) (tVar k) tNil σ H Q := by
  obtain ⟨dx, fs, g1, g2⟩ := t.self
  exact ⟨.ref p, hσ, p, dx, fs, rfl, g1, g2 _ (by decide) (by decide), p, fp, s, rfl, t, hz, q, qe⟩
theorem ev_undoC {f : Ts → Except Str (List (Int × Int) × Ts)} {Q : VK} {y : List (Int × Int)} (hσ : σ[k]? = some (some (.ref p))) (t : TA K H p fp s) (hz : Small s) (hok : f s = .ok (y, s'))
    (q : ∀ a us H' fp', Mus fp H H' → Gr H fp fp' → TA K H' p fp' s' → H a = none → a ∉ fp' → H' a = some (.lst us) → RL K H' us y → Q (.ref a) H') :
    tMethX (He.ga K "Teller") "undo" (fun vs H Q _ => spUndo K f vs H Q noE) noEs (tVar k) tNil σ H Q := by
  obtain ⟨dx, fs, g1, g2⟩ := t.self
  exact ⟨.ref p, hσ, p, dx, fs, rfl, g1, g2 _ (by decide) (by decide), p, fp, s, rfl, t, hz, fun y' s'' hy => by rw [hok] at hy; cases hy; exact q, fun c hc => by rw [hok] at hc; cases hc⟩
/-! a test with two values: the first changes things -/
theorem tt_cmp {α : Type} [Rp α] [Rp β] {r : R2} {b : Bool} {x : α} {y : β} {P : Hp → Prop} {Q : Bool → Hp → Prop} (h : ∀ Q : VK, (∀ v H', P H' → Rp.rep K H' v x → Q v H') → ta σ H Q) (h' : ∀ H', P H' → Er K tb σ H' y) (hr : R2r K r x y b)
    (q : ∀ H1 H', P H1 → Same H1 H' → Q b H') : tTest (tOp r ta tb) σ H Q := h _ fun v H1 p rv => h' H1 p H1 (Same.refl _) _ fun u H2 e2 ru => hr H2 v u (Rp.mono (SF.of e2) rv) ru _ fun w H3 e3 rw' => ⟨b, rw', q H1 H3 p (e2.trans e3)⟩
theorem tt_et {tt : TT} {b : Bool} {Q : Bool → Hp → Prop} (h : Et K tt σ H b) (q : ∀ H', Same H H' → Q b H') : tt σ H Q := h H (Same.refl _) _ q
theorem q_ifOr {ta tb : TT} (h : ta σ H fun c H1 => if c = true then (if true = true then tu { D with nx := tz D } σ H1 else tz D σ H1) else tb σ H1 fun c H1 => if c = true then tu { D with nx := tz D } σ H1 else tz D σ H1) : tSeq (tIfS (tOr ta tb) tu tNext) tz D σ H := h
theorem tt_no {c : Bool} {A B : Prop} (h : c = false) (q : B) : if c = true then A else B := by subst h; exact iteF q
theorem Dr.mus' (m : Mus fp H H') (dr : Dr H pd pn) (h1 : pd ∉ fp) (h2 : pn ∉ fp) : Dr H' pd pn := Dr.mus m h1 h2 dr
theorem q_ifT1 {tt : TT} (h : tt σ H fun c H1 => if c = true then tu { D with nx := tz D } σ H1 else tz D σ H1) : tSeq (tIfS tt tu tNext) tz D σ H := h
theorem Dr.pd_some (dr : Dr H pd pn) : H pd ≠ none := fun h => Dr.pd_ne dr h rfl
theorem Dr.pn_some (dr : Dr H pd pn) : H pn ≠ none := fun h => Dr.pn_ne dr h rfl
/-- `return a == b and c`, where a changes things -/
theorem tr_and {α : Type} [Rp α] [Rp β] {r : R2} {b c : Bool} {x : α} {y : β} {P : Hp → Prop} (h : ∀ Q : VK, (∀ v H', P H' → Rp.rep K H' v x → Q v H') → ta σ H Q) (h' : ∀ H', P H' → Er K tb σ H' y) (hr : R2r K r x y b) (hb : b = true)
    (q : ∀ H1 H', P H1 → Same H1 H' → ∃ d : Bool, Er K tc σ H' d ∧ d = c ∧ ∀ H'', D.rt (.bl c) H'') : tRet (tAndV (tOp r ta tb) tc) D σ H := h _ fun v H1 p rv => h' H1 p H1 (Same.refl _) _ fun u H2 e2 ru => hr H2 v u (Rp.mono (SF.of e2) rv) ru _ fun w H3 e3 rw' => ⟨b, rw', by
      subst hb
      obtain ⟨d, hd, rfl, qq⟩ := q H1 H3 p (e2.trans e3)
      refine iteT (hd H3 (Same.refl _) _ fun v4 H4 e4 r4 => ?_)
      cases (show v4 = .bl d from r4)
      exact qq H4⟩
theorem cut_len {α : Type} {l : List α} (lo hi : Option Int) : (cutL l lo hi).length ≤ l.length := by
  unfold cutL
  rw [List.length_take, List.length_drop]
  omega
theorem ep_min2 {P : Int → Prop} (ha : ∀ H1, DM pd pn H H1 → Er K ta σ H1 i) (hb : Ep K pd pn tb σ H P) : Ep K pd pn (tCB rMin2C (tCons ta (tCons tb tNil))) σ H (fun z => ∃ y, P y ∧ z = min i y) := fun H1 m dr Q q =>
  ha H1 m H1 (Same.refl _) _ fun v H2 e2 r2 => hb H2 (m.trans (DM.of e2)) (Dr.mono e2 dr) _ fun u H3 y m3 d3 p3 r3 => by
    cases (show v = .int i from r2); cases (show u = .int y from r3)
    refine ⟨i, y, rfl, q _ H3 (min i y) ((DM.of e2).trans m3) d3 ⟨y, p3, rfl⟩ (congrArg V.int ?_)⟩
    split <;> omega
theorem q_asgIfT {tt : TT} {k : Nat} (h : Et K tt σ H true) (q : ∀ H1, Same H H1 → ta σ H1 (fun v H2 => tz D (σ.set k (some v)) H2)) : tSeq (tAsg (tIf tt ta tb) (gName k)) tz D σ H := h H (Same.refl _) _ fun H1 e => iteT (q H1 e)
theorem q_asgIfF {tt : TT} {k : Nat} (h : Et K tt σ H false) (q : ∀ H1, Same H H1 → tb σ H1 (fun v H2 => tz D (σ.set k (some v)) H2)) : tSeq (tAsg (tIf tt ta tb) (gName k)) tz D σ H := h H (Same.refl _) _ fun H1 e => iteF (q H1 e)
theorem q_ifC {tt : TT} {tu tw : TS} {P : L2.St → Hp → Prop} (tail : ∀ σ' H', P σ' H' → tz D σ' H') (k : (∀ σ' H', P σ' H' → tz D σ' H') → tSeq (tIfS tt tu tw) tz D σ H) : tSeq (tIfS tt tu tw) tz D σ H := k tail
theorem q_ifD {α : Type} [Rp α] [Rp β] {r : R2} {tu tw : TS} {P : α → Prop} {y : β} {f : α → Bool} (dr : Dr H pd pn) (h : Ep K pd pn ta σ H P) (h' : ∀ H1, Er K tb σ H1 y) (hr : ∀ x, R2r K r x y (f x)) (h1 : ∀ x H1, P x → f x = true → DM pd pn H H1 → Dr H1 pd pn → tu { D with nx := tz D } σ H1) (h2 : ∀ x H1, P x → f x = false → DM pd pn H H1 → Dr H1 pd pn → tw { D with nx := tz D } σ H1) :
    tSeq (tIfS (tTest (tOp r ta tb)) tu tw) tz D σ H := h H (DM.refl _) dr _ fun v H1 x m d p rv => h' H1 H1 (Same.refl _) _ fun u H2 e2 ru => hr x H2 v u (Rp.mono (SF.of e2) rv) ru _ fun w H3 e3 rw' => ⟨f x, rw', by
      have e := e2.trans e3
      have m3 : DM pd pn H H3 := m.trans (DM.of e)
      have d3 : Dr H3 pd pn := Dr.mono e d
      cases hf : f x with
      | true => exact iteT (h1 x H3 p hf m3 d3)
      | false => exact iteF (h2 x H3 p hf m3 d3)⟩
end
section
variable {X : Cx} {W : WX} {k : Nat} {C m x : Str} {ps fs : List Str} {sp : Sp} {t : L2.TA} {ta : TE} {e o : Expr} {es : List Expr} {p pos apos : Pos}
theorem k_m {pl : Sem Bool} (K : Fg) (h : X.K = K) (G : OkM X.prog X.w K X.mg X.base (L2.CX X.prog X.w) k C m ps sp) (c : Kls K X.mg C fs) (hr : Room k X.A) (tk : Takes X W) (he : PE X o ta) (ha : PA X (e :: es) t)
    (hst : starEach (e :: es) X.env = (false, eval e X.env) :: starEach es X.env := by rfl) (hpl : (backTo pos (starEach es X.env)).any (·.1) = false := by rfl)
    (ht : eval (.Call (.Attribute o m apos) (e :: es) [] pos) X.env = (do
      let ov ← eval o X.env
      standAt apos.atName
      let (f, first) ← holding [ov] (getMethod ov m pl)
      callWith pos f first (backTo pos (starEach (e :: es) X.env)) (backToKw pos (keywordEach [] X.env))) := by rfl) : PE X (.Call (.Attribute o m apos) (e :: es) [] pos) (tMethX (He.ga K C) m sp (WE W) ta t) := by
  subst h; exact pe_m G c hr tk he ha hst hpl ht
theorem k_m0 {pl : Sem Bool} (K : Fg) (h : X.K = K) (G : OkM X.prog X.w K X.mg X.base (L2.CX X.prog X.w) k C m ps sp) (c : Kls K X.mg C fs) (hr : Room k X.A) (tk : Takes X W) (he : PE X o ta)
    (ht : eval (.Call (.Attribute o m apos) [] [] pos) X.env = (do
      let ov ← eval o X.env
      standAt apos.atName
      let (f, first) ← holding [ov] (getMethod ov m pl)
      callWith pos f first (backTo pos (starEach [] X.env)) (backToKw pos (keywordEach [] X.env))) := by rfl) : PE X (.Call (.Attribute o m apos) [] [] pos) (tMethX (He.ga K C) m sp (WE W) ta tNil) := by
  subst h; exact pe_m0 G c hr tk he ht
end
end BL

set_option Elab.async false
set_option linter.all false
set_option maxRecDepth 100000
set_option maxHeartbeats 2000000
namespace BL
open PySem PySem.Spec PyProof.Rows L2
/-! ### a def that the top binds by a second name -/
def FdA (K : Fg) (mg : Str → Option Value) (x n : Str) (st : Stmt) : Prop := ∃ f fd, FunD K n n (defArgs st) (defBody st) (defScope st) [] [] f fd ∧ mg x = some (.ref f)
section
variable {P : Program} {w : World} {K : Fg} {mg : Str → Option Value} {base : Heap}
theorem okA_of {x n : Str} {st : Stmt} {N ps : List Str} {k : Nat} {sp : Sp} (F : FdA K mg x n st) (S : FnScope N ps (defScope st))
    (hb : ∀ (kV doc pm : Value) (an : Option Addr) (cdv ct : Value) (us : List Value), us.length = ps.length → bindArgs (PySem.W.fnOf n n (defArgs st) (defBody st) (defScope st) .none kV doc pm an cdv ct) ⟨us, []⟩ = pure (ps.zip us))
    (len : ∀ vs H Q E, sp vs H Q E → vs.length = ps.length)
    (hbody : ∀ (f : Addr) (cdv : Value) (A : Around) (outer : List Env) (s : Shared) (H : Hp) (vs : List V) (Q : VK) (E : XK), Room k (A.deeper (envOfC n (defScope st) s.heap.objs.size f cdv)) → sp vs H Q E →
      ∃ t, PSs (cxOf CX0 P w K mg base N n (defScope st) f cdv A outer s H E).nox (defBody st) t ∧ t { nx := fun _ H' => Q .non H', rt := Q } (start N vs) H) : Ok P w K mg base CX0 (k + 1) x ps sp := by
  obtain ⟨f, fd, F, g⟩ := F
  refine ⟨f, fd, g, F.kp, ?_, F.ok S len fun cdv A outer s H vs Q E hr h => ?_⟩
  · exact F.bindsN hb
  · obtain ⟨t, h1, h2⟩ := hbody f cdv A outer s H vs Q E hr h
    exact ⟨t, h1.nox, h2⟩
theorem okxA_of {x n : Str} {st : Stmt} {N ps : List Str} {k : Nat} {sp : Sp} (F : FdA K mg x n st) (S : FnScope N ps (defScope st))
    (hb : ∀ (kV doc pm : Value) (an : Option Addr) (cdv ct : Value) (us : List Value), us.length = ps.length → bindArgs (PySem.W.fnOf n n (defArgs st) (defBody st) (defScope st) .none kV doc pm an cdv ct) ⟨us, []⟩ = pure (ps.zip us))
    (len : ∀ vs H Q E, sp vs H Q E → vs.length = ps.length)
    (hbody : ∀ (f : Addr) (cdv : Value) (A : Around) (outer : List Env) (s : Shared) (H : Hp) (vs : List V) (Q : VK) (E : XK), Room k (A.deeper (envOfC n (defScope st) s.heap.objs.size f cdv)) → sp vs H Q E →
      ∃ t, PSs (cxOf (L2.CX P w) P w K mg base N n (defScope st) f cdv A outer s H E) (defBody st) t ∧ t { nx := fun _ H' => Q .non H', rt := Q } (start N vs) H) : Ok P w K mg base (L2.CX P w) (k + 1) x ps sp := by
  obtain ⟨f, fd, F, g⟩ := F
  exact ⟨f, fd, g, F.kp, F.bindsN hb, F.ok S len fun cdv A outer s H vs Q E hr h => hbody f cdv A outer s H vs Q E hr h⟩
end
section
variable {K : Fg} {σ : L2.St} {H H' H1 : Hp} {ta tb te : TE} {α β : Type} [Rp α] [Rp β] {l m : List α} {x : α} {D : Ends} {tz : TS} {pd pn : Addr}
/-- `f(..).append(x)`: what it changes is new -/
theorem q_appNew (h : ErL K ta σ H l) (hz : l.length < 1000000) (he : ∀ H1, Same H H1 → Er K te σ H1 x) (k : ∀ H2, Same H H2 → tz D σ H2) : tSeq (tDrop (tBM K "list" rAppend ta (tCons te tNil))) tz D σ H :=
  h H (Same.refl _) _ fun p vs H1 e1 hn h1 r => ⟨Or.inl ⟨rfl, vs, sq_lst h1⟩, he H1 e1 H1 (Same.refl _) _ fun v H2 e2 r2 => ⟨p, vs, v, rfl, rfl, e2 _ _ h1, by rw [paired_len r]; exact Nat.lt_of_lt_of_le hz (by decide), k _ (same_mut (e1.trans e2) hn)⟩⟩
/-- what raises, but not here -/
theorem er_exC {β γ δ : Type} [Rp β] [Rp γ] [Rp δ] {f : β → γ → Except Str δ} {pre : β → γ → Prop} {b : β} {c : γ} {d : δ} {E : XK} (h : Er K ta σ H b) (h' : Er K tb σ H c) (hp : pre b c) (hf : f b c = .ok d) : Er K (tCall (fun vs H Q _ => sx2 K pre f vs H Q noE) [] E (tCons ta (tCons tb tNil))) σ H d := fun H1 e Q q =>
  h H1 e _ fun v H2 e2 r2 => h' H2 (e.trans e2) _ fun u H3 e3 r3 => ⟨v, u, b, c, rfl, Rp.mono (SF.of e3) r2, r3, hp, fun y hy v4 H4 e4 r4 => by rw [hf] at hy; cases hy; exact q v4 H4 ((e2.trans e3).trans e4) r4, fun c hc => by rw [hf] at hc; cases hc⟩
/-- [..] + drawn -/
theorem epl_catL {P : List α → Prop} (h : ∀ H1, DM pd pn H H1 → Er K ta σ H1 l) (h' : Ep K pd pn tb σ H P) (hz : ∀ m, P m → l.length + m.length ≤ 1000000) : EpL K pd pn (tOp rCatR ta tb) σ H (fun z => ∃ m, P m ∧ z = l ++ m) := fun H1 m dr Q q =>
  h H1 m H1 (Same.refl _) _ fun v H2 e2 r2 => h' H2 (m.trans (DM.of e2)) (Dr.mono e2 dr) _ fun u H3 y m3 d3 p3 r3 => by
    obtain ⟨a, vs, rfl, f1, p1⟩ := Rp.mono m3.sf r2
    obtain ⟨b, us, rfl, f2, p2⟩ := r3
    have m4 : DM pd pn H1 H3 := (DM.of e2).trans m3
    refine ⟨a, b, vs, us, rfl, rfl, .inr f1, .inr f2, ?_, fun p hp => ?_⟩
    · rw [paired_len p1, paired_len p2]; exact sz1000 (hz y p3)
    · have hn : H1 p = none := by
        cases ho : H1 p with
        | none => rfl
        | some o =>
          have z := m4.ne p o (fun c => Dr.pd_ne d3 hp c.symm) (fun c => Dr.pn_ne d3 hp c.symm) ho
          rw [hp] at z; cases z
      exact q p _ _ (l ++ y) (m4.trans (DM.of (same_new hp))) (Dr.mono (same_new hp) d3) ⟨y, p3, rfl⟩ hn upd_same (RL.mono (SF.new hp) (paired_app p1 p2))
theorem er_tupRg {n : Nat} (h : Er K ta σ H n) (hz : n ≤ 1000000) : Er K (tTupRg (tRg1 ta)) σ H (Tp.mk (rgI 0 n)) := fun H1 e Q q => h H1 e _ fun v H2 e2 r => by
  refine ⟨(n : Int), (show v = .int n from r), ⟨by omega, by omega, by omega, by omega, by omega⟩, fun p hp => q _ _ (e2.trans (same_new hp)) ⟨p, _, rfl, sq_tup upd_same, ?_⟩⟩
  unfold rgV
  rw [show ((n : Int) - 0).toNat = n by omega]
  exact paired_map (F := Rp.rep K _) (f := fun k : Nat => V.int (0 + (k : Int))) (g := fun k : Nat => 0 + (k : Int)) (fun k => rfl) _
theorem q_dropTell {p : Addr} {fp : List Addr} {s s' : Ts} {k : Nat} {i j i3 : Int} {tc : TE} {f : Ts → Int → Int → Int → Except Str ((Int × Int) × Ts)} {y : Int × Int} (hσ : σ[k]? = some (some (.ref p))) (t : TA K H p fp s) (hz : Small s) (h1 : Er K ta σ H i) (h2 : Er K tb σ H j) (h3 : Er K tc σ H i3)
    (hok : f s i j i3 = .ok (y, s')) (q : ∀ v H' fp', Mus fp H H' → Gr H fp fp' → TA K H' p fp' s' → Rp.rep K H' v y → tz D σ H') :
    tSeq (tDrop (tMethX (He.ga K "Teller") "tell" (fun vs H Q _ => spTell K f vs H Q noE) noEs (tVar k) (tCons ta (tCons tb (tCons tc tNil))))) tz D σ H := ev_tellC hσ t hz h1 h2 h3 hok q
end
end BL

set_option Elab.async false
set_option linter.all false
set_option maxRecDepth 100000
set_option maxHeartbeats 2000000
/-! ### sorted of a tuple of numbers -/
namespace SrtO
open PySem PySem.Spec PyProof.Rows
section
variable {prog : Program} {w : World} {A : Around} {E : Value → Shared → Prop} {s : Shared}
theorem collect_tupleB {l : Addr} {vs : List Value} {Q : List Value → Shared → Prop} (hl : IsTup s.heap l vs.toArray)
    (h : Q vs { s with heap := (s.heap.push (seqObj "list" #[] 0)).update s.heap.objs.size (Obj.mapSeq (· ++ vs.toArray)) }) (hsz : vs.length ≤ sizeLine) :
    wpAny (model prog w) A (collect (.ref l)) Q E s := by
  obtain ⟨o, ho, hc, n, hd⟩ := id hl
  unfold collect
  refine wpAny_bind (wpAny_runValue (codeAny_builtin entry_proto_collect' ?_))
  show wpAny _ _ (do again (.builtin "list.__iadd__" ⟨[← newList [], .ref l], []⟩)) _ _ s
  refine wpAny_bind (wpAny_newList (wpAny_pure ⟨Code.quiet_builtin _ (by decide +kernel), codeAny_builtin entry_list_iadd' ?_⟩))
  show wpAny _ _ (Builtin.List.listExtendWith (.ref s.heap.objs.size) (.ref l) (.ref s.heap.objs.size)) _ _ { s with heap := s.heap.push (seqObj "list" #[] 0) }
  unfold Builtin.List.listExtendWith
  have ho' : (s.heap.push (seqObj "list" #[] 0)).get? l = some o := Heap.get?_push_of_some _ ho
  refine wpAny_bind (wpAny_typeOf (T := "tuple") ⟨o, ho', hc⟩ ?_)
  have ht : (Value.type "tuple" == Value.type "tuple") = true := by rfl
  rw [if_pos (by rw [ht]; simp)]
  refine wpAny_bind (listItems_at ho' hd ?_)
  refine wpAny_bind (listItems_at (xs := #[]) (n := 0) (Heap.get?_push_size _ rfl) rfl ?_)
  rw [if_neg (by simp)]
  refine wpAny_bind (listUpdate_at (xs := #[]) (n := 0) (Heap.get?_push_size _ rfl) rfl ?_ (Nat.zero_le _) (by show (#[] ++ vs.toArray).size ≤ sizeLine + 1; simp only [Array.size_append, List.size_toArray, List.length_nil]; omega))
  refine wpAny_pure ?_
  show wpAny (model prog w) A (do
      let o ← load s.heap.objs.size
      match o.data with
      | .seq xs _ => pure xs.toList
      | _ => unsupported "internal:collect") Q E { s with heap := (s.heap.push (seqObj "list" #[] 0)).update s.heap.objs.size (Obj.mapSeq (· ++ vs.toArray)) }
  refine wpAny_bind (wpAny_load (get?_update_seq (Heap.get?_push_size _ rfl) _) ?_)
  show wpAny _ _ (pure ((#[] : Array Value) ++ vs.toArray).toList) Q E _
  rw [show ((#[] : Array Value) ++ vs.toArray).toList = vs by simp]
  exact wpAny_pure h
theorem sorted_ordT {l : Addr} {vs : List Value} {ltv : Value → Value → Bool} {Q : Value → Shared → Prop} (O : Swo ltv) (hl : IsTup s.heap l vs.toArray) (hz : vs.length ≤ sizeLine)
    (hS : 2 ≤ vs.length → ∀ (h₁ : Heap) (a : Addr), h₁.get? a = some (seqObj "list" vs.toArray 0) → (∀ b o, s.heap.get? b = some o → b ≠ a ∧ h₁.get? b = some o) → SortableO prog w A.in1.in1 { s with heap := h₁ } a vs ltv)
    (h : ∀ out : List Value, Srtd ltv out → Stb ltv out vs → Q (.ref (s.heap.objs.size + 1)) { s with heap := sortedAll s.heap vs out.toArray }) :
    wpAny (model prog w) A (call (.builtin "sorted") [.ref l]) Q E s := by
  refine Calls.call_function_entry kind_sorted plain_sorted entry_sorted (args_sorted1 _) ?_
  unfold Builtin.«sorted»
  refine wpAny_bind (m := checkCount "sorted" 1 1 _) (wpAny_pure ?_)
  refine wpAny_bind (collect_tupleB hl ?_ hz)
  refine wpAny_bind (wpAny_newList ?_ hz)
  have hsz : ((s.heap.push (seqObj "list" #[] 0)).update s.heap.objs.size (Obj.mapSeq (· ++ vs.toArray))).objs.size = s.heap.objs.size + 1 := by
    rw [Heap.size_update, size_push']
  have hoL : (((s.heap.push (seqObj "list" #[] 0)).update s.heap.objs.size (Obj.mapSeq (· ++ vs.toArray))).push (seqObj "list" vs.toArray 0)).get? (s.heap.objs.size + 1) = some (seqObj "list" vs.toArray 0) := by
    rw [← hsz]; exact Heap.get?_push_size _ rfl
  have keep : ∀ b o, s.heap.get? b = some o → b ≠ s.heap.objs.size + 1 ∧ (((s.heap.push (seqObj "list" #[] 0)).update s.heap.objs.size (Obj.mapSeq (· ++ vs.toArray))).push (seqObj "list" vs.toArray 0)).get? b = some o := fun b o q => by
    have hlt : b < s.heap.objs.size := Heap.lt_size q
    refine ⟨Nat.ne_of_lt (Nat.lt_succ_of_lt hlt), Heap.get?_push_of_some _ ?_⟩
    rw [Heap.get?_update_ne _ _ _ _ (Nat.ne_of_lt hlt)]
    exact Heap.get?_push_of_some _ q
  show wpAny _ _ _ _ _ { s with heap := ((s.heap.push (seqObj "list" #[] 0)).update s.heap.objs.size (Obj.mapSeq (· ++ vs.toArray))).push (seqObj "list" vs.toArray 0) }
  rw [hsz]
  refine wpAny_bind (wpAny_holding (wpAny_call_entry slot_list_sort ⟨_, hoL, rfl⟩ entry_list_sort (list_sort_ord O hoL hz (fun h2 => hS h2 _ _ hoL keep) fun out hs hb => ⟨_, rfl, ?_⟩) (args_list_sort _)))
  exact wpAny_pure ⟨_, rfl, h out hs hb⟩
end
end SrtO
namespace BL
open PySem PySem.Spec PyProof.Rows L2
/-- sorted(t), a tuple of ints -/
def rSortedT (K : Fg) : List V → Hp → VK → Prop := fun vs H Q => ∃ (a : Addr) (ns : List Int), vs = [V.ref a] ∧ SqT K H a (ns.map V.int) ∧
  ∀ (ns' : List Int) (p : Addr), ns'.Perm ns → ns'.Pairwise (· ≤ ·) → H p = none → Q (.ref p) (upd H p (.lst (ns'.map V.int)))
theorem cr_sortedT {X : Cx} : CallR X (.builtin "sorted") (rSortedT X.K) := by
  intro pins s σ H vs us Q I r h
  obtain ⟨a, ns, rfl, hs, q⟩ := h
  obtain ⟨its, rv, hl, hz⟩ := I.tuple hs
  rw [Vals.ref1 r]
  have hi := rv.ints
  refine SrtO.sorted_ordT SrtO.swo_int hl (by rw [← rv.length]; exact hz) (fun h2 h₁ a' _ _ => SrtO.ints_sortable hi h2) fun out h1 h2 => ?_
  obtain ⟨k1, k2, k3⟩ := SrtO.ints_out hi h1 h2
  obtain ⟨ep, he'⟩ := PyProof.Rows.sortedAll_at s.heap its out.toArray
  have hlen : ((out.map SrtO.iv).map V.int).length ≤ sizeLine := by
    rw [List.length_map, k2.length_eq]
    rw [List.length_map] at hz
    exact hz
  exact ⟨.ref _, upd H (s.heap.objs.size + 1) (.lst ((out.map SrtO.iv).map V.int)), I.laid (t' := s.toks) (fun _ _ => PyProof.Rows.sortedAll_old) (Nat.le_succ _) ⟨hlen, out, ep, vals_of_ints k1, he'⟩, rfl, q _ _ k2 k3 (I.hok.fresh (Nat.le_succ _))⟩
theorem k_sortedT {X : Cx} (K : Fg) (h : X.K = K) : CallR X (.builtin "sorted") (rSortedT K) := by subst h; exact cr_sortedT
theorem erl_sortedT {K : Fg} {σ : L2.St} {H : Hp} {ta : TE} {t : Tp Int} (h : Er K ta σ H t) : ErL K (tCB (rSortedT K) (tCons ta tNil)) σ H (srt t.l) := erl_cb1 h fun H v r Q q => by
  obtain ⟨a, vs, rfl, h2, h3⟩ := r
  refine ⟨a, t.l, rfl, by rw [← rl_ints h3]; exact h2, fun ns' p hp hs hn => q p _ _ (same_new hn) hn upd_same ?_⟩
  rw [srt_eq hp hs]; exact rl_of_ints _
/-- len of a text -/
def rLenSC : List V → Hp → VK → Prop := fun xs H Q => ∃ z, xs = [.str z] ∧ z.length ≤ sizeLine ∧ Q (.int z.length) H
theorem k_lenS {X : Cx} : CallR X (.builtin "len") rLenSC := call_len_str
theorem er_lenS {K : Fg} {σ : L2.St} {H : Hp} {ta : TE} {z : Str} (h : Er K ta σ H z) (hz : z.length ≤ sizeLine) : Er K (tCB rLenSC (tCons ta tNil)) σ H z.length := er_cb1 h fun H v r Q q => by
  cases (show v = .str z from r)
  exact ⟨z, rfl, hz, q _ H (Same.refl _) rfl⟩
end BL

set_option Elab.async false
set_option linter.all false
set_option maxRecDepth 100000
set_option maxHeartbeats 2000000
namespace BL
open PySem PySem.Spec PyProof.Rows L2
/-! ### lists that are new since a heap, locked, and the lock taken off again -/
structure Nl (H0 : Hp) (α : Type) where
  l : List α
instance {H0 : Hp} {α : Type} [Rp α] : Rp (Nl H0 α) := ⟨fun K H v x => Rp.rep K H v x.l ∧ ∃ p, v = .ref p ∧ H0 p = none, fun e h => ⟨Rp.mono e h.1, h.2⟩⟩
instance {H0 : Hp} {α : Type} [Rp α] : Nn (Nl H0 α) := ⟨fun h => by obtain ⟨_, p, rfl, _⟩ := h; exact V.noConfusion⟩
def tUnl (t : TE) : TE := fun σ H Q => t σ H fun v H1 => ∃ p vs od, v = .ref p ∧ H1 p = some (.frz od (.lst vs)) ∧ H p = none ∧ Q v (upd H1 p (.lst vs))
theorem pe_unl {X : Cx} {e : Expr} {t : TE} (h : PE X e t) : PE X e (tUnl t) := by
  refine ⟨fun pins s σ H Q I hw => ?_⟩
  refine thn (h.run pins s σ H _ I hw) fun v s1 ⟨x, H1, I1, r, p, vs, od, ex, h1, hn, q⟩ => ?_
  refine ⟨x, _, I1.unlock h1 (fun o' u' e => ?_), r, q⟩
  have z := I.base.frzs p o' u' e
  rw [hn] at z
  cases z
section
variable {K : Fg} {σ : L2.St} {H H' H1 H0 : Hp} {ta tb te : TE} {α β : Type} [Rp α] [Rp β] {l m : List α} {x : α}
theorem er_nl {y : Nl H0 α} (h : Er K te σ H y) : Er K te σ H y.l := h.via fun _ _ r => r.1
theorem er_frzN (h : ErL K te σ H l) (s : Same H0 H) : Er K (tFrz te) σ H (Nl.mk l : Nl H0 α) := fun H2 e Q q => h H2 e _ fun p vs H3 e3 hn h3 r =>
  ⟨p, vs, rfl, h3, fun od => q (.ref p) _ (same_mut e3 hn) ⟨⟨p, vs, rfl, ⟨od, upd_same⟩, r.mono (SF.lst h3)⟩, p, rfl, (s.trans e).free hn⟩⟩
theorem nl_up {v : V} {l : List (List α)} (s : Same H0 H1) (h : Rp.rep K H v (l.map Nl.mk : List (Nl H1 α))) : Rp.rep K H v (l.map Nl.mk : List (Nl H0 α)) := by
  obtain ⟨a, vs, rfl, f, r⟩ := h
  refine ⟨a, vs, rfl, f, ?_⟩
  have r : Paired (Rp.rep K H) vs (l.map Nl.mk : List (Nl H1 α)) := r
  show Paired (Rp.rep K H) vs (l.map Nl.mk : List (Nl H0 α))
  clear f
  induction l generalizing vs with
  | nil => cases r; exact .nil
  | cons y l ih =>
    cases r with
    | cons a b =>
      obtain ⟨a1, p, rfl, a2⟩ := a
      exact .cons ⟨a1, p, rfl, s.free a2⟩ (ih _ b b)
/-- a promise: a list of lists, each new -/
def spCorN (K : Fg) (pre : α → Prop) (f : α → List (List β)) : Sp := fun vs H Q _ => ∃ v b, vs = [v] ∧ Rp.rep K H v b ∧ pre b ∧ ∀ u H', Same H H' → Rp.rep K H' u ((f b).map Nl.mk : List (Nl H β)) → Q u H'
theorem er_cor {E : XK} {pre : α → Prop} {f : α → List (List β)} (h : Er K ta σ H x) (hp : pre x) (s : Same H0 H) : Er K (tCall (spCorN K pre f) [] E (tCons ta tNil)) σ H ((f x).map Nl.mk : List (Nl H0 β)) := fun H1 e Q q =>
  h H1 e _ fun v H2 e2 r => ⟨v, x, rfl, r, hp, fun u H3 e3 r3 => q u H3 (e2.trans e3) (nl_up (s.trans (e.trans e2)) r3)⟩
/-- a promise: a list, new, locked -/
def spNw (K : Fg) (pre : α → Prop) (f : α → List β) : Sp := fun vs H Q _ => ∃ v b, vs = [v] ∧ Rp.rep K H v b ∧ pre b ∧ ∀ p us od H', Same H H' → H p = none → H' p = some (.frz od (.lst us)) → RL K H' us (f b) → Q (.ref p) H'
theorem erl_unl {E : XK} {pre : α → Prop} {f : α → List Int} (h : Er K ta σ H x) (hp : pre x) : ErL K (tUnl (tCall (spNw K pre f) [] E (tCons ta tNil))) σ H (f x) := fun H1 e Q q =>
  h H1 e _ fun v H2 e2 r => ⟨v, x, rfl, r, hp, fun p us od H3 e3 hn h3 rl => ⟨p, us, od, rfl, h3, e2.free hn, q p us _ (same_mut (e2.trans e3) (e2.free hn)) (e2.free hn) upd_same (paired_mono (F := Rp.rep K H3) (G := Rp.rep K (upd H3 p (.lst us))) (fun (v : V) (i : Int) (hv : v = V.int i) => hv) rl)⟩⟩
theorem len_cor {pre : α → Prop} {f : α → List (List β)} : ∀ vs H Q E, spCorN K pre f vs H Q E → vs.length = 1 := fun vs H Q E h => by obtain ⟨_, _, rfl, _⟩ := h; rfl
theorem len_nw {pre : α → Prop} {f : α → List β} : ∀ vs H Q E, spNw K pre f vs H Q E → vs.length = 1 := fun vs H Q E h => by obtain ⟨_, _, rfl, _⟩ := h; rfl
end
end BL

set_option Elab.async false
set_option linter.all false
set_option maxRecDepth 100000
set_option maxHeartbeats 2000000
namespace BL
open PySem PySem.Spec PyProof.Rows L2
/-! ### the mathematics that all laws share -/
/-- bounds as they are asked -/
def BOk (b : List (Int × Int)) : Prop := 1 ≤ b.length ∧ b.length ≤ 7 ∧ ∀ p ∈ b, -50 ≤ p.1 ∧ p.1 ≤ p.2 ∧ p.2 ≤ 50
theorem getD_at {α : Type} {l : List α} {n : Nat} {d : α} (h : n < l.length) : l[n]? = some (l.getD n d) := by
  rw [List.getElem?_eq_getElem h, List.getD_eq_getElem?_getD, List.getElem?_eq_getElem h]; rfl
/-- what the laws draw: few values with few choices -/
def SmallP (n : Int) (b : List (Int × Int)) : Prop := 1 ≤ b.length ∧ (b.length : Int) ≤ n ∧ ∀ t ∈ b, -4 ≤ t.1 ∧ t.1 < 4 ∧ t.1 ≤ t.2 ∧ t.2 < t.1 + 4
theorem iabs_nat (i : Int) : iabs i = (i.natAbs : Int) := by unfold iabs; split <;> omega
def gcdI (a b : Int) : Int := (Int.gcd a b : Int)
/-- a fraction in lowest terms -/
def frI (a b : Int) : Int × Int := (a / gcdI a b, b / gcdI a b)
theorem gcdI_pos {a b : Int} (h : 0 < b) : 0 < gcdI a b := by
  unfold gcdI
  have := Int.gcd_pos_of_ne_zero_right a (show b ≠ 0 by omega)
  omega
theorem gcdI_le {a b : Int} (h : 0 < b) : gcdI a b ≤ b := by
  unfold gcdI
  have h1 : Int.gcd a b ∣ b.natAbs := Nat.gcd_dvd_right _ _
  have := Nat.le_of_dvd (by omega) h1
  omega
theorem gcd_turn {a b : Nat} (h : b ≠ 0) : Nat.gcd b (a % b) = Nat.gcd a b := by
  rw [Nat.gcd_comm a b, Nat.gcd_rec b a, Nat.gcd_comm (a % b) b]
theorem nat_mod_int (a b : Nat) : ((a : Int) % (b : Int)) = ((a % b : Nat) : Int) := by omega
def BndP (n : Int) (b : List (Int × Int)) : Prop := 1 ≤ b.length ∧ (b.length : Int) ≤ n ∧ ∀ t ∈ b, -30 ≤ t.1 ∧ t.1 < 30 ∧ t.1 ≤ t.2 ∧ t.2 < t.1 + 20
theorem bnd_bok {n : Int} {b : List (Int × Int)} (h : BndP n b) (hn : n ≤ 7) : BOk b := ⟨h.1, by have := h.2.1; omega, fun p hp => by have := h.2.2 p hp; omega⟩
theorem ord_of {b : List (Int × Int)} (h : BOk b) : ∀ p ∈ b, p.1 ≤ p.2 := fun p hp => (h.2.2 p hp).2.1
/-! ### lists below one another, place by place -/
def leL : List Int → List Int → Prop
  | [], [] => True
  | x :: l, y :: r => x ≤ y ∧ leL l r
  | _, _ => False
theorem leL_refl : ∀ l : List Int, leL l l
  | [] => trivial
  | _ :: l => ⟨Int.le_refl _, leL_refl l⟩
theorem leL_len : ∀ {l r : List Int}, leL l r → l.length = r.length
  | [], [], _ => rfl
  | _ :: l, _ :: r, h => by rw [List.length_cons, List.length_cons, leL_len h.2]
  | [], _ :: _, h => h.elim
  | _ :: _, [], h => h.elim
theorem leL_trans : ∀ {l r s : List Int}, leL l r → leL r s → leL l s
  | [], [], [], _, _ => trivial
  | _ :: _, _ :: _, _ :: _, h, k => ⟨Int.le_trans h.1 k.1, leL_trans h.2 k.2⟩
  | [], _ :: _, _, h, _ => h.elim
  | _ :: _, [], _, h, _ => h.elim
  | [], [], _ :: _, _, h => h.elim
  | _ :: _, _ :: _, [], _, h => h.elim
theorem leL_sum : ∀ {l r : List Int}, leL l r → l.sum ≤ r.sum
  | [], [], _ => Int.le_refl _
  | _ :: l, _ :: r, h => by rw [List.sum_cons, List.sum_cons]; have := leL_sum h.2; have := h.1; omega
  | [], _ :: _, h => h.elim
  | _ :: _, [], h => h.elim
theorem leL_getD : ∀ {l r : List Int} (n : Nat), leL l r → l.getD n 0 ≤ r.getD n 0
  | [], [], _, _ => Int.le_refl _
  | _ :: _, _ :: _, 0, h => h.1
  | _ :: l, _ :: r, n + 1, h => by
    rw [List.getD_cons_succ, List.getD_cons_succ]; exact leL_getD n h.2
  | [], _ :: _, _, h => h.elim
  | _ :: _, [], _, h => h.elim
theorem ins_head {x : Int} {l : List Int} (h : (x :: l).Pairwise (· ≤ ·)) : ins x l = x :: l := by
  cases l with
  | nil => rfl
  | cons y r =>
    unfold ins
    rw [if_pos ((List.pairwise_cons.mp h).1 y (List.mem_cons_self ..))]
theorem leL_ins : ∀ {l r : List Int} {x y : Int}, l.Pairwise (· ≤ ·) → r.Pairwise (· ≤ ·) → leL l r → x ≤ y → leL (ins x l) (ins y r)
  | [], [], x, y, _, _, _, h => ⟨h, trivial⟩
  | a :: l, b :: r, x, y, hl, hr, hlr, h => by
    obtain ⟨h1, h2⟩ := hlr
    have hl2 := (List.pairwise_cons.mp hl).2
    have hr2 := (List.pairwise_cons.mp hr).2
    unfold ins
    by_cases c1 : x ≤ a
    · rw [if_pos c1]
      by_cases c2 : y ≤ b
      · rw [if_pos c2]; exact ⟨h, h1, h2⟩
      · rw [if_neg c2]
        refine ⟨by omega, ?_⟩
        rw [← ins_head hl]
        exact leL_ins hl2 hr2 h2 (by omega)
    · rw [if_neg c1]
      by_cases c2 : y ≤ b
      · rw [if_pos c2]
        refine ⟨by omega, ?_⟩
        rw [← ins_head hr]
        exact leL_ins hl2 hr2 h2 (by omega)
      · rw [if_neg c2]
        exact ⟨h1, leL_ins hl2 hr2 h2 h⟩
  | [], _ :: _, _, _, _, _, h, _ => h.elim
  | _ :: _, [], _, _, _, _, h, _ => h.elim
theorem leL_srt : ∀ {l r : List Int}, leL l r → leL (srt l) (srt r)
  | [], [], _ => trivial
  | _ :: l, _ :: r, h => leL_ins (srt_sorted l) (srt_sorted r) (leL_srt h.2) h.1
  | [], _ :: _, h => h.elim
  | _ :: _, [], h => h.elim
theorem leL_above (c : Int) : ∀ {l r : List Int}, leL l r → (l.filter fun v => decide (v > c)).length ≤ (r.filter fun v => decide (v > c)).length
  | [], [], _ => Nat.le_refl _
  | x :: l, y :: r, h => by
    have ih := leL_above c h.2
    have h1 := h.1
    rw [List.filter_cons, List.filter_cons]
    by_cases c1 : x > c
    · rw [if_pos (decide_eq_true c1), if_pos (decide_eq_true (show y > c by omega)), List.length_cons, List.length_cons]; omega
    · rw [if_neg (by simp; omega)]
      split
      · rw [List.length_cons]; omega
      · exact ih
  | [], _ :: _, h => h.elim
  | _ :: _, [], h => h.elim
theorem srt_zero {l : List Int} (h : l ≠ []) : (srt l).getD 0 0 = mnl l := by
  have hl : 0 < (srt l).length := by rw [srt_len]; exact List.length_pos_iff.mpr h
  refine mnl_eq ?_ fun y hy => ?_
  · refine (srt_perm l).mem_iff.mp ?_
    cases e : srt l with
    | nil => rw [e] at hl; cases hl
    | cons x r => exact List.mem_cons_self ..
  · have hs := srt_sorted l
    have hy := (srt_perm l).mem_iff.mpr hy
    cases e : srt l with
    | nil => rw [e] at hl; cases hl
    | cons x r =>
      rw [e] at hs hy
      rcases List.mem_cons.mp hy with q | q
      · subst q; exact Int.le_refl _
      · exact (List.pairwise_cons.mp hs).1 y q
theorem sorted_last : ∀ {l : List Int}, l.Pairwise (· ≤ ·) → ∀ y ∈ l, y ≤ l.getD (l.length - 1) 0
  | [x], _, y, h => by rw [List.mem_singleton.mp h]; exact Int.le_refl _
  | x :: z :: r, hs, y, h => by
    have h2 := (List.pairwise_cons.mp hs).2
    have e : (x :: z :: r).getD ((x :: z :: r).length - 1) 0 = (z :: r).getD ((z :: r).length - 1) 0 := by simp [List.getD_cons_succ]
    rw [e]
    rcases List.mem_cons.mp h with q | q
    · subst q
      exact Int.le_trans ((List.pairwise_cons.mp hs).1 z (List.mem_cons_self ..)) (sorted_last h2 z (List.mem_cons_self ..))
    · exact sorted_last h2 y q
theorem getD_mem {l : List Int} {n : Nat} (h : n < l.length) : l.getD n 0 ∈ l := List.mem_of_getElem? (getD_at h)
theorem srt_last {l : List Int} (h : l ≠ []) : (srt l).getD (l.length - 1) 0 = mxl l := by
  have hl : 0 < (srt l).length := by rw [srt_len]; exact List.length_pos_iff.mpr h
  refine mxl_eq ?_ fun y hy => ?_
  · exact (srt_perm l).mem_iff.mp (getD_mem (by rw [srt_len] at hl ⊢; omega))
  · have := sorted_last (srt_sorted l) y ((srt_perm l).mem_iff.mpr hy)
    rw [srt_len] at this
    exact this
/-! ### fractions in lowest terms, compared -/
theorem frI_spec {x n : Int} (h : 0 < n) : ∃ g, 0 < g ∧ x = (frI x n).1 * g ∧ n = (frI x n).2 * g ∧ 0 < (frI x n).2 := by
  have hg := gcdI_pos (a := x) h
  have d1 : gcdI x n ∣ x := Int.gcd_dvd_left ..
  have d2 : gcdI x n ∣ n := Int.gcd_dvd_right ..
  refine ⟨gcdI x n, hg, (Int.ediv_mul_cancel d1).symm, (Int.ediv_mul_cancel d2).symm, ?_⟩
  exact Int.ediv_pos_of_pos_of_dvd h (Int.le_of_lt hg) d2
theorem frI_le {x n : Int} (h : 0 < n) : 0 < (frI x n).2 ∧ (frI x n).2 ≤ n := by
  obtain ⟨g, h1, h2, h3, h4⟩ := frI_spec (x := x) h
  refine ⟨h4, ?_⟩
  have : (frI x n).2 * 1 ≤ (frI x n).2 * g := Int.mul_le_mul_of_nonneg_left (by omega) (by omega)
  omega
/-- a fraction a / b below another, as their whole numbers tell -/
theorem frI_lt {x y n m : Int} (hn : 0 < n) (hm : 0 < m) : (frI x n).1 * (frI y m).2 < (frI y m).1 * (frI x n).2 ↔ x * m < y * n := by
  obtain ⟨g, g1, g2, g3, g4⟩ := frI_spec (x := x) hn
  obtain ⟨k, k1, k2, k3, k4⟩ := frI_spec (x := y) hm
  have e1 : x * m = (frI x n).1 * (frI y m).2 * (g * k) := by
    calc x * m = ((frI x n).1 * g) * ((frI y m).2 * k) := by rw [← g2, ← k3]
      _ = _ := by simp only [Int.mul_assoc, Int.mul_left_comm, Int.mul_comm]
  have e2 : y * n = (frI y m).1 * (frI x n).2 * (g * k) := by
    calc y * n = ((frI y m).1 * k) * ((frI x n).2 * g) := by rw [← k2, ← g3]
      _ = _ := by simp only [Int.mul_assoc, Int.mul_left_comm, Int.mul_comm]
  rw [e1, e2]
  have hp : 0 < g * k := Int.mul_pos g1 k1
  exact ⟨fun h => Int.mul_lt_mul_of_pos_right h hp, fun h => Int.lt_of_mul_lt_mul_right h (Int.le_of_lt hp)⟩
/-! ### all choices of integers, one after another -/
def rowExt (p : Int × Int) (r : List Int) : List (List Int) := (rgI p.1 (p.2 + 1 - p.1).toNat).map fun v => r ++ [v]
def rowsFrom (acc : List (List Int)) (b : List (Int × Int)) : List (List Int) := b.foldl (fun a p => a.flatMap (rowExt p)) acc
def rowsOf (b : List (Int × Int)) : List (List Int) := rowsFrom [[]] b
def inB : List (Int × Int) → List Int → Prop
  | [], [] => True
  | p :: b, x :: r => (p.1 ≤ x ∧ x ≤ p.2) ∧ inB b r
  | _, _ => False
theorem mem_rgI {lo : Int} {n : Nat} {x : Int} : x ∈ rgI lo n ↔ lo ≤ x ∧ x < lo + n := by
  unfold rgI
  rw [List.mem_map]
  constructor
  · rintro ⟨k, hk, rfl⟩
    have := List.mem_range.mp hk
    omega
  · rintro ⟨h1, h2⟩
    exact ⟨(x - lo).toNat, List.mem_range.mpr (by omega), by omega⟩
theorem len_rgI (lo : Int) (n : Nat) : (rgI lo n).length = n := by unfold rgI; rw [List.length_map, List.length_range]
theorem mem_rowsFrom : ∀ {b : List (Int × Int)} {acc : List (List Int)} {r : List Int}, r ∈ rowsFrom acc b ↔ ∃ r0 ∈ acc, ∃ r1, r = r0 ++ r1 ∧ inB b r1
  | [], acc, r => by
    constructor
    · intro h; exact ⟨r, h, [], (List.append_nil r).symm, trivial⟩
    · rintro ⟨r0, h0, r1, rfl, h1⟩
      cases r1 with
      | nil => rw [List.append_nil]; exact h0
      | cons _ _ => exact h1.elim
  | p :: b, acc, r => by
    show r ∈ rowsFrom (acc.flatMap (rowExt p)) b ↔ _
    rw [mem_rowsFrom]
    constructor
    · rintro ⟨r0, h0, r1, rfl, h1⟩
      obtain ⟨a, ha, h2⟩ := List.mem_flatMap.mp h0
      obtain ⟨v, hv, rfl⟩ := List.mem_map.mp h2
      have hv := mem_rgI.mp hv
      exact ⟨a, ha, v :: r1, by simp, by omega, h1⟩
    · rintro ⟨r0, h0, r1, rfl, h1⟩
      cases r1 with
      | nil => exact h1.elim
      | cons v r1 =>
        refine ⟨r0 ++ [v], List.mem_flatMap.mpr ⟨r0, h0, List.mem_map.mpr ⟨v, mem_rgI.mpr ?_, rfl⟩⟩, r1, by simp, h1.2⟩
        have := h1.1
        omega
theorem mem_rows {b : List (Int × Int)} {r : List Int} : r ∈ rowsOf b ↔ inB b r := by
  unfold rowsOf
  rw [mem_rowsFrom]
  constructor
  · rintro ⟨r0, h0, r1, rfl, h1⟩
    rw [List.mem_singleton.mp h0]; exact h1
  · intro h; exact ⟨[], List.mem_singleton.mpr rfl, r, rfl, h⟩
theorem inB_len : ∀ {b : List (Int × Int)} {r : List Int}, inB b r → r.length = b.length
  | [], [], _ => rfl
  | _ :: b, _ :: r, h => by rw [List.length_cons, List.length_cons, inB_len h.2]
  | [], _ :: _, h => h.elim
  | _ :: _, [], h => h.elim
theorem rows_take {b : List (Int × Int)} {k : Nat} {p : Int × Int} (h : b[k]? = some p) : rowsOf (b.take (k + 1)) = (rowsOf (b.take k)).flatMap (rowExt p) := by
  unfold rowsOf rowsFrom
  rw [List.take_add_one, h, List.foldl_append]; rfl
theorem flat_len {α β : Type} {f : α → List β} {n : Nat} : ∀ {l : List α}, (∀ x ∈ l, (f x).length ≤ n) → (l.flatMap f).length ≤ l.length * n
  | [], _ => by simp
  | x :: l, h => by
    rw [List.flatMap_cons, List.length_append, List.length_cons, Nat.add_mul, Nat.one_mul, Nat.add_comm]
    exact Nat.add_le_add (flat_len fun y hy => h y (List.mem_cons_of_mem _ hy)) (h x (List.mem_cons_self ..))
theorem rows_card : ∀ {b : List (Int × Int)} {acc : List (List Int)} {m : Nat}, (∀ p ∈ b, p.2 + 1 - p.1 ≤ (m : Int)) → (rowsFrom acc b).length ≤ acc.length * m ^ b.length
  | [], acc, m, _ => by show acc.length ≤ acc.length * m ^ 0; rw [Nat.pow_zero, Nat.mul_one]; exact Nat.le_refl _
  | p :: b, acc, m, h => by
    have ih := rows_card (b := b) (acc := acc.flatMap (rowExt p)) (m := m) fun q hq => h q (List.mem_cons_of_mem _ hq)
    have h1 : (acc.flatMap (rowExt p)).length ≤ acc.length * m := flat_len fun r _ => by
      unfold rowExt
      rw [List.length_map, len_rgI]
      have := h p (List.mem_cons_self ..)
      omega
    show (rowsFrom (acc.flatMap (rowExt p)) b).length ≤ acc.length * m ^ (b.length + 1)
    refine Nat.le_trans ih ?_
    rw [Nat.pow_succ, Nat.mul_comm (m ^ b.length) m, ← Nat.mul_assoc]
    exact Nat.mul_le_mul_right _ h1
/-- few bounds of few choices -/
def Few (b : List (Int × Int)) : Prop := b.length ≤ 7 ∧ ∀ p ∈ b, -1000 ≤ p.1 ∧ p.1 ≤ p.2 ∧ p.2 < p.1 + 4 ∧ p.2 ≤ 1000
theorem few_card {b : List (Int × Int)} (h : Few b) (k : Nat) : (rowsOf (b.take k)).length ≤ 16384 := by
  have h1 := rows_card (b := b.take k) (acc := [[]]) (m := 4) fun p hp => by have := h.2 p (List.mem_of_mem_take hp); omega
  have h2 : (b.take k).length ≤ 7 := Nat.le_trans (by rw [List.length_take]; exact Nat.min_le_right _ _) h.1
  have h3 : 4 ^ (b.take k).length ≤ 4 ^ 7 := Nat.pow_le_pow_right (by decide) h2
  have h4 : (4 : Nat) ^ 7 = 16384 := by decide
  have h5 : ([[]] : List (List Int)).length = 1 := rfl
  unfold rowsOf
  exact Nat.le_trans h1 (by rw [h5, Nat.one_mul]; exact Nat.le_trans h3 (by decide))
theorem ext_card {p : Int × Int} (h : p.2 < p.1 + 4) {l : List (List Int)} : (l.flatMap (rowExt p)).length ≤ l.length * 4 := flat_len fun r _ => by
  unfold rowExt
  rw [List.length_map, len_rgI]; omega
theorem small_few {n : Int} {b : List (Int × Int)} (h : SmallP n b) (hn : n ≤ 7) : Few b := ⟨by have := h.2.1; omega, fun p hp => by have := h.2.2 p hp; omega⟩
theorem small_bok {n : Int} {b : List (Int × Int)} (h : SmallP n b) (hn : n ≤ 7) : BOk b := ⟨h.1, by have := h.2.1; omega, fun p hp => by have := h.2.2 p hp; omega⟩
theorem few_rows {b : List (Int × Int)} (h : Few b) : (rowsOf b).length ≤ 1000000 := by
  have := few_card h b.length
  rw [List.take_length] at this; omega
/-! ### fractions: their size -/
def Sz (k : Nat) (p : Int × Int) : Prop := 0 < p.2 ∧ p.2.natAbs < 2 ^ k ∧ p.1.natAbs < 2 ^ k
theorem pow_le2 {k m : Nat} (h : k ≤ m) : 2 ^ k ≤ 2 ^ m := Nat.pow_le_pow_right (by decide) h
theorem Sz.le {k m : Nat} {p : Int × Int} (h : Sz k p) (hk : k ≤ m) : Sz m p := ⟨h.1, Nat.lt_of_lt_of_le h.2.1 (pow_le2 hk), Nat.lt_of_lt_of_le h.2.2 (pow_le2 hk)⟩
theorem small_pre {b : Int} (h : 0 < b) (h2 : b ≤ 100) : 0 < b ∧ b.natAbs < 2 ^ 4000 := ⟨h, Nat.lt_of_lt_of_le (show b.natAbs < 2 ^ 7 by omega) (pow_le2 (by decide))⟩
theorem gcd_div {i a b : Int} (h : 0 < b ∧ b.natAbs < 2 ^ 4000) : CDivW i (gcdI a b) :=
  wide_div (b := 4000) (gcdI_pos h.1) (wide_le (Int.le_of_lt (gcdI_pos h.1)) (gcdI_le h.1) h.2) (by decide) (by decide)
theorem cmulW {i j : Int} {k : Nat} (hi : i.natAbs < 2 ^ k) (hj : j.natAbs < 2 ^ k) (h0 : 0 < k) (h : k ≤ 4000) : CMulW i j := by
  have a := PySem.Flt.log2_lt_of h0 hi
  have b := PySem.Flt.log2_lt_of h0 hj
  unfold CMulW; omega
theorem frI_sz {a b : Int} {k : Nat} (hb : 0 < b) (h1 : a.natAbs < 2 ^ k) (h2 : b.natAbs < 2 ^ k) : Sz k (frI a b) := by
  have hg := gcdI_pos (a := a) hb
  obtain ⟨g, g1, g2, g3, g4⟩ := frI_spec (x := a) hb
  refine ⟨g4, Nat.lt_of_le_of_lt ?_ h2, Nat.lt_of_le_of_lt ?_ h1⟩
  · conv => rhs; rw [g3, Int.natAbs_mul]
    exact Nat.le_mul_of_pos_right _ (by omega)
  · conv => rhs; rw [g2, Int.natAbs_mul]
    exact Nat.le_mul_of_pos_right _ (by omega)
theorem mul_sz {i j : Int} {k m : Nat} (hi : i.natAbs < 2 ^ k) (hj : j.natAbs < 2 ^ m) : (i * j).natAbs < 2 ^ (k + m) := wide_lt hi hj
theorem add_sz {i j : Int} {k : Nat} (hi : i.natAbs < 2 ^ k) (hj : j.natAbs < 2 ^ k) : (i + j).natAbs < 2 ^ (k + 1) := by
  rw [Nat.pow_succ]; omega
theorem sz_one {x : Int} (h : -200 ≤ x ∧ x ≤ 200) : Sz 8 (x, 1) := ⟨(show (0 : Int) < 1 by decide), (show (1 : Int).natAbs < 2 ^ 8 by decide), by show x.natAbs < 2 ^ 8; omega⟩
theorem sz_zero : Sz 1 (0, 1) := ⟨(show (0 : Int) < 1 by decide), (show (1 : Int).natAbs < 2 ^ 1 by decide), (show (0 : Int).natAbs < 2 ^ 1 by decide)⟩
theorem sz_pre {k m : Nat} {p q : Int × Int} (hp : Sz k p) (hq : Sz m q) (h : k + m ≤ 4000) : 0 < p.2 * q.2 ∧ (p.2 * q.2).natAbs < 2 ^ 4000 :=
  ⟨Int.mul_pos hp.1 hq.1, Nat.lt_of_lt_of_le (mul_sz hp.2.1 hq.2.1) (pow_le2 h)⟩
def pls (p q : Int × Int) : Int × Int := frI (p.1 * q.2 + q.1 * p.2) (p.2 * q.2)
def tms (p q : Int × Int) : Int × Int := frI (p.1 * q.1) (p.2 * q.2)
theorem sz_pls {k m : Nat} {p q : Int × Int} (hp : Sz k p) (hq : Sz m q) : Sz (k + m + 1) (pls p q) := by
  refine frI_sz (Int.mul_pos hp.1 hq.1) (add_sz (mul_sz hp.2.2 hq.2.1) ?_) (Nat.lt_of_lt_of_le (mul_sz hp.2.1 hq.2.1) (pow_le2 (by omega)))
  rw [Nat.add_comm]; exact mul_sz hq.2.2 hp.2.1
theorem sz_tms {k m : Nat} {p q : Int × Int} (hp : Sz k p) (hq : Sz m q) : Sz (k + m) (tms p q) := frI_sz (Int.mul_pos hp.1 hq.1) (mul_sz hp.2.2 hq.2.2) (mul_sz hp.2.1 hq.2.1)
theorem sz_neg {k : Nat} {p : Int × Int} (hp : Sz k p) : Sz k (-p.1, p.2) := ⟨hp.1, hp.2.1, by show (-p.1).natAbs < _; rw [Int.natAbs_neg]; exact hp.2.2⟩
theorem sz_fold {α : Type} {g : α → Int × Int} {k : Nat} : ∀ {l : List α} {m : Nat} {a : Int × Int}, Sz m a → (∀ x ∈ l, Sz k (g x)) → Sz (m + l.length * (k + 1)) (l.foldl (fun s x => pls s (g x)) a)
  | [], m, a, h, _ => by simpa using h
  | x :: l, m, a, h, hl => by
    rw [List.foldl_cons, List.length_cons, Nat.add_mul, Nat.one_mul]
    have h1 := sz_pls h (hl x (List.mem_cons_self ..))
    have := sz_fold (l := l) h1 fun y hy => hl y (List.mem_cons_of_mem _ hy)
    exact this.le (by omega)
theorem sz_neg0 {k : Nat} {p : Int × Int} (hp : Sz k p) : Sz k (0 - p.1, p.2) := by rw [Int.zero_sub]; exact sz_neg hp
theorem n_sz {α : Type} {l : List α} (h0 : l ≠ []) (h : l.length ≤ 8) : Sz 8 ((1 : Int), (l.length : Int)) := ⟨by have := List.length_pos_iff.mpr h0; show (0 : Int) < (l.length : Int); omega, by show (l.length : Int).natAbs < 2 ^ 8; omega, (show (1 : Int).natAbs < 2 ^ 8 by decide)⟩
/-! all lows and highs -/
def cstep (s : List (List Int)) (p : Int × Int) : List (List Int) := s.map (fun r => r ++ [p.1]) ++ mapIf (fun _ => decide (p.2 > p.1)) (fun r => r ++ [p.2]) s
theorem cor_len : ∀ {l : List (Int × Int)} {a : List (List Int)}, (l.foldl cstep a).length ≤ a.length * 2 ^ l.length
  | [], a => by simp
  | p :: l, a => by
    rw [List.foldl_cons, List.length_cons, Nat.pow_succ]
    refine Nat.le_trans (cor_len (l := l)) ?_
    rw [Nat.mul_comm (2 ^ l.length) 2, ← Nat.mul_assoc]
    refine Nat.mul_le_mul_right _ ?_
    unfold cstep
    rw [List.length_append, List.length_map]
    have := mapIf_le (c := fun _ : List Int => decide (p.2 > p.1)) (f := fun r => r ++ [p.2]) (l := a)
    omega
theorem cor_lenE {l : List (Int × Int)} {s : List (List Int)} (hs : s = l.foldl cstep [[]]) (h : l.length ≤ 7) : s.length ≤ 128 := by
  rw [hs]
  refine Nat.le_trans cor_len ?_
  have := pow_le2 h
  show 1 * _ ≤ _
  omega
theorem inB_app : ∀ {b : List (Int × Int)} {r : List Int} {p : Int × Int} {x : Int}, inB b r → p.1 ≤ x → x ≤ p.2 → inB (b ++ [p]) (r ++ [x])
  | [], [], _, _, _, h1, h2 => ⟨⟨h1, h2⟩, trivial⟩
  | _ :: b, _ :: r, _, _, h, h1, h2 => ⟨h.1, inB_app h.2 h1 h2⟩
  | [], _ :: _, _, _, h, _, _ => h.elim
  | _ :: _, [], _, _, h, _, _ => h.elim
theorem cor_in : ∀ {l : List (Int × Int)} {b : List (Int × Int)} {a : List (List Int)}, (∀ p ∈ l, p.1 ≤ p.2) → (∀ r ∈ a, inB b r) → ∀ r ∈ l.foldl cstep a, inB (b ++ l) r
  | [], b, a, _, h, r, hr => by rw [List.append_nil]; exact h r hr
  | p :: l, b, a, hp, h, r, hr => by
    rw [List.foldl_cons] at hr
    have h1 := hp p (List.mem_cons_self ..)
    have := cor_in (b := b ++ [p]) (fun q hq => hp q (List.mem_cons_of_mem _ hq)) (fun q hq => by
      unfold cstep at hq
      rcases List.mem_append.mp hq with hq | hq
      · obtain ⟨r0, h0, rfl⟩ := List.mem_map.mp hq
        exact inB_app (h r0 h0) (Int.le_refl _) h1
      · obtain ⟨r0, h0, rfl⟩ := List.mem_map.mp hq
        exact inB_app (h r0 (List.mem_filter.mp h0).1) h1 (Int.le_refl _)) r hr
    rwa [List.append_assoc] at this
theorem cor_inE {l : List (Int × Int)} {s : List (List Int)} (hs : s = l.foldl cstep [[]]) (hp : ∀ p ∈ l, p.1 ≤ p.2) : ∀ r ∈ s, inB l r := fun r hr => by
  rw [hs] at hr
  exact cor_in (b := []) hp (fun q hq => by rw [List.mem_singleton.mp hq]; trivial) r hr
theorem cor_ne : ∀ {l : List (Int × Int)} {a : List (List Int)}, a ≠ [] → l.foldl cstep a ≠ []
  | [], _, h => h
  | p :: l, a, h => cor_ne (l := l) (by unfold cstep; cases a with
    | nil => exact absurd rfl h
    | cons x r => simp)
theorem inB_all : ∀ {b : List (Int × Int)} {r : List Int}, inB b r → (∀ p ∈ b, -50 ≤ p.1 ∧ p.1 ≤ p.2 ∧ p.2 ≤ 50) → ∀ x ∈ r, -50 ≤ x ∧ x ≤ 50
  | [], [], _, _, _, h => by cases h
  | p :: b, y :: r, h, hb, x, hx => by
    rcases List.mem_cons.mp hx with e | hx
    · subst e; have := hb p (List.mem_cons_self ..); have := h.1; omega
    · exact inB_all h.2 (fun q hq => hb q (List.mem_cons_of_mem _ hq)) x hx
  | [], _ :: _, h, _, _, _ => h.elim
  | _ :: _, [], h, _, _, _ => h.elim
theorem row_sz {b : List (Int × Int)} (hB : BOk b) {r : List Int} (h : inB b r) : (r.map fun x => (x, (1 : Int))) ≠ [] ∧ (r.map fun x => (x, (1 : Int))).length ≤ 8 ∧ ∀ p ∈ r.map (fun x => (x, (1 : Int))), Sz 10 p := by
  have hl := inB_len h
  have := hB.1; have := hB.2.1
  refine ⟨fun e => ?_, by rw [List.length_map]; omega, fun p hp => ?_⟩
  · have := congrArg List.length e; rw [List.length_map] at this; simp at this; subst this; simp at hl; omega
  · obtain ⟨x, hx, rfl⟩ := List.mem_map.mp hp
    have := inB_all h hB.2.2 x hx
    exact (sz_one (by omega)).le (by decide)
/-! ### sums of rationals, and n times the squares about the mean -/
def s1 (l : List Rat) : Rat := l.foldr (· + ·) 0
def s2 (l : List Rat) : Rat := l.foldr (fun x s => x * x + s) 0
def ln (l : List Rat) : Rat := l.foldr (fun _ s => s + 1) 0
def vr (l : List Rat) : Rat := ln l * s2 l - s1 l * s1 l
theorem s1c (x : Rat) (l : List Rat) : s1 (x :: l) = x + s1 l := rfl
theorem s2c (x : Rat) (l : List Rat) : s2 (x :: l) = x * x + s2 l := rfl
theorem lnc (x : Rat) (l : List Rat) : ln (x :: l) = ln l + 1 := rfl
theorem sq_nn (x : Rat) : 0 ≤ x * x := by
  by_cases h : 0 ≤ x
  · exact Rat.mul_nonneg h h
  · have := Rat.mul_nonneg (a := -x) (b := -x) (by grind) (by grind); grind
theorem sqd_nn (x : Rat) : ∀ l : List Rat, 0 ≤ ln l * (x * x) - 2 * x * s1 l + s2 l
  | [] => by show (0 : Rat) ≤ 0 * (x * x) - 2 * x * 0 + 0; grind
  | y :: l => by
    have ih := sqd_nn x l
    have := sq_nn (x - y)
    rw [s1c, s2c, lnc]; grind
theorem vr_nn : ∀ l : List Rat, 0 ≤ vr l
  | [] => by show (0 : Rat) ≤ 0 * 0 - 0 * 0; grind
  | x :: l => by
    have ih := vr_nn l
    have := sqd_nn x l
    unfold vr at *
    rw [s1c, s2c, lnc]; grind
theorem ln_nn : ∀ l : List Rat, 0 ≤ ln l
  | [] => by show (0 : Rat) ≤ 0; grind
  | _ :: l => by rw [lnc]; have := ln_nn l; grind
/-- of pairs (x, y): what the x's have more -/
def dif (l : List (Rat × Rat)) : List Rat := l.map fun p => p.1 - p.2
def prd (l : List (Rat × Rat)) : Rat := l.foldr (fun p s => (p.1 - p.2) * p.2 + s) 0
theorem s1_dif : ∀ l : List (Rat × Rat), s1 (l.map (·.1)) = s1 (l.map (·.2)) + s1 (dif l)
  | [] => by show (0 : Rat) = 0 + 0; grind
  | p :: l => by
    have ih := s1_dif l
    show p.1 + s1 (l.map (·.1)) = p.2 + s1 (l.map (·.2)) + (p.1 - p.2 + s1 (dif l))
    grind
theorem s2_dif : ∀ l : List (Rat × Rat), s2 (l.map (·.1)) = s2 (l.map (·.2)) + 2 * prd l + s2 (dif l)
  | [] => by show (0 : Rat) = 0 + 2 * 0 + 0; grind
  | p :: l => by
    have ih := s2_dif l
    show p.1 * p.1 + s2 (l.map (·.1)) = p.2 * p.2 + s2 (l.map (·.2)) + 2 * ((p.1 - p.2) * p.2 + prd l) + ((p.1 - p.2) * (p.1 - p.2) + s2 (dif l))
    grind
theorem ln_map {α : Type} (f g : α → Rat) : ∀ l : List α, ln (l.map f) = ln (l.map g)
  | [] => rfl
  | _ :: l => by rw [List.map_cons, List.map_cons, lnc, lnc, ln_map f g l]
theorem prd_nn (n Y : Rat) : ∀ l : List (Rat × Rat), (∀ p ∈ l, 0 ≤ (p.1 - p.2) * (n * p.2 - Y)) → 0 ≤ n * prd l - Y * s1 (dif l)
  | [], _ => by show (0 : Rat) ≤ n * 0 - Y * 0; grind
  | p :: l, h => by
    have ih := prd_nn n Y l fun q hq => h q (List.mem_cons_of_mem _ hq)
    have := h p (List.mem_cons_self ..)
    show 0 ≤ n * ((p.1 - p.2) * p.2 + prd l) - Y * (p.1 - p.2 + s1 (dif l))
    grind
/-- moving away from the mean makes the squares more -/
theorem vr_key (l : List (Rat × Rat)) (h : ∀ p ∈ l, 0 ≤ (p.1 - p.2) * (ln (l.map (·.2)) * p.2 - s1 (l.map (·.2)))) : vr (l.map (·.2)) ≤ vr (l.map (·.1)) := by
  have a := s1_dif l
  have b := s2_dif l
  have c := prd_nn _ _ l h
  have d := vr_nn (dif l)
  have e1 : ln (l.map (·.1)) = ln (l.map (·.2)) := ln_map _ _ l
  have e2 : ln (dif l) = ln (l.map (·.2)) := ln_map _ _ l
  unfold vr at *
  rw [e2] at d
  rw [e1, a, b]
  grind
/-- one more value -/
theorem vr_more (x : Rat) (l : List Rat) (h : 0 < ln l) : vr l * (ln l + 1) ≤ vr (x :: l) * ln l := by
  have a := sqd_nn x l
  have b := sq_nn (ln l * x - s1 l)
  unfold vr
  rw [s1c, s2c, lnc]
  grind
/-! ### cut to bounds -/
def clp (lo hi t : Rat) : Rat := if t < lo then lo else if hi < t then hi else t
def clps (b : List (Rat × Rat)) (t : Rat) : List Rat := b.map fun p => clp p.1 p.2 t
theorem clp_in {lo hi : Rat} (t : Rat) (h : lo ≤ hi) : lo ≤ clp lo hi t ∧ clp lo hi t ≤ hi := by unfold clp; grind
theorem clp_mono {lo hi s t : Rat} (h : lo ≤ hi) (hs : s ≤ t) : clp lo hi s ≤ clp lo hi t ∧ clp lo hi t - clp lo hi s ≤ t - s := by unfold clp; grind
theorem clps_mono {s t : Rat} (hs : s ≤ t) : ∀ {b : List (Rat × Rat)}, (∀ p ∈ b, p.1 ≤ p.2) → s1 (clps b s) ≤ s1 (clps b t) ∧ s1 (clps b t) - s1 (clps b s) ≤ ln (clps b t) * (t - s)
  | [], _ => by show (0 : Rat) ≤ 0 ∧ (0 : Rat) - 0 ≤ 0 * (t - s); grind
  | p :: b, h => by
    have ih := clps_mono hs (b := b) fun q hq => h q (List.mem_cons_of_mem _ hq)
    have := clp_mono (h p (List.mem_cons_self ..)) hs
    show clp p.1 p.2 s + s1 (clps b s) ≤ clp p.1 p.2 t + s1 (clps b t) ∧ (clp p.1 p.2 t + s1 (clps b t)) - (clp p.1 p.2 s + s1 (clps b s)) ≤ (ln (clps b t) + 1) * (t - s)
    grind
theorem ln_clps (b : List (Rat × Rat)) (s t : Rat) : ln (clps b s) = ln (clps b t) := ln_map _ _ b
section
variable {b : List (Rat × Rat)} {c : Rat}
/-- c is the centre: the mean of what it cuts to -/
def Cen (b : List (Rat × Rat)) (c : Rat) : Prop := s1 (clps b c) = ln (clps b c) * c
theorem mul_nn_of {x y : Rat} (h : (0 ≤ x ∧ 0 ≤ y) ∨ (x ≤ 0 ∧ y ≤ 0)) : 0 ≤ x * y := by
  rcases h with ⟨h1, h2⟩ | ⟨h1, h2⟩
  · exact Rat.mul_nonneg h1 h2
  · have := Rat.mul_nonneg (a := -x) (b := -y) (by grind) (by grind); grind
/-- no choice has less -/
theorem cen_least (hc : Cen b c) (hb : ∀ p ∈ b, p.1 ≤ p.2) (f : Rat × Rat → Rat) (hf : ∀ p ∈ b, p.1 ≤ f p ∧ f p ≤ p.2) : vr (clps b c) ≤ vr (b.map f) := by
  have h := vr_key (b.map fun p => (f p, clp p.1 p.2 c)) (fun q hq => by
    obtain ⟨p, hp, rfl⟩ := List.mem_map.mp hq
    rw [List.map_map]
    have e : (b.map ((fun x : Rat × Rat => x.2) ∘ fun p => (f p, clp p.1 p.2 c))) = clps b c := rfl
    rw [e, hc]
    have hn := ln_nn (clps b c)
    have h1 := hf p hp
    have h2 := hb p hp
    show 0 ≤ (f p - clp p.1 p.2 c) * (ln (clps b c) * clp p.1 p.2 c - ln (clps b c) * c)
    have : 0 ≤ (f p - clp p.1 p.2 c) * (clp p.1 p.2 c - c) := by
      refine mul_nn_of ?_
      unfold clp; grind
    have := Rat.mul_nonneg hn this
    grind)
  rw [List.map_map, List.map_map] at h
  exact h
/-- the mean of what t cuts to, where t lies below the centre, above it -/
theorem cen_below (hc : Cen b c) (hb : ∀ p ∈ b, p.1 ≤ p.2) {t : Rat} (ht : t ≤ c) : ln (clps b t) * t ≤ s1 (clps b t) := by
  have := (clps_mono ht hb).2
  unfold Cen at hc
  rw [ln_clps b t c]
  grind
theorem cen_above (hc : Cen b c) (hb : ∀ p ∈ b, p.1 ≤ p.2) {t : Rat} (ht : c ≤ t) : s1 (clps b t) ≤ ln (clps b t) * t := by
  have := (clps_mono ht hb).2
  unfold Cen at hc
  rw [ln_clps b c t] at hc
  grind
theorem cut_away {s t : Rat} (hb : ∀ p ∈ b, p.1 ≤ p.2) (h : (s ≤ t ∧ ln (clps b t) * t ≤ s1 (clps b t)) ∨ (t ≤ s ∧ s1 (clps b t) ≤ ln (clps b t) * t)) : vr (clps b t) ≤ vr (clps b s) := by
  have h := vr_key (b.map fun p => (clp p.1 p.2 s, clp p.1 p.2 t)) (fun q hq => by
    obtain ⟨p, hp, rfl⟩ := List.mem_map.mp hq
    rw [List.map_map]
    have e : (b.map ((fun x : Rat × Rat => x.2) ∘ fun p => (clp p.1 p.2 s, clp p.1 p.2 t))) = clps b t := rfl
    rw [e]
    have hn := ln_nn (clps b t)
    have h2 := hb p hp
    show 0 ≤ (clp p.1 p.2 s - clp p.1 p.2 t) * (ln (clps b t) * clp p.1 p.2 t - s1 (clps b t))
    have a1 : s ≤ t → clp p.1 p.2 s < clp p.1 p.2 t → clp p.1 p.2 t ≤ t := by unfold clp; grind
    have a2 : t ≤ s → clp p.1 p.2 t < clp p.1 p.2 s → t ≤ clp p.1 p.2 t := by unfold clp; grind
    rcases h with ⟨h, hm⟩ | ⟨h, hm⟩
    · have m := (clp_mono h2 h).1
      by_cases q : clp p.1 p.2 s < clp p.1 p.2 t
      · refine mul_nn_of (.inr ⟨by grind, ?_⟩)
        have := Rat.mul_le_mul_of_nonneg_left (a1 h q) hn
        grind
      · have : clp p.1 p.2 s - clp p.1 p.2 t = 0 := by grind
        rw [this]; grind
    · have m := (clp_mono h2 h).1
      by_cases q : clp p.1 p.2 t < clp p.1 p.2 s
      · refine mul_nn_of (.inl ⟨by grind, ?_⟩)
        have := Rat.mul_le_mul_of_nonneg_left (a2 h q) hn
        grind
      · have : clp p.1 p.2 s - clp p.1 p.2 t = 0 := by grind
        rw [this]; grind)
  rw [List.map_map, List.map_map] at h
  exact h
end
/-! ### fractions in lowest terms as rationals -/
def fr (x : Rat) : Int × Int := (x.num, (x.den : Int))
theorem frI_fr {a b : Int} (hb : 0 < b) : frI a b = fr ((a : Rat) / (b : Rat)) := by
  rw [← Rat.divInt_eq_div]
  unfold fr frI gcdI
  rw [Rat.num_divInt, Rat.den_divInt, if_neg (by omega), Int.sign_eq_one_of_pos hb, Int.one_mul, Int.gcd_comm b a]
  refine Prod.ext rfl ?_
  show b / ((Int.gcd a b : Nat) : Int) = ((b.natAbs / Int.gcd a b : Nat) : Int)
  rw [Int.natCast_ediv, Int.natAbs_of_nonneg (by omega)]
theorem fr_int (x : Int) : (x, (1 : Int)) = fr (x : Rat) := rfl
theorem fr_den (x : Rat) : 0 < (fr x).2 := by
  show (0 : Int) < (x.den : Int)
  have := x.den_pos; omega
theorem fr_val (x : Rat) : ((fr x).1 : Rat) / ((fr x).2 : Rat) = x := by
  rw [← Rat.divInt_eq_div]
  show Rat.divInt x.num (x.den : Int) = x
  rw [Rat.num_divInt_den]
theorem fr_inj {x y : Rat} (h : fr x = fr y) : x = y := by rw [← fr_val x, ← fr_val y, h]
theorem cast_pos {b : Int} (h : 0 < b) : (0 : Rat) < (b : Rat) := by
  have := Rat.intCast_lt_intCast.mpr h
  simpa using this
theorem fr_pls (x y : Rat) : pls (fr x) (fr y) = fr (x + y) := by
  have h1 := fr_den x
  have h2 := fr_den y
  unfold pls
  rw [frI_fr (Int.mul_pos h1 h2)]
  congr 1
  have a := fr_val x
  have b := fr_val y
  have p1 := cast_pos h1
  have p2 := cast_pos h2
  rw [Rat.intCast_add, Rat.intCast_mul, Rat.intCast_mul, Rat.intCast_mul]
  generalize ((fr x).1 : Rat) = u at *
  generalize ((fr x).2 : Rat) = v at *
  generalize ((fr y).1 : Rat) = w at *
  generalize ((fr y).2 : Rat) = z at *
  grind
theorem fr_tms (x y : Rat) : tms (fr x) (fr y) = fr (x * y) := by
  have h1 := fr_den x
  have h2 := fr_den y
  unfold tms
  rw [frI_fr (Int.mul_pos h1 h2)]
  congr 1
  have a := fr_val x
  have b := fr_val y
  have p1 := cast_pos h1
  have p2 := cast_pos h2
  rw [Rat.intCast_mul, Rat.intCast_mul]
  generalize ((fr x).1 : Rat) = u at *
  generalize ((fr x).2 : Rat) = v at *
  generalize ((fr y).1 : Rat) = w at *
  generalize ((fr y).2 : Rat) = z at *
  grind
theorem fr_neg (x : Rat) : (-(fr x).1, (fr x).2) = fr (-x) := by
  unfold fr
  rw [Rat.neg_num, Rat.neg_den]
theorem fr_lt (x y : Rat) : (decide ((fr x).1 * (fr y).2 < (fr y).1 * (fr x).2)) = decide (x < y) := decide_eq_decide.mpr (Rat.lt_iff x y).symm
theorem fr_one {n : Int} (h : 0 < n) : ((1 : Int), n) = fr (1 / (n : Rat)) := by
  have e := frI_fr (a := 1) h
  have g : gcdI 1 n = 1 := by unfold gcdI; rw [Int.one_gcd]; rfl
  unfold frI at e
  rw [g, Int.ediv_one, Int.ediv_one] at e
  rw [e]; congr 1
theorem ln_len (l : List Rat) : ln l = ((l.length : Int) : Rat) := by
  induction l with
  | nil => rfl
  | cons x l ih =>
    rw [lnc, ih, List.length_cons, Int.natCast_add, Rat.intCast_add]; rfl
theorem fr_tot : ∀ (l : List Rat) (a : Rat), (l.map fr).foldl (fun s x => pls s x) (fr a) = fr (a + s1 l)
  | [], a => by show fr a = fr (a + 0); congr 1; grind
  | x :: l, a => by
    rw [List.map_cons, List.foldl_cons, fr_pls, fr_tot l, s1c]; congr 1; grind
theorem fr_sqs : ∀ (l : List Rat) (a : Rat), (l.map fr).foldl (fun s x => pls s (tms x x)) (fr a) = fr (a + s2 l)
  | [], a => by show fr a = fr (a + 0); congr 1; grind
  | x :: l, a => by
    rw [List.map_cons, List.foldl_cons, fr_tms, fr_pls, fr_sqs l, s2c]; congr 1; grind
theorem fr_gaps (m : Rat) : ∀ (l : List Rat) (a : Rat), (l.map fr).foldl (fun s x => pls s (tms (pls x (fr (-m))) (pls x (fr (-m))))) (fr a) = fr (a + (s2 l - 2 * m * s1 l + ln l * (m * m)))
  | [], a => by show fr a = fr (a + (0 - 2 * m * 0 + 0 * (m * m))); congr 1; grind
  | x :: l, a => by
    rw [List.map_cons, List.foldl_cons, fr_pls, fr_tms, fr_pls, fr_gaps m l, s1c, s2c, lnc]; congr 1; grind
/-- the squares about the mean -/
def sq (l : List Rat) : Rat := vr l / ln l
theorem ln_pos {l : List Rat} (h : l ≠ []) : 0 < ln l := by
  rw [ln_len]
  exact cast_pos (by have := List.length_pos_iff.mpr h; omega)
theorem sq_le {l r : List Rat} (hn : ln l = ln r) (hl : r ≠ []) (h : vr l ≤ vr r) : sq l ≤ sq r := by
  have hp := ln_pos hl
  unfold sq
  rw [hn]
  generalize ln r = n at *
  have : vr r / n - vr l / n = (vr r - vr l) * n⁻¹ := by grind
  have h2 : 0 ≤ (vr r - vr l) * n⁻¹ := Rat.mul_nonneg (by grind) (Rat.le_of_lt (Rat.inv_pos.mpr hp))
  grind
theorem sq_nn' (l : List Rat) : 0 ≤ sq l := by
  unfold sq
  have h1 := vr_nn l
  have h2 := ln_nn l
  rw [Rat.div_def]
  refine Rat.mul_nonneg h1 ?_
  by_cases h : ln l = 0
  · rw [h, Rat.inv_zero]; exact Rat.le_refl
  · exact Rat.le_of_lt (Rat.inv_pos.mpr (by grind))
/-! ### marks, one after another -/
theorem consec : ∀ {l : List Int} {x y : Int}, l.Pairwise (· ≤ ·) → (x, y) ∈ l.zip (l.drop 1) → x ≤ y ∧ x ∈ l ∧ y ∈ l ∧ ∀ m ∈ l, m ≤ x ∨ y ≤ m
  | [], _, _, _, h => by simp at h
  | [a], _, _, _, h => by simp at h
  | a :: b :: l, x, y, hs, h => by
    have hs2 := (List.pairwise_cons.mp hs).2
    have ha := (List.pairwise_cons.mp hs).1
    rw [List.drop_succ_cons, List.drop_zero, List.zip_cons_cons] at h
    rcases List.mem_cons.mp h with e | h
    · cases e
      refine ⟨ha b (List.mem_cons_self ..), List.mem_cons_self .., List.mem_cons_of_mem _ (List.mem_cons_self ..), fun m hm => ?_⟩
      rcases List.mem_cons.mp hm with e | hm
      · left; omega
      · right
        rcases List.mem_cons.mp hm with e | hm
        · omega
        · exact (List.pairwise_cons.mp hs2).1 m hm
    · have h' : (x, y) ∈ (b :: l).zip ((b :: l).drop 1) := by rw [List.drop_succ_cons, List.drop_zero]; exact h
      obtain ⟨h1, h2, h3, h4⟩ := consec hs2 h'
      refine ⟨h1, List.mem_cons_of_mem _ h2, List.mem_cons_of_mem _ h3, fun m hm => ?_⟩
      rcases List.mem_cons.mp hm with e | hm
      · subst e; left; exact ha x h2
      · exact h4 m hm
/-- what goes from not less than nothing to not more than nothing does so between two marks -/
theorem cross {f : Int → Rat} : ∀ {l : List Int} {a z : Int}, l.head? = some a → l.getLast? = some z → l.length ≥ 2 → 0 ≤ f a → f z ≤ 0 → ∃ x y, (x, y) ∈ l.zip (l.drop 1) ∧ 0 ≤ f x ∧ f y ≤ 0
  | [], _, _, _, _, h, _, _ => by simp at h
  | [_], _, _, _, _, h, _, _ => by simp at h
  | a :: b :: l, a', z, h1, h2, h3, h4, h5 => by
    simp only [List.head?_cons, Option.some.injEq] at h1
    subst h1
    by_cases c : f b ≤ 0
    · exact ⟨a, b, by rw [List.drop_succ_cons, List.drop_zero, List.zip_cons_cons]; exact List.mem_cons_self .., h4, c⟩
    · have hb : 0 ≤ f b := by grind
      cases l with
      | nil =>
        simp only [List.getLast?_cons_cons, List.getLast?_singleton, Option.some.injEq] at h2
        subst h2; exact absurd h5 c
      | cons d r =>
        obtain ⟨x, y, m, p, q⟩ := cross (f := f) (l := b :: d :: r) (a := b) (z := z) rfl (by rw [List.getLast?_cons_cons] at h2; exact h2) (by simp) hb h5
        refine ⟨x, y, ?_, p, q⟩
        rw [List.drop_succ_cons, List.drop_zero] at m ⊢
        rw [List.zip_cons_cons]
        exact List.mem_cons_of_mem _ m
def marks (b : List (Int × Int)) : List Int := srt (b.map (fun p => p.1) ++ b.map fun p => p.2)
def fixed (b : List (Int × Int)) (x y : Int) : List Int := mapIf (fun t : Int × Int => decide (t.1 ≥ y)) (fun t => t.1) b ++ mapIf (fun t : Int × Int => decide (t.2 ≤ x)) (fun t => t.2) b
theorem mem_mapIf {α β : Type} {c : α → Bool} {f : α → β} {l : List α} {a : α} (h : a ∈ l) (hc : c a = true) : f a ∈ mapIf c f l := List.mem_map.mpr ⟨a, List.mem_filter.mpr ⟨h, hc⟩, rfl⟩
theorem mem_marks {b : List (Int × Int)} {p : Int × Int} (h : p ∈ b) : p.1 ∈ marks b ∧ p.2 ∈ marks b :=
  ⟨(srt_perm _).mem_iff.mpr (List.mem_append_left _ (List.mem_map.mpr ⟨p, h, rfl⟩)), (srt_perm _).mem_iff.mpr (List.mem_append_right _ (List.mem_map.mpr ⟨p, h, rfl⟩))⟩
theorem fixed_ne {b : List (Int × Int)} (hn : b ≠ []) (h : ¬ mxl (b.map fun p => p.1) ≤ mnl (b.map fun p => p.2)) {x y : Int} (hm : (x, y) ∈ (marks b).zip ((marks b).drop 1)) : fixed b x y ≠ [] := by
  obtain ⟨h1, _, _, h4⟩ := consec (srt_sorted _) hm
  obtain ⟨p, hp, ep⟩ := List.mem_map.mp (mxl_mem (l := b.map fun p => p.1) (by simpa using hn))
  obtain ⟨q, hq, eq⟩ := List.mem_map.mp (mnl_mem (l := b.map fun p => p.2) (by simpa using hn))
  rw [← ep, ← eq] at h
  intro c
  have a1 : ¬ p.1 ≥ y := fun k => by
    have := mem_mapIf (c := fun t : Int × Int => decide (t.1 ≥ y)) (f := fun t => t.1) hp (decide_eq_true k)
    have : p.1 ∈ fixed b x y := List.mem_append_left _ this
    rw [c] at this; cases this
  have a2 : ¬ q.2 ≤ x := fun k => by
    have := mem_mapIf (c := fun t : Int × Int => decide (t.2 ≤ x)) (f := fun t => t.2) hq (decide_eq_true k)
    have : q.2 ∈ fixed b x y := List.mem_append_right _ this
    rw [c] at this; cases this
  have b1 := h4 _ (mem_marks hp).1
  have b2 := h4 _ (mem_marks hq).2
  omega
theorem fixed_len (b : List (Int × Int)) (x y : Int) : (fixed b x y).length ≤ 2 * b.length := by
  unfold fixed
  rw [List.length_append]
  have := mapIf_le (c := fun t : Int × Int => decide (t.1 ≥ y)) (f := fun t => t.1) (l := b)
  have := mapIf_le (c := fun t : Int × Int => decide (t.2 ≤ x)) (f := fun t => t.2) (l := b)
  omega
theorem sum_abs {c : Int} : ∀ {l : List Int}, (∀ x ∈ l, -c ≤ x ∧ x ≤ c) → -(c * l.length) ≤ l.sum ∧ l.sum ≤ c * l.length
  | [], _ => by simp
  | x :: l, h => by
    have h1 := h x (List.mem_cons_self ..)
    have ih := sum_abs (l := l) fun y hy => h y (List.mem_cons_of_mem _ hy)
    rw [List.sum_cons, List.length_cons, Int.natCast_add, Int.mul_add]; omega
theorem fixed_in {b : List (Int × Int)} {x y : Int} (h : ∀ p ∈ b, -50 ≤ p.1 ∧ p.1 ≤ p.2 ∧ p.2 ≤ 50) : ∀ v ∈ fixed b x y, -50 ≤ v ∧ v ≤ 50 := fun v hv => by
  rcases List.mem_append.mp hv with hv | hv
  · obtain ⟨p, hp, rfl⟩ := List.mem_map.mp hv
    have := h p (List.mem_filter.mp hp).1; omega
  · obtain ⟨p, hp, rfl⟩ := List.mem_map.mp hv
    have := h p (List.mem_filter.mp hp).1; omega
theorem num_sz {b : List (Int × Int)} (hB : BOk b) (h : ¬ mxl (b.map fun p => p.1) ≤ mnl (b.map fun p => p.2)) {x y : Int} (hm : (x, y) ∈ (marks b).zip ((marks b).drop 1)) :
    0 < ((fixed b x y).length : Int) ∧ Sz 10 (frI (fixed b x y).sum (fixed b x y).length) := by
  have hn : b ≠ [] := fun e => by have := hB.1; rw [e] at this; simp at this
  have h1 := List.length_pos_iff.mpr (fixed_ne hn h hm)
  have h2 := fixed_len b x y
  have h3 := sum_abs (c := 50) (fixed_in (b := b) (x := x) (y := y) hB.2.2)
  have := hB.2.1
  exact ⟨by omega, frI_sz (by omega) (by omega) (by omega)⟩
theorem mark_in {b : List (Int × Int)} (hB : BOk b) {m : Int} (h : m ∈ marks b) : -50 ≤ m ∧ m ≤ 50 := by
  have h := (srt_perm _).mem_iff.mp h
  rcases List.mem_append.mp h with h | h
  · obtain ⟨p, hp, rfl⟩ := List.mem_map.mp h
    have := hB.2.2 p hp; omega
  · obtain ⟨p, hp, rfl⟩ := List.mem_map.mp h
    have := hB.2.2 p hp; omega
/-! ### squares are convex in each value: the corners have the most -/
def vrA (n a s : Rat) (l : List Rat) : Rat := (n + ln l) * (s + s2 l) - (a + s1 l) * (a + s1 l)
theorem vrA_zero (l : List Rat) : vrA 0 0 0 l = vr l := by unfold vrA vr; grind
theorem vrA_cons (n a s x : Rat) (l : List Rat) : vrA n a s (x :: l) = vrA (n + 1) (a + x) (s + x * x) l := by
  unfold vrA; rw [s1c, s2c, lnc]; grind
theorem vrA_conv {n a s lo x hi : Rat} (l : List Rat) (hn : 0 ≤ n) (h1 : lo ≤ x) (h2 : x ≤ hi) : ∃ e, (e = lo ∨ e = hi) ∧ vrA n a s (x :: l) ≤ vrA n a s (e :: l) := by
  have hl := ln_nn l
  have hN : 0 ≤ n + ln l := by grind
  by_cases c : 0 ≤ (n + ln l) * (hi + x) - 2 * (a + s1 l)
  · refine ⟨hi, .inr rfl, ?_⟩
    have := Rat.mul_nonneg (show 0 ≤ hi - x by grind) c
    unfold vrA; rw [s1c, s1c, s2c, s2c, lnc, lnc]; grind
  · refine ⟨lo, .inl rfl, ?_⟩
    have m := Rat.mul_nonneg hN (show 0 ≤ hi - lo by grind)
    have := Rat.mul_nonneg (show 0 ≤ x - lo by grind) (show 0 ≤ 2 * (a + s1 l) - (n + ln l) * (x + lo) by grind)
    unfold vrA; rw [s1c, s1c, s2c, s2c, lnc, lnc]; grind
/-- each value at one of its ends -/
def Cor (c : List ((Rat × Rat) × Rat)) : Prop := ∀ q ∈ c, q.2 = q.1.1 ∨ q.2 = q.1.2
theorem cor_most : ∀ (z : List ((Rat × Rat) × Rat)) {n a s : Rat}, 0 ≤ n → (∀ q ∈ z, q.1.1 ≤ q.2 ∧ q.2 ≤ q.1.2) →
    ∃ c : List ((Rat × Rat) × Rat), c.map (·.1) = z.map (·.1) ∧ Cor c ∧ vrA n a s (z.map (·.2)) ≤ vrA n a s (c.map (·.2))
  | [], _, _, _, _, _ => ⟨[], rfl, fun _ hq => absurd hq List.not_mem_nil, Rat.le_refl⟩
  | q :: z, n, a, s, hn, h => by
    have hq := h q (List.mem_cons_self ..)
    obtain ⟨e, he, h1⟩ := vrA_conv (a := a) (s := s) (z.map (·.2)) hn hq.1 hq.2
    obtain ⟨c, c1, c2, c3⟩ := cor_most z (n := n + 1) (a := a + e) (s := s + e * e) (by grind) fun r hr => h r (List.mem_cons_of_mem _ hr)
    refine ⟨(q.1, e) :: c, by rw [List.map_cons, List.map_cons, c1], fun r hr => ?_, ?_⟩
    · rcases List.mem_cons.mp hr with hr | hr
      · subst hr; exact he
      · exact c2 r hr
    · rw [List.map_cons]
      refine Rat.le_trans h1 ?_
      rw [vrA_cons, List.map_cons, vrA_cons]
      exact c3
theorem cor_most0 (z : List ((Rat × Rat) × Rat)) (h : ∀ q ∈ z, q.1.1 ≤ q.2 ∧ q.2 ≤ q.1.2) : ∃ c : List ((Rat × Rat) × Rat), c.map (·.1) = z.map (·.1) ∧ Cor c ∧ vr (z.map (·.2)) ≤ vr (c.map (·.2)) := by
  obtain ⟨c, c1, c2, c3⟩ := cor_most z (n := 0) (a := 0) (s := 0) Rat.le_refl h
  rw [vrA_zero, vrA_zero] at c3
  exact ⟨c, c1, c2, c3⟩
/-! the greatest of some -/
def bestR (B : Rat) (l : List Rat) : Rat := l.foldl (fun s x => if s < x then x else s) B
theorem bestR_ge : ∀ (l : List Rat) (B : Rat), B ≤ bestR B l ∧ ∀ x ∈ l, x ≤ bestR B l
  | [], _ => ⟨Rat.le_refl, fun _ h => by cases h⟩
  | y :: l, B => by
    obtain ⟨h1, h2⟩ := bestR_ge l (if B < y then y else B)
    have e : bestR B (y :: l) = bestR (if B < y then y else B) l := rfl
    rw [e]
    refine ⟨?_, fun x hx => ?_⟩
    · split at h1 <;> grind
    · rcases List.mem_cons.mp hx with q | hx
      · subst q; split at h1 <;> grind
      · exact h2 x hx
theorem bestR_mem : ∀ (l : List Rat) (B : Rat), bestR B l = B ∨ bestR B l ∈ l
  | [], _ => .inl rfl
  | y :: l, B => by
    have e : bestR B (y :: l) = bestR (if B < y then y else B) l := rfl
    rw [e]
    rcases bestR_mem l (if B < y then y else B) with h | h
    · rw [h]; split
      · exact .inr (List.mem_cons_self ..)
      · exact .inl rfl
    · exact .inr (List.mem_cons_of_mem _ h)
/-- it is the one that is attained and no less than all -/
theorem bestR_eq {l : List Rat} {B m : Rat} (hl : l ≠ []) (h0 : ∀ x ∈ l, B ≤ x) (hm : m ∈ l) (hx : ∀ x ∈ l, x ≤ m) : bestR B l = m := by
  obtain ⟨h1, h2⟩ := bestR_ge l B
  have h3 := h2 m hm
  rcases bestR_mem l B with e | e
  · have := h0 m hm; grind
  · have := hx _ e; grind
/-! in whole numbers -/
def inC : List (Int × Int) → List Int → Prop
  | [], [] => True
  | p :: b, x :: r => (x = p.1 ∨ x = p.2) ∧ inC b r
  | _, _ => False
theorem cor_int : ∀ {b : List (Int × Int)} {c : List ((Rat × Rat) × Rat)}, c.map (·.1) = (b.map fun p => ((p.1 : Rat), (p.2 : Rat))) → Cor c → ∃ r, inC b r ∧ r.map (fun x : Int => (x : Rat)) = c.map (·.2)
  | [], [], _, _ => ⟨[], trivial, rfl⟩
  | p :: b, q :: c, e, h => by
    rw [List.map_cons, List.map_cons, List.cons.injEq] at e
    obtain ⟨r, h1, h2⟩ := cor_int e.2 fun t ht => h t (List.mem_cons_of_mem _ ht)
    have hq := h q (List.mem_cons_self ..)
    rw [e.1] at hq
    rcases hq with hq | hq
    · exact ⟨p.1 :: r, ⟨.inl rfl, h1⟩, by rw [List.map_cons, List.map_cons, h2, hq]⟩
    · exact ⟨p.2 :: r, ⟨.inr rfl, h1⟩, by rw [List.map_cons, List.map_cons, h2, hq]⟩
  | [], _ :: _, e, _ => by cases e
  | _ :: _, [], e, _ => by cases e
theorem inC_split {f : List (List Int) → Int × Int → List (List Int)} (hf : ∀ s p r, p.1 ≤ p.2 → (r ∈ f s p ↔ ∃ r0 ∈ s, r = r0 ++ [p.1] ∨ r = r0 ++ [p.2])) : ∀ {b : List (Int × Int)} {acc : List (List Int)} {r : List Int}, (∀ p ∈ b, p.1 ≤ p.2) → (r ∈ b.foldl f acc ↔ ∃ r0 ∈ acc, ∃ r1, r = r0 ++ r1 ∧ inC b r1)
  | [], acc, r, _ => by
    constructor
    · intro h; exact ⟨r, h, [], (List.append_nil r).symm, trivial⟩
    · rintro ⟨r0, h0, r1, rfl, h1⟩
      cases r1 with
      | nil => rw [List.append_nil]; exact h0
      | cons _ _ => exact h1.elim
  | p :: b, acc, r, hb => by
    have hp := hb p (List.mem_cons_self ..)
    rw [List.foldl_cons, inC_split hf fun q hq => hb q (List.mem_cons_of_mem _ hq)]
    constructor
    · rintro ⟨r0, h0, r1, rfl, h1⟩
      obtain ⟨a, ha, h2⟩ := (hf _ _ _ hp).mp h0
      rcases h2 with rfl | rfl
      · exact ⟨a, ha, p.1 :: r1, by simp, .inl rfl, h1⟩
      · exact ⟨a, ha, p.2 :: r1, by simp, .inr rfl, h1⟩
    · rintro ⟨r0, h0, r1, rfl, h1⟩
      cases r1 with
      | nil => exact h1.elim
      | cons v r1 =>
        refine ⟨r0 ++ [v], (hf _ _ _ hp).mpr ⟨r0, h0, ?_⟩, r1, by simp, h1.2⟩
        rcases h1.1 with e | e
        · subst e; exact .inl rfl
        · subst e; exact .inr rfl
theorem inC_inB : ∀ {b : List (Int × Int)} {r : List Int}, (∀ p ∈ b, p.1 ≤ p.2) → inC b r → inB b r
  | [], [], _, _ => trivial
  | p :: b, x :: r, hb, h => by
    have hp := hb p (List.mem_cons_self ..)
    exact ⟨by rcases h.1 with e | e <;> omega, inC_inB (fun q hq => hb q (List.mem_cons_of_mem _ hq)) h.2⟩
  | [], _ :: _, _, h => h.elim
  | _ :: _, [], _, h => h.elim
theorem inC_get : ∀ {b : List (Int × Int)} {r : List Int}, inC b r → ∀ k, k < b.length → r.getD k 0 = (b.getD k (0, 0)).1 ∨ r.getD k 0 = (b.getD k (0, 0)).2
  | p :: b, x :: r, h, 0, _ => h.1
  | p :: b, x :: r, h, k + 1, hk => by
    rw [List.getD_cons_succ, List.getD_cons_succ]
    exact inC_get h.2 k (by simpa using hk)
  | [], [], _, _, h => by cases h
  | [], _ :: _, h, _, _ => h.elim
  | _ :: _, [], h, _, _ => h.elim
/-! ### two loops, one in the other -/
theorem fold_nest {α β γ : Type} (g : α → β → γ → γ) (m : α → List β) : ∀ (l : List α) (a : γ), l.foldl (fun s x => (m x).foldl (fun s y => g x y s) s) a = (l.flatMap fun x => (m x).map fun y => (x, y)).foldl (fun s p => g p.1 p.2 s) a
  | [], _ => rfl
  | x :: l, a => by
    rw [List.foldl_cons, fold_nest g m l, List.flatMap_cons, List.foldl_append, List.foldl_map]
/-- the first greatest of those that count -/
theorem fold_first {α β : Type} {c : α → Bool} {v : α → β} {key : β → Int} {d : β} : ∀ (l : List α) (s : Option β),
    (l.foldl (fun s p => if (c p && (s.isNone || decide (key (v p) > key (s.getD d)))) = true then some (v p) else s) s = s ∧ ∀ p ∈ l, c p = true → ∃ t, s = some t ∧ key (v p) ≤ key t) ∨
    ∃ p ∈ l, c p = true ∧ l.foldl (fun s p => if (c p && (s.isNone || decide (key (v p) > key (s.getD d)))) = true then some (v p) else s) s = some (v p) ∧ (∀ q ∈ l, c q = true → key (v q) ≤ key (v p)) ∧ ∀ t, s = some t → key t ≤ key (v p)
  | [], s => .inl ⟨rfl, fun _ h => by cases h⟩
  | p :: l, s => by
    rw [List.foldl_cons]
    by_cases h : (c p && (s.isNone || decide (key (v p) > key (s.getD d)))) = true
    · rw [if_pos h]
      have hc : c p = true := (Bool.and_eq_true_iff.mp h).1
      have hs : ∀ t, s = some t → key t ≤ key (v p) := fun t e => by
        subst e
        have := (Bool.and_eq_true_iff.mp h).2
        simp at this; omega
      rcases fold_first (c := c) (v := v) (key := key) (d := d) l (some (v p)) with ⟨h1, h2⟩ | ⟨q, hq, h1, h2, h3, h4⟩
      · refine .inr ⟨p, List.mem_cons_self .., hc, h1, fun q hq hcq => ?_, hs⟩
        rcases List.mem_cons.mp hq with e | hq
        · subst e; exact Int.le_refl _
        · obtain ⟨t, e, h⟩ := h2 q hq hcq
          cases e; exact h
      · have h5 := h4 _ rfl
        refine .inr ⟨q, List.mem_cons_of_mem _ hq, h1, h2, fun x hx hcx => ?_, fun t e => Int.le_trans (hs t e) h5⟩
        rcases List.mem_cons.mp hx with e | hx
        · subst e; exact h5
        · exact h3 x hx hcx
    · rw [if_neg h]
      have hn : c p = true → ∃ t, s = some t ∧ key (v p) ≤ key t := fun hc => by
        cases s with
        | none => exact absurd (by simp [hc]) h
        | some t => exact ⟨t, rfl, by simp [hc] at h; exact h⟩
      rcases fold_first (c := c) (v := v) (key := key) (d := d) l s with ⟨h1, h2⟩ | ⟨q, hq, h1, h2, h3, h4⟩
      · refine .inl ⟨h1, fun x hx hcx => ?_⟩
        rcases List.mem_cons.mp hx with e | hx
        · subst e; exact hn hcx
        · exact h2 x hx hcx
      · refine .inr ⟨q, List.mem_cons_of_mem _ hq, h1, h2, fun x hx hcx => ?_, h4⟩
        rcases List.mem_cons.mp hx with e | hx
        · subst e
          obtain ⟨t, e, h⟩ := hn hcx
          exact Int.le_trans h (h4 t e)
        · exact h3 x hx hcx
/-! ### bounds by places -/
def lo (b : List (Int × Int)) (k : Nat) : Int := (b.getD k (0, 0)).1
def hi (b : List (Int × Int)) (k : Nat) : Int := (b.getD k (0, 0)).2
theorem mem_at {α : Type} {l : List α} {x d : α} (h : x ∈ l) : ∃ k, k < l.length ∧ l.getD k d = x := by
  obtain ⟨k, hk, e⟩ := List.getElem_of_mem h
  exact ⟨k, hk, by rw [List.getD_eq_getElem?_getD, List.getElem?_eq_getElem hk]; exact e⟩
theorem at_mem {α : Type} {l : List α} {d : α} {k : Nat} (h : k < l.length) : l.getD k d ∈ l := List.mem_of_getElem? (getD_at h)
theorem lo_hi {b : List (Int × Int)} (hb : ∀ p ∈ b, p.1 ≤ p.2) {k : Nat} (h : k < b.length) : lo b k ≤ hi b k := hb _ (at_mem h)
theorem map_at {α β : Type} {f : α → β} {l : List α} {k : Nat} {d : α} {e : β} (h : k < l.length) : (l.map f).getD k e = f (l.getD k d) := by
  rw [List.getD_eq_getElem?_getD, List.getElem?_map, List.getElem?_eq_getElem h, List.getD_eq_getElem?_getD, List.getElem?_eq_getElem h]; rfl
theorem inB_iff : ∀ {b : List (Int × Int)} {r : List Int}, inB b r ↔ r.length = b.length ∧ ∀ k, k < b.length → lo b k ≤ r.getD k 0 ∧ r.getD k 0 ≤ hi b k
  | [], [] => by simp [inB]
  | [], _ :: _ => by simp [inB]
  | _ :: _, [] => by simp [inB]
  | p :: b, x :: r => by
    have ih := inB_iff (b := b) (r := r)
    show (p.1 ≤ x ∧ x ≤ p.2) ∧ inB b r ↔ _
    rw [ih]
    constructor
    · rintro ⟨h0, h1, h2⟩
      refine ⟨by simp [h1], fun k hk => ?_⟩
      cases k with
      | zero => exact h0
      | succ k => exact h2 k (by simpa using hk)
    · rintro ⟨h1, h2⟩
      refine ⟨h2 0 (by simp), by simpa using h1, fun k hk => ?_⟩
      exact h2 (k + 1) (by simpa using hk)
theorem pick_bok {n m : Int} {x y c : List (Int × Int)} (hx : SmallP n x) (hn : n ≤ 7) (hy : BndP m y) (hm : m ≤ 7) (hc : c ∈ [x, y]) : BOk c := by
  rcases List.mem_cons.mp hc with e | e
  · rw [e]; exact small_bok hx hn
  · rw [List.mem_singleton.mp e]; exact bnd_bok hy hm
/-- the law's corners -/
def lstep (s : List (List Int)) (p : Int × Int) : List (List Int) := s.map (fun r => r ++ [p.1]) ++ s.map (fun r => r ++ [p.2])
def topS (i : Nat) : Stmt := PySem.Challenge.pw_boundstats_k15_whole_unchanged.main.body.getD i (.Pass ⟨0, 0, 0, 0⟩)
abbrev s_is_int : Stmt := topS 9
abbrev N_is_int : List Str := ["value", "low", "high"]
theorem sc_is_int : FnScope N_is_int ["value", "low", "high"] (defScope s_is_int) := ⟨rfl, rfl, rfl, by decide +kernel, rfl, by decide +kernel, by decide +kernel⟩
abbrev s_is_bound : Stmt := topS 10
abbrev N_is_bound : List Str := ["value"]
theorem sc_is_bound : FnScope N_is_bound ["value"] (defScope s_is_bound) := ⟨rfl, rfl, rfl, by decide +kernel, rfl, by decide +kernel, by decide +kernel⟩
abbrev s_is_bounds : Stmt := topS 11
abbrev N_is_bounds : List Str := ["value", "one"]
theorem sc_is_bounds : FnScope N_is_bounds ["value"] (defScope s_is_bounds) := ⟨rfl, rfl, rfl, by decide +kernel, rfl, by decide +kernel, by decide +kernel⟩
abbrev s_check_bounds : Stmt := topS 12
abbrev N_check_bounds : List Str := ["value"]
theorem sc_check_bounds : FnScope N_check_bounds ["value"] (defScope s_check_bounds) := ⟨rfl, rfl, rfl, by decide +kernel, rfl, by decide +kernel, by decide +kernel⟩
abbrev s_check_place : Stmt := topS 13
abbrev N_check_place : List Str := ["bounds", "value"]
theorem sc_check_place : FnScope N_check_place ["bounds", "value"] (defScope s_check_place) := ⟨rfl, rfl, rfl, by decide +kernel, rfl, by decide +kernel, by decide +kernel⟩
abbrev s_check_pairs : Stmt := topS 14
abbrev N_check_pairs : List Str := ["bounds", "value", "pair", "k"]
theorem sc_check_pairs : FnScope N_check_pairs ["bounds", "value"] (defScope s_check_pairs) := ⟨rfl, rfl, rfl, by decide +kernel, rfl, by decide +kernel, by decide +kernel⟩
abbrev s_common_divisor : Stmt := topS 18
abbrev N_common_divisor : List Str := ["one", "other"]
theorem sc_common_divisor : FnScope N_common_divisor ["one", "other"] (defScope s_common_divisor) := ⟨rfl, rfl, rfl, by decide +kernel, rfl, by decide +kernel, by decide +kernel⟩
abbrev s_lowest : Stmt := topS 19
abbrev N_lowest : List Str := ["top", "below", "divisor"]
theorem sc_lowest : FnScope N_lowest ["top", "below"] (defScope s_lowest) := ⟨rfl, rfl, rfl, by decide +kernel, rfl, by decide +kernel, by decide +kernel⟩
abbrev s_plus : Stmt := topS 20
abbrev N_plus : List Str := ["one", "other"]
theorem sc_plus : FnScope N_plus ["one", "other"] (defScope s_plus) := ⟨rfl, rfl, rfl, by decide +kernel, rfl, by decide +kernel, by decide +kernel⟩
abbrev s_minus : Stmt := topS 21
abbrev N_minus : List Str := ["one", "other"]
theorem sc_minus : FnScope N_minus ["one", "other"] (defScope s_minus) := ⟨rfl, rfl, rfl, by decide +kernel, rfl, by decide +kernel, by decide +kernel⟩
abbrev s_times : Stmt := topS 22
abbrev N_times : List Str := ["one", "other"]
theorem sc_times : FnScope N_times ["one", "other"] (defScope s_times) := ⟨rfl, rfl, rfl, by decide +kernel, rfl, by decide +kernel, by decide +kernel⟩
abbrev s_less : Stmt := topS 23
abbrev N_less : List Str := ["one", "other"]
theorem sc_less : FnScope N_less ["one", "other"] (defScope s_less) := ⟨rfl, rfl, rfl, by decide +kernel, rfl, by decide +kernel, by decide +kernel⟩
abbrev s_total : Stmt := topS 24
abbrev N_total : List Str := ["some", "found", "one"]
theorem sc_total : FnScope N_total ["some"] (defScope s_total) := ⟨rfl, rfl, rfl, by decide +kernel, rfl, by decide +kernel, by decide +kernel⟩
abbrev s_squares_about_mean : Stmt := topS 25
abbrev N_squares_about_mean : List Str := ["some", "whole", "found", "one"]
theorem sc_squares_about_mean : FnScope N_squares_about_mean ["some"] (defScope s_squares_about_mean) := ⟨rfl, rfl, rfl, by decide +kernel, rfl, by decide +kernel, by decide +kernel⟩
abbrev s_lows : Stmt := topS 27
abbrev N_lows : List Str := ["bounds", "low", "high"]
theorem sc_lows : FnScope N_lows ["bounds"] (defScope s_lows) := ⟨rfl, rfl, rfl, by decide +kernel, rfl, by decide +kernel, by decide +kernel⟩
abbrev s_highs : Stmt := topS 28
abbrev N_highs : List Str := ["bounds", "low", "high"]
theorem sc_highs : FnScope N_highs ["bounds"] (defScope s_highs) := ⟨rfl, rfl, rfl, by decide +kernel, rfl, by decide +kernel, by decide +kernel⟩
abbrev s_sum_range : Stmt := topS 29
abbrev N_sum_range : List Str := ["bounds"]
theorem sc_sum_range : FnScope N_sum_range ["bounds"] (defScope s_sum_range) := ⟨rfl, rfl, rfl, by decide +kernel, rfl, by decide +kernel, by decide +kernel⟩
abbrev s_mean_range : Stmt := topS 30
abbrev N_mean_range : List Str := ["bounds"]
theorem sc_mean_range : FnScope N_mean_range ["bounds"] (defScope s_mean_range) := ⟨rfl, rfl, rfl, by decide +kernel, rfl, by decide +kernel, by decide +kernel⟩
abbrev s_middle : Stmt := topS 31
abbrev N_middle : List Str := ["values", "ordered", "size"]
theorem sc_middle : FnScope N_middle ["values"] (defScope s_middle) := ⟨rfl, rfl, rfl, by decide +kernel, rfl, by decide +kernel, by decide +kernel⟩
abbrev s_median_range : Stmt := topS 32
abbrev N_median_range : List Str := ["bounds"]
theorem sc_median_range : FnScope N_median_range ["bounds"] (defScope s_median_range) := ⟨rfl, rfl, rfl, by decide +kernel, rfl, by decide +kernel, by decide +kernel⟩
abbrev s_least_range : Stmt := topS 33
abbrev N_least_range : List Str := ["bounds"]
theorem sc_least_range : FnScope N_least_range ["bounds"] (defScope s_least_range) := ⟨rfl, rfl, rfl, by decide +kernel, rfl, by decide +kernel, by decide +kernel⟩
abbrev s_greatest_range : Stmt := topS 34
abbrev N_greatest_range : List Str := ["bounds"]
theorem sc_greatest_range : FnScope N_greatest_range ["bounds"] (defScope s_greatest_range) := ⟨rfl, rfl, rfl, by decide +kernel, rfl, by decide +kernel, by decide +kernel⟩
abbrev s_choice_with_sum : Stmt := topS 35
abbrev N_choice_with_sum : List Str := ["bounds", "whole", "left", "found", "low", "high", "more"]
theorem sc_choice_with_sum : FnScope N_choice_with_sum ["bounds", "whole"] (defScope s_choice_with_sum) := ⟨rfl, rfl, rfl, by decide +kernel, rfl, by decide +kernel, by decide +kernel⟩
abbrev s_pair_gap : Stmt := topS 37
abbrev N_pair_gap : List Str := ["bounds", "best", "k", "j", "gap"]
theorem sc_pair_gap : FnScope N_pair_gap ["bounds"] (defScope s_pair_gap) := ⟨rfl, rfl, rfl, by decide +kernel, rfl, by decide +kernel, by decide +kernel⟩
abbrev s_widest_choice : Stmt := topS 38
abbrev N_widest_choice : List Str := ["bounds", "best", "found"]
theorem sc_widest_choice : FnScope N_widest_choice ["bounds"] (defScope s_widest_choice) := ⟨rfl, rfl, rfl, by decide +kernel, rfl, by decide +kernel, by decide +kernel⟩
abbrev s_narrowest_choice : Stmt := topS 39
abbrev N_narrowest_choice : List Str := ["bounds", "goal", "low", "high"]
theorem sc_narrowest_choice : FnScope N_narrowest_choice ["bounds"] (defScope s_narrowest_choice) := ⟨rfl, rfl, rfl, by decide +kernel, rfl, by decide +kernel, by decide +kernel⟩
abbrev s_surely_apart : Stmt := topS 40
abbrev N_surely_apart : List Str := ["bounds", "found", "k", "j"]
theorem sc_surely_apart : FnScope N_surely_apart ["bounds"] (defScope s_surely_apart) := ⟨rfl, rfl, rfl, by decide +kernel, rfl, by decide +kernel, by decide +kernel⟩
abbrev s_corner_choices : Stmt := topS 42
abbrev N_corner_choices : List Str := ["bounds", "found", "low", "high", "one"]
theorem sc_corner_choices : FnScope N_corner_choices ["bounds"] (defScope s_corner_choices) := ⟨rfl, rfl, rfl, by decide +kernel, rfl, by decide +kernel, by decide +kernel⟩
abbrev s_widest : Stmt := topS 43
abbrev N_widest : List Str := ["bounds", "best", "most", "one", "own", "value"]
theorem sc_widest : FnScope N_widest ["bounds"] (defScope s_widest) := ⟨rfl, rfl, rfl, by decide +kernel, rfl, by decide +kernel, by decide +kernel⟩
abbrev s_widest_squares_choice : Stmt := topS 44
abbrev N_widest_squares_choice : List Str := ["bounds"]
theorem sc_widest_squares_choice : FnScope N_widest_squares_choice ["bounds"] (defScope s_widest_squares_choice) := ⟨rfl, rfl, rfl, by decide +kernel, rfl, by decide +kernel, by decide +kernel⟩
abbrev s_clipped : Stmt := topS 45
abbrev N_clipped : List Str := ["bounds", "number", "found", "low", "high"]
theorem sc_clipped : FnScope N_clipped ["bounds", "number"] (defScope s_clipped) := ⟨rfl, rfl, rfl, by decide +kernel, rfl, by decide +kernel, by decide +kernel⟩
abbrev s_centre_of : Stmt := topS 46
abbrev N_centre_of : List Str := ["bounds", "low", "high", "marks", "one", "other", "fixed", "number", "a", "b"]
theorem sc_centre_of : FnScope N_centre_of ["bounds"] (defScope s_centre_of) := ⟨rfl, rfl, rfl, by decide +kernel, rfl, by decide +kernel, by decide +kernel⟩
abbrev s_nearest_choice : Stmt := topS 47
abbrev N_nearest_choice : List Str := ["bounds"]
theorem sc_nearest_choice : FnScope N_nearest_choice ["bounds"] (defScope s_nearest_choice) := ⟨rfl, rfl, rfl, by decide +kernel, rfl, by decide +kernel, by decide +kernel⟩
abbrev s_ranks_of : Stmt := topS 49
abbrev N_ranks_of : List Str := ["bounds", "place", "low", "high", "below", "k", "one", "above"]
theorem sc_ranks_of : FnScope N_ranks_of ["bounds", "place"] (defScope s_ranks_of) := ⟨rfl, rfl, rfl, by decide +kernel, rfl, by decide +kernel, by decide +kernel⟩
abbrev s_can_be_greatest : Stmt := topS 50
abbrev N_can_be_greatest : List Str := ["bounds", "k"]
theorem sc_can_be_greatest : FnScope N_can_be_greatest ["bounds"] (defScope s_can_be_greatest) := ⟨rfl, rfl, rfl, by decide +kernel, rfl, by decide +kernel, by decide +kernel⟩
abbrev s_surely_greatest : Stmt := topS 51
abbrev N_surely_greatest : List Str := ["bounds", "found", "k", "one", "j", "other"]
theorem sc_surely_greatest : FnScope N_surely_greatest ["bounds"] (defScope s_surely_greatest) := ⟨rfl, rfl, rfl, by decide +kernel, rfl, by decide +kernel, by decide +kernel⟩
abbrev s_sure_pairs : Stmt := topS 52
abbrev N_sure_pairs : List Str := ["bounds", "found", "k", "j"]
theorem sc_sure_pairs : FnScope N_sure_pairs ["bounds"] (defScope s_sure_pairs) := ⟨rfl, rfl, rfl, by decide +kernel, rfl, by decide +kernel, by decide +kernel⟩
abbrev s_longest_chain : Stmt := topS 53
abbrev N_longest_chain : List Str := ["bounds", "order", "k", "one", "found", "high"]
theorem sc_longest_chain : FnScope N_longest_chain ["bounds"] (defScope s_longest_chain) := ⟨rfl, rfl, rfl, by decide +kernel, rfl, by decide +kernel, by decide +kernel⟩
abbrev s_rank_table : Stmt := topS 54
abbrev N_rank_table : List Str := ["bounds", "k"]
theorem sc_rank_table : FnScope N_rank_table ["bounds"] (defScope s_rank_table) := ⟨rfl, rfl, rfl, by decide +kernel, rfl, by decide +kernel, by decide +kernel⟩
abbrev s_check_order : Stmt := topS 56
abbrev N_check_order : List Str := ["bounds", "value", "k"]
theorem sc_check_order : FnScope N_check_order ["bounds", "value"] (defScope s_check_order) := ⟨rfl, rfl, rfl, by decide +kernel, rfl, by decide +kernel, by decide +kernel⟩
abbrev s_is_possible : Stmt := topS 57
abbrev N_is_possible : List Str := ["bounds", "order", "k", "j"]
theorem sc_is_possible : FnScope N_is_possible ["bounds", "order"] (defScope s_is_possible) := ⟨rfl, rfl, rfl, by decide +kernel, rfl, by decide +kernel, by decide +kernel⟩
abbrev s_can_be_order : Stmt := topS 58
abbrev N_can_be_order : List Str := ["bounds", "order"]
theorem sc_can_be_order : FnScope N_can_be_order ["bounds", "order"] (defScope s_can_be_order) := ⟨rfl, rfl, rfl, by decide +kernel, rfl, by decide +kernel, by decide +kernel⟩
abbrev s_choice_for : Stmt := topS 59
abbrev N_choice_for : List Str := ["bounds", "order", "found", "last", "place"]
theorem sc_choice_for : FnScope N_choice_for ["bounds", "order"] (defScope s_choice_for) := ⟨rfl, rfl, rfl, by decide +kernel, rfl, by decide +kernel, by decide +kernel⟩
abbrev s_next_places : Stmt := topS 60
abbrev N_next_places : List Str := ["bounds", "done", "left", "k", "j"]
theorem sc_next_places : FnScope N_next_places ["bounds", "done"] (defScope s_next_places) := ⟨rfl, rfl, rfl, by decide +kernel, rfl, by decide +kernel, by decide +kernel⟩
abbrev s_ways_from : Stmt := topS 61
abbrev N_ways_from : List Str := ["bounds", "done", "known", "key", "k"]
theorem sc_ways_from : FnScope N_ways_from ["bounds", "done", "known"] (defScope s_ways_from) := ⟨rfl, rfl, rfl, by decide +kernel, rfl, by decide +kernel, by decide +kernel⟩
abbrev s_order_at : Stmt := topS 62
abbrev N_order_at : List Str := ["bounds", "rank", "known", "found", "k", "many"]
theorem sc_order_at : FnScope N_order_at ["bounds", "rank"] (defScope s_order_at) := ⟨rfl, rfl, rfl, by decide +kernel, rfl, by decide +kernel, by decide +kernel⟩
abbrev s_rank_of_order : Stmt := topS 63
abbrev N_rank_of_order : List Str := ["bounds", "order", "found", "known", "place", "one", "k"]
theorem sc_rank_of_order : FnScope N_rank_of_order ["bounds", "order"] (defScope s_rank_of_order) := ⟨rfl, rfl, rfl, by decide +kernel, rfl, by decide +kernel, by decide +kernel⟩
abbrev s_checked_facts : Stmt := topS 65
abbrev N_checked_facts : List Str := ["bounds", "low", "high"]
theorem sc_checked_facts : FnScope N_checked_facts ["bounds"] (defScope s_checked_facts) := ⟨rfl, rfl, rfl, by decide +kernel, rfl, by decide +kernel, by decide +kernel⟩
abbrev s_with_sum : Stmt := topS 67
abbrev N_with_sum : List Str := ["bounds", "least", "greatest", "bottom", "top", "low", "high"]
theorem sc_with_sum : FnScope N_with_sum ["bounds", "least", "greatest"] (defScope s_with_sum) := ⟨rfl, rfl, rfl, by decide +kernel, rfl, by decide +kernel, by decide +kernel⟩
abbrev s_narrowed : Stmt := topS 68
abbrev N_narrowed : List Str := ["bounds", "pairs", "found", "turn", "k", "j"]
theorem sc_narrowed : FnScope N_narrowed ["bounds", "pairs"] (defScope s_narrowed) := ⟨rfl, rfl, rfl, by decide +kernel, rfl, by decide +kernel, by decide +kernel⟩
abbrev s_with_pairs : Stmt := topS 69
abbrev N_with_pairs : List Str := ["bounds", "pairs"]
theorem sc_with_pairs : FnScope N_with_pairs ["bounds", "pairs"] (defScope s_with_pairs) := ⟨rfl, rfl, rfl, by decide +kernel, rfl, by decide +kernel, by decide +kernel⟩
abbrev s_can_be_pairs : Stmt := topS 70
abbrev N_can_be_pairs : List Str := ["bounds", "pairs", "low", "high"]
theorem sc_can_be_pairs : FnScope N_can_be_pairs ["bounds", "pairs"] (defScope s_can_be_pairs) := ⟨rfl, rfl, rfl, by decide +kernel, rfl, by decide +kernel, by decide +kernel⟩
abbrev s_with_value : Stmt := topS 71
abbrev N_with_value : List Str := ["bounds", "place", "low", "high", "found"]
theorem sc_with_value : FnScope N_with_value ["bounds", "place", "low", "high"] (defScope s_with_value) := ⟨rfl, rfl, rfl, by decide +kernel, rfl, by decide +kernel, by decide +kernel⟩
abbrev s_met : Stmt := topS 72
abbrev N_met : List Str := ["one", "other", "a", "b"]
theorem sc_met : FnScope N_met ["one", "other"] (defScope s_met) := ⟨rfl, rfl, rfl, by decide +kernel, rfl, by decide +kernel, by decide +kernel⟩
abbrev s_as_fractions : Stmt := topS 75
abbrev N_as_fractions : List Str := ["pair", "one"]
theorem sc_as_fractions : FnScope N_as_fractions ["pair"] (defScope s_as_fractions) := ⟨rfl, rfl, rfl, by decide +kernel, rfl, by decide +kernel, by decide +kernel⟩
abbrev s_figure_range : Stmt := topS 76
abbrev N_figure_range : List Str := ["bounds", "figure"]
theorem sc_figure_range : FnScope N_figure_range ["bounds", "figure"] (defScope s_figure_range) := ⟨rfl, rfl, rfl, by decide +kernel, rfl, by decide +kernel, by decide +kernel⟩
abbrev s_check_figure : Stmt := topS 77
abbrev N_check_figure : List Str := ["figure"]
theorem sc_check_figure : FnScope N_check_figure ["figure"] (defScope s_check_figure) := ⟨rfl, rfl, rfl, by decide +kernel, rfl, by decide +kernel, by decide +kernel⟩
abbrev s_best_figures : Stmt := topS 78
abbrev N_best_figures : List Str := ["lists", "figure", "bounds", "ranges", "k", "one", "other"]
theorem sc_best_figures : FnScope N_best_figures ["lists", "figure"] (defScope s_best_figures) := ⟨rfl, rfl, rfl, by decide +kernel, rfl, by decide +kernel, by decide +kernel⟩
abbrev s_checked_changing : Stmt := topS 80
abbrev N_checked_changing : List Str := ["bounds"]
theorem sc_checked_changing : FnScope N_checked_changing ["bounds"] (defScope s_checked_changing) := ⟨rfl, rfl, rfl, by decide +kernel, rfl, by decide +kernel, by decide +kernel⟩
abbrev s_moved : Stmt := topS 82
abbrev N_moved : List Str := ["bounds", "by", "low", "high"]
theorem sc_moved : FnScope N_moved ["bounds", "by"] (defScope s_moved) := ⟨rfl, rfl, rfl, by decide +kernel, rfl, by decide +kernel, by decide +kernel⟩
abbrev s_scaled : Stmt := topS 83
abbrev N_scaled : List Str := ["bounds", "by", "low", "high"]
theorem sc_scaled : FnScope N_scaled ["bounds", "by"] (defScope s_scaled) := ⟨rfl, rfl, rfl, by decide +kernel, rfl, by decide +kernel, by decide +kernel⟩
abbrev s_widened : Stmt := topS 84
abbrev N_widened : List Str := ["bounds", "by", "low", "high"]
theorem sc_widened : FnScope N_widened ["bounds", "by"] (defScope s_widened) := ⟨rfl, rfl, rfl, by decide +kernel, rfl, by decide +kernel, by decide +kernel⟩
abbrev s_added : Stmt := topS 85
abbrev N_added : List Str := ["one", "other", "a", "b"]
theorem sc_added : FnScope N_added ["one", "other"] (defScope s_added) := ⟨rfl, rfl, rfl, by decide +kernel, rfl, by decide +kernel, by decide +kernel⟩
abbrev s_with_bound : Stmt := topS 86
abbrev N_with_bound : List Str := ["bounds", "bound"]
theorem sc_with_bound : FnScope N_with_bound ["bounds", "bound"] (defScope s_with_bound) := ⟨rfl, rfl, rfl, by decide +kernel, rfl, by decide +kernel, by decide +kernel⟩
abbrev s_without_value : Stmt := topS 87
abbrev N_without_value : List Str := ["bounds", "place"]
theorem sc_without_value : FnScope N_without_value ["bounds", "place"] (defScope s_without_value) := ⟨rfl, rfl, rfl, by decide +kernel, rfl, by decide +kernel, by decide +kernel⟩
abbrev s_renamed : Stmt := topS 88
abbrev N_renamed : List Str := ["bounds", "order", "k"]
theorem sc_renamed : FnScope N_renamed ["bounds", "order"] (defScope s_renamed) := ⟨rfl, rfl, rfl, by decide +kernel, rfl, by decide +kernel, by decide +kernel⟩
abbrev s_format_bounds : Stmt := topS 90
abbrev N_format_bounds : List Str := ["bounds", "low", "high"]
theorem sc_format_bounds : FnScope N_format_bounds ["bounds"] (defScope s_format_bounds) := ⟨rfl, rfl, rfl, by decide +kernel, rfl, by decide +kernel, by decide +kernel⟩
abbrev s__law_start : Stmt := topS 92
abbrev N__law_start : List Str := ["_law_script"]
theorem sc__law_start : FnScope N__law_start ["_law_script"] (defScope s__law_start) := ⟨rfl, rfl, rfl, by decide +kernel, rfl, by decide +kernel, by decide +kernel⟩
abbrev s__law_draw : Stmt := topS 93
abbrev N__law_draw : List Str := ["_law_draws", "_law_limit", "_law_numbers", "_law_at", "_law_cell", "_law_mixed"]
theorem sc__law_draw : FnScope N__law_draw ["_law_draws", "_law_limit"] (defScope s__law_draw) := ⟨rfl, rfl, rfl, by decide +kernel, rfl, by decide +kernel, by decide +kernel⟩
abbrev s__law_pick : Stmt := topS 94
abbrev N__law_pick : List Str := ["_law_draws", "_law_choices"]
theorem sc__law_pick : FnScope N__law_pick ["_law_draws", "_law_choices"] (defScope s__law_pick) := ⟨rfl, rfl, rfl, by decide +kernel, rfl, by decide +kernel, by decide +kernel⟩
abbrev s__law_bounds : Stmt := topS 95
abbrev N__law_bounds : List Str := ["_law_draws", "_law_most", "_law_far", "_law_wide", "_law_found", "_law_k", "_law_low"]
theorem sc__law_bounds : FnScope N__law_bounds ["_law_draws", "_law_most"] (defScope s__law_bounds) := ⟨rfl, rfl, rfl, by decide +kernel, rfl, by decide +kernel, by decide +kernel⟩
abbrev s__law_more : Stmt := topS 96
abbrev N__law_more : List Str := ["_law_bounds_here"]
theorem sc__law_more : FnScope N__law_more ["_law_bounds_here"] (defScope s__law_more) := ⟨rfl, rfl, rfl, by decide +kernel, rfl, by decide +kernel, by decide +kernel⟩
abbrev s_law : Stmt := topS 97
abbrev N_law : List Str := ["_law_script", "_law_draws", "_law_bounds_here", "_law_first", "_law_size", "_law_order", "_law_kept", "_law_pairs", "_law_own", "_law_shown"]
theorem sc_law : FnScope N_law ["_law_script"] (defScope s_law) := ⟨rfl, rfl, rfl, by decide +kernel, rfl, by decide +kernel, by decide +kernel⟩
abbrev s_Teller___init__ : Stmt := inClass (topS 16) 0
abbrev N_Teller___init__ : List Str := ["self", "bounds"]
theorem sc_Teller___init__ : FnScope N_Teller___init__ ["self", "bounds"] (defScope s_Teller___init__) := ⟨rfl, rfl, rfl, by decide +kernel, rfl, by decide +kernel, by decide +kernel⟩
abbrev s_Teller_tell : Stmt := inClass (topS 16) 1
abbrev N_Teller_tell : List Str := ["self", "place", "low", "high", "one"]
theorem sc_Teller_tell : FnScope N_Teller_tell ["self", "place", "low", "high"] (defScope s_Teller_tell) := ⟨rfl, rfl, rfl, by decide +kernel, rfl, by decide +kernel, by decide +kernel⟩
abbrev s_Teller_bounds : Stmt := inClass (topS 16) 2
abbrev N_Teller_bounds : List Str := ["self"]
theorem sc_Teller_bounds : FnScope N_Teller_bounds ["self"] (defScope s_Teller_bounds) := ⟨rfl, rfl, rfl, by decide +kernel, rfl, by decide +kernel, by decide +kernel⟩
abbrev s_Teller_known : Stmt := inClass (topS 16) 4
abbrev N_Teller_known : List Str := ["self", "k", "one"]
theorem sc_Teller_known : FnScope N_Teller_known ["self"] (defScope s_Teller_known) := ⟨rfl, rfl, rfl, by decide +kernel, rfl, by decide +kernel, by decide +kernel⟩
abbrev s_Teller_undo : Stmt := inClass (topS 16) 5
abbrev N_Teller_undo : List Str := ["self"]
theorem sc_Teller_undo : FnScope N_Teller_undo ["self"] (defScope s_Teller_undo) := ⟨rfl, rfl, rfl, by decide +kernel, rfl, by decide +kernel, by decide +kernel⟩
abbrev s_Teller___len__ : Stmt := inClass (topS 16) 6
abbrev N_Teller___len__ : List Str := ["self"]
theorem sc_Teller___len__ : FnScope N_Teller___len__ ["self"] (defScope s_Teller___len__) := ⟨rfl, rfl, rfl, by decide +kernel, rfl, by decide +kernel, by decide +kernel⟩
structure Txt (K : Fg) (mg : Str → Option Value) : Prop where
  d_is_int : Fd K mg "is_int" s_is_int
  d_is_bound : Fd K mg "is_bound" s_is_bound
  d_is_bounds : Fd K mg "is_bounds" s_is_bounds
  d_check_bounds : Fd K mg "check_bounds" s_check_bounds
  d_check_place : Fd K mg "check_place" s_check_place
  d_check_pairs : Fd K mg "check_pairs" s_check_pairs
  d_common_divisor : Fd K mg "common_divisor" s_common_divisor
  d_lowest : Fd K mg "lowest" s_lowest
  d_plus : Fd K mg "plus" s_plus
  d_minus : Fd K mg "minus" s_minus
  d_times : Fd K mg "times" s_times
  d_less : Fd K mg "less" s_less
  d_total : Fd K mg "total" s_total
  d_squares_about_mean : Fd K mg "squares_about_mean" s_squares_about_mean
  d_lows : Fd K mg "lows" s_lows
  d_highs : Fd K mg "highs" s_highs
  d_sum_range : Fd K mg "sum_range" s_sum_range
  d_mean_range : Fd K mg "mean_range" s_mean_range
  d_middle : Fd K mg "middle" s_middle
  d_median_range : Fd K mg "median_range" s_median_range
  d_least_range : Fd K mg "least_range" s_least_range
  d_greatest_range : Fd K mg "greatest_range" s_greatest_range
  d_choice_with_sum : Fd K mg "choice_with_sum" s_choice_with_sum
  d_pair_gap : Fd K mg "pair_gap" s_pair_gap
  d_widest_choice : Fd K mg "widest_choice" s_widest_choice
  d_narrowest_choice : Fd K mg "narrowest_choice" s_narrowest_choice
  d_surely_apart : Fd K mg "surely_apart" s_surely_apart
  d_corner_choices : Fd K mg "corner_choices" s_corner_choices
  d_widest : Fd K mg "widest" s_widest
  d_widest_squares_choice : Fd K mg "widest_squares_choice" s_widest_squares_choice
  d_clipped : Fd K mg "clipped" s_clipped
  d_centre_of : Fd K mg "centre_of" s_centre_of
  d_nearest_choice : Fd K mg "nearest_choice" s_nearest_choice
  d_ranks_of : Fd K mg "ranks_of" s_ranks_of
  d_can_be_greatest : Fd K mg "can_be_greatest" s_can_be_greatest
  d_surely_greatest : Fd K mg "surely_greatest" s_surely_greatest
  d_sure_pairs : Fd K mg "sure_pairs" s_sure_pairs
  d_longest_chain : Fd K mg "longest_chain" s_longest_chain
  d_rank_table : Fd K mg "rank_table" s_rank_table
  d_check_order : Fd K mg "check_order" s_check_order
  d_is_possible : Fd K mg "is_possible" s_is_possible
  d_can_be_order : Fd K mg "can_be_order" s_can_be_order
  d_choice_for : Fd K mg "choice_for" s_choice_for
  d_next_places : Fd K mg "next_places" s_next_places
  d_ways_from : Fd K mg "ways_from" s_ways_from
  d_order_at : Fd K mg "order_at" s_order_at
  d_rank_of_order : Fd K mg "rank_of_order" s_rank_of_order
  d_checked_facts : FdA K mg "checked_facts" "checked" s_checked_facts
  d_with_sum : Fd K mg "with_sum" s_with_sum
  d_narrowed : Fd K mg "narrowed" s_narrowed
  d_with_pairs : Fd K mg "with_pairs" s_with_pairs
  d_can_be_pairs : Fd K mg "can_be_pairs" s_can_be_pairs
  d_with_value : Fd K mg "with_value" s_with_value
  d_met : Fd K mg "met" s_met
  d_as_fractions : Fd K mg "as_fractions" s_as_fractions
  d_figure_range : Fd K mg "figure_range" s_figure_range
  d_check_figure : Fd K mg "check_figure" s_check_figure
  d_best_figures : Fd K mg "best_figures" s_best_figures
  d_checked_changing : FdA K mg "checked_changing" "checked" s_checked_changing
  d_moved : Fd K mg "moved" s_moved
  d_scaled : Fd K mg "scaled" s_scaled
  d_widened : Fd K mg "widened" s_widened
  d_added : Fd K mg "added" s_added
  d_with_bound : Fd K mg "with_bound" s_with_bound
  d_without_value : Fd K mg "without_value" s_without_value
  d_renamed : Fd K mg "renamed" s_renamed
  d_format_bounds : Fd K mg "format_bounds" s_format_bounds
  d__law_start : Fd K mg "_law_start" s__law_start
  d__law_draw : Fd K mg "_law_draw" s__law_draw
  d__law_pick : Fd K mg "_law_pick" s__law_pick
  d__law_bounds : Fd K mg "_law_bounds" s__law_bounds
  d__law_more : Fd K mg "_law_more" s__law_more
  d_law : Fd K mg "law" s_law
  n_abs : mg "abs" = none
  n_all : mg "all" = none
  n_any : mg "any" = none
  n_bool : mg "bool" = none
  n_enumerate : mg "enumerate" = none
  n_int : mg "int" = none
  n_isinstance : mg "isinstance" = none
  n_len : mg "len" = none
  n_list : mg "list" = none
  n_max : mg "max" = none
  n_min : mg "min" = none
  n_range : mg "range" = none
  n_sorted : mg "sorted" = none
  n_str : mg "str" = none
  n_sum : mg "sum" = none
  n_tuple : mg "tuple" = none
  n_zip : mg "zip" = none
  d_Teller___init__ : Md K "Teller" "__init__" "Teller.__init__" s_Teller___init__
  d_Teller_tell : Md K "Teller" "tell" "Teller.tell" s_Teller_tell
  d_Teller_bounds : Md K "Teller" "bounds" "Teller.bounds" s_Teller_bounds
  d_Teller_known : Md K "Teller" "known" "Teller.known" s_Teller_known
  d_Teller_undo : Md K "Teller" "undo" "Teller.undo" s_Teller_undo
  d_Teller___len__ : Md K "Teller" "__len__" "Teller.__len__" s_Teller___len__
  k_Teller : Kls K mg "Teller" ["now", "past"]
  m_Teller : Mk K (He.ga K "Teller") (He.ma K (He.ga K "Teller") "__init__")
  x : ErrsL K mg ["BadBounds", "BadNumber", "BadOrder", "NotFound"]
  c_FIGURES : ∃ a, mg "FIGURES" = some (.ref a) ∧ ∀ H, Rp.rep K H (.ref a) (Tp.mk ["sum", "mean", "median", "least", "greatest"] : Tp Str)
  c_MOST_BOUND : ∃ t, mg "MOST_BOUND" = some (.int 50 t)
  c_MOST_VALUES : ∃ t, mg "MOST_VALUES" = some (.int 7 t)
section
variable {P : Program} {w : World} {K : Fg} {mg : Str → Option Value} {base : Heap}
def m_is_int (x0 : Int) (x1 : Int) (x2 : Int) : Bool := (true && ((!false) && ((decide (x1 ≤ x0)) && (decide (x0 ≤ x2)))))
theorem ok_is_int (T : Txt K mg) : Ok P w K mg base CX0 1 "is_int" ["value", "low", "high"] (sp3 K ((fun _ _ _ => True) : Int → Int → Int → Prop) m_is_int) := by
  refine ok_of T.d_is_int sc_is_int (bi3 fun _ _ _ _ _ _ _ _ _ => rfl) len_sp3 (fun f cdv A outer s H vs Q E hr h => ?_)
  have nd := sc_is_int.nd
  obtain ⟨v0, v1, v2, x0, x1, x2, rfl, r0, r1, r2, hp, q⟩ := h
  refine ⟨_, (pss_one (ps_ret (pe_and (pe_callB (k_isi K rfl) (by rfl) T.n_isinstance (by decide +kernel) (pa_cons (pv 0) (pa_cons (pe_bltn (v := .ty "int") (by rfl) T.n_int (by decide +kernel) rfl) pa_nil))) (pe_and (pe_not (pe_callB (k_isi K rfl) (by rfl) T.n_isinstance (by decide +kernel) (pa_cons (pv 0) (pa_cons (pe_bltn (v := .ty "bool") (by rfl) T.n_bool (by decide +kernel) rfl) pa_nil)))) (pe_one (pe_chain op_le op_le (pv 1) (pv 0) (pv 2))))))), ?_⟩
  exact s_ret (K := K) (er_andV (er_isi (b := true) (er_var rfl r0) (show kitB "int" "int" = some true from by decide)) (fun hsc => (er_andV (er_notV (er_isi (b := false) (er_var rfl r0) (show kitB "int" "bool" = some false from by decide))) (fun hsc => (er_chain (er_var rfl r1) (er_var rfl r0) (er_var rfl r2) rr_le rr_le))))) (fun u _ e1193 rr => q u _ e1193 rr)
def m_is_bound (x0 : (Int × Int)) : Bool := (if ((!true) || (!(decide ((2 : Int) = (2 : Int))))) = true then false else ((m_is_int x0.1 (-(50 : Int)) (50 : Int)) && (m_is_int x0.2 x0.1 (50 : Int))))
theorem ok_is_bound (T : Txt K mg) : Ok P w K mg base CX0 2 "is_bound" ["value"] (sp1 K ((fun _ => True) : (Int × Int) → Prop) m_is_bound) := by
  refine ok_of T.d_is_bound sc_is_bound (bi1 fun _ _ _ _ _ _ _ => rfl) len_sp1 (fun f cdv A outer s H vs Q E hr h => ?_)
  have nd := sc_is_bound.nd
  obtain ⟨v0, x0, rfl, r0, hp, q⟩ := h
  refine ⟨_, (pss_cons (ps_if (PW.pt (pw_or (pt_not (pt_val (pe_callB (k_isi K rfl) (by rfl) T.n_isinstance (by decide +kernel) (pa_cons (pv 0) (pa_cons (pe_bltn (v := .ty "tuple") (by rfl) T.n_tuple (by decide +kernel) rfl) pa_nil))))) (pw_or1 (pt_cmpR op_ne (pe_callB (k_len K rfl) (by rfl) T.n_len PySem.boot_len (pa_cons (pv 0) pa_nil)) pe_int (nomark _))))) (pss_one (ps_ret pe_bl)) pss_nil)
      (pss_one (ps_ret (pe_and (pe_fn (ok_is_int T) (hr.mono (by decide)) pass0 (pa_cons (pe_ix (k_ixt K rfl) (pv 0) pe_int (fun _ _ => rfl)) (pa_cons (pe_un un_neg (pe_gint T.c_MOST_BOUND)) (pa_cons (pe_gint T.c_MOST_BOUND) pa_nil)))) (pe_one (pe_fn (ok_is_int T) (hr.mono (by decide)) pass0 (pa_cons (pe_ix (k_ixt K rfl) (pv 0) pe_int (fun _ _ => rfl)) (pa_cons (pe_ix (k_ixt K rfl) (pv 0) pe_int (fun _ _ => rfl)) (pa_cons (pe_gint T.c_MOST_BOUND) pa_nil))))))))), ?_⟩
  refine q_when (K := K) (et_or (et_not (et_B (er_isi (b := true) (er_var rfl r0) (show kitB "tuple" "tuple" = some true from by decide)))) (fun hsc => (et_test (er_op (er_lenP (er_var rfl r0)) er_int rr_neI)))) (fun hc1195 _ e1194 => ?_) (fun hc1195 _ e1194 => ?_)
  ·
    exact s_ret (K := K) er_bl (fun u _ e1196 rr => q u _ (e1194.trans e1196) (by rw [(show m_is_bound x0 = false from by unfold m_is_bound; rw [if_pos hc1195])]; exact rr))
  ·
    exact s_ret (K := K) (er_andV (er_call3 (er_op (er_var rfl (Rp.mono (SF.of e1194) r0)) er_int rr_ixP0) (er_neg er_int) er_int trivial) (fun hsc => (er_call3 (er_op (er_var rfl (Rp.mono (SF.of e1194) r0)) er_int rr_ixP1) (er_op (er_var rfl (Rp.mono (SF.of e1194) r0)) er_int rr_ixP0) er_int trivial))) (fun u _ e1197 rr => q u _ (e1194.trans e1197) (by rw [(show m_is_bound x0 = ((m_is_int x0.1 (-(50 : Int)) (50 : Int)) && (m_is_int x0.2 x0.1 (50 : Int))) from by unfold m_is_bound; rw [if_neg (by rw [hc1195]; exact Bool.false_ne_true)])]; exact rr))
def m_is_bounds (x0 : (List (Int × Int))) : Bool := (if ((!true) || (!((decide ((1 : Int) ≤ ((x0.length : Nat) : Int))) && (decide (((x0.length : Nat) : Int) ≤ (7 : Int)))))) = true then false else ((x0.map (fun (x1207 : (Int × Int)) => (m_is_bound x1207))).all id))
theorem ok_is_bounds (T : Txt K mg) : Ok P w K mg base CX0 3 "is_bounds" ["value"] (sp1 K ((fun b => b.length ≤ 100000) : (List (Int × Int)) → Prop) m_is_bounds) := by
  refine ok_of T.d_is_bounds sc_is_bounds (bi1 fun _ _ _ _ _ _ _ => rfl) len_sp1 (fun f cdv A outer s H vs Q E hr h => ?_)
  have nd := sc_is_bounds.nd
  obtain ⟨v0, x0, rfl, r0, hp, q⟩ := h
  refine ⟨_, (pss_cons (ps_if (PW.pt (pw_or (pt_not (pt_val (pe_callB (k_isi K rfl) (by rfl) T.n_isinstance (by decide +kernel) (pa_cons (pv 0) (pa_cons (pe_bltn (v := .ty "list") (by rfl) T.n_list (by decide +kernel) rfl) pa_nil))))) (pw_or1 (pt_not (pt_chain op_le op_le pe_int (pe_callB (k_len K rfl) (by rfl) T.n_len PySem.boot_len (pa_cons (pv 0) pa_nil)) (pe_gint T.c_MOST_VALUES)))))) (pss_one (ps_ret pe_bl)) pss_nil)
      (pss_one (ps_ret (pe_callB (k_all K rfl rfl) (by rfl) T.n_all (by decide +kernel) (pa_cons (pe_frz (pe_lc (own := [("one", 1)]) rfl nd (k_pl K rfl (pv 0)) (blkOk_by (N := N_is_bounds) (sc := defScope s_is_bounds) (by decide +kernel)) (fun _ _ _ _ _ => (pg_name (i := 1) nd rfl (.inl rfl) (.inr rfl))) (fun _ _ _ _ _ => pts_nil) (fun _ _ _ _ _ => (pe_fn (ok_is_bound T) (hr.mono (by decide)) pass0 (pa_cons (pv 1) pa_nil))))) pa_nil))))), ?_⟩
  refine q_when (K := K) (et_or (et_not (et_B (er_isi (b := true) (er_var rfl r0) (show kitB "list" "list" = some true from by decide)))) (fun hsc => (et_not (et_test (er_chain er_int (er_up (er_len (er_var rfl r0))) er_int rr_le rr_le))))) (fun hc1204 _ e1203 => ?_) (fun hc1204 _ e1203 => ?_)
  ·
    exact s_ret (K := K) er_bl (fun u _ e1205 rr => q u _ (e1203.trans e1205) (by rw [(show m_is_bounds x0 = false from by unfold m_is_bounds; rw [if_pos hc1204])]; exact rr))
  ·
    exact s_ret (K := K) (er_all (er_frz (erl_lm1 (f := fun (x1207 : (Int × Int)) => (m_is_bound x1207)) (src_list (er_var rfl (Rp.mono (SF.of e1203) r0))) (by first | omega | (have := hp.2.1; omega) | (have := hp.1.2.1; omega)) (by intros; rfl) (fun x1207 hx1208 v1209 _ e1206 r1210 => (er_call1 (er_var rfl r1210) trivial))))) (fun u _ e1211 rr => q u _ (e1203.trans e1211) (by rw [(show m_is_bounds x0 = ((x0.map (fun (x1207 : (Int × Int)) => (m_is_bound x1207))).all id) from by unfold m_is_bounds; rw [if_neg (by rw [hc1204]; exact Bool.false_ne_true)])]; exact rr))
theorem isBounds_ok {b : List (Int × Int)} (h : BOk b) : m_is_bounds b = true := by
  unfold m_is_bounds m_is_bound m_is_int
  simp only [Bool.not_true, Bool.false_or, Bool.not_false]
  rw [if_neg]
  · rw [List.all_map, List.all_eq_true]
    intro p hp
    have := h.2.2 p hp
    simp; omega
  · have := h.1; have := h.2.1
    simp; omega
theorem ok_check_bounds (T : Txt K mg) : Ok P w K mg base CX0 4 "check_bounds" ["value"] (sp1 K ((fun b => BOk b) : (List (Int × Int)) → Prop) (fun _ => ())) := by
  refine ok_of T.d_check_bounds sc_check_bounds (bi1 fun _ _ _ _ _ _ _ => rfl) len_sp1 (fun f cdv A outer s H vs Q E hr h => ?_)
  have nd := sc_check_bounds.nd
  obtain ⟨v0, x0, rfl, r0, hp, q⟩ := h
  refine ⟨_, (pss_one (ps_if (pt_not (pt_val (pe_fn (ok_is_bounds T) (hr.mono (by decide)) pass0 (pa_cons (pv 0) pa_nil)))) (pss_one ps_never) pss_nil)), ?_⟩
  refine s_if (K := K) (et_not (et_B (er_call1 (er_var rfl r0) (by have := hp.2.1; omega)))) (fun hc _ _ => ?_) (fun _ _ e => ?_)
  · rw [isBounds_ok hp] at hc; cases hc
  · exact q .non _ e rfl
theorem ok_check_place (T : Txt K mg) : Ok P w K mg base CX0 2 "check_place" ["bounds", "value"] (sp2 K ((fun b k => b.length ≤ 100000 ∧ 0 ≤ k ∧ k < b.length) : (List (Int × Int)) → Int → Prop) (fun _ _ => ())) := by
  refine ok_of T.d_check_place sc_check_place (bi2 fun _ _ _ _ _ _ _ _ => rfl) len_sp2 (fun f cdv A outer s H vs Q E hr h => ?_)
  have nd := sc_check_place.nd
  obtain ⟨v0, v1, x0, x1, rfl, r0, r1, hp, q⟩ := h
  refine ⟨_, (pss_one (ps_if (pt_not (pt_val (pe_fn (ok_is_int T) (hr.mono (by decide)) pass0 (pa_cons (pv 1) (pa_cons pe_int (pa_cons (pe_op op_sub (pe_callB (k_len K rfl) (by rfl) T.n_len PySem.boot_len (pa_cons (pv 0) pa_nil)) pe_int) pa_nil)))))) (pss_one ps_never) pss_nil)), ?_⟩
  refine s_not (K := K) (et_not (et_B (er_call3 (er_var rfl r1) er_int (er_op (er_up (er_len (er_var rfl r0))) er_int rr_sub) trivial))) (by
    have := hp.2.1; have := hp.2.2
    simp [m_is_int]; omega) (fun _ e => q .non _ e rfl)
theorem ok_check_pairs (T : Txt K mg) : Ok P w K mg base CX0 2 "check_pairs" ["bounds", "value"] (sp2 K ((fun b p => BOk b ∧ p.length ≤ 42 ∧ ∀ t ∈ p, (0 ≤ t.1 ∧ t.1 < b.length) ∧ (0 ≤ t.2 ∧ t.2 < b.length) ∧ t.1 ≠ t.2) : (List (Int × Int)) → (List (Int × Int)) → Prop) (fun _ _ => ())) := by
  refine ok_of T.d_check_pairs sc_check_pairs (bi2 fun _ _ _ _ _ _ _ _ => rfl) len_sp2 (fun f cdv A outer s H vs Q E hr h => ?_)
  have nd := sc_check_pairs.nd
  obtain ⟨v0, v1, x0, x1, rfl, r0, r1, hp, q⟩ := h
  refine ⟨_, (pss_cons (ps_if (PW.pt (pw_or (pt_not (pt_val (pe_callB (k_isi K rfl) (by rfl) T.n_isinstance (by decide +kernel) (pa_cons (pv 1) (pa_cons (pe_bltn (v := .ty "list") (by rfl) T.n_list (by decide +kernel) rfl) pa_nil))))) (pw_or1 (pt_cmpR op_gt (pe_callB (k_len K rfl) (by rfl) T.n_len PySem.boot_len (pa_cons (pv 1) pa_nil)) pe_int (nomark _))))) (pss_one ps_never) pss_nil)
      (pss_one (ps_for PassesOwn.never rfl (k_pl K rfl (pv 1)) (pg_name (i := 2) nd rfl (.inl rfl) (.inr rfl)) (pss_cons (ps_if (PW.pt (pw_or (pt_not (pt_val (pe_callB (k_isi K rfl) (by rfl) T.n_isinstance (by decide +kernel) (pa_cons (pv 2) (pa_cons (pe_bltn (v := .ty "tuple") (by rfl) T.n_tuple (by decide +kernel) rfl) pa_nil))))) (pw_or (pt_cmpR op_ne (pe_callB (k_len K rfl) (by rfl) T.n_len PySem.boot_len (pa_cons (pv 2) pa_nil)) pe_int (nomark _)) (pw_or1 (pt_not (pt_val (pe_callB (k_all K rfl rfl) (by rfl) T.n_all (by decide +kernel) (pa_cons (pe_frz (pe_lc (own := [("k", 3)]) rfl nd (k_pt K rfl (pv 2)) (blkOk_by (N := N_check_pairs) (sc := defScope s_check_pairs) (by decide +kernel)) (fun _ _ _ _ _ => (pg_name (i := 3) nd rfl (.inl rfl) (.inr rfl))) (fun _ _ _ _ _ => pts_nil) (fun _ _ _ _ _ => (pe_fn (ok_is_int T) (hr.mono (by decide)) pass0 (pa_cons (pv 3) (pa_cons pe_int (pa_cons (pe_op op_sub (pe_callB (k_len K rfl) (by rfl) T.n_len PySem.boot_len (pa_cons (pv 0) pa_nil)) pe_int) pa_nil))))))) pa_nil)))))))) (pss_one ps_never) pss_nil)
      (pss_one (ps_if (pt_cmpR op_eq (pe_ix (k_ixt K rfl) (pv 2) pe_int (fun _ _ => rfl)) (pe_ix (k_ixt K rfl) (pv 2) pe_int (fun _ _ => rfl)) (nomark _)) (pss_one ps_never) pss_nil)))))), ?_⟩
  refine q_not (K := K) (et_or (et_not (et_B (er_isi (b := true) (er_var rfl r1) (show kitB "list" "list" = some true from by decide)))) (fun hsc => (et_test (er_op (er_up (er_len (er_var rfl r1))) er_int rr_gt)))) (by first | (have := hp.2.1; simp; omega) | (have h := hp.2.2 _ (by assumption); simp [m_is_int]; omega) | (have h := hp.2.2 _ (by assumption); exact decide_eq_false h.2.2)) (fun _ e1217 => ?_)
  refine q_last ?_
  -- for pair in value
  refine q_for (K := K) (src_list (er_var rfl (Rp.mono (SF.of e1217) r1))) (fun H1 k σ' H' => ∃ (y1219 : Option V), σ' = [some v0, some v1, y1219, none] ∧ Mus [] H1 H') (fun H1 e => ⟨_, rfl, Mus.refl _⟩) (fun _ _ _ _ h => by obtain ⟨_, _, m⟩ := h; exact m.sf) (fun H1 k1226 pair_l1 σ' H' vpair_l1 _ e1223 hx1222 hP e1224 rpair_l1 => ?_) (fun H1 σ' H' e1223 hP => ?_)
  ·
    obtain ⟨y1219, rfl, m1225⟩ := hP
    refine s_gn ?_
    have hpair_l1 := List.mem_of_getElem? hx1222
    have r1228 := (Rp.mono ((((SF.of e1217).trans (SF.of e1223)).trans m1225.sf).trans (SF.of e1224)) r0)
    have r1229 := (Rp.mono ((((SF.of e1217).trans (SF.of e1223)).trans m1225.sf).trans (SF.of e1224)) r1)
    refine q_not (K := K) (et_or (et_not (et_B (er_isi (b := true) (er_var rfl rpair_l1) (show kitB "tuple" "tuple" = some true from by decide)))) (fun hsc => (et_or (et_test (er_op (er_lenP (er_var rfl rpair_l1)) er_int rr_neI)) (fun hsc => (et_not (et_B (er_all (er_frz (erl_lm1 (f := fun (x1231 : Int) => (m_is_int x1231 (0 : Int) (((x0.length : Nat) : Int) - (1 : Int)))) (src_two (er_var rfl rpair_l1)) (by have := hp.2.1; first | omega | (simp; done)) (by intros; rfl) (fun x1231 hx1232 v1233 _ e1230 r1234 => (er_call3 (er_var rfl r1234) er_int (er_op (er_up (er_len (er_var rfl (Rp.mono (SF.of e1230) r1228)))) er_int rr_sub) trivial))))))))))) (by first | (have := hp.2.1; simp; omega) | (have h := hp.2.2 _ (by assumption); simp [m_is_int]; omega) | (have h := hp.2.2 _ (by assumption); exact decide_eq_false h.2.2)) (fun _ e1235 => ?_)
    refine q_last ?_
    refine q_not (K := K) (et_test (er_op (er_op (er_var rfl (Rp.mono (SF.of e1235) rpair_l1)) er_int rr_ixP0) (er_op (er_var rfl (Rp.mono (SF.of e1235) rpair_l1)) er_int rr_ixP1) rr_eqI)) (by first | (have := hp.2.1; simp; omega) | (have h := hp.2.2 _ (by assumption); simp [m_is_int]; omega) | (have h := hp.2.2 _ (by assumption); exact decide_eq_false h.2.2)) (fun _ e1236 => ?_)
    refine s_nx ?_
    exact ⟨_, rfl, ((((Mus.baseS (Mus.refl _) m1225 all0).trans (Mus.of e1224)).trans (Mus.of e1235)).trans (Mus.of e1236))⟩
  ·
    obtain ⟨y1219, rfl, m1225⟩ := hP
    refine s_nx ?_
    exact q .non _ (Mus.same0 (Mus.baseS (((Mus.refl _).trans (Mus.of e1217)).trans (Mus.of e1223)) m1225 all0)) rfl
theorem ok_common_divisor (T : Txt K mg) : Ok P w K mg base CX0 1 "common_divisor" ["one", "other"] (sp2 K ((fun _ _ => True) : Int → Int → Prop) gcdI) := by
  refine ok_of T.d_common_divisor sc_common_divisor (bi2 fun _ _ _ _ _ _ _ _ => rfl) len_sp2 (fun f cdv A outer s H vs Q E hr h => ?_)
  have nd := sc_common_divisor.nd
  obtain ⟨v0, v1, x0, x1, rfl, r0, r1, hp, q⟩ := h
  refine ⟨_, (pss_cons (ps_par (i := 0) (j := 1) (by rfl) nd rfl rfl (by decide) rfl rfl (pa_cons (pe_callB call_abs (by rfl) T.n_abs (by decide +kernel) (pa_cons (pv 0) pa_nil)) (pa_cons (pe_callB call_abs (by rfl) T.n_abs (by decide +kernel) (pa_cons (pv 1) pa_nil)) pa_nil)) (by rfl))
      (pss_cons (ps_while PassesOwn.never (pt_cmpR op_ne (pv 1) pe_int (nomark _)) (pss_one (ps_par (i := 0) (j := 1) (by rfl) nd rfl rfl (by decide) rfl rfl (pa_cons (pv 1) (pa_cons (pe_op op_mod (pv 0) (pv 1)) pa_nil)) (by rfl))))
      (pss_one (ps_ret (pv 0))))), ?_⟩
  refine q_par (K := K) (er_abs (er_var rfl r0)) (er_abs (er_var rfl r1)) (fun v u H1 e1 ra rb => ?_)
  cases (show v = .int (iabs x0) from ra); cases (show u = .int (iabs x1) from rb)
  refine q_while (K := K) (fun σ' H' => ∃ a b : Nat, σ' = [some (.int a), some (.int b)] ∧ Same H H' ∧ Nat.gcd a b = Int.gcd x0 x1) (fun σ' _ => match σ' with | [_, some (.int b)] => b.toNat | _ => 0) ⟨x0.natAbs, x1.natAbs, by rw [iabs_nat, iabs_nat]; rfl, e1, rfl⟩ (fun σ' H' hW => ?_)
  obtain ⟨a, b, rfl, e, hg⟩ := hW
  refine ⟨!decide ((b : Int) = 0), et_test (er_op (er_var (x := (b : Int)) rfl rfl) er_int rr_neI), fun hb H2 e2 => ?_, fun hb H2 e2 => ?_⟩
  · have hb0 : b ≠ 0 := by intro z; subst z; simp at hb
    refine s_par (K := K) (er_var (x := (b : Int)) rfl rfl) (er_op (er_var (x := (a : Int)) rfl rfl) (er_var (x := (b : Int)) rfl rfl) (rr_mod (by omega))) (fun v u H3 e3 r1 r2 => ?_)
    cases (show v = .int (b : Int) from r1); cases (show u = .int ((a : Int) % (b : Int)) from r2)
    refine ⟨⟨b, a % b, by rw [nat_mod_int]; rfl, e.trans (e2.trans e3), by rw [gcd_turn hb0]; exact hg⟩, ?_⟩
    show ((a : Int) % (b : Int)).toNat < (b : Int).toNat
    have := Nat.mod_lt a (Nat.pos_of_ne_zero hb0)
    rw [nat_mod_int]; omega
  · have hb0 : b = 0 := by have := of_decide_eq_true (show decide ((b : Int) = 0) = true by simpa using hb); omega
    subst hb0
    rw [Nat.gcd_zero_right] at hg
    exact s_ret (K := K) (er_var (x := (a : Int)) rfl rfl) (fun u H3 e3 rr => q u _ (e.trans (e2.trans e3)) (by rw [show gcdI x0 x1 = (a : Int) from by unfold gcdI; omega]; exact rr))
theorem ok_lowest (T : Txt K mg) : Ok P w K mg base CX0 2 "lowest" ["top", "below"] (sp2 K ((fun _ b => 0 < b ∧ b.natAbs < 2 ^ 4000) : Int → Int → Prop) frI) := by
  refine ok_of T.d_lowest sc_lowest (bi2 fun _ _ _ _ _ _ _ _ => rfl) len_sp2 (fun f cdv A outer s H vs Q E hr h => ?_)
  have nd := sc_lowest.nd
  obtain ⟨v0, v1, x0, x1, rfl, r0, r1, hp, q⟩ := h
  refine ⟨_, (pss_cons (ps_set (i := 2) nd rfl (.inl rfl) (pe_fn (ok_common_divisor T) (hr.mono (by decide)) pass0 (pa_cons (pv 0) (pa_cons (pv 1) pa_nil))))
      (pss_one (ps_ret (pe_tup (pa_cons (pe_op op_fdivW (pv 0) (pv 2)) (pa_cons (pe_op op_fdivW (pv 1) (pv 2)) pa_nil)))))), ?_⟩
  refine q_set (K := K) (er_call2 (er_var rfl r0) (er_var rfl r1) trivial) (fun v1239 _ e1237 r1238 => ?_)
  exact s_ret (K := K) (er_pair (er_op (er_var rfl (Rp.mono (SF.of e1237) r0)) (er_var rfl r1238) (rr_divW (by exact gcd_div hp))) (er_op (er_var rfl (Rp.mono (SF.of e1237) r1)) (er_var rfl r1238) (rr_divW (by exact gcd_div hp)))) (fun u _ e1240 rr => q u _ (e1237.trans e1240) rr)
theorem ok_plus (T : Txt K mg) : Ok P w K mg base CX0 3 "plus" ["one", "other"] (sp2 K ((fun p q => Sz 2000 p ∧ Sz 2000 q) : (Int × Int) → (Int × Int) → Prop) pls) := by
  refine ok_of T.d_plus sc_plus (bi2 fun _ _ _ _ _ _ _ _ => rfl) len_sp2 (fun f cdv A outer s H vs Q E hr h => ?_)
  have nd := sc_plus.nd
  obtain ⟨v0, v1, x0, x1, rfl, r0, r1, hp, q⟩ := h
  refine ⟨_, (pss_one (ps_ret (pe_fn (ok_lowest T) (hr.mono (by decide)) pass0 (pa_cons (pe_op op_add (pe_op op_mulW (pe_ix (k_ixt K rfl) (pv 0) pe_int (fun _ _ => rfl)) (pe_ix (k_ixt K rfl) (pv 1) pe_int (fun _ _ => rfl))) (pe_op op_mulW (pe_ix (k_ixt K rfl) (pv 1) pe_int (fun _ _ => rfl)) (pe_ix (k_ixt K rfl) (pv 0) pe_int (fun _ _ => rfl)))) (pa_cons (pe_op op_mulW (pe_ix (k_ixt K rfl) (pv 0) pe_int (fun _ _ => rfl)) (pe_ix (k_ixt K rfl) (pv 1) pe_int (fun _ _ => rfl))) pa_nil))))), ?_⟩
  exact s_ret (K := K) (er_call2 (er_op (er_op (er_op (er_var rfl r0) er_int rr_ixP0) (er_op (er_var rfl r1) er_int rr_ixP1) (rr_mulW (by first | exact cmulW hp.1.2.2 hp.2.2.1 (by decide) (by decide) | exact cmulW hp.2.2.2 hp.1.2.1 (by decide) (by decide) | exact cmulW hp.1.2.1 hp.2.2.1 (by decide) (by decide) | exact cmulW hp.1.2.2 hp.2.2.2 (by decide) (by decide)))) (er_op (er_op (er_var rfl r1) er_int rr_ixP0) (er_op (er_var rfl r0) er_int rr_ixP1) (rr_mulW (by first | exact cmulW hp.1.2.2 hp.2.2.1 (by decide) (by decide) | exact cmulW hp.2.2.2 hp.1.2.1 (by decide) (by decide) | exact cmulW hp.1.2.1 hp.2.2.1 (by decide) (by decide) | exact cmulW hp.1.2.2 hp.2.2.2 (by decide) (by decide)))) rr_add) (er_op (er_op (er_var rfl r0) er_int rr_ixP1) (er_op (er_var rfl r1) er_int rr_ixP1) (rr_mulW (by first | exact cmulW hp.1.2.2 hp.2.2.1 (by decide) (by decide) | exact cmulW hp.2.2.2 hp.1.2.1 (by decide) (by decide) | exact cmulW hp.1.2.1 hp.2.2.1 (by decide) (by decide) | exact cmulW hp.1.2.2 hp.2.2.2 (by decide) (by decide)))) (by exact sz_pre hp.1 hp.2 (by decide))) (fun u _ e1241 rr => q u _ e1241 rr)
def m_minus (x0 : (Int × Int)) (x1 : (Int × Int)) : (Int × Int) := (pls x0 ((-x1.1), x1.2))
theorem ok_minus (T : Txt K mg) : Ok P w K mg base CX0 4 "minus" ["one", "other"] (sp2 K ((fun p q => Sz 1900 p ∧ Sz 1900 q) : (Int × Int) → (Int × Int) → Prop) m_minus) := by
  refine ok_of T.d_minus sc_minus (bi2 fun _ _ _ _ _ _ _ _ => rfl) len_sp2 (fun f cdv A outer s H vs Q E hr h => ?_)
  have nd := sc_minus.nd
  obtain ⟨v0, v1, x0, x1, rfl, r0, r1, hp, q⟩ := h
  refine ⟨_, (pss_one (ps_ret (pe_fn (ok_plus T) (hr.mono (by decide)) pass0 (pa_cons (pv 0) (pa_cons (pe_tup (pa_cons (pe_un un_neg (pe_ix (k_ixt K rfl) (pv 1) pe_int (fun _ _ => rfl))) (pa_cons (pe_ix (k_ixt K rfl) (pv 1) pe_int (fun _ _ => rfl)) pa_nil))) pa_nil))))), ?_⟩
  exact s_ret (K := K) (er_call2 (er_var rfl r0) (er_pair (er_neg (er_op (er_var rfl r1) er_int rr_ixP0)) (er_op (er_var rfl r1) er_int rr_ixP1)) (by exact ⟨hp.1.le (by decide), sz_neg (hp.2.le (by decide))⟩)) (fun u _ e1242 rr => q u _ e1242 rr)
theorem ok_times (T : Txt K mg) : Ok P w K mg base CX0 3 "times" ["one", "other"] (sp2 K ((fun p q => Sz 2000 p ∧ Sz 2000 q) : (Int × Int) → (Int × Int) → Prop) tms) := by
  refine ok_of T.d_times sc_times (bi2 fun _ _ _ _ _ _ _ _ => rfl) len_sp2 (fun f cdv A outer s H vs Q E hr h => ?_)
  have nd := sc_times.nd
  obtain ⟨v0, v1, x0, x1, rfl, r0, r1, hp, q⟩ := h
  refine ⟨_, (pss_one (ps_ret (pe_fn (ok_lowest T) (hr.mono (by decide)) pass0 (pa_cons (pe_op op_mulW (pe_ix (k_ixt K rfl) (pv 0) pe_int (fun _ _ => rfl)) (pe_ix (k_ixt K rfl) (pv 1) pe_int (fun _ _ => rfl))) (pa_cons (pe_op op_mulW (pe_ix (k_ixt K rfl) (pv 0) pe_int (fun _ _ => rfl)) (pe_ix (k_ixt K rfl) (pv 1) pe_int (fun _ _ => rfl))) pa_nil))))), ?_⟩
  exact s_ret (K := K) (er_call2 (er_op (er_op (er_var rfl r0) er_int rr_ixP0) (er_op (er_var rfl r1) er_int rr_ixP0) (rr_mulW (by first | exact cmulW hp.1.2.2 hp.2.2.1 (by decide) (by decide) | exact cmulW hp.2.2.2 hp.1.2.1 (by decide) (by decide) | exact cmulW hp.1.2.1 hp.2.2.1 (by decide) (by decide) | exact cmulW hp.1.2.2 hp.2.2.2 (by decide) (by decide)))) (er_op (er_op (er_var rfl r0) er_int rr_ixP1) (er_op (er_var rfl r1) er_int rr_ixP1) (rr_mulW (by first | exact cmulW hp.1.2.2 hp.2.2.1 (by decide) (by decide) | exact cmulW hp.2.2.2 hp.1.2.1 (by decide) (by decide) | exact cmulW hp.1.2.1 hp.2.2.1 (by decide) (by decide) | exact cmulW hp.1.2.2 hp.2.2.2 (by decide) (by decide)))) (by exact sz_pre hp.1 hp.2 (by decide))) (fun u _ e1243 rr => q u _ e1243 rr)
def m_less (x0 : (Int × Int)) (x1 : (Int × Int)) : Bool := (decide ((x0.1 * x1.2) < (x1.1 * x0.2)))
theorem ok_less (T : Txt K mg) : Ok P w K mg base CX0 1 "less" ["one", "other"] (sp2 K ((fun p q => Sz 2000 p ∧ Sz 2000 q) : (Int × Int) → (Int × Int) → Prop) m_less) := by
  refine ok_of T.d_less sc_less (bi2 fun _ _ _ _ _ _ _ _ => rfl) len_sp2 (fun f cdv A outer s H vs Q E hr h => ?_)
  have nd := sc_less.nd
  obtain ⟨v0, v1, x0, x1, rfl, r0, r1, hp, q⟩ := h
  refine ⟨_, (pss_one (ps_ret (pe_cmpR op_lt (pe_op op_mulW (pe_ix (k_ixt K rfl) (pv 0) pe_int (fun _ _ => rfl)) (pe_ix (k_ixt K rfl) (pv 1) pe_int (fun _ _ => rfl))) (pe_op op_mulW (pe_ix (k_ixt K rfl) (pv 1) pe_int (fun _ _ => rfl)) (pe_ix (k_ixt K rfl) (pv 0) pe_int (fun _ _ => rfl))) (nomark _)))), ?_⟩
  exact s_ret (K := K) (er_op (er_op (er_op (er_var rfl r0) er_int rr_ixP0) (er_op (er_var rfl r1) er_int rr_ixP1) (rr_mulW (by first | exact cmulW hp.1.2.2 hp.2.2.1 (by decide) (by decide) | exact cmulW hp.2.2.2 hp.1.2.1 (by decide) (by decide)))) (er_op (er_op (er_var rfl r1) er_int rr_ixP0) (er_op (er_var rfl r0) er_int rr_ixP1) (rr_mulW (by first | exact cmulW hp.1.2.2 hp.2.2.1 (by decide) (by decide) | exact cmulW hp.2.2.2 hp.1.2.1 (by decide) (by decide)))) rr_lt) (fun u _ e1244 rr => q u _ e1244 rr)
theorem tot_sz {l : List (Int × Int)} (h : l.length ≤ 8) (hp : ∀ p ∈ l, Sz 10 p) : Sz 100 (l.foldl (fun s x => pls s x) (0, 1)) := (sz_fold (g := fun x => x) sz_zero hp).le (by omega)
theorem sqs_sz {l : List (Int × Int)} (h : l.length ≤ 8) (hp : ∀ p ∈ l, Sz 10 p) : Sz 900 (l.foldl (fun s x => pls s (tms x x)) (0, 1)) := (sz_fold (g := fun x => tms x x) sz_zero (fun x hx => sz_tms (hp x hx) (hp x hx))).le (by omega)
def m_total (x0 : (List (Int × Int))) : (Int × Int) := (List.foldl (fun (s_l1 : (Int × Int)) (one_l1 : (Int × Int)) => ((pls s_l1 one_l1) : (Int × Int))) ((0 : Int), (1 : Int)) x0)
theorem ok_total (T : Txt K mg) : Ok P w K mg base CX0 4 "total" ["some"] (sp1 K ((fun l => l.length ≤ 8 ∧ ∀ p ∈ l, Sz 10 p) : (List (Int × Int)) → Prop) m_total) := by
  refine ok_of T.d_total sc_total (bi1 fun _ _ _ _ _ _ _ => rfl) len_sp1 (fun f cdv A outer s H vs Q E hr h => ?_)
  have nd := sc_total.nd
  obtain ⟨v0, x0, rfl, r0, hp, q⟩ := h
  refine ⟨_, (pss_cons (ps_set (i := 1) nd rfl (.inl rfl) (pe_tup (pa_cons pe_int (pa_cons pe_int pa_nil))))
      (pss_cons (ps_for PassesOwn.never rfl (k_pl K rfl (pv 0)) (pg_name (i := 2) nd rfl (.inl rfl) (.inr rfl)) (pss_one (ps_set (i := 1) nd rfl (.inl rfl) (pe_fn (ok_plus T) (hr.mono (by decide)) pass0 (pa_cons (pv 1) (pa_cons (pv 2) pa_nil))))))
      (pss_one (ps_ret (pv 1))))), ?_⟩
  refine q_set (K := K) (er_pair er_int er_int) (fun v1247 _ e1245 r1246 => ?_)
  -- for one in some
  refine q_for (K := K) (src_list (er_var rfl (Rp.mono (SF.of e1245) r0))) (fun H1 k σ' H' => ∃ (s_l1 : (Int × Int)) (w1249 : V) (y1250 : Option V), σ' = [some v0, some w1249, y1250] ∧ s_l1 = (List.take k x0).foldl (fun (s_l1 : (Int × Int)) (one_l1 : (Int × Int)) => ((pls s_l1 one_l1) : (Int × Int))) ((0 : Int), (1 : Int)) ∧ Mus [] H1 H' ∧ Rp.rep K H' w1249 s_l1) (fun H1 e => ⟨((0 : Int), (1 : Int)), _, _, rfl, rfl, Mus.refl _, (Rp.mono (SF.of e) r1246)⟩) (fun _ _ _ _ h => by obtain ⟨_, _, _, _, _, m, _⟩ := h; exact m.sf) (fun H1 k1257 one_l1 σ' H' vone_l1 _ e1254 hx1253 hP e1255 rone_l1 => ?_) (fun H1 σ' H' e1254 hP => ?_)
  ·
    obtain ⟨s_l1, w1249, y1250, rfl, hs1251, m1256, r1258⟩ := hP
    refine s_gn ?_
    have hone_l1 := List.mem_of_getElem? hx1253
    have hturn1 := hs1251
    refine q_last ?_
    have r1260 := (Rp.mono ((((SF.of e1245).trans (SF.of e1254)).trans m1256.sf).trans (SF.of e1255)) r0)
    refine q_set (K := K) (er_call2 (er_var rfl (Rp.mono (SF.of e1255) r1258)) (er_var rfl rone_l1) (by exact ⟨by rw [hturn1]; exact (sz_fold (g := fun x => x) sz_zero (fun x hx => hp.2 x (List.mem_of_mem_take hx))).le (by rw [List.length_take]; have := hp.1; omega), (hp.2 _ hone_l1).le (by decide)⟩)) (fun v1263 _ e1261 r1262 => ?_)
    refine s_nx ?_
    exact ⟨(pls s_l1 one_l1), _, _, rfl, (fold_step hx1253 hs1251), (((Mus.baseS (Mus.refl _) m1256 all0).trans (Mus.of e1255)).trans (Mus.of e1261)), r1262⟩
  ·
    obtain ⟨s_l1, w1249, y1250, rfl, hs1251, m1256, r1258⟩ := hP
    replace hs1251 := fold_all hs1251
    subst hs1251
    exact s_ret (K := K) (er_var rfl r1258) (fun u _ e1264 rr => q u _ (Mus.same0 ((Mus.baseS (((Mus.refl _).trans (Mus.of e1245)).trans (Mus.of e1254)) m1256 all0).trans (Mus.of e1264))) rr)
theorem one_n8 {l : List (Int × Int)} (h0 : l ≠ []) (h : l.length ≤ 8) : Sz 8 ((1 : Int), (l.length : Int)) := ⟨by have := List.length_pos_iff.mpr h0; show (0 : Int) < (l.length : Int); omega, by show (l.length : Int).natAbs < 2 ^ 8; omega, (show (1 : Int).natAbs < 2 ^ 8 by decide)⟩
theorem one_n {l : List (Int × Int)} (h0 : l ≠ []) (h : l.length ≤ 8) : Sz 2000 ((1 : Int), (l.length : Int)) := (one_n8 h0 h).le (by decide)
def m_squares_about_mean (x0 : (List (Int × Int))) : (Int × Int) := (m_minus (List.foldl (fun (s_l1 : (Int × Int)) (one_l1 : (Int × Int)) => ((pls s_l1 (tms one_l1 one_l1)) : (Int × Int))) ((0 : Int), (1 : Int)) x0) (tms (tms (m_total x0) (m_total x0)) ((1 : Int), ((x0.length : Nat) : Int))))
theorem ok_squares_about_mean (T : Txt K mg) : Ok P w K mg base CX0 5 "squares_about_mean" ["some"] (sp1 K ((fun l => l ≠ [] ∧ l.length ≤ 8 ∧ ∀ p ∈ l, Sz 10 p) : (List (Int × Int)) → Prop) m_squares_about_mean) := by
  refine ok_of T.d_squares_about_mean sc_squares_about_mean (bi1 fun _ _ _ _ _ _ _ => rfl) len_sp1 (fun f cdv A outer s H vs Q E hr h => ?_)
  have nd := sc_squares_about_mean.nd
  obtain ⟨v0, x0, rfl, r0, hp, q⟩ := h
  refine ⟨_, (pss_cons (ps_set (i := 1) nd rfl (.inl rfl) (pe_fn (ok_total T) (hr.mono (by decide)) pass0 (pa_cons (pv 0) pa_nil)))
      (pss_cons (ps_set (i := 2) nd rfl (.inl rfl) (pe_tup (pa_cons pe_int (pa_cons pe_int pa_nil))))
      (pss_cons (ps_for PassesOwn.never rfl (k_pl K rfl (pv 0)) (pg_name (i := 3) nd rfl (.inl rfl) (.inr rfl)) (pss_one (ps_set (i := 2) nd rfl (.inl rfl) (pe_fn (ok_plus T) (hr.mono (by decide)) pass0 (pa_cons (pv 2) (pa_cons (pe_fn (ok_times T) (hr.mono (by decide)) pass0 (pa_cons (pv 3) (pa_cons (pv 3) pa_nil))) pa_nil))))))
      (pss_one (ps_ret (pe_fn (ok_minus T) (hr.mono (by decide)) pass0 (pa_cons (pv 2) (pa_cons (pe_fn (ok_times T) (hr.mono (by decide)) pass0 (pa_cons (pe_fn (ok_times T) (hr.mono (by decide)) pass0 (pa_cons (pv 1) (pa_cons (pv 1) pa_nil))) (pa_cons (pe_tup (pa_cons pe_int (pa_cons (pe_callB (k_len K rfl) (by rfl) T.n_len PySem.boot_len (pa_cons (pv 0) pa_nil)) pa_nil))) pa_nil))) pa_nil)))))))), ?_⟩
  refine q_set (K := K) (er_call1 (er_var rfl r0) (by exact hp.2)) (fun v1267 _ e1265 r1266 => ?_)
  refine q_set (K := K) (er_pair er_int er_int) (fun v1270 _ e1268 r1269 => ?_)
  -- for one in some
  refine q_for (K := K) (src_list (er_var rfl (Rp.mono ((SF.of e1265).trans (SF.of e1268)) r0))) (fun H1 k σ' H' => ∃ (s_l1 : (Int × Int)) (w1272 : V) (y1273 : Option V), σ' = [some v0, some v1267, some w1272, y1273] ∧ s_l1 = (List.take k x0).foldl (fun (s_l1 : (Int × Int)) (one_l1 : (Int × Int)) => ((pls s_l1 (tms one_l1 one_l1)) : (Int × Int))) ((0 : Int), (1 : Int)) ∧ Mus [] H1 H' ∧ Rp.rep K H' w1272 s_l1) (fun H1 e => ⟨((0 : Int), (1 : Int)), _, _, rfl, rfl, Mus.refl _, (Rp.mono (SF.of e) r1269)⟩) (fun _ _ _ _ h => by obtain ⟨_, _, _, _, _, m, _⟩ := h; exact m.sf) (fun H1 k1280 one_l1 σ' H' vone_l1 _ e1277 hx1276 hP e1278 rone_l1 => ?_) (fun H1 σ' H' e1277 hP => ?_)
  ·
    obtain ⟨s_l1, w1272, y1273, rfl, hs1274, m1279, r1281⟩ := hP
    refine s_gn ?_
    have hone_l1 := List.mem_of_getElem? hx1276
    have hturn1 := hs1274
    refine q_last ?_
    have r1283 := (Rp.mono (((((SF.of e1265).trans (SF.of e1268)).trans (SF.of e1277)).trans m1279.sf).trans (SF.of e1278)) r0)
    have r1284 := (Rp.mono ((((SF.of e1268).trans (SF.of e1277)).trans m1279.sf).trans (SF.of e1278)) r1266)
    refine q_set (K := K) (er_call2 (er_var rfl (Rp.mono (SF.of e1278) r1281)) (er_call2 (er_var rfl rone_l1) (er_var rfl rone_l1) (by first | exact ⟨(hp.2.2 _ hone_l1).le (by decide), (hp.2.2 _ hone_l1).le (by decide)⟩ | exact ⟨(tot_sz hp.2.1 hp.2.2).le (by decide), (tot_sz hp.2.1 hp.2.2).le (by decide)⟩ | exact ⟨(sz_tms (tot_sz hp.2.1 hp.2.2) (tot_sz hp.2.1 hp.2.2)).le (by decide), one_n hp.1 hp.2.1⟩)) (by exact ⟨by rw [hturn1]; exact (sqs_sz (by rw [List.length_take]; have := hp.2.1; omega) (fun x hx => hp.2.2 x (List.mem_of_mem_take hx))).le (by decide), (sz_tms (hp.2.2 _ hone_l1) (hp.2.2 _ hone_l1)).le (by decide)⟩)) (fun v1287 _ e1285 r1286 => ?_)
    refine s_nx ?_
    exact ⟨(pls s_l1 (tms one_l1 one_l1)), _, _, rfl, (fold_step hx1276 hs1274), (((Mus.baseS (Mus.refl _) m1279 all0).trans (Mus.of e1278)).trans (Mus.of e1285)), r1286⟩
  ·
    obtain ⟨s_l1, w1272, y1273, rfl, hs1274, m1279, r1281⟩ := hP
    replace hs1274 := fold_all hs1274
    subst hs1274
    have r1288 := (Rp.mono ((((SF.of e1265).trans (SF.of e1268)).trans (SF.of e1277)).trans m1279.sf) r0)
    exact s_ret (K := K) (er_call2 (er_var rfl r1281) (er_call2 (er_call2 (er_var rfl (Rp.mono (((SF.of e1268).trans (SF.of e1277)).trans m1279.sf) r1266)) (er_var rfl (Rp.mono (((SF.of e1268).trans (SF.of e1277)).trans m1279.sf) r1266)) (by first | exact ⟨(hp.2.2 _ hone_l1).le (by decide), (hp.2.2 _ hone_l1).le (by decide)⟩ | exact ⟨(tot_sz hp.2.1 hp.2.2).le (by decide), (tot_sz hp.2.1 hp.2.2).le (by decide)⟩ | exact ⟨(sz_tms (tot_sz hp.2.1 hp.2.2) (tot_sz hp.2.1 hp.2.2)).le (by decide), one_n hp.1 hp.2.1⟩)) (er_pair er_int (er_up (er_len (er_var rfl r1288)))) (by first | exact ⟨(hp.2.2 _ hone_l1).le (by decide), (hp.2.2 _ hone_l1).le (by decide)⟩ | exact ⟨(tot_sz hp.2.1 hp.2.2).le (by decide), (tot_sz hp.2.1 hp.2.2).le (by decide)⟩ | exact ⟨(sz_tms (tot_sz hp.2.1 hp.2.2) (tot_sz hp.2.1 hp.2.2)).le (by decide), one_n hp.1 hp.2.1⟩)) (by exact ⟨(sqs_sz hp.2.1 hp.2.2).le (by decide), (sz_tms (sz_tms (tot_sz hp.2.1 hp.2.2) (tot_sz hp.2.1 hp.2.2)) (one_n8 hp.1 hp.2.1)).le (by decide)⟩)) (fun u _ e1289 rr => q u _ (Mus.same0 ((Mus.baseS ((((Mus.refl _).trans (Mus.of e1265)).trans (Mus.of e1268)).trans (Mus.of e1277)) m1279 all0).trans (Mus.of e1289))) rr)
theorem neg_fr (x : Rat) (p : Int × Int) (h : p = fr x) : (-p.1, p.2) = fr (-x) := by rw [h]; exact fr_neg x
/-- the squares about the mean, as a rational -/
theorem sam_fr (l : List Rat) (h : l ≠ []) : m_squares_about_mean (l.map fr) = fr (sq l) := by
  have hp := ln_pos h
  have hn : (0 : Int) < ((l.map fr).length : Int) := by rw [List.length_map]; have := List.length_pos_iff.mpr h; omega
  show pls ((l.map fr).foldl (fun s x => pls s (tms x x)) (fr 0)) (-(tms (tms ((l.map fr).foldl (fun s x => pls s x) (fr 0)) ((l.map fr).foldl (fun s x => pls s x) (fr 0))) (1, ((l.map fr).length : Int))).1, (tms (tms ((l.map fr).foldl (fun s x => pls s x) (fr 0)) ((l.map fr).foldl (fun s x => pls s x) (fr 0))) (1, ((l.map fr).length : Int))).2) = _
  rw [fr_one hn, fr_tot, fr_tms, fr_tms, fr_neg, fr_sqs, fr_pls]
  congr 1
  rw [List.length_map, ← ln_len]
  unfold sq vr
  generalize ln l = n at *
  grind
theorem row_fr (r : List Int) : (r.map fun x => (x, (1 : Int))) = (r.map fun x : Int => (x : Rat)).map fr := by rw [List.map_map]; rfl
theorem own_pos {r : List Int} (h : (r.map fun x => (x, (1 : Int))) ≠ [] ∧ (r.map fun x => (x, (1 : Int))).length ≤ 8 ∧ ∀ p ∈ r.map (fun x => (x, (1 : Int))), Sz 10 p) : m_less (-1, 1) (m_squares_about_mean (r.map fun x => (x, (1 : Int)))) = true := by
  have hne : (r.map fun x : Int => (x : Rat)) ≠ [] := fun c => h.1 (by rw [row_fr, c]; rfl)
  rw [row_fr, sam_fr _ hne]
  show decide ((fr ((-1 : Int) : Rat)).1 * (fr (sq _)).2 < (fr (sq _)).1 * (fr ((-1 : Int) : Rat)).2) = true
  rw [fr_lt]
  have := sq_nn' (r.map fun x : Int => (x : Rat))
  exact decide_eq_true (by
    have e : (((-1 : Int) : Int) : Rat) = -1 := rfl
    rw [e]; grind)
def m_lows (x0 : (List (Int × Int))) : (List Int) := (x0.map (fun (x1298 : (Int × Int)) => x1298.1))
theorem ok_lows (T : Txt K mg) : Ok P w K mg base CX0 1 "lows" ["bounds"] (sl1 K ((fun b => b.length ≤ 100000) : (List (Int × Int)) → Prop) m_lows) := by
  refine ok_of T.d_lows sc_lows (bi1 fun _ _ _ _ _ _ _ => rfl) len_sl1 (fun f cdv A outer s H vs Q E hr h => ?_)
  have nd := sc_lows.nd
  obtain ⟨v0, x0, rfl, r0, hp, q⟩ := h
  refine ⟨_, (pss_one (ps_ret (pe_lc (own := [("low", 1), ("high", 2)]) rfl nd (k_pl K rfl (pv 0)) (blkOk_by (N := N_lows) (sc := defScope s_lows) (by decide +kernel)) (fun _ _ _ _ _ => (k_gt K rfl 2 rfl (pgs_cons (pg_name (i := 1) nd rfl (.inl rfl) (.inr rfl)) (pgs_cons (pg_name (i := 2) nd rfl (.inl rfl) (.inr rfl)) pgs_nil)))) (fun _ _ _ _ _ => pts_nil) (fun _ _ _ _ _ => (pv 1))))), ?_⟩
  exact s_retL (K := K) (erl_lm2 (f := fun (x1298 : (Int × Int)) => x1298.1) (src_list (er_var rfl r0)) (by first | omega | (have := hp.2.1; omega) | (have := hp.1.2.1; omega)) (by intros; rfl) (fun x1298 hx1299 v1300 v1301 _ e1297 r1302 r1303 => (er_var rfl r1302))) (fun p us _ e1304 hn h1 rr => q p us _ e1304 ((Same.refl _).free hn) h1 rr)
def m_highs (x0 : (List (Int × Int))) : (List Int) := (x0.map (fun (x1313 : (Int × Int)) => x1313.2))
theorem ok_highs (T : Txt K mg) : Ok P w K mg base CX0 1 "highs" ["bounds"] (sl1 K ((fun b => b.length ≤ 100000) : (List (Int × Int)) → Prop) m_highs) := by
  refine ok_of T.d_highs sc_highs (bi1 fun _ _ _ _ _ _ _ => rfl) len_sl1 (fun f cdv A outer s H vs Q E hr h => ?_)
  have nd := sc_highs.nd
  obtain ⟨v0, x0, rfl, r0, hp, q⟩ := h
  refine ⟨_, (pss_one (ps_ret (pe_lc (own := [("low", 1), ("high", 2)]) rfl nd (k_pl K rfl (pv 0)) (blkOk_by (N := N_highs) (sc := defScope s_highs) (by decide +kernel)) (fun _ _ _ _ _ => (k_gt K rfl 2 rfl (pgs_cons (pg_name (i := 1) nd rfl (.inl rfl) (.inr rfl)) (pgs_cons (pg_name (i := 2) nd rfl (.inl rfl) (.inr rfl)) pgs_nil)))) (fun _ _ _ _ _ => pts_nil) (fun _ _ _ _ _ => (pv 2))))), ?_⟩
  exact s_retL (K := K) (erl_lm2 (f := fun (x1313 : (Int × Int)) => x1313.2) (src_list (er_var rfl r0)) (by first | omega | (have := hp.2.1; omega) | (have := hp.1.2.1; omega)) (by intros; rfl) (fun x1313 hx1314 v1315 v1316 _ e1312 r1317 r1318 => (er_var rfl r1318))) (fun p us _ e1319 hn h1 rr => q p us _ e1319 ((Same.refl _).free hn) h1 rr)
theorem ne_lows {b : List (Int × Int)} (h : BOk b) : m_lows b ≠ [] := by
  have := h.1
  cases b with
  | nil => simp at this
  | cons p r => simp [m_lows]
theorem ne_highs {b : List (Int × Int)} (h : BOk b) : m_highs b ≠ [] := by
  have := h.1
  cases b with
  | nil => simp at this
  | cons p r => simp [m_highs]
theorem len_lows (b : List (Int × Int)) : (m_lows b).length = b.length := by simp [m_lows]
theorem len_highs (b : List (Int × Int)) : (m_highs b).length = b.length := by simp [m_highs]
def m_sum_range (x0 : (List (Int × Int))) : (Int × Int) := ((m_lows x0).sum, (m_highs x0).sum)
theorem ok_sum_range (T : Txt K mg) : Ok P w K mg base CX0 5 "sum_range" ["bounds"] (sp1 K ((fun b => BOk b) : (List (Int × Int)) → Prop) m_sum_range) := by
  refine ok_of T.d_sum_range sc_sum_range (bi1 fun _ _ _ _ _ _ _ => rfl) len_sp1 (fun f cdv A outer s H vs Q E hr h => ?_)
  have nd := sc_sum_range.nd
  obtain ⟨v0, x0, rfl, r0, hp, q⟩ := h
  refine ⟨_, (pss_cons (ps_expr (pe_fn (ok_check_bounds T) (hr.mono (by decide)) pass0 (pa_cons (pv 0) pa_nil)))
      (pss_one (ps_ret (pe_tup (pa_cons (pe_callB (k_sum K rfl rfl) (by rfl) T.n_sum (by decide +kernel) (pa_cons (pe_frz (pe_fn (ok_lows T) (hr.mono (by decide)) pass0 (pa_cons (pv 0) pa_nil))) pa_nil)) (pa_cons (pe_callB (k_sum K rfl rfl) (by rfl) T.n_sum (by decide +kernel) (pa_cons (pe_frz (pe_fn (ok_highs T) (hr.mono (by decide)) pass0 (pa_cons (pv 0) pa_nil))) pa_nil)) pa_nil)))))), ?_⟩
  refine q_drop (K := K) (er_call1 (er_var rfl r0) (by first | exact hp | exact hp.1)) (fun _ e1320 => ?_)
  exact s_ret (K := K) (er_pair (er_sum (er_frz (erl_call1 (er_var rfl (Rp.mono (SF.of e1320) r0)) (by first | omega | (have := hp.2.1; omega) | (have := hp.1.2.1; omega))))) (er_sum (er_frz (erl_call1 (er_var rfl (Rp.mono (SF.of e1320) r0)) (by first | omega | (have := hp.2.1; omega) | (have := hp.1.2.1; omega)))))) (fun u _ e1321 rr => q u _ (e1320.trans e1321) rr)
def m_mean_range (x0 : (List (Int × Int))) : ((Int × Int) × (Int × Int)) := ((frI ((m_lows x0).sum) ((x0.length : Nat) : Int)), (frI ((m_highs x0).sum) ((x0.length : Nat) : Int)))
theorem ok_mean_range (T : Txt K mg) : Ok P w K mg base CX0 5 "mean_range" ["bounds"] (sp1 K ((fun b => BOk b) : (List (Int × Int)) → Prop) m_mean_range) := by
  refine ok_of T.d_mean_range sc_mean_range (bi1 fun _ _ _ _ _ _ _ => rfl) len_sp1 (fun f cdv A outer s H vs Q E hr h => ?_)
  have nd := sc_mean_range.nd
  obtain ⟨v0, x0, rfl, r0, hp, q⟩ := h
  refine ⟨_, (pss_cons (ps_expr (pe_fn (ok_check_bounds T) (hr.mono (by decide)) pass0 (pa_cons (pv 0) pa_nil)))
      (pss_one (ps_ret (pe_tup (pa_cons (pe_fn (ok_lowest T) (hr.mono (by decide)) pass0 (pa_cons (pe_callB (k_sum K rfl rfl) (by rfl) T.n_sum (by decide +kernel) (pa_cons (pe_frz (pe_fn (ok_lows T) (hr.mono (by decide)) pass0 (pa_cons (pv 0) pa_nil))) pa_nil)) (pa_cons (pe_callB (k_len K rfl) (by rfl) T.n_len PySem.boot_len (pa_cons (pv 0) pa_nil)) pa_nil))) (pa_cons (pe_fn (ok_lowest T) (hr.mono (by decide)) pass0 (pa_cons (pe_callB (k_sum K rfl rfl) (by rfl) T.n_sum (by decide +kernel) (pa_cons (pe_frz (pe_fn (ok_highs T) (hr.mono (by decide)) pass0 (pa_cons (pv 0) pa_nil))) pa_nil)) (pa_cons (pe_callB (k_len K rfl) (by rfl) T.n_len PySem.boot_len (pa_cons (pv 0) pa_nil)) pa_nil))) pa_nil)))))), ?_⟩
  refine q_drop (K := K) (er_call1 (er_var rfl r0) (by first | exact hp | exact hp.1)) (fun _ e1322 => ?_)
  exact s_ret (K := K) (er_pair (er_call2 (er_sum (er_frz (erl_call1 (er_var rfl (Rp.mono (SF.of e1322) r0)) (by first | omega | (have := hp.2.1; omega) | (have := hp.1.2.1; omega))))) (er_up (er_len (er_var rfl (Rp.mono (SF.of e1322) r0)))) (by have := hp.1; have := hp.2.1; exact small_pre (by omega) (by omega))) (er_call2 (er_sum (er_frz (erl_call1 (er_var rfl (Rp.mono (SF.of e1322) r0)) (by first | omega | (have := hp.2.1; omega) | (have := hp.1.2.1; omega))))) (er_up (er_len (er_var rfl (Rp.mono (SF.of e1322) r0)))) (by have := hp.1; have := hp.2.1; exact small_pre (by omega) (by omega)))) (fun u _ e1323 rr => q u _ (e1322.trans e1323) rr)
def m_middle (x0 : (List Int)) : (Int × Int) := (frI ((((srt x0)).getD ((((((srt x0).length : Nat) : Int) - (1 : Int)) / (2 : Int))).toNat 0) + (((srt x0)).getD (((((srt x0).length : Nat) : Int) / (2 : Int))).toNat 0)) (2 : Int))
theorem ok_middle (T : Txt K mg) : Ok P w K mg base CX0 3 "middle" ["values"] (sp1 K ((fun l => l ≠ [] ∧ l.length ≤ 100000) : (List Int) → Prop) m_middle) := by
  refine ok_of T.d_middle sc_middle (bi1 fun _ _ _ _ _ _ _ => rfl) len_sp1 (fun f cdv A outer s H vs Q E hr h => ?_)
  have nd := sc_middle.nd
  obtain ⟨v0, x0, rfl, r0, hp, q⟩ := h
  refine ⟨_, (pss_cons (ps_set (i := 1) nd rfl (.inl rfl) (pe_frz (pe_callB (k_sorted K rfl) (by rfl) T.n_sorted (by decide +kernel) (pa_cons (pv 0) pa_nil))))
      (pss_cons (ps_set (i := 2) nd rfl (.inl rfl) (pe_callB (k_len K rfl) (by rfl) T.n_len PySem.boot_len (pa_cons (pv 1) pa_nil)))
      (pss_one (ps_ret (pe_fn (ok_lowest T) (hr.mono (by decide)) pass0 (pa_cons (pe_op op_add (pe_ix (k_ixl K rfl) (pv 1) (pe_op op_fdiv (pe_op op_sub (pv 2) pe_int) pe_int) (fun _ _ => rfl)) (pe_ix (k_ixl K rfl) (pv 1) (pe_op op_fdiv (pv 2) pe_int) (fun _ _ => rfl))) (pa_cons pe_int pa_nil))))))), ?_⟩
  refine q_set (K := K) (er_frz (erl_sorted (er_var rfl r0))) (fun v1326 _ e1324 r1325 => ?_)
  refine q_set (K := K) (er_len (er_var rfl r1325)) (fun v1329 _ e1327 r1328 => ?_)
  exact s_ret (K := K) (er_call2 (er_op (er_op (er_var rfl (Rp.mono (SF.of e1327) r1325)) (er_op (er_op (er_up (er_var rfl r1328)) er_int rr_sub) er_int (rr_div (by exact ⟨by decide, by decide⟩))) (rr_ixI (x := (((srt x0)).getD ((((((srt x0).length : Nat) : Int) - (1 : Int)) / (2 : Int))).toNat 0)) (n := ((((((srt x0).length : Nat) : Int) - (1 : Int)) / (2 : Int))).toNat) (by have h1 := List.length_pos_iff.mpr hp.1; have h2 := srt_len x0; omega) (by exact getD_at (by rw [srt_len]; have := List.length_pos_iff.mpr hp.1; omega)))) (er_op (er_var rfl (Rp.mono (SF.of e1327) r1325)) (er_op (er_up (er_var rfl r1328)) er_int (rr_div (by exact ⟨by decide, by decide⟩))) (rr_ixI (x := (((srt x0)).getD (((((srt x0).length : Nat) : Int) / (2 : Int))).toNat 0)) (n := (((((srt x0).length : Nat) : Int) / (2 : Int))).toNat) (by have h1 := List.length_pos_iff.mpr hp.1; have h2 := srt_len x0; omega) (by exact getD_at (by rw [srt_len]; have := List.length_pos_iff.mpr hp.1; omega)))) rr_add) er_int (by exact ⟨by decide, by decide⟩)) (fun u _ e1330 rr => q u _ ((e1324.trans e1327).trans e1330) rr)
def m_median_range (x0 : (List (Int × Int))) : ((Int × Int) × (Int × Int)) := ((m_middle (m_lows x0)), (m_middle (m_highs x0)))
theorem ok_median_range (T : Txt K mg) : Ok P w K mg base CX0 5 "median_range" ["bounds"] (sp1 K ((fun b => BOk b) : (List (Int × Int)) → Prop) m_median_range) := by
  refine ok_of T.d_median_range sc_median_range (bi1 fun _ _ _ _ _ _ _ => rfl) len_sp1 (fun f cdv A outer s H vs Q E hr h => ?_)
  have nd := sc_median_range.nd
  obtain ⟨v0, x0, rfl, r0, hp, q⟩ := h
  refine ⟨_, (pss_cons (ps_expr (pe_fn (ok_check_bounds T) (hr.mono (by decide)) pass0 (pa_cons (pv 0) pa_nil)))
      (pss_one (ps_ret (pe_tup (pa_cons (pe_fn (ok_middle T) (hr.mono (by decide)) pass0 (pa_cons (pe_frz (pe_fn (ok_lows T) (hr.mono (by decide)) pass0 (pa_cons (pv 0) pa_nil))) pa_nil)) (pa_cons (pe_fn (ok_middle T) (hr.mono (by decide)) pass0 (pa_cons (pe_frz (pe_fn (ok_highs T) (hr.mono (by decide)) pass0 (pa_cons (pv 0) pa_nil))) pa_nil)) pa_nil)))))), ?_⟩
  refine q_drop (K := K) (er_call1 (er_var rfl r0) (by first | exact hp | exact hp.1)) (fun _ e1331 => ?_)
  exact s_ret (K := K) (er_pair (er_call1 (er_frz (erl_call1 (er_var rfl (Rp.mono (SF.of e1331) r0)) (by first | omega | (have := hp.2.1; omega) | (have := hp.1.2.1; omega)))) (by first | exact ⟨ne_lows hp, by rw [len_lows]; have := hp.2.1; omega⟩ | exact ⟨ne_highs hp, by rw [len_highs]; have := hp.2.1; omega⟩)) (er_call1 (er_frz (erl_call1 (er_var rfl (Rp.mono (SF.of e1331) r0)) (by first | omega | (have := hp.2.1; omega) | (have := hp.1.2.1; omega)))) (by first | exact ⟨ne_lows hp, by rw [len_lows]; have := hp.2.1; omega⟩ | exact ⟨ne_highs hp, by rw [len_highs]; have := hp.2.1; omega⟩))) (fun u _ e1332 rr => q u _ (e1331.trans e1332) rr)
def m_least_range (x0 : (List (Int × Int))) : (Int × Int) := ((mnl (m_lows x0)), (mnl (m_highs x0)))
theorem ok_least_range (T : Txt K mg) : Ok P w K mg base CX0 5 "least_range" ["bounds"] (sp1 K ((fun b => BOk b) : (List (Int × Int)) → Prop) m_least_range) := by
  refine ok_of T.d_least_range sc_least_range (bi1 fun _ _ _ _ _ _ _ => rfl) len_sp1 (fun f cdv A outer s H vs Q E hr h => ?_)
  have nd := sc_least_range.nd
  obtain ⟨v0, x0, rfl, r0, hp, q⟩ := h
  refine ⟨_, (pss_cons (ps_expr (pe_fn (ok_check_bounds T) (hr.mono (by decide)) pass0 (pa_cons (pv 0) pa_nil)))
      (pss_one (ps_ret (pe_tup (pa_cons (pe_callB (k_min K rfl rfl) (by rfl) T.n_min (by decide +kernel) (pa_cons (pe_frz (pe_fn (ok_lows T) (hr.mono (by decide)) pass0 (pa_cons (pv 0) pa_nil))) pa_nil)) (pa_cons (pe_callB (k_min K rfl rfl) (by rfl) T.n_min (by decide +kernel) (pa_cons (pe_frz (pe_fn (ok_highs T) (hr.mono (by decide)) pass0 (pa_cons (pv 0) pa_nil))) pa_nil)) pa_nil)))))), ?_⟩
  refine q_drop (K := K) (er_call1 (er_var rfl r0) (by first | exact hp | exact hp.1)) (fun _ e1333 => ?_)
  exact s_ret (K := K) (er_pair (er_min (er_frz (erl_call1 (er_var rfl (Rp.mono (SF.of e1333) r0)) (by first | omega | (have := hp.2.1; omega) | (have := hp.1.2.1; omega)))) (by first | exact ne_lows hp | exact ne_highs hp)) (er_min (er_frz (erl_call1 (er_var rfl (Rp.mono (SF.of e1333) r0)) (by first | omega | (have := hp.2.1; omega) | (have := hp.1.2.1; omega)))) (by first | exact ne_lows hp | exact ne_highs hp))) (fun u _ e1334 rr => q u _ (e1333.trans e1334) rr)
def m_greatest_range (x0 : (List (Int × Int))) : (Int × Int) := ((mxl (m_lows x0)), (mxl (m_highs x0)))
theorem ok_greatest_range (T : Txt K mg) : Ok P w K mg base CX0 5 "greatest_range" ["bounds"] (sp1 K ((fun b => BOk b) : (List (Int × Int)) → Prop) m_greatest_range) := by
  refine ok_of T.d_greatest_range sc_greatest_range (bi1 fun _ _ _ _ _ _ _ => rfl) len_sp1 (fun f cdv A outer s H vs Q E hr h => ?_)
  have nd := sc_greatest_range.nd
  obtain ⟨v0, x0, rfl, r0, hp, q⟩ := h
  refine ⟨_, (pss_cons (ps_expr (pe_fn (ok_check_bounds T) (hr.mono (by decide)) pass0 (pa_cons (pv 0) pa_nil)))
      (pss_one (ps_ret (pe_tup (pa_cons (pe_callB (k_max K rfl rfl) (by rfl) T.n_max (by decide +kernel) (pa_cons (pe_frz (pe_fn (ok_lows T) (hr.mono (by decide)) pass0 (pa_cons (pv 0) pa_nil))) pa_nil)) (pa_cons (pe_callB (k_max K rfl rfl) (by rfl) T.n_max (by decide +kernel) (pa_cons (pe_frz (pe_fn (ok_highs T) (hr.mono (by decide)) pass0 (pa_cons (pv 0) pa_nil))) pa_nil)) pa_nil)))))), ?_⟩
  refine q_drop (K := K) (er_call1 (er_var rfl r0) (by first | exact hp | exact hp.1)) (fun _ e1335 => ?_)
  exact s_ret (K := K) (er_pair (er_max (er_frz (erl_call1 (er_var rfl (Rp.mono (SF.of e1335) r0)) (by first | omega | (have := hp.2.1; omega) | (have := hp.1.2.1; omega)))) (by first | exact ne_lows hp | exact ne_highs hp)) (er_max (er_frz (erl_call1 (er_var rfl (Rp.mono (SF.of e1335) r0)) (by first | omega | (have := hp.2.1; omega) | (have := hp.1.2.1; omega)))) (by first | exact ne_lows hp | exact ne_highs hp))) (fun u _ e1336 rr => q u _ (e1335.trans e1336) rr)
theorem fold_len2 {α β γ : Type} {f : γ × List β → α → γ × List β} (h : ∀ s x, (f s x).2.length = s.2.length + 1) : ∀ (l : List α) (a : γ × List β), (l.foldl f a).2.length = a.2.length + l.length
  | [], _ => rfl
  | x :: l, a => by rw [List.foldl_cons, fold_len2 h l, h, List.length_cons]; omega
theorem fold_len2E {α β γ : Type} {f : γ × List β → α → γ × List β} {l : List α} {k : Nat} {a s : γ × List β} (hs : s = (l.take k).foldl f a) (h : ∀ s x, (f s x).2.length = s.2.length + 1) : s.2.length ≤ a.2.length + l.length := by
  rw [hs, fold_len2 h, List.length_take]; omega
def m_choice_with_sum (x0 : (List (Int × Int))) (x1 : Int) : (List Int) := (List.foldl (fun (s_l1 : (Int × (List Int))) (low_high_l1 : (Int × Int)) => (((s_l1.1 - (min s_l1.1 (low_high_l1.2 - low_high_l1.1))), (s_l1.2 ++ [(low_high_l1.1 + (min s_l1.1 (low_high_l1.2 - low_high_l1.1)))])) : (Int × (List Int)))) ((x1 - (m_lows x0).sum), ([] : (List Int))) x0).2
theorem ok_choice_with_sum (T : Txt K mg) : Ok P w K mg base CX0 5 "choice_with_sum" ["bounds", "whole"] (sl2 K ((fun b w => BOk b ∧ (m_lows b).sum ≤ w ∧ w ≤ (m_highs b).sum) : (List (Int × Int)) → Int → Prop) m_choice_with_sum) := by
  refine ok_of T.d_choice_with_sum sc_choice_with_sum (bi2 fun _ _ _ _ _ _ _ _ => rfl) len_sl2 (fun f cdv A outer s H vs Q E hr h => ?_)
  have nd := sc_choice_with_sum.nd
  obtain ⟨v0, v1, x0, x1, rfl, r0, r1, hp, q⟩ := h
  refine ⟨_, (pss_cons (ps_expr (pe_fn (ok_check_bounds T) (hr.mono (by decide)) pass0 (pa_cons (pv 0) pa_nil)))
      (pss_cons (ps_if (pt_not (pt_val (pe_fn (ok_is_int T) (hr.mono (by decide)) pass0 (pa_cons (pv 1) (pa_cons (pe_callB (k_sum K rfl rfl) (by rfl) T.n_sum (by decide +kernel) (pa_cons (pe_frz (pe_fn (ok_lows T) (hr.mono (by decide)) pass0 (pa_cons (pv 0) pa_nil))) pa_nil)) (pa_cons (pe_callB (k_sum K rfl rfl) (by rfl) T.n_sum (by decide +kernel) (pa_cons (pe_frz (pe_fn (ok_highs T) (hr.mono (by decide)) pass0 (pa_cons (pv 0) pa_nil))) pa_nil)) pa_nil)))))) (pss_one ps_never) pss_nil)
      (pss_cons (ps_set (i := 2) nd rfl (.inl rfl) (pe_op op_sub (pv 1) (pe_callB (k_sum K rfl rfl) (by rfl) T.n_sum (by decide +kernel) (pa_cons (pe_frz (pe_fn (ok_lows T) (hr.mono (by decide)) pass0 (pa_cons (pv 0) pa_nil))) pa_nil))))
      (pss_cons (ps_set (i := 3) nd rfl (.inl rfl) (pe_lst pa_nil))
      (pss_cons (ps_for PassesOwn.never rfl (k_pl K rfl (pv 0)) (k_gt K rfl 2 rfl (pgs_cons (pg_name (i := 4) nd rfl (.inl rfl) (.inr rfl)) (pgs_cons (pg_name (i := 5) nd rfl (.inl rfl) (.inr rfl)) pgs_nil))) (pss_cons (ps_set (i := 6) nd rfl (.inl rfl) (pe_callB (call_min2 rfl) (by rfl) T.n_min (by decide +kernel) (pa_cons (pv 2) (pa_cons (pe_op op_sub (pv 5) (pv 4)) pa_nil))))
      (pss_cons (ps_expr (k_app K rfl (pv 3) (pe_op op_add (pv 4) (pv 6))))
      (pss_one (ps_aug (i := 2) nd rfl (.inl rfl) (pv 6) ip_sub)))))
      (pss_one (ps_ret (pv 3)))))))), ?_⟩
  refine q_drop (K := K) (er_call1 (er_var rfl r0) (by first | exact hp | exact hp.1)) (fun _ e1337 => ?_)
  refine q_not (K := K) (et_not (et_B (er_call3 (er_var rfl (Rp.mono (SF.of e1337) r1)) (er_sum (er_frz (erl_call1 (er_var rfl (Rp.mono (SF.of e1337) r0)) (by have := hp.1.2.1; omega)))) (er_sum (er_frz (erl_call1 (er_var rfl (Rp.mono (SF.of e1337) r0)) (by have := hp.1.2.1; omega)))) trivial))) (by simp [m_is_int]; omega) (fun _ e1338 => ?_)
  refine q_set (K := K) (er_op (er_var rfl (Rp.mono ((SF.of e1337).trans (SF.of e1338)) r1)) (er_sum (er_frz (erl_call1 (er_var rfl (Rp.mono ((SF.of e1337).trans (SF.of e1338)) r0)) (by have := hp.1.2.1; omega)))) rr_sub) (fun v1341 _ e1339 r1340 => ?_)
  refine q_setL (K := K) (erl_lst (α := Int) ea_nil) (fun p1342 _ _ e1343 hn1344 h1345 rl1346 => ?_)
  have f1348 := Mus.fresh ((((Mus.refl _).trans (Mus.of e1337)).trans (Mus.of e1338)).trans (Mus.of e1339)) nin0 hn1344
  have u1347 := Un.of h1345 rl1346
  have r1349 := (Rp.mono ((((SF.of e1337).trans (SF.of e1338)).trans (SF.of e1339)).trans (SF.of e1343)) r0)
  have r1350 := (Rp.mono ((((SF.of e1337).trans (SF.of e1338)).trans (SF.of e1339)).trans (SF.of e1343)) r1)
  -- for (low, high) in bounds
  refine q_for (K := K) (src_list (er_var rfl r1349)) (fun H1 k σ' H' => ∃ (s_l1 : (Int × (List Int))) (w1352 : V) (y1353 : Option V) (y1354 : Option V) (y1355 : Option V), σ' = [some v0, some v1, some w1352, some (.ref p1342), y1353, y1354, y1355] ∧ s_l1 = (List.take k x0).foldl (fun (s_l1 : (Int × (List Int))) (low_high_l1 : (Int × Int)) => (((s_l1.1 - (min s_l1.1 (low_high_l1.2 - low_high_l1.1))), (s_l1.2 ++ [(low_high_l1.1 + (min s_l1.1 (low_high_l1.2 - low_high_l1.1)))])) : (Int × (List Int)))) ((x1 - (m_lows x0).sum), ([] : (List Int))) ∧ Mus [p1342] H1 H' ∧ Rp.rep K H' w1352 s_l1.1 ∧ Un K H' p1342 s_l1.2) (fun H1 e => ⟨((x1 - (m_lows x0).sum), ([] : (List Int))), _, _, _, _, rfl, rfl, Mus.refl _, (Rp.mono ((SF.of e1343).trans (SF.of e)) r1340), (Un.mono e u1347)⟩) (fun _ _ _ _ h => by obtain ⟨_, _, _, _, _, _, _, m, _, _⟩ := h; exact m.sf) (fun H1 k1362 low_high_l1 σ' H' vlow_high_l1 _ e1359 hx1358 hP e1360 rlow_high_l1 => ?_) (fun H1 σ' H' e1359 hP => ?_)
  ·
    obtain ⟨s_l1, w1352, y1353, y1354, y1355, rfl, hs1356, m1361, r1363, u1364⟩ := hP
    obtain ⟨v1366, v1367, r1368, r1369, tg1370⟩ := tg_pair (k := 4) (m := 5) rlow_high_l1
    refine tg1370 _ ?_
    have hlow_high_l1 := List.mem_of_getElem? hx1358
    have hturn1 := hs1356
    refine q_set (K := K) (er_min2 (er_var rfl (Rp.mono (SF.of e1360) r1363)) (er_op (er_var rfl r1369) (er_var rfl r1368) rr_sub)) (fun v1373 _ e1371 r1372 => ?_)
    have r1374 := (Rp.mono ((((SF.of e1359).trans m1361.sf).trans (SF.of e1360)).trans (SF.of e1371)) r1349)
    have r1375 := (Rp.mono ((((SF.of e1359).trans m1361.sf).trans (SF.of e1360)).trans (SF.of e1371)) r1350)
    refine q_app (K := K) rfl (Un.mono e1371 (Un.mono e1360 u1364)) (er_op (er_var rfl (Rp.mono (SF.of e1371) r1368)) (er_var rfl r1372) rr_add) (by have := hp.1.2.1; first | omega | (have g := fold_len2E hturn1 (fun s x => by simp); simp only [List.length_nil] at g; omega)) (fun _ m1376 u1377 => ?_)
    refine q_last ?_
    refine q_augI (K := K) (f := fun i j => i - j) rfl (Rp.mono (((SF.of e1360).trans (SF.of e1371)).trans m1376.sf) r1363) (er_var rfl (Rp.mono m1376.sf r1372)) (fun v1380 _ e1378 r1379 => ?_)
    refine s_nx ?_
    exact ⟨((s_l1.1 - (min s_l1.1 (low_high_l1.2 - low_high_l1.1))), (s_l1.2 ++ [(low_high_l1.1 + (min s_l1.1 (low_high_l1.2 - low_high_l1.1)))])), _, _, _, _, rfl, (fold_step hx1358 hs1356), (((((Mus.baseS (Mus.refl _) m1361 (allC (.inr (.head _)) all0)).trans (Mus.of e1360)).trans (Mus.of e1371)).trans (Mus.mu m1376 (.head _))).trans (Mus.of e1378)), r1379, (Un.mono e1378 u1377)⟩
  ·
    obtain ⟨s_l1, w1352, y1353, y1354, y1355, rfl, hs1356, m1361, r1363, u1364⟩ := hP
    replace hs1356 := fold_all hs1356
    subst hs1356
    obtain ⟨us, h1, rr⟩ := u1364
    exact ⟨.ref p1342, rfl, q p1342 us _ (Mus.same0 (Mus.baseS ((((((Mus.refl _).trans (Mus.of e1337)).trans (Mus.of e1338)).trans (Mus.of e1339)).trans (Mus.of e1343)).trans (Mus.of e1359)) m1361 (allC (.inl f1348) all0))) f1348 h1 rr⟩
def m_pair_gap (x0 : (List (Int × Int))) : (Option (T3 Int Int Int)) := (List.foldl (fun (s_l1 : (Option (T3 Int Int Int))) (k_l1 : Nat) => ((List.foldl (fun (s_l2 : (Option (T3 Int Int Int))) (j_l2 : Nat) => ((if ((!(decide (((k_l1 : Nat) : Int) = ((j_l2 : Nat) : Int)))) && (s_l2.isNone || (decide ((((x0).getD (k_l1) (0, 0)).2 - ((x0).getD (j_l2) (0, 0)).1) > (s_l2.getD (T3.mk 0 0 0)).a)))) = true then (some (T3.mk (((x0).getD (k_l1) (0, 0)).2 - ((x0).getD (j_l2) (0, 0)).1) ((k_l1 : Nat) : Int) ((j_l2 : Nat) : Int))) else s_l2) : (Option (T3 Int Int Int)))) s_l1 (List.range x0.length)) : (Option (T3 Int Int Int)))) (none : (Option (T3 Int Int Int))) (List.range x0.length))
theorem ok_pair_gap (T : Txt K mg) : Ok P w K mg base CX0 1 "pair_gap" ["bounds"] (sp1 K ((fun b => BOk b) : (List (Int × Int)) → Prop) m_pair_gap) := by
  refine ok_of T.d_pair_gap sc_pair_gap (bi1 fun _ _ _ _ _ _ _ => rfl) len_sp1 (fun f cdv A outer s H vs Q E hr h => ?_)
  have nd := sc_pair_gap.nd
  obtain ⟨v0, x0, rfl, r0, hp, q⟩ := h
  refine ⟨_, (pss_cons (ps_set (i := 1) nd rfl (.inl rfl) pe_non)
      (pss_cons (ps_for PassesOwn.never rfl (pi_range1 (by rfl) T.n_range (pa_cons (pe_callB (k_len K rfl) (by rfl) T.n_len PySem.boot_len (pa_cons (pv 0) pa_nil)) pa_nil)) (pg_name (i := 2) nd rfl (.inl rfl) (.inr rfl)) (pss_one (ps_for PassesOwn.never rfl (pi_range1 (by rfl) T.n_range (pa_cons (pe_callB (k_len K rfl) (by rfl) T.n_len PySem.boot_len (pa_cons (pv 0) pa_nil)) pa_nil)) (pg_name (i := 3) nd rfl (.inl rfl) (.inr rfl)) (pss_cons (ps_set (i := 4) nd rfl (.inl rfl) (pe_op op_sub (pe_ix (k_ixt K rfl) (pe_ix (k_ixl K rfl) (pv 0) (pv 2) (fun _ _ => rfl)) pe_int (fun _ _ => rfl)) (pe_ix (k_ixt K rfl) (pe_ix (k_ixl K rfl) (pv 0) (pv 3) (fun _ _ => rfl)) pe_int (fun _ _ => rfl))))
      (pss_one (ps_if (PW.pt (pw_and (pt_cmpR op_ne (pv 2) (pv 3) (nomark _)) (pw_and1 (PW.pt (pw_or (pt_cmpR op_isN1 (pv 1) pe_non (nomark _)) (pw_or1 (pt_cmpR op_gt (pv 4) (pe_ix (k_ixt K rfl) (pv 1) pe_int (fun _ _ => rfl)) (nomark _)))))))) (pss_one (ps_set (i := 1) nd rfl (.inl rfl) (pe_tup (pa_cons (pv 4) (pa_cons (pv 2) (pa_cons (pv 3) pa_nil)))))) pss_nil))))))
      (pss_one (ps_ret (pv 1))))), ?_⟩
  refine q_set (K := K) (er_O0 (α := (T3 Int Int Int))) (fun v1383 _ e1381 r1382 => ?_)
  -- for k in range(len(bounds))
  refine q_for (K := K) (src_range1 (er_len (er_var rfl (Rp.mono (SF.of e1381) r0))) (by have := hp.2.1; first | omega | (rw [List.length_range]; omega))) (fun H1 k σ' H' => ∃ (s_l1 : (Option (T3 Int Int Int))) (w1385 : V) (y1386 : Option V) (y1387 : Option V) (y1388 : Option V), σ' = [some v0, some w1385, y1386, y1387, y1388] ∧ s_l1 = (List.take k (List.range x0.length)).foldl (fun (s_l1 : (Option (T3 Int Int Int))) (k_l1 : Nat) => ((List.foldl (fun (s_l2 : (Option (T3 Int Int Int))) (j_l2 : Nat) => ((if ((!(decide (((k_l1 : Nat) : Int) = ((j_l2 : Nat) : Int)))) && (s_l2.isNone || (decide ((((x0).getD (k_l1) (0, 0)).2 - ((x0).getD (j_l2) (0, 0)).1) > (s_l2.getD (T3.mk 0 0 0)).a)))) = true then (some (T3.mk (((x0).getD (k_l1) (0, 0)).2 - ((x0).getD (j_l2) (0, 0)).1) ((k_l1 : Nat) : Int) ((j_l2 : Nat) : Int))) else s_l2) : (Option (T3 Int Int Int)))) s_l1 (List.range x0.length)) : (Option (T3 Int Int Int)))) (none : (Option (T3 Int Int Int))) ∧ Mus [] H1 H' ∧ Rp.rep K H' w1385 s_l1) (fun H1 e => ⟨(none : (Option (T3 Int Int Int))), _, _, _, _, rfl, rfl, Mus.refl _, (Rp.mono (SF.of e) r1382)⟩) (fun _ _ _ _ h => by obtain ⟨_, _, _, _, _, _, _, m, _⟩ := h; exact m.sf) (fun H1 k1395 k_l1 σ' H' vk_l1 _ e1392 hx1391 hP e1393 rk_l1 => ?_) (fun H1 σ' H' e1392 hP => ?_)
  ·
    obtain ⟨s_l1, w1385, y1386, y1387, y1388, rfl, hs1389, m1394, r1396⟩ := hP
    refine s_gn ?_
    have hk_l1 := List.mem_of_getElem? hx1391
    have hturn1 := hs1389
    refine q_last ?_
    have r1398 := (Rp.mono ((((SF.of e1381).trans (SF.of e1392)).trans m1394.sf).trans (SF.of e1393)) r0)
    -- for j in range(len(bounds))
    refine q_for (K := K) (src_range1 (er_len (er_var rfl r1398)) (by have := hp.2.1; first | omega | (rw [List.length_range]; omega))) (fun H1 k σ' H' => ∃ (s_l2 : (Option (T3 Int Int Int))) (w1400 : V) (y1401 : Option V) (y1402 : Option V), σ' = [some v0, some w1400, some vk_l1, y1401, y1402] ∧ s_l2 = (List.take k (List.range x0.length)).foldl (fun (s_l2 : (Option (T3 Int Int Int))) (j_l2 : Nat) => ((if ((!(decide (((k_l1 : Nat) : Int) = ((j_l2 : Nat) : Int)))) && (s_l2.isNone || (decide ((((x0).getD (k_l1) (0, 0)).2 - ((x0).getD (j_l2) (0, 0)).1) > (s_l2.getD (T3.mk 0 0 0)).a)))) = true then (some (T3.mk (((x0).getD (k_l1) (0, 0)).2 - ((x0).getD (j_l2) (0, 0)).1) ((k_l1 : Nat) : Int) ((j_l2 : Nat) : Int))) else s_l2) : (Option (T3 Int Int Int)))) s_l1 ∧ Mus [] H1 H' ∧ Rp.rep K H' w1400 s_l2) (fun H1 e => ⟨s_l1, _, _, _, rfl, rfl, Mus.refl _, (Rp.mono ((SF.of e1393).trans (SF.of e)) r1396)⟩) (fun _ _ _ _ h => by obtain ⟨_, _, _, _, _, _, m, _⟩ := h; exact m.sf) (fun H1 k1409 j_l2 σ' H' vj_l2 _ e1406 hx1405 hP e1407 rj_l2 => ?_) (fun H1 σ' H' e1406 hP => ?_)
    ·
      obtain ⟨s_l2, w1400, y1401, y1402, rfl, hs1403, m1408, r1410⟩ := hP
      refine s_gn ?_
      have hj_l2 := List.mem_of_getElem? hx1405
      have hturn2 := hs1403
      refine q_set (K := K) (er_op (er_op (er_op (er_var rfl (Rp.mono (((SF.of e1406).trans m1408.sf).trans (SF.of e1407)) r1398)) (er_up (er_var rfl (Rp.mono (((SF.of e1406).trans m1408.sf).trans (SF.of e1407)) rk_l1))) (rr_ixL (x := ((x0).getD (k_l1) (0, 0))) (by exact getD_at (by simp only [List.mem_range, mem_rgI] at *; omega)))) er_int rr_ixP1) (er_op (er_op (er_var rfl (Rp.mono (((SF.of e1406).trans m1408.sf).trans (SF.of e1407)) r1398)) (er_up (er_var rfl rj_l2)) (rr_ixL (x := ((x0).getD (j_l2) (0, 0))) (by exact getD_at (by simp only [List.mem_range, mem_rgI] at *; omega)))) er_int rr_ixP0) rr_sub) (fun v1414 _ e1412 r1413 => ?_)
      refine q_last ?_
      have r1415 := (Rp.mono ((((SF.of e1406).trans m1408.sf).trans (SF.of e1407)).trans (SF.of e1412)) r1398)
      have r1416 := (Rp.mono ((((SF.of e1406).trans m1408.sf).trans (SF.of e1407)).trans (SF.of e1412)) rk_l1)
      refine q_ifset (K := K) (et_and (et_test (er_op (er_up (er_var rfl r1416)) (er_up (er_var rfl (Rp.mono (SF.of e1412) rj_l2))) rr_neI)) (fun hsc => (et_or (et_test (er_isN (er_var rfl (Rp.mono ((SF.of e1407).trans (SF.of e1412)) r1410)))) (fun hsc => (et_test (er_op (er_var rfl r1413) (er_op (er_Oget (x := s_l2.getD (T3.mk 0 0 0)) (er_var rfl (Rp.mono ((SF.of e1407).trans (SF.of e1412)) r1410)) (by exact opt_some hsc)) er_int rr_ixA) rr_gt)))))) (fun hc1418 _ e1417 => (er_O1 (er_three (er_var rfl (Rp.mono (SF.of e1417) r1413)) (er_up (er_var rfl (Rp.mono (SF.of e1417) r1416))) (er_up (er_var rfl (Rp.mono ((SF.of e1412).trans (SF.of e1417)) rj_l2)))))) rfl (Rp.mono ((SF.of e1407).trans (SF.of e1412)) r1410) (fun v1420 _ e1421 r1419 => ?_)
      refine s_nx ?_
      exact ⟨(if ((!(decide (((k_l1 : Nat) : Int) = ((j_l2 : Nat) : Int)))) && (s_l2.isNone || (decide ((((x0).getD (k_l1) (0, 0)).2 - ((x0).getD (j_l2) (0, 0)).1) > (s_l2.getD (T3.mk 0 0 0)).a)))) = true then (some (T3.mk (((x0).getD (k_l1) (0, 0)).2 - ((x0).getD (j_l2) (0, 0)).1) ((k_l1 : Nat) : Int) ((j_l2 : Nat) : Int))) else s_l2), _, _, _, rfl, (fold_step hx1405 hs1403), ((((Mus.baseS (Mus.refl _) m1408 all0).trans (Mus.of e1407)).trans (Mus.of e1412)).trans (Mus.of e1421)), r1419⟩
    ·
      obtain ⟨s_l2, w1400, y1401, y1402, rfl, hs1403, m1408, r1410⟩ := hP
      replace hs1403 := fold_all hs1403
      subst hs1403
      refine s_nx ?_
      exact ⟨(List.foldl (fun (s_l2 : (Option (T3 Int Int Int))) (j_l2 : Nat) => ((if ((!(decide (((k_l1 : Nat) : Int) = ((j_l2 : Nat) : Int)))) && (s_l2.isNone || (decide ((((x0).getD (k_l1) (0, 0)).2 - ((x0).getD (j_l2) (0, 0)).1) > (s_l2.getD (T3.mk 0 0 0)).a)))) = true then (some (T3.mk (((x0).getD (k_l1) (0, 0)).2 - ((x0).getD (j_l2) (0, 0)).1) ((k_l1 : Nat) : Int) ((j_l2 : Nat) : Int))) else s_l2) : (Option (T3 Int Int Int)))) s_l1 (List.range x0.length)), _, _, _, _, rfl, (fold_step hx1391 hs1389), (Mus.baseS (((Mus.baseS (Mus.refl _) m1394 all0).trans (Mus.of e1393)).trans (Mus.of e1406)) m1408 all0), r1410⟩
  ·
    obtain ⟨s_l1, w1385, y1386, y1387, y1388, rfl, hs1389, m1394, r1396⟩ := hP
    replace hs1389 := fold_all hs1389
    subst hs1389
    exact s_ret (K := K) (er_var rfl r1396) (fun u _ e1422 rr => q u _ (Mus.same0 ((Mus.baseS (((Mus.refl _).trans (Mus.of e1381)).trans (Mus.of e1392)) m1394 all0).trans (Mus.of e1422))) rr)
theorem gap_is {o : Option (T3 Int Int Int)} (h : (!o.isNone) = true) : o.isNone = false := by simpa using h
def prs (n : Nat) : List (Nat × Nat) := (List.range n).flatMap fun x => (List.range n).map fun y => (x, y)
theorem mem_prs {n : Nat} {p : Nat × Nat} : p ∈ prs n ↔ p.1 < n ∧ p.2 < n := by
  unfold prs
  rw [List.mem_flatMap]
  constructor
  · rintro ⟨x, hx, hp⟩
    obtain ⟨y, hy, rfl⟩ := List.mem_map.mp hp
    exact ⟨List.mem_range.mp hx, List.mem_range.mp hy⟩
  · rintro ⟨h1, h2⟩
    exact ⟨p.1, List.mem_range.mpr h1, List.mem_map.mpr ⟨p.2, List.mem_range.mpr h2, rfl⟩⟩
theorem gap_fold (b : List (Int × Int)) : m_pair_gap b = (prs b.length).foldl (fun s p => if ((fun p : Nat × Nat => !(decide ((p.1 : Int) = (p.2 : Int)))) p && (s.isNone || decide (T3.a ((fun p : Nat × Nat => T3.mk (hi b p.1 - lo b p.2) (p.1 : Int) (p.2 : Int)) p) > T3.a (s.getD (T3.mk 0 0 0))))) = true then some ((fun p : Nat × Nat => T3.mk (hi b p.1 - lo b p.2) (p.1 : Int) (p.2 : Int)) p) else s) none :=
  fold_nest (fun (k j : Nat) (s : Option (T3 Int Int Int)) => if (!(decide ((k : Int) = (j : Int))) && (s.isNone || decide (hi b k - lo b j > (s.getD (T3.mk 0 0 0)).a))) = true then some (T3.mk (hi b k - lo b j) (k : Int) (j : Int)) else s) (fun _ => List.range b.length) (List.range b.length) none
theorem gap_cases (b : List (Int × Int)) : (m_pair_gap b = none ∧ b.length ≤ 1) ∨ ∃ k j : Nat, k < b.length ∧ j < b.length ∧ k ≠ j ∧ m_pair_gap b = some (T3.mk (hi b k - lo b j) (k : Int) (j : Int)) ∧ ∀ x y, x < b.length → y < b.length → x ≠ y → hi b x - lo b y ≤ hi b k - lo b j := by
  rw [gap_fold]
  rcases fold_first (c := fun p : Nat × Nat => !(decide ((p.1 : Int) = (p.2 : Int)))) (v := fun p : Nat × Nat => T3.mk (hi b p.1 - lo b p.2) (p.1 : Int) (p.2 : Int)) (key := T3.a) (d := T3.mk 0 0 0) (prs b.length) none with ⟨h1, h2⟩ | ⟨p, hp, h1, h2, h3, _⟩
  · refine .inl ⟨h1, ?_⟩
    by_cases h : b.length ≤ 1
    · exact h
    · obtain ⟨t, e, _⟩ := h2 (0, 1) (mem_prs.mpr ⟨by show 0 < b.length; omega, by show 1 < b.length; omega⟩) (by decide)
      cases e
  · have hp := mem_prs.mp hp
    refine .inr ⟨p.1, p.2, hp.1, hp.2, by simp at h1; omega, h2, fun x y hx hy hn => ?_⟩
    exact h3 (x, y) (mem_prs.mpr ⟨hx, hy⟩) (by simp; omega)
theorem gap_some {b : List (Int × Int)} (h : (m_pair_gap b).isNone = false) : ∃ k j : Nat, k < b.length ∧ j < b.length ∧ k ≠ j ∧ m_pair_gap b = some (T3.mk (hi b k - lo b j) (k : Int) (j : Int)) ∧ ∀ x y, x < b.length → y < b.length → x ≠ y → hi b x - lo b y ≤ hi b k - lo b j := by
  rcases gap_cases b with ⟨e, _⟩ | g
  · rw [e] at h; cases h
  · exact g

def m_widest_choice (x0 : (List (Int × Int))) : (List Int) := (if (!(m_pair_gap x0).isNone) = true then ((m_lows x0).set ((((m_pair_gap x0).getD (T3.mk 0 0 0)).b).toNat) (((x0).getD (((m_pair_gap x0).getD (T3.mk 0 0 0)).b).toNat (0, 0)).2)) else (m_lows x0))
theorem ok_widest_choice (T : Txt K mg) : Ok P w K mg base CX0 5 "widest_choice" ["bounds"] (sl1 K ((fun b => BOk b) : (List (Int × Int)) → Prop) m_widest_choice) := by
  refine ok_of T.d_widest_choice sc_widest_choice (bi1 fun _ _ _ _ _ _ _ => rfl) len_sl1 (fun f cdv A outer s H vs Q E hr h => ?_)
  have nd := sc_widest_choice.nd
  obtain ⟨v0, x0, rfl, r0, hp, q⟩ := h
  refine ⟨_, (pss_cons (ps_expr (pe_fn (ok_check_bounds T) (hr.mono (by decide)) pass0 (pa_cons (pv 0) pa_nil)))
      (pss_cons (ps_set (i := 1) nd rfl (.inl rfl) (pe_fn (ok_pair_gap T) (hr.mono (by decide)) pass0 (pa_cons (pv 0) pa_nil)))
      (pss_cons (ps_set (i := 2) nd rfl (.inl rfl) (pe_fn (ok_lows T) (hr.mono (by decide)) pass0 (pa_cons (pv 0) pa_nil)))
      (pss_cons (ps_if (pt_cmpR op_notN1 (pv 1) pe_non (nomark _)) (pss_one (ps_asg (pe_ix (k_ixt K rfl) (pe_ix (k_ixl K rfl) (pv 0) (pe_ix (k_ixt K rfl) (pv 1) pe_int (fun _ _ => rfl)) (fun _ _ => rfl)) pe_int (fun _ _ => rfl)) (pg_sub (pv 2) (pe_ix (k_ixt K rfl) (pv 1) pe_int (fun _ _ => rfl)) set_list))) pss_nil)
      (pss_one (ps_ret (pv 2))))))), ?_⟩
  refine q_drop (K := K) (er_call1 (er_var rfl r0) (by exact hp)) (fun _ e1423 => ?_)
  refine q_set (K := K) (er_call1 (er_var rfl (Rp.mono (SF.of e1423) r0)) (by exact hp)) (fun v1426 _ e1424 r1425 => ?_)
  refine q_setL (K := K) (erl_call1 (er_var rfl (Rp.mono ((SF.of e1423).trans (SF.of e1424)) r0)) (by have := hp.2.1; omega)) (fun p1427 _ _ e1428 hn1429 h1430 rl1431 => ?_)
  have f1433 := Mus.fresh (((Mus.refl _).trans (Mus.of e1423)).trans (Mus.of e1424)) nin0 hn1429
  have u1432 := Un.of h1430 rl1431
  refine q_if (K := K) (et_test (er_notN (er_var rfl (Rp.mono (SF.of e1428) r1425)))) (fun hc1435 _ e1434 => ?_) (fun hc1435 _ e1434 => ?_)
  ·
    refine q_last ?_
    have r1436 := (Rp.mono ((((SF.of e1423).trans (SF.of e1424)).trans (SF.of e1428)).trans (SF.of e1434)) r0)
    refine q_setI (K := K) rfl (Un.mono e1434 u1432) (er_op (er_op (er_var rfl r1436) (er_op (er_Oget (x := (m_pair_gap x0).getD (T3.mk 0 0 0)) (er_var rfl (Rp.mono ((SF.of e1428).trans (SF.of e1434)) r1425)) (by exact opt_some (gap_is (by assumption)))) er_int rr_ixB) (rr_ixI (x := ((x0).getD (((m_pair_gap x0).getD (T3.mk 0 0 0)).b).toNat (0, 0))) (n := (((m_pair_gap x0).getD (T3.mk 0 0 0)).b).toNat) (by obtain ⟨k, j, h1, h2, h3, e, h4⟩ := gap_some (gap_is (by assumption)); rw [e]; rfl) (by obtain ⟨k, j, h1, h2, h3, e, h4⟩ := gap_some (gap_is (by assumption)); first | exact getD_at (by rw [e]; exact h1) | (rw [len_lows, e]; exact h1)))) er_int rr_ixP1) (er_dn (n := (((m_pair_gap x0).getD (T3.mk 0 0 0)).b).toNat) (er_op (er_Oget (x := (m_pair_gap x0).getD (T3.mk 0 0 0)) (er_var rfl (Rp.mono ((SF.of e1428).trans (SF.of e1434)) r1425)) (by exact opt_some (gap_is (by assumption)))) er_int rr_ixB) (by obtain ⟨k, j, h1, h2, h3, e, h4⟩ := gap_some (gap_is (by assumption)); rw [e]; rfl)) (by obtain ⟨k, j, h1, h2, h3, e, h4⟩ := gap_some (gap_is (by assumption)); first | exact getD_at (by rw [e]; exact h1) | (rw [len_lows, e]; exact h1)) (fun _ m1437 u1438 => ?_)
    refine s_nxz ?_
    obtain ⟨us, h1, rr⟩ := u1438
    exact ⟨.ref p1427, rfl, q p1427 us _ (Mus.same0 (Mus.mut (((((Mus.refl _).trans (Mus.of e1423)).trans (Mus.of e1424)).trans (Mus.of e1428)).trans (Mus.of e1434)) f1433 m1437)) f1433 h1 (by rw [(show m_widest_choice x0 = ((m_lows x0).set ((((m_pair_gap x0).getD (T3.mk 0 0 0)).b).toNat) (((x0).getD (((m_pair_gap x0).getD (T3.mk 0 0 0)).b).toNat (0, 0)).2)) from by unfold m_widest_choice; rw [if_pos hc1435])]; exact rr)⟩
  ·
    refine s_nxz ?_
    have r1439 := (Rp.mono ((((SF.of e1423).trans (SF.of e1424)).trans (SF.of e1428)).trans (SF.of e1434)) r0)
    obtain ⟨us, h1, rr⟩ := (Un.mono e1434 u1432)
    exact ⟨.ref p1427, rfl, q p1427 us _ (((e1423.trans e1424).trans e1428).trans e1434) f1433 h1 (by rw [(show m_widest_choice x0 = (m_lows x0) from by unfold m_widest_choice; rw [if_neg (nff hc1435)])]; exact rr)⟩
def m_narrowest_choice (x0 : (List (Int × Int))) : (List Int) := (x0.map (fun (x1452 : (Int × Int)) => (min x1452.2 (max x1452.1 (min (mxl (m_lows x0)) (mnl (m_highs x0)))))))
theorem ok_narrowest_choice (T : Txt K mg) : Ok P w K mg base CX0 5 "narrowest_choice" ["bounds"] (sl1 K ((fun b => BOk b) : (List (Int × Int)) → Prop) m_narrowest_choice) := by
  refine ok_of T.d_narrowest_choice sc_narrowest_choice (bi1 fun _ _ _ _ _ _ _ => rfl) len_sl1 (fun f cdv A outer s H vs Q E hr h => ?_)
  have nd := sc_narrowest_choice.nd
  obtain ⟨v0, x0, rfl, r0, hp, q⟩ := h
  refine ⟨_, (pss_cons (ps_expr (pe_fn (ok_check_bounds T) (hr.mono (by decide)) pass0 (pa_cons (pv 0) pa_nil)))
      (pss_cons (ps_set (i := 1) nd rfl (.inr rfl) (pe_callB (call_min2 rfl) (by rfl) T.n_min (by decide +kernel) (pa_cons (pe_callB (k_max K rfl rfl) (by rfl) T.n_max (by decide +kernel) (pa_cons (pe_frz (pe_fn (ok_lows T) (hr.mono (by decide)) pass0 (pa_cons (pv 0) pa_nil))) pa_nil)) (pa_cons (pe_callB (k_min K rfl rfl) (by rfl) T.n_min (by decide +kernel) (pa_cons (pe_frz (pe_fn (ok_highs T) (hr.mono (by decide)) pass0 (pa_cons (pv 0) pa_nil))) pa_nil)) pa_nil))))
      (pss_one (ps_ret (pe_lc (own := [("low", 2), ("high", 3)]) rfl nd (k_pl K rfl (pv 0)) (blkOk_by (N := N_narrowest_choice) (sc := defScope s_narrowest_choice) (by decide +kernel)) (fun _ _ _ _ _ => (k_gt K rfl 2 rfl (pgs_cons (pg_name (i := 2) nd rfl (.inl rfl) (.inr rfl)) (pgs_cons (pg_name (i := 3) nd rfl (.inl rfl) (.inr rfl)) pgs_nil)))) (fun _ _ _ _ _ => pts_nil) (fun _ _ _ _ _ => (pe_callB (call_min2 rfl) (by rfl) T.n_min (by decide +kernel) (pa_cons (pv 3) (pa_cons (pe_callB (call_max2 rfl) (by rfl) T.n_max (by decide +kernel) (pa_cons (pv 2) (pa_cons (pv 1) pa_nil))) pa_nil))))))))), ?_⟩
  refine q_drop (K := K) (er_call1 (er_var rfl r0) (by exact hp)) (fun _ e1447 => ?_)
  refine q_set (K := K) (er_min2 (er_max (er_frz (erl_call1 (er_var rfl (Rp.mono (SF.of e1447) r0)) (by first | omega | (have := hp.2.1; omega) | (have := hp.1.2.1; omega)))) (by first | exact ne_lows hp | exact ne_highs hp)) (er_min (er_frz (erl_call1 (er_var rfl (Rp.mono (SF.of e1447) r0)) (by first | omega | (have := hp.2.1; omega) | (have := hp.1.2.1; omega)))) (by first | exact ne_lows hp | exact ne_highs hp))) (fun v1450 _ e1448 r1449 => ?_)
  exact s_retL (K := K) (erl_lm2 (f := fun (x1452 : (Int × Int)) => (min x1452.2 (max x1452.1 (min (mxl (m_lows x0)) (mnl (m_highs x0)))))) (src_list (er_var rfl (Rp.mono ((SF.of e1447).trans (SF.of e1448)) r0))) (by have := hp.2.1; first | omega | (rw [List.length_range]; omega)) (by intros; rfl) (fun x1452 hx1453 v1454 v1455 _ e1451 r1456 r1457 => (er_min2 (er_var rfl r1457) (er_max2 (er_var rfl r1456) (er_var rfl (Rp.mono (SF.of e1451) r1449)))))) (fun p us _ e1458 hn h1 rr => q p us _ ((e1447.trans e1448).trans e1458) ((e1447.trans e1448).free hn) h1 rr)
def m_surely_apart (x0 : (List (Int × Int))) : (List (Int × Int)) := (List.foldl (fun (s_l1 : (List (Int × Int))) (k_l1 : Nat) => ((List.foldl (fun (s_l2 : (List (Int × Int))) (j_l2 : Int) => ((if ((decide (((x0).getD (k_l1) (0, 0)).1 > ((x0).getD (j_l2).toNat (0, 0)).2)) || (decide (((x0).getD (j_l2).toNat (0, 0)).1 > ((x0).getD (k_l1) (0, 0)).2))) = true then (s_l2 ++ [(((k_l1 : Nat) : Int), j_l2)]) else s_l2) : (List (Int × Int)))) s_l1 (rgI (((k_l1 : Nat) : Int) + (1 : Int)) (((x0.length : Nat) : Int) - (((k_l1 : Nat) : Int) + (1 : Int))).toNat)) : (List (Int × Int)))) ([] : (List (Int × Int))) (List.range x0.length))
theorem ok_surely_apart (T : Txt K mg) : Ok P w K mg base CX0 5 "surely_apart" ["bounds"] (sl1 K ((fun b => BOk b) : (List (Int × Int)) → Prop) m_surely_apart) := by
  refine ok_of T.d_surely_apart sc_surely_apart (bi1 fun _ _ _ _ _ _ _ => rfl) len_sl1 (fun f cdv A outer s H vs Q E hr h => ?_)
  have nd := sc_surely_apart.nd
  obtain ⟨v0, x0, rfl, r0, hp, q⟩ := h
  refine ⟨_, (pss_cons (ps_expr (pe_fn (ok_check_bounds T) (hr.mono (by decide)) pass0 (pa_cons (pv 0) pa_nil)))
      (pss_cons (ps_set (i := 1) nd rfl (.inl rfl) (pe_lst pa_nil))
      (pss_cons (ps_for PassesOwn.never rfl (pi_range1 (by rfl) T.n_range (pa_cons (pe_callB (k_len K rfl) (by rfl) T.n_len PySem.boot_len (pa_cons (pv 0) pa_nil)) pa_nil)) (pg_name (i := 2) nd rfl (.inl rfl) (.inr rfl)) (pss_one (ps_for PassesOwn.never rfl (pi_range2 (by rfl) T.n_range (pa_cons (pe_op op_add (pv 2) pe_int) (pa_cons (pe_callB (k_len K rfl) (by rfl) T.n_len PySem.boot_len (pa_cons (pv 0) pa_nil)) pa_nil))) (pg_name (i := 3) nd rfl (.inl rfl) (.inr rfl)) (pss_one (ps_if (PW.pt (pw_or (pt_cmpR op_gt (pe_ix (k_ixt K rfl) (pe_ix (k_ixl K rfl) (pv 0) (pv 2) (fun _ _ => rfl)) pe_int (fun _ _ => rfl)) (pe_ix (k_ixt K rfl) (pe_ix (k_ixl K rfl) (pv 0) (pv 3) (fun _ _ => rfl)) pe_int (fun _ _ => rfl)) (nomark _)) (pw_or1 (pt_cmpR op_gt (pe_ix (k_ixt K rfl) (pe_ix (k_ixl K rfl) (pv 0) (pv 3) (fun _ _ => rfl)) pe_int (fun _ _ => rfl)) (pe_ix (k_ixt K rfl) (pe_ix (k_ixl K rfl) (pv 0) (pv 2) (fun _ _ => rfl)) pe_int (fun _ _ => rfl)) (nomark _))))) (pss_one (ps_expr (k_app K rfl (pv 1) (pe_tup (pa_cons (pv 2) (pa_cons (pv 3) pa_nil)))))) pss_nil)))))
      (pss_one (ps_ret (pv 1)))))), ?_⟩
  refine q_drop (K := K) (er_call1 (er_var rfl r0) (by exact hp)) (fun _ e1459 => ?_)
  refine q_setL (K := K) (erl_lst (α := (Int × Int)) ea_nil) (fun p1460 _ _ e1461 hn1462 h1463 rl1464 => ?_)
  have f1466 := Mus.fresh ((Mus.refl _).trans (Mus.of e1459)) nin0 hn1462
  have u1465 := Un.of h1463 rl1464
  -- for k in range(len(bounds))
  refine q_for (K := K) (src_range1 (er_len (er_var rfl (Rp.mono ((SF.of e1459).trans (SF.of e1461)) r0))) (by first | (have := hp.2.1; omega) | (simp only [List.mem_range, mem_rgI] at *; have := hp.2.1; omega) | (have g2 := fold_growE 1 hturn2 (fun s x _ => by split <;> simp); have g1 := fold_growE 7 hturn1 (fun s x _ => Nat.le_trans (fold_grow (c := 1) (fun s x _ => by split <;> simp)) (by rw [len_rgI]; have := hp.2.1; omega)); simp only [List.length_take, List.length_range, List.length_nil, len_rgI] at g1 g2; have := hp.2.1; omega))) (fun H1 k σ' H' => ∃ (s_l1 : (List (Int × Int))) (y1468 : Option V) (y1469 : Option V), σ' = [some v0, some (.ref p1460), y1468, y1469] ∧ s_l1 = (List.take k (List.range x0.length)).foldl (fun (s_l1 : (List (Int × Int))) (k_l1 : Nat) => ((List.foldl (fun (s_l2 : (List (Int × Int))) (j_l2 : Int) => ((if ((decide (((x0).getD (k_l1) (0, 0)).1 > ((x0).getD (j_l2).toNat (0, 0)).2)) || (decide (((x0).getD (j_l2).toNat (0, 0)).1 > ((x0).getD (k_l1) (0, 0)).2))) = true then (s_l2 ++ [(((k_l1 : Nat) : Int), j_l2)]) else s_l2) : (List (Int × Int)))) s_l1 (rgI (((k_l1 : Nat) : Int) + (1 : Int)) (((x0.length : Nat) : Int) - (((k_l1 : Nat) : Int) + (1 : Int))).toNat)) : (List (Int × Int)))) ([] : (List (Int × Int))) ∧ Mus [p1460] H1 H' ∧ Un K H' p1460 s_l1) (fun H1 e => ⟨([] : (List (Int × Int))), _, _, rfl, rfl, Mus.refl _, (Un.mono e u1465)⟩) (fun _ _ _ _ h => by obtain ⟨_, _, _, _, _, m, _⟩ := h; exact m.sf) (fun H1 k1476 k_l1 σ' H' vk_l1 _ e1473 hx1472 hP e1474 rk_l1 => ?_) (fun H1 σ' H' e1473 hP => ?_)
  ·
    obtain ⟨s_l1, y1468, y1469, rfl, hs1470, m1475, u1477⟩ := hP
    refine s_gn ?_
    have hk_l1 := List.mem_of_getElem? hx1472
    have hturn1 := hs1470
    refine q_last ?_
    have r1479 := (Rp.mono (((((SF.of e1459).trans (SF.of e1461)).trans (SF.of e1473)).trans m1475.sf).trans (SF.of e1474)) r0)
    -- for j in range(k + 1, len(bounds))
    refine q_for (K := K) (src_range2 (er_op (er_up (er_var rfl rk_l1)) er_int rr_add) (er_up (er_len (er_var rfl r1479))) (by first | (have := hp.2.1; omega) | (simp only [List.mem_range, mem_rgI] at *; have := hp.2.1; omega) | (have g2 := fold_growE 1 hturn2 (fun s x _ => by split <;> simp); have g1 := fold_growE 7 hturn1 (fun s x _ => Nat.le_trans (fold_grow (c := 1) (fun s x _ => by split <;> simp)) (by rw [len_rgI]; have := hp.2.1; omega)); simp only [List.length_take, List.length_range, List.length_nil, len_rgI] at g1 g2; have := hp.2.1; omega)) (by first | (have := hp.2.1; omega) | (simp only [List.mem_range, mem_rgI] at *; have := hp.2.1; omega) | (have g2 := fold_growE 1 hturn2 (fun s x _ => by split <;> simp); have g1 := fold_growE 7 hturn1 (fun s x _ => Nat.le_trans (fold_grow (c := 1) (fun s x _ => by split <;> simp)) (by rw [len_rgI]; have := hp.2.1; omega)); simp only [List.length_take, List.length_range, List.length_nil, len_rgI] at g1 g2; have := hp.2.1; omega))) (fun H1 k σ' H' => ∃ (s_l2 : (List (Int × Int))) (y1481 : Option V), σ' = [some v0, some (.ref p1460), some vk_l1, y1481] ∧ s_l2 = (List.take k (rgI (((k_l1 : Nat) : Int) + (1 : Int)) (((x0.length : Nat) : Int) - (((k_l1 : Nat) : Int) + (1 : Int))).toNat)).foldl (fun (s_l2 : (List (Int × Int))) (j_l2 : Int) => ((if ((decide (((x0).getD (k_l1) (0, 0)).1 > ((x0).getD (j_l2).toNat (0, 0)).2)) || (decide (((x0).getD (j_l2).toNat (0, 0)).1 > ((x0).getD (k_l1) (0, 0)).2))) = true then (s_l2 ++ [(((k_l1 : Nat) : Int), j_l2)]) else s_l2) : (List (Int × Int)))) s_l1 ∧ Mus [p1460] H1 H' ∧ Un K H' p1460 s_l2) (fun H1 e => ⟨s_l1, _, rfl, rfl, Mus.refl _, (Un.mono e (Un.mono e1474 u1477))⟩) (fun _ _ _ _ h => by obtain ⟨_, _, _, _, m, _⟩ := h; exact m.sf) (fun H1 k1488 j_l2 σ' H' vj_l2 _ e1485 hx1484 hP e1486 rj_l2 => ?_) (fun H1 σ' H' e1485 hP => ?_)
    ·
      obtain ⟨s_l2, y1481, rfl, hs1482, m1487, u1489⟩ := hP
      refine s_gn ?_
      have hj_l2 := List.mem_of_getElem? hx1484
      have hturn2 := hs1482
      refine q_last ?_
      refine q_if (K := K) (et_or (et_test (er_op (er_op (er_op (er_var rfl (Rp.mono (((SF.of e1485).trans m1487.sf).trans (SF.of e1486)) r1479)) (er_up (er_var rfl (Rp.mono (((SF.of e1485).trans m1487.sf).trans (SF.of e1486)) rk_l1))) (rr_ixL (x := ((x0).getD (k_l1) (0, 0))) (by exact getD_at (by simp only [List.mem_range, mem_rgI] at *; omega)))) er_int rr_ixP0) (er_op (er_op (er_var rfl (Rp.mono (((SF.of e1485).trans m1487.sf).trans (SF.of e1486)) r1479)) (er_var rfl rj_l2) (rr_ixI (x := ((x0).getD (j_l2).toNat (0, 0))) (n := (j_l2).toNat) (by simp only [List.mem_range, mem_rgI] at *; omega) (by exact getD_at (by simp only [List.mem_range, mem_rgI] at *; omega)))) er_int rr_ixP1) rr_gt)) (fun hsc => (et_test (er_op (er_op (er_op (er_var rfl (Rp.mono (((SF.of e1485).trans m1487.sf).trans (SF.of e1486)) r1479)) (er_var rfl rj_l2) (rr_ixI (x := ((x0).getD (j_l2).toNat (0, 0))) (n := (j_l2).toNat) (by simp only [List.mem_range, mem_rgI] at *; omega) (by exact getD_at (by simp only [List.mem_range, mem_rgI] at *; omega)))) er_int rr_ixP0) (er_op (er_op (er_var rfl (Rp.mono (((SF.of e1485).trans m1487.sf).trans (SF.of e1486)) r1479)) (er_up (er_var rfl (Rp.mono (((SF.of e1485).trans m1487.sf).trans (SF.of e1486)) rk_l1))) (rr_ixL (x := ((x0).getD (k_l1) (0, 0))) (by exact getD_at (by simp only [List.mem_range, mem_rgI] at *; omega)))) er_int rr_ixP1) rr_gt)))) (fun hc1492 _ e1491 => ?_) (fun hc1492 _ e1491 => ?_)
      ·
        refine q_last ?_
        have r1493 := (Rp.mono ((((SF.of e1485).trans m1487.sf).trans (SF.of e1486)).trans (SF.of e1491)) r1479)
        have r1494 := (Rp.mono ((((SF.of e1485).trans m1487.sf).trans (SF.of e1486)).trans (SF.of e1491)) rk_l1)
        refine q_app (K := K) rfl (Un.mono e1491 (Un.mono e1486 u1489)) (er_pair (er_up (er_var rfl r1494)) (er_var rfl (Rp.mono (SF.of e1491) rj_l2))) (by first | (have := hp.2.1; omega) | (simp only [List.mem_range, mem_rgI] at *; have := hp.2.1; omega) | (have g2 := fold_growE 1 hturn2 (fun s x _ => by split <;> simp); have g1 := fold_growE 7 hturn1 (fun s x _ => Nat.le_trans (fold_grow (c := 1) (fun s x _ => by split <;> simp)) (by rw [len_rgI]; have := hp.2.1; omega)); simp only [List.length_take, List.length_range, List.length_nil, len_rgI] at g1 g2; have := hp.2.1; omega)) (fun _ m1495 u1496 => ?_)
        refine s_nxz ?_
        refine s_nx ?_
        exact ⟨(s_l2 ++ [(((k_l1 : Nat) : Int), j_l2)]), _, rfl, (Eq.trans (show (s_l2 ++ [(((k_l1 : Nat) : Int), j_l2)]) = (if ((decide (((x0).getD (k_l1) (0, 0)).1 > ((x0).getD (j_l2).toNat (0, 0)).2)) || (decide (((x0).getD (j_l2).toNat (0, 0)).1 > ((x0).getD (k_l1) (0, 0)).2))) = true then (s_l2 ++ [(((k_l1 : Nat) : Int), j_l2)]) else s_l2) from by rw [if_pos hc1492]) (fold_step hx1484 hs1482)), ((((Mus.baseS (Mus.refl _) m1487 (allC (.inr (.head _)) all0)).trans (Mus.of e1486)).trans (Mus.of e1491)).trans (Mus.mu m1495 (.head _))), u1496⟩
      ·
        refine s_nxz ?_
        refine s_nx ?_
        exact ⟨s_l2, _, rfl, (Eq.trans (show s_l2 = (if ((decide (((x0).getD (k_l1) (0, 0)).1 > ((x0).getD (j_l2).toNat (0, 0)).2)) || (decide (((x0).getD (j_l2).toNat (0, 0)).1 > ((x0).getD (k_l1) (0, 0)).2))) = true then (s_l2 ++ [(((k_l1 : Nat) : Int), j_l2)]) else s_l2) from by rw [if_neg (nff hc1492)]) (fold_step hx1484 hs1482)), (((Mus.baseS (Mus.refl _) m1487 (allC (.inr (.head _)) all0)).trans (Mus.of e1486)).trans (Mus.of e1491)), (Un.mono e1491 (Un.mono e1486 u1489))⟩
    ·
      obtain ⟨s_l2, y1481, rfl, hs1482, m1487, u1489⟩ := hP
      replace hs1482 := fold_all hs1482
      subst hs1482
      refine s_nx ?_
      exact ⟨(List.foldl (fun (s_l2 : (List (Int × Int))) (j_l2 : Int) => ((if ((decide (((x0).getD (k_l1) (0, 0)).1 > ((x0).getD (j_l2).toNat (0, 0)).2)) || (decide (((x0).getD (j_l2).toNat (0, 0)).1 > ((x0).getD (k_l1) (0, 0)).2))) = true then (s_l2 ++ [(((k_l1 : Nat) : Int), j_l2)]) else s_l2) : (List (Int × Int)))) s_l1 (rgI (((k_l1 : Nat) : Int) + (1 : Int)) (((x0.length : Nat) : Int) - (((k_l1 : Nat) : Int) + (1 : Int))).toNat)), _, _, rfl, (fold_step hx1472 hs1470), (Mus.baseS (((Mus.baseS (Mus.refl _) m1475 (allC (.inr (.head _)) all0)).trans (Mus.of e1474)).trans (Mus.of e1485)) m1487 (allC (.inr (.head _)) all0)), u1489⟩
  ·
    obtain ⟨s_l1, y1468, y1469, rfl, hs1470, m1475, u1477⟩ := hP
    replace hs1470 := fold_all hs1470
    subst hs1470
    have r1497 := (Rp.mono ((((SF.of e1459).trans (SF.of e1461)).trans (SF.of e1473)).trans m1475.sf) r0)
    obtain ⟨us, h1, rr⟩ := u1477
    exact ⟨.ref p1460, rfl, q p1460 us _ (Mus.same0 (Mus.baseS ((((Mus.refl _).trans (Mus.of e1459)).trans (Mus.of e1461)).trans (Mus.of e1473)) m1475 (allC (.inl f1466) all0))) f1466 h1 rr⟩
def m_corner_choices (x0 : (List (Int × Int))) : (List (List Int)) := (List.foldl (fun (s_l1 : (List (List Int))) (low_high_l1 : (Int × Int)) => (((s_l1.map (fun (x1531 : (List Int)) => (x1531 ++ ([low_high_l1.1] : (List Int))))) ++ (mapIf (fun (x1536 : (List Int)) => (decide (low_high_l1.2 > low_high_l1.1))) (fun (x1536 : (List Int)) => (x1536 ++ ([low_high_l1.2] : (List Int)))) s_l1)) : (List (List Int)))) ([([] : (List Int))] : (List (List Int))) x0)
theorem ok_corner_choices (T : Txt K mg) : Ok P w K mg base CX0 1 "corner_choices" ["bounds"] (sp1 K ((fun b => BOk b) : (List (Int × Int)) → Prop) m_corner_choices) := by
  refine ok_of T.d_corner_choices sc_corner_choices (bi1 fun _ _ _ _ _ _ _ => rfl) len_sp1 (fun f cdv A outer s H vs Q E hr h => ?_)
  have nd := sc_corner_choices.nd
  obtain ⟨v0, x0, rfl, r0, hp, q⟩ := h
  refine ⟨_, (pss_cons (ps_set (i := 1) nd rfl (.inl rfl) (pe_frz (pe_lst (pa_cons (pe_frz (pe_lst pa_nil)) pa_nil))))
      (pss_cons (ps_for PassesOwn.never rfl (k_pl K rfl (pv 0)) (k_gt K rfl 2 rfl (pgs_cons (pg_name (i := 2) nd rfl (.inr rfl) (.inl rfl)) (pgs_cons (pg_name (i := 3) nd rfl (.inr rfl) (.inl rfl)) pgs_nil))) (pss_one (ps_set (i := 1) nd rfl (.inl rfl) (pe_frz (pe_op op_catR (pe_frz (pe_lc (own := [("one", 4)]) rfl nd (k_pl K rfl (pv 1)) (blkOk_by (N := N_corner_choices) (sc := defScope s_corner_choices) (by decide +kernel)) (fun _ _ _ _ _ => (pg_name (i := 4) nd rfl (.inl rfl) (.inr rfl))) (fun _ _ _ _ _ => pts_nil) (fun _ _ _ _ _ => (pe_frz (pe_op op_catR (pv 4) (pe_frz (pe_lst (pa_cons (pv 2) pa_nil)))))))) (pe_frz (pe_lc (own := [("one", 4)]) rfl nd (k_pl K rfl (pv 1)) (blkOk_by (N := N_corner_choices) (sc := defScope s_corner_choices) (by decide +kernel)) (fun _ _ _ _ _ => (pg_name (i := 4) nd rfl (.inl rfl) (.inr rfl))) (fun _ _ _ _ _ => (pts_one (pt_cmpR op_gt (pv 3) (pv 2) (nomark _)))) (fun _ _ _ _ _ => (pe_frz (pe_op op_catR (pv 4) (pe_frz (pe_lst (pa_cons (pv 3) pa_nil)))))))))))))
      (pss_one (ps_ret (pv 1))))), ?_⟩
  refine q_set (K := K) (er_frz (erl_lst (α := (List Int)) (ea_cons (er_frz (erl_lst (α := Int) ea_nil)) ea_nil))) (fun v1510 _ e1508 r1509 => ?_)
  -- for (low, high) in bounds
  refine q_for (K := K) (src_list (er_var rfl (Rp.mono (SF.of e1508) r0))) (fun H1 k σ' H' => ∃ (s_l1 : (List (List Int))) (w1512 : V) (y1513 : Option V) (y1514 : Option V), σ' = [some v0, some w1512, y1513, y1514, none] ∧ s_l1 = (List.take k x0).foldl (fun (s_l1 : (List (List Int))) (low_high_l1 : (Int × Int)) => (((s_l1.map (fun (x1531 : (List Int)) => (x1531 ++ ([low_high_l1.1] : (List Int))))) ++ (mapIf (fun (x1536 : (List Int)) => (decide (low_high_l1.2 > low_high_l1.1))) (fun (x1536 : (List Int)) => (x1536 ++ ([low_high_l1.2] : (List Int)))) s_l1)) : (List (List Int)))) ([([] : (List Int))] : (List (List Int))) ∧ Mus [] H1 H' ∧ Rp.rep K H' w1512 s_l1) (fun H1 e => ⟨([([] : (List Int))] : (List (List Int))), _, _, _, rfl, rfl, Mus.refl _, (Rp.mono (SF.of e) r1509)⟩) (fun _ _ _ _ h => by obtain ⟨_, _, _, _, _, _, m, _⟩ := h; exact m.sf) (fun H1 k1521 low_high_l1 σ' H' vlow_high_l1 _ e1518 hx1517 hP e1519 rlow_high_l1 => ?_) (fun H1 σ' H' e1518 hP => ?_)
  ·
    obtain ⟨s_l1, w1512, y1513, y1514, rfl, hs1515, m1520, r1522⟩ := hP
    obtain ⟨v1524, v1525, r1526, r1527, tg1528⟩ := tg_pair (k := 2) (m := 3) rlow_high_l1
    refine tg1528 _ ?_
    have hlow_high_l1 := List.mem_of_getElem? hx1517
    have hturn1 := hs1515
    refine q_last ?_
    have r1529 := (Rp.mono ((((SF.of e1508).trans (SF.of e1518)).trans m1520.sf).trans (SF.of e1519)) r0)
    refine q_set (K := K) (er_frz (erl_cat (er_frz (erl_lm1 (f := fun (x1531 : (List Int)) => (x1531 ++ ([low_high_l1.1] : (List Int)))) (src_list (er_var rfl (Rp.mono (SF.of e1519) r1522))) (by first | (have g := cor_lenE hturn1 (by rw [List.length_take]; have := hp.2.1; omega); omega) | (have g := cor_lenE hturn1 (by rw [List.length_take]; have := hp.2.1; omega); have g2 := mapIf_le (c := fun _ : List Int => decide (low_high_l1.2 > low_high_l1.1)) (f := fun r => r ++ [low_high_l1.2]) (l := s_l1); rw [List.length_map]; omega) | (have g := inB_len (cor_inE hturn1 (fun p hh => (hp.2.2 p (List.mem_of_mem_take hh)).2.1) _ (by assumption)); rw [List.length_take] at g; have := hp.2.1; simp; omega)) (by intros; rfl) (fun x1531 hx1532 v1533 _ e1530 r1534 => (er_frz (erl_cat (er_var rfl r1534) (er_frz (erl_lst (α := Int) (ea_cons (er_var rfl (Rp.mono (SF.of e1530) r1526)) ea_nil))) (by first | (have g := cor_lenE hturn1 (by rw [List.length_take]; have := hp.2.1; omega); omega) | (have g := cor_lenE hturn1 (by rw [List.length_take]; have := hp.2.1; omega); have g2 := mapIf_le (c := fun _ : List Int => decide (low_high_l1.2 > low_high_l1.1)) (f := fun r => r ++ [low_high_l1.2]) (l := s_l1); rw [List.length_map]; omega) | (have g := inB_len (cor_inE hturn1 (fun p hh => (hp.2.2 p (List.mem_of_mem_take hh)).2.1) _ (by assumption)); rw [List.length_take] at g; have := hp.2.1; simp; omega))))))) (er_frz (erl_lc1 (c := fun (x1536 : (List Int)) => (decide (low_high_l1.2 > low_high_l1.1))) (f := fun (x1536 : (List Int)) => (x1536 ++ ([low_high_l1.2] : (List Int)))) (src_list (er_var rfl (Rp.mono (SF.of e1519) r1522))) (by first | (have g := cor_lenE hturn1 (by rw [List.length_take]; have := hp.2.1; omega); omega) | (have g := cor_lenE hturn1 (by rw [List.length_take]; have := hp.2.1; omega); have g2 := mapIf_le (c := fun _ : List Int => decide (low_high_l1.2 > low_high_l1.1)) (f := fun r => r ++ [low_high_l1.2]) (l := s_l1); rw [List.length_map]; omega) | (have g := inB_len (cor_inE hturn1 (fun p hh => (hp.2.2 p (List.mem_of_mem_take hh)).2.1) _ (by assumption)); rw [List.length_take] at g; have := hp.2.1; simp; omega)) (by intros; rfl) (fun x1536 hx1537 v1538 _ e1535 r1539 => ⟨(et_test (er_op (er_var rfl (Rp.mono (SF.of e1535) r1527)) (er_var rfl (Rp.mono (SF.of e1535) r1526)) rr_gt)), fun _ => (er_frz (erl_cat (er_var rfl r1539) (er_frz (erl_lst (α := Int) (ea_cons (er_var rfl (Rp.mono (SF.of e1535) r1527)) ea_nil))) (by first | (have g := cor_lenE hturn1 (by rw [List.length_take]; have := hp.2.1; omega); omega) | (have g := cor_lenE hturn1 (by rw [List.length_take]; have := hp.2.1; omega); have g2 := mapIf_le (c := fun _ : List Int => decide (low_high_l1.2 > low_high_l1.1)) (f := fun r => r ++ [low_high_l1.2]) (l := s_l1); rw [List.length_map]; omega) | (have g := inB_len (cor_inE hturn1 (fun p hh => (hp.2.2 p (List.mem_of_mem_take hh)).2.1) _ (by assumption)); rw [List.length_take] at g; have := hp.2.1; simp; omega))))⟩))) (by first | (have g := cor_lenE hturn1 (by rw [List.length_take]; have := hp.2.1; omega); omega) | (have g := cor_lenE hturn1 (by rw [List.length_take]; have := hp.2.1; omega); have g2 := mapIf_le (c := fun _ : List Int => decide (low_high_l1.2 > low_high_l1.1)) (f := fun r => r ++ [low_high_l1.2]) (l := s_l1); rw [List.length_map]; omega) | (have g := inB_len (cor_inE hturn1 (fun p hh => (hp.2.2 p (List.mem_of_mem_take hh)).2.1) _ (by assumption)); rw [List.length_take] at g; have := hp.2.1; simp; omega)))) (fun v1542 _ e1540 r1541 => ?_)
    refine s_nx ?_
    exact ⟨((s_l1.map (fun (x1531 : (List Int)) => (x1531 ++ ([low_high_l1.1] : (List Int))))) ++ (mapIf (fun (x1536 : (List Int)) => (decide (low_high_l1.2 > low_high_l1.1))) (fun (x1536 : (List Int)) => (x1536 ++ ([low_high_l1.2] : (List Int)))) s_l1)), _, _, _, rfl, (fold_step hx1517 hs1515), (((Mus.baseS (Mus.refl _) m1520 all0).trans (Mus.of e1519)).trans (Mus.of e1540)), r1541⟩
  ·
    obtain ⟨s_l1, w1512, y1513, y1514, rfl, hs1515, m1520, r1522⟩ := hP
    replace hs1515 := fold_all hs1515
    subst hs1515
    exact s_ret (K := K) (er_var rfl r1522) (fun u _ e1543 rr => q u _ (Mus.same0 ((Mus.baseS (((Mus.refl _).trans (Mus.of e1508)).trans (Mus.of e1518)) m1520 all0).trans (Mus.of e1543))) rr)
theorem sam_sz {l : List (Int × Int)} (hp : l ≠ [] ∧ l.length ≤ 8 ∧ ∀ p ∈ l, Sz 10 p) : Sz 1900 (m_squares_about_mean l) := by
  have a := sqs_sz hp.2.1 hp.2.2
  have b := sz_neg (sz_tms (sz_tms (tot_sz hp.2.1 hp.2.2) (tot_sz hp.2.1 hp.2.2)) (one_n8 hp.1 hp.2.1))
  exact (sz_pls a b).le (by decide)
def own (r : List Int) : Int × Int := m_squares_about_mean (r.map fun x => (x, (1 : Int)))
def wstep (s : Option (List Int) × (Int × Int)) (r : List Int) : Option (List Int) × (Int × Int) := if m_less s.2 (own r) = true then (some r, own r) else (s.1, s.2)
def WInv (l : List (List Int)) (s : Option (List Int) × (Int × Int)) : Prop := s = (none, (-1, 1)) ∨ ∃ r ∈ l, s = (some r, own r)
theorem wid_inv (l : List (List Int)) : ∀ {m : List (List Int)} {s : Option (List Int) × (Int × Int)}, WInv l s → (∀ x ∈ m, x ∈ l) → WInv l (m.foldl wstep s)
  | [], _, h, _ => h
  | x :: m, s, h, hm => wid_inv l (m := m) (by
      unfold wstep
      split
      · exact .inr ⟨x, hm x (List.mem_cons_self ..), rfl⟩
      · exact h) fun y hy => hm y (List.mem_cons_of_mem _ hy)
theorem wid_sz {b : List (Int × Int)} (hB : BOk b) {m : List (List Int)} (hm : ∀ x ∈ m, x ∈ m_corner_choices b) : Sz 2000 (m.foldl wstep (none, (-1, 1))).2 := by
  rcases wid_inv (m_corner_choices b) (m := m) (.inl rfl) hm with h | ⟨r, hr, h⟩
  · rw [h]; exact (sz_one (x := -1) (by decide)).le (by decide)
  · rw [h]; exact (sam_sz (row_sz hB (cor_inE rfl (ord_of hB) _ hr))).le (by decide)
theorem own_nn {b : List (Int × Int)} (hB : BOk b) {r : List Int} (h : inB b r) : m_less (-1, 1) (own r) = true := own_pos (row_sz hB h)
theorem wid_go {l : List (List Int)} : ∀ {m : List (List Int)} {s : Option (List Int) × (Int × Int)}, (∃ r ∈ l, s = (some r, own r)) → (∀ x ∈ m, x ∈ l) → ∃ r ∈ l, m.foldl wstep s = (some r, own r)
  | [], _, h, _ => h
  | x :: m, s, h, hm => wid_go (m := m) (by
      unfold wstep
      split
      · exact ⟨x, hm x (List.mem_cons_self ..), rfl⟩
      · exact h) fun y hy => hm y (List.mem_cons_of_mem _ hy)
theorem wid_get {b : List (Int × Int)} (hB : BOk b) : ∃ r ∈ m_corner_choices b, (m_corner_choices b).foldl wstep (none, (-1, 1)) = (some r, own r) := by
  have hne : m_corner_choices b ≠ [] := cor_ne (by simp)
  have hin : ∀ r ∈ m_corner_choices b, inB b r := cor_inE rfl (ord_of hB)
  generalize m_corner_choices b = L at hne hin
  cases L with
  | nil => exact absurd rfl hne
  | cons x r =>
    rw [List.foldl_cons]
    refine wid_go (l := x :: r) ?_ fun y hy => List.mem_cons_of_mem _ hy
    refine ⟨x, List.mem_cons_self .., ?_⟩
    unfold wstep
    rw [if_pos (own_nn hB (hin x (List.mem_cons_self ..)))]
theorem wid_some {b : List (Int × Int)} (hB : BOk b) : ((m_corner_choices b).foldl wstep (none, (-1, 1))).1 = some (((m_corner_choices b).foldl wstep (none, (-1, 1))).1.getD []) := by
  obtain ⟨r, _, e⟩ := wid_get hB
  rw [e]; rfl
def m_widest (x0 : (List (Int × Int))) : (List Int) := (((List.foldl (fun (s_l1 : ((Option (List Int)) × (Int × Int))) (one_l1 : (List Int)) => ((if (m_less s_l1.2 (m_squares_about_mean (one_l1.map (fun (x1571 : Int) => (x1571, (1 : Int)))))) = true then ((some one_l1), (m_squares_about_mean (one_l1.map (fun (x1571 : Int) => (x1571, (1 : Int)))))) else (s_l1.1, s_l1.2)) : ((Option (List Int)) × (Int × Int)))) ((none : (Option (List Int))), ((-(1 : Int)), (1 : Int))) (m_corner_choices x0)).1).getD [])
theorem ok_widest (T : Txt K mg) : Ok P w K mg base CX0 6 "widest" ["bounds"] (sp1 K ((fun b => BOk b) : (List (Int × Int)) → Prop) m_widest) := by
  refine ok_of T.d_widest sc_widest (bi1 fun _ _ _ _ _ _ _ => rfl) len_sp1 (fun f cdv A outer s H vs Q E hr h => ?_)
  have nd := sc_widest.nd
  obtain ⟨v0, x0, rfl, r0, hp, q⟩ := h
  refine ⟨_, (pss_cons (ps_asg (pe_tup (pa_cons pe_non (pa_cons (pe_tup (pa_cons (pe_un un_neg pe_int) (pa_cons pe_int pa_nil))) pa_nil))) (k_gt K rfl 2 rfl (pgs_cons (pg_name (i := 1) nd rfl (.inl rfl) (.inr rfl)) (pgs_cons (pg_name (i := 2) nd rfl (.inl rfl) (.inr rfl)) pgs_nil))))
      (pss_cons (ps_for PassesOwn.never rfl (k_pl K rfl (pe_fn (ok_corner_choices T) (hr.mono (by decide)) pass0 (pa_cons (pv 0) pa_nil))) (pg_name (i := 3) nd rfl (.inl rfl) (.inr rfl)) (pss_cons (ps_set (i := 4) nd rfl (.inl rfl) (pe_fn (ok_squares_about_mean T) (hr.mono (by decide)) pass0 (pa_cons (pe_frz (pe_lc (own := [("value", 5)]) rfl nd (k_pl K rfl (pv 3)) (blkOk_by (N := N_widest) (sc := defScope s_widest) (by decide +kernel)) (fun _ _ _ _ _ => (pg_name (i := 5) nd rfl (.inl rfl) (.inr rfl))) (fun _ _ _ _ _ => pts_nil) (fun _ _ _ _ _ => (pe_tup (pa_cons (pv 5) (pa_cons pe_int pa_nil)))))) pa_nil)))
      (pss_one (ps_if (pt_val (pe_fn (ok_less T) (hr.mono (by decide)) pass0 (pa_cons (pv 2) (pa_cons (pv 4) pa_nil)))) (pss_one (ps_par (i := 1) (j := 2) (by rfl) nd rfl rfl (by decide) rfl rfl (pa_cons (pv 3) (pa_cons (pv 4) pa_nil)) (by rfl))) pss_nil))))
      (pss_one (ps_ret (pv 1))))), ?_⟩
  refine q_unp (K := K) (er_pair (er_O0 (α := (List Int))) (er_pair (er_neg er_int) er_int)) (fun v1552 v1553 _ e1549 r1550 r1551 => ?_)
  -- for one in corner_choices(bounds)
  refine q_for (K := K) (src_list (er_call1 (er_var rfl (Rp.mono (SF.of e1549) r0)) (by exact hp))) (fun H1 k σ' H' => ∃ (s_l1 : ((Option (List Int)) × (Int × Int))) (w1555 : V) (w1556 : V) (y1557 : Option V) (y1558 : Option V), σ' = [some v0, some w1555, some w1556, y1557, y1558, none] ∧ s_l1 = (List.take k (m_corner_choices x0)).foldl (fun (s_l1 : ((Option (List Int)) × (Int × Int))) (one_l1 : (List Int)) => ((if (m_less s_l1.2 (m_squares_about_mean (one_l1.map (fun (x1571 : Int) => (x1571, (1 : Int)))))) = true then ((some one_l1), (m_squares_about_mean (one_l1.map (fun (x1571 : Int) => (x1571, (1 : Int)))))) else (s_l1.1, s_l1.2)) : ((Option (List Int)) × (Int × Int)))) ((none : (Option (List Int))), ((-(1 : Int)), (1 : Int))) ∧ Mus [] H1 H' ∧ Rp.rep K H' w1555 s_l1.1 ∧ Rp.rep K H' w1556 s_l1.2) (fun H1 e => ⟨((none : (Option (List Int))), ((-(1 : Int)), (1 : Int))), _, _, _, _, rfl, rfl, Mus.refl _, (Rp.mono (SF.of e) r1550), (Rp.mono (SF.of e) r1551)⟩) (fun _ _ _ _ h => by obtain ⟨_, _, _, _, _, _, _, m, _, _⟩ := h; exact m.sf) (fun H1 k1565 one_l1 σ' H' vone_l1 _ e1562 hx1561 hP e1563 rone_l1 => ?_) (fun H1 σ' H' e1562 hP => ?_)
  ·
    obtain ⟨s_l1, w1555, w1556, y1557, y1558, rfl, hs1559, m1564, r1566, r1567⟩ := hP
    refine s_gn ?_
    have hone_l1 := List.mem_of_getElem? hx1561
    have hturn1 := hs1559
    have r1569 := (Rp.mono ((((SF.of e1549).trans (SF.of e1562)).trans m1564.sf).trans (SF.of e1563)) r0)
    refine q_set (K := K) (er_call1 (er_frz (erl_lm1 (f := fun (x1571 : Int) => (x1571, (1 : Int))) (src_list (er_var rfl rone_l1)) (by have := inB_len (cor_inE rfl (ord_of hp) _ hone_l1); have := hp.2.1; omega) (by intros; rfl) (fun x1571 hx1572 v1573 _ e1570 r1574 => (er_pair (er_var rfl r1574) er_int)))) (by exact row_sz hp (cor_inE rfl (ord_of hp) _ hone_l1))) (fun v1577 _ e1575 r1576 => ?_)
    refine q_last ?_
    refine q_if (K := K) (et_B (er_call2 (er_var rfl (Rp.mono ((SF.of e1563).trans (SF.of e1575)) r1567)) (er_var rfl r1576) (by exact ⟨by rw [hturn1]; exact wid_sz hp (fun x hx => List.mem_of_mem_take hx), (sam_sz (row_sz hp (cor_inE rfl (ord_of hp) _ hone_l1))).le (by decide)⟩))) (fun hc1579 _ e1578 => ?_) (fun hc1579 _ e1578 => ?_)
    ·
      refine q_last ?_
      refine q_par (K := K) (er_O1 (er_var rfl (Rp.mono ((SF.of e1575).trans (SF.of e1578)) rone_l1))) (er_var rfl (Rp.mono (SF.of e1578) r1576)) (fun v1583 v1584 _ e1580 r1581 r1582 => ?_)
      refine s_nxz ?_
      refine s_nx ?_
      exact ⟨((some one_l1), (m_squares_about_mean (one_l1.map (fun (x1571 : Int) => (x1571, (1 : Int)))))), _, _, _, _, rfl, (Eq.trans (show ((some one_l1), (m_squares_about_mean (one_l1.map (fun (x1571 : Int) => (x1571, (1 : Int)))))) = (if (m_less s_l1.2 (m_squares_about_mean (one_l1.map (fun (x1571 : Int) => (x1571, (1 : Int)))))) = true then ((some one_l1), (m_squares_about_mean (one_l1.map (fun (x1571 : Int) => (x1571, (1 : Int)))))) else (s_l1.1, s_l1.2)) from by rw [if_pos hc1579]) (fold_step hx1561 hs1559)), (((((Mus.baseS (Mus.refl _) m1564 all0).trans (Mus.of e1563)).trans (Mus.of e1575)).trans (Mus.of e1578)).trans (Mus.of e1580)), r1581, r1582⟩
    ·
      refine s_nxz ?_
      refine s_nx ?_
      exact ⟨(s_l1.1, s_l1.2), _, _, _, _, rfl, (Eq.trans (show (s_l1.1, s_l1.2) = (if (m_less s_l1.2 (m_squares_about_mean (one_l1.map (fun (x1571 : Int) => (x1571, (1 : Int)))))) = true then ((some one_l1), (m_squares_about_mean (one_l1.map (fun (x1571 : Int) => (x1571, (1 : Int)))))) else (s_l1.1, s_l1.2)) from by rw [if_neg (nff hc1579)]) (fold_step hx1561 hs1559)), ((((Mus.baseS (Mus.refl _) m1564 all0).trans (Mus.of e1563)).trans (Mus.of e1575)).trans (Mus.of e1578)), (Rp.mono (((SF.of e1563).trans (SF.of e1575)).trans (SF.of e1578)) r1566), (Rp.mono (((SF.of e1563).trans (SF.of e1575)).trans (SF.of e1578)) r1567)⟩
  ·
    obtain ⟨s_l1, w1555, w1556, y1557, y1558, rfl, hs1559, m1564, r1566, r1567⟩ := hP
    replace hs1559 := fold_all hs1559
    subst hs1559
    exact s_ret (K := K) (er_Oget (x := ((List.foldl (fun (s_l1 : ((Option (List Int)) × (Int × Int))) (one_l1 : (List Int)) => ((if (m_less s_l1.2 (m_squares_about_mean (one_l1.map (fun (x1571 : Int) => (x1571, (1 : Int)))))) = true then ((some one_l1), (m_squares_about_mean (one_l1.map (fun (x1571 : Int) => (x1571, (1 : Int)))))) else (s_l1.1, s_l1.2)) : ((Option (List Int)) × (Int × Int)))) ((none : (Option (List Int))), ((-(1 : Int)), (1 : Int))) (m_corner_choices x0)).1).getD []) (er_var rfl r1566) (by exact wid_some hp)) (fun u _ e1585 rr => q u _ (Mus.same0 ((Mus.baseS (((Mus.refl _).trans (Mus.of e1549)).trans (Mus.of e1562)) m1564 all0).trans (Mus.of e1585))) rr)
theorem wid_in {b : List (Int × Int)} (hB : BOk b) : inB b (m_widest b) := by
  obtain ⟨r, hr, e⟩ := wid_get hB
  have : m_widest b = r := by
    show ((m_corner_choices b).foldl wstep (none, (-1, 1))).1.getD [] = r
    rw [e]; rfl
  rw [this]
  exact cor_inE rfl (ord_of hB) _ hr
def m_widest_squares_choice (x0 : (List (Int × Int))) : (List Int) := (m_widest x0)
theorem ok_widest_squares_choice (T : Txt K mg) : Ok P w K mg base CX0 7 "widest_squares_choice" ["bounds"] (sp1 K ((fun b => BOk b) : (List (Int × Int)) → Prop) m_widest_squares_choice) := by
  refine ok_of T.d_widest_squares_choice sc_widest_squares_choice (bi1 fun _ _ _ _ _ _ _ => rfl) len_sp1 (fun f cdv A outer s H vs Q E hr h => ?_)
  have nd := sc_widest_squares_choice.nd
  obtain ⟨v0, x0, rfl, r0, hp, q⟩ := h
  refine ⟨_, (pss_cons (ps_expr (pe_fn (ok_check_bounds T) (hr.mono (by decide)) pass0 (pa_cons (pv 0) pa_nil)))
      (pss_one (ps_ret (pe_fn (ok_widest T) (hr.mono (by decide)) pass0 (pa_cons (pv 0) pa_nil))))), ?_⟩
  refine q_drop (K := K) (er_call1 (er_var rfl r0) (by exact hp)) (fun _ e1586 => ?_)
  exact s_ret (K := K) (er_call1 (er_var rfl (Rp.mono (SF.of e1586) r0)) (by exact hp)) (fun u _ e1587 rr => q u _ (e1586.trans e1587) rr)
theorem ok_corner_choicesN (T : Txt K mg) : Ok P w K mg base CX0 1 "corner_choices" ["bounds"] (spCorN K ((fun b => BOk b) : (List (Int × Int)) → Prop) m_corner_choices) := by
  refine ok_of T.d_corner_choices sc_corner_choices (bi1 fun _ _ _ _ _ _ _ => rfl) len_cor (fun f cdv A outer s H vs Q E hr h => ?_)
  have nd := sc_corner_choices.nd
  obtain ⟨v0, x0, rfl, r0, hp, q⟩ := h
  refine ⟨_, (pss_cons (ps_set (i := 1) nd rfl (.inl rfl) (pe_frz (pe_lst (pa_cons (pe_frz (pe_lst pa_nil)) pa_nil))))
      (pss_cons (ps_for PassesOwn.never rfl (k_pl K rfl (pv 0)) (k_gt K rfl 2 rfl (pgs_cons (pg_name (i := 2) nd rfl (.inr rfl) (.inl rfl)) (pgs_cons (pg_name (i := 3) nd rfl (.inr rfl) (.inl rfl)) pgs_nil))) (pss_one (ps_set (i := 1) nd rfl (.inl rfl) (pe_frz (pe_op op_catR (pe_frz (pe_lc (own := [("one", 4)]) rfl nd (k_pl K rfl (pv 1)) (blkOk_by (N := N_corner_choices) (sc := defScope s_corner_choices) (by decide +kernel)) (fun _ _ _ _ _ => (pg_name (i := 4) nd rfl (.inl rfl) (.inr rfl))) (fun _ _ _ _ _ => pts_nil) (fun _ _ _ _ _ => (pe_frz (pe_op op_catR (pv 4) (pe_frz (pe_lst (pa_cons (pv 2) pa_nil)))))))) (pe_frz (pe_lc (own := [("one", 4)]) rfl nd (k_pl K rfl (pv 1)) (blkOk_by (N := N_corner_choices) (sc := defScope s_corner_choices) (by decide +kernel)) (fun _ _ _ _ _ => (pg_name (i := 4) nd rfl (.inl rfl) (.inr rfl))) (fun _ _ _ _ _ => (pts_one (pt_cmpR op_gt (pv 3) (pv 2) (nomark _)))) (fun _ _ _ _ _ => (pe_frz (pe_op op_catR (pv 4) (pe_frz (pe_lst (pa_cons (pv 3) pa_nil)))))))))))))
      (pss_one (ps_ret (pv 1))))), ?_⟩
  refine q_set (K := K) (er_frz (erl_lst (α := Nl H Int) (ea_cons (er_frzN (erl_lst (α := Int) ea_nil) (Same.refl _)) ea_nil))) (fun v1508 _ e1506 r1507 => ?_)
  refine q_for (K := K) (src_list (er_var rfl (Rp.mono (SF.of e1506) r0))) (fun H1 k σ' H' => ∃ (s_l1 : (List (List Int))) (w1510 : V) (y1511 : Option V) (y1512 : Option V), σ' = [some v0, some w1510, y1511, y1512, none] ∧ s_l1 = (List.take k x0).foldl (fun (s_l1 : (List (List Int))) (low_high_l1 : (Int × Int)) => (((s_l1.map (fun (x1529 : (List Int)) => (x1529 ++ ([low_high_l1.1] : (List Int))))) ++ (mapIf (fun (x1534 : (List Int)) => (decide (low_high_l1.2 > low_high_l1.1))) (fun (x1534 : (List Int)) => (x1534 ++ ([low_high_l1.2] : (List Int)))) s_l1)) : (List (List Int)))) ([([] : (List Int))] : (List (List Int))) ∧ Mus [] H1 H' ∧ Rp.rep K H' w1510 (s_l1.map Nl.mk : List (Nl H Int))) (fun H1 e => ⟨([([] : (List Int))] : (List (List Int))), _, _, _, rfl, rfl, Mus.refl _, (Rp.mono (SF.of e) r1507)⟩) (fun _ _ _ _ h => by obtain ⟨_, _, _, _, _, _, m, _⟩ := h; exact m.sf) (fun H1 k1519 low_high_l1 σ' H' vlow_high_l1 _ e1516 hx1515 hP e1517 rlow_high_l1 => ?_) (fun H1 σ' H' e1516 hP => ?_)
  · obtain ⟨s_l1, w1510, y1511, y1512, rfl, hs1513, m1518, r1520⟩ := hP
    obtain ⟨v1522, v1523, r1524, r1525, tg1526⟩ := tg_pair (k := 2) (m := 3) rlow_high_l1
    refine tg1526 _ ?_
    have hturn1 := hs1513
    have hlen := cor_lenE hturn1 (by rw [List.length_take]; have := hp.2.1; omega)
    have hin : ∀ r ∈ s_l1, r.length ≤ 7 := fun r hr => by
      have g := inB_len (cor_inE hturn1 (fun p hh => (hp.2.2 p (List.mem_of_mem_take hh)).2.1) _ hr)
      rw [List.length_take] at g; have := hp.2.1; omega
    have hin2 : ∀ x ∈ (s_l1.map Nl.mk : List (Nl H Int)), x.l.length ≤ 7 := fun x hx => by
      obtain ⟨r, hr, rfl⟩ := List.mem_map.mp hx
      exact hin r hr
    have sm := ((e1506.trans e1516).trans (Mus.same0 m1518)).trans e1517
    refine q_last ?_
    refine q_set (K := K) (er_frz (erl_cat (er_frz (erl_lm1 (f := fun (x : Nl H Int) => (Nl.mk (x.l ++ ([low_high_l1.1] : (List Int))) : Nl H Int)) (src_list (er_var rfl (Rp.mono (SF.of e1517) r1520))) (by rw [List.length_map]; omega) (by intros; rfl) (fun x hx v1531 _ e1528 r1532 => (er_frzN (erl_cat (er_nl (er_var rfl r1532)) (er_frz (erl_lst (α := Int) (ea_cons (er_var rfl (Rp.mono (SF.of e1528) r1524)) ea_nil))) (by have := hin2 x hx; simp only [List.length_singleton]; omega)) (sm.trans e1528)))))
      (er_frz (erl_lc1 (c := fun (x : Nl H Int) => (decide (low_high_l1.2 > low_high_l1.1))) (f := fun (x : Nl H Int) => (Nl.mk (x.l ++ ([low_high_l1.2] : (List Int))) : Nl H Int)) (src_list (er_var rfl (Rp.mono (SF.of e1517) r1520))) (by rw [List.length_map]; omega) (by intros; rfl) (fun x hx v1536 _ e1533 r1537 => ⟨(et_test (er_op (er_var rfl (Rp.mono (SF.of e1533) r1525)) (er_var rfl (Rp.mono (SF.of e1533) r1524)) rr_gt)), fun _ => (er_frzN (erl_cat (er_nl (er_var rfl r1537)) (er_frz (erl_lst (α := Int) (ea_cons (er_var rfl (Rp.mono (SF.of e1533) r1525)) ea_nil))) (by have := hin2 x hx; simp only [List.length_singleton]; omega)) (sm.trans e1533))⟩)))
      (by have g2 := mapIf_le (c := fun _ : Nl H Int => decide (low_high_l1.2 > low_high_l1.1)) (f := fun x : Nl H Int => (Nl.mk (x.l ++ ([low_high_l1.2] : (List Int))) : Nl H Int)) (l := s_l1.map Nl.mk); rw [List.length_map] at g2; rw [List.length_map, List.length_map]; omega))) (fun v1540 _ e1538 r1539 => ?_)
    refine s_nx ?_
    exact ⟨((s_l1.map (fun (x1529 : (List Int)) => (x1529 ++ ([low_high_l1.1] : (List Int))))) ++ (mapIf (fun (x1534 : (List Int)) => (decide (low_high_l1.2 > low_high_l1.1))) (fun (x1534 : (List Int)) => (x1534 ++ ([low_high_l1.2] : (List Int)))) s_l1)), _, _, _, rfl, (fold_step hx1515 hs1513), (((Mus.baseS (Mus.refl _) m1518 all0).trans (Mus.of e1517)).trans (Mus.of e1538)), Rp.cong r1539 (by simp [mapIf, List.filter_map, Function.comp_def])⟩
  · obtain ⟨s_l1, w1510, y1511, y1512, rfl, hs1513, m1518, r1520⟩ := hP
    replace hs1513 := fold_all hs1513
    subst hs1513
    exact s_ret (K := K) (er_var rfl r1520) (fun u _ e1541 rr => q u _ (Mus.same0 ((Mus.baseS (((Mus.refl _).trans (Mus.of e1506)).trans (Mus.of e1516)) m1518 all0).trans (Mus.of e1541))) rr)
theorem ok_widestN (T : Txt K mg) : Ok P w K mg base CX0 6 "widest" ["bounds"] (spNw K ((fun b => BOk b) : (List (Int × Int)) → Prop) m_widest) := by
  refine ok_of T.d_widest sc_widest (bi1 fun _ _ _ _ _ _ _ => rfl) len_nw (fun f cdv A outer s H vs Q E hr h => ?_)
  have nd := sc_widest.nd
  obtain ⟨v0, x0, rfl, r0, hp, q⟩ := h
  refine ⟨_, (pss_cons (ps_asg (pe_tup (pa_cons pe_non (pa_cons (pe_tup (pa_cons (pe_un un_neg pe_int) (pa_cons pe_int pa_nil))) pa_nil))) (k_gt K rfl 2 rfl (pgs_cons (pg_name (i := 1) nd rfl (.inl rfl) (.inr rfl)) (pgs_cons (pg_name (i := 2) nd rfl (.inl rfl) (.inr rfl)) pgs_nil))))
      (pss_cons (ps_for PassesOwn.never rfl (k_pl K rfl (pe_fn (ok_corner_choicesN T) (hr.mono (by decide)) pass0 (pa_cons (pv 0) pa_nil))) (pg_name (i := 3) nd rfl (.inl rfl) (.inr rfl)) (pss_cons (ps_set (i := 4) nd rfl (.inl rfl) (pe_fn (ok_squares_about_mean T) (hr.mono (by decide)) pass0 (pa_cons (pe_frz (pe_lc (own := [("value", 5)]) rfl nd (k_pl K rfl (pv 3)) (blkOk_by (N := N_widest) (sc := defScope s_widest) (by decide +kernel)) (fun _ _ _ _ _ => (pg_name (i := 5) nd rfl (.inl rfl) (.inr rfl))) (fun _ _ _ _ _ => pts_nil) (fun _ _ _ _ _ => (pe_tup (pa_cons (pv 5) (pa_cons pe_int pa_nil)))))) pa_nil)))
      (pss_one (ps_if (pt_val (pe_fn (ok_less T) (hr.mono (by decide)) pass0 (pa_cons (pv 2) (pa_cons (pv 4) pa_nil)))) (pss_one (ps_par (i := 1) (j := 2) (by rfl) nd rfl rfl (by decide) rfl rfl (pa_cons (pv 3) (pa_cons (pv 4) pa_nil)) (by rfl))) pss_nil))))
      (pss_one (ps_ret (pv 1))))), ?_⟩
  refine q_unp (K := K) (er_pair (er_O0 (α := Nl H Int)) (er_pair (er_neg er_int) er_int)) (fun v1550 v1551 _ e1547 r1548 r1549 => ?_)
  -- for one in corner_choices(bounds)
  refine q_for (K := K) (l := ((m_corner_choices x0).map Nl.mk : List (Nl H Int))) (src_list (er_cor (f := m_corner_choices) (er_var rfl (Rp.mono (SF.of e1547) r0)) hp e1547)) (fun H1 k σ' H' => ∃ (s_l1 : ((Option (List Int)) × (Int × Int))) (w1553 : V) (w1554 : V) (y1555 : Option V) (y1556 : Option V), σ' = [some v0, some w1553, some w1554, y1555, y1556, none] ∧ s_l1 = (List.take k (m_corner_choices x0)).foldl (fun (s_l1 : ((Option (List Int)) × (Int × Int))) (one_l1 : (List Int)) => ((if (m_less s_l1.2 (m_squares_about_mean (one_l1.map (fun (x1569 : Int) => (x1569, (1 : Int)))))) = true then ((some one_l1), (m_squares_about_mean (one_l1.map (fun (x1569 : Int) => (x1569, (1 : Int)))))) else (s_l1.1, s_l1.2)) : ((Option (List Int)) × (Int × Int)))) ((none : (Option (List Int))), ((-(1 : Int)), (1 : Int))) ∧ Mus [] H1 H' ∧ Rp.rep K H' w1553 (s_l1.1.map Nl.mk : Option (Nl H Int)) ∧ Rp.rep K H' w1554 s_l1.2) (fun H1 e => ⟨((none : (Option (List Int))), ((-(1 : Int)), (1 : Int))), _, _, _, _, rfl, rfl, Mus.refl _, (Rp.mono (SF.of e) r1548), (Rp.mono (SF.of e) r1549)⟩) (fun _ _ _ _ h => by obtain ⟨_, _, _, _, _, _, _, m, _, _⟩ := h; exact m.sf) (fun H1 k1563 one_l1 σ' H' vone_l1 _ e1560 hx1559 hP e1561 rone_l1 => ?_) (fun H1 σ' H' e1560 hP => ?_)
  ·
    obtain ⟨s_l1, w1553, w1554, y1555, y1556, rfl, hs1557, m1562, r1564, r1565⟩ := hP
    refine s_gn ?_
    rw [List.getElem?_map] at hx1559
    obtain ⟨one_r, hxR, rfl⟩ := Option.map_eq_some_iff.mp hx1559
    have hone_l1 := List.mem_of_getElem? hxR
    have hturn1 := hs1557
    have r1567 := (Rp.mono ((((SF.of e1547).trans (SF.of e1560)).trans m1562.sf).trans (SF.of e1561)) r0)
    refine q_set (K := K) (er_call1 (er_frz (erl_lm1 (f := fun (x1569 : Int) => (x1569, (1 : Int))) (src_list (er_nl (er_var rfl rone_l1))) (by have := inB_len (cor_inE rfl (ord_of hp) _ hone_l1); have := hp.2.1; show one_r.length ≤ 1000000; omega) (by intros; rfl) (fun x1569 hx1570 v1571 _ e1568 r1572 => (er_pair (er_var rfl r1572) er_int)))) (by exact row_sz hp (cor_inE rfl (ord_of hp) _ hone_l1))) (fun v1575 _ e1573 r1574 => ?_)
    refine q_last ?_
    refine q_if (K := K) (et_B (er_call2 (er_var rfl (Rp.mono ((SF.of e1561).trans (SF.of e1573)) r1565)) (er_var rfl r1574) (by exact ⟨by rw [hturn1]; exact wid_sz hp (fun x hx => List.mem_of_mem_take hx), (sam_sz (row_sz hp (cor_inE rfl (ord_of hp) _ hone_l1))).le (by decide)⟩))) (fun hc1577 _ e1576 => ?_) (fun hc1577 _ e1576 => ?_)
    ·
      refine q_last ?_
      refine q_par (K := K) (er_O1 (er_var rfl (Rp.mono ((SF.of e1573).trans (SF.of e1576)) rone_l1))) (er_var rfl (Rp.mono (SF.of e1576) r1574)) (fun v1581 v1582 _ e1578 r1579 r1580 => ?_)
      refine s_nxz ?_
      refine s_nx ?_
      exact ⟨((some one_r), (m_squares_about_mean (one_r.map (fun (x1569 : Int) => (x1569, (1 : Int)))))), _, _, _, _, rfl, (Eq.trans (show ((some one_r), (m_squares_about_mean (one_r.map (fun (x1569 : Int) => (x1569, (1 : Int)))))) = (if (m_less s_l1.2 (m_squares_about_mean (one_r.map (fun (x1569 : Int) => (x1569, (1 : Int)))))) = true then ((some one_r), (m_squares_about_mean (one_r.map (fun (x1569 : Int) => (x1569, (1 : Int)))))) else (s_l1.1, s_l1.2)) from by rw [if_pos hc1577]) (fold_step hxR hs1557)), (((((Mus.baseS (Mus.refl _) m1562 all0).trans (Mus.of e1561)).trans (Mus.of e1573)).trans (Mus.of e1576)).trans (Mus.of e1578)), r1579, r1580⟩
    ·
      refine s_nxz ?_
      refine s_nx ?_
      exact ⟨(s_l1.1, s_l1.2), _, _, _, _, rfl, (Eq.trans (show (s_l1.1, s_l1.2) = (if (m_less s_l1.2 (m_squares_about_mean (one_r.map (fun (x1569 : Int) => (x1569, (1 : Int)))))) = true then ((some one_r), (m_squares_about_mean (one_r.map (fun (x1569 : Int) => (x1569, (1 : Int)))))) else (s_l1.1, s_l1.2)) from by rw [if_neg (nff hc1577)]) (fold_step hxR hs1557)), ((((Mus.baseS (Mus.refl _) m1562 all0).trans (Mus.of e1561)).trans (Mus.of e1573)).trans (Mus.of e1576)), (Rp.mono (((SF.of e1561).trans (SF.of e1573)).trans (SF.of e1576)) r1564), (Rp.mono (((SF.of e1561).trans (SF.of e1573)).trans (SF.of e1576)) r1565)⟩
  ·
    obtain ⟨s_l1, w1553, w1554, y1555, y1556, rfl, hs1557, m1562, r1564, r1565⟩ := hP
    rw [List.length_map] at hs1557
    replace hs1557 := fold_all hs1557
    subst hs1557
    obtain ⟨r, _, hw⟩ := wid_get hp
    have hr : m_widest x0 = r := by
      show ((m_corner_choices x0).foldl wstep (none, (-1, 1))).1.getD [] = r
      rw [hw]; rfl
    have r1584 : Rp.rep K H' w1553 (some (Nl.mk r) : Option (Nl H Int)) := by
      have z : (List.foldl wstep (none, ((-1 : Int), (1 : Int))) (m_corner_choices x0)).1 = some r := by rw [hw]
      exact Rp.cong r1564 (by show _ = Option.map Nl.mk (List.foldl wstep (none, ((-1 : Int), (1 : Int))) (m_corner_choices x0)).1; rw [z]; rfl)
    exact s_ret (K := K) (er_Oget (x := (Nl.mk r : Nl H Int)) (er_var rfl r1584) rfl) (fun u H9 e1583 rr => by
      obtain ⟨⟨a, us, rfl, ⟨od, ho⟩, rl⟩, p, ep, hn⟩ := rr
      cases ep
      exact q a us od _ (Mus.same0 ((Mus.baseS (((Mus.refl _).trans (Mus.of e1547)).trans (Mus.of e1560)) m1562 all0).trans (Mus.of e1583))) hn ho (by rw [hr]; exact rl))
theorem ok_widest_squares_choiceN (T : Txt K mg) : Ok P w K mg base CX0 8 "widest_squares_choice" ["bounds"] (spNw K ((fun b => BOk b) : (List (Int × Int)) → Prop) m_widest_squares_choice) := by
  refine ok_of T.d_widest_squares_choice sc_widest_squares_choice (bi1 fun _ _ _ _ _ _ _ => rfl) len_nw (fun f cdv A outer s H vs Q E hr h => ?_)
  have nd := sc_widest_squares_choice.nd
  obtain ⟨v0, x0, rfl, r0, hp, q⟩ := h
  refine ⟨_, (pss_cons (ps_expr (pe_fn (ok_check_bounds T) (hr.mono (by decide)) pass0 (pa_cons (pv 0) pa_nil)))
      (pss_one (ps_ret (pe_fn (ok_widestN T) (hr.mono (by decide)) pass0 (pa_cons (pv 0) pa_nil))))), ?_⟩
  refine q_drop (K := K) (er_call1 (er_var rfl r0) hp) (fun H1 e1 => ?_)
  exact ⟨v0, rfl, v0, x0, rfl, Rp.mono (SF.of e1) r0, hp, fun p us od H2 e2 hn h2 rl => q p us od H2 (e1.trans e2) (e1.free hn) h2 rl⟩

def m_clipped (x0 : (List (Int × Int))) (x1 : (Int × Int)) : (List (Int × Int)) := (List.foldl (fun (s_l1 : (List (Int × Int))) (low_high_l1 : (Int × Int)) => ((if (m_less x1 (low_high_l1.1, (1 : Int))) = true then (s_l1 ++ [(low_high_l1.1, (1 : Int))]) else (s_l1 ++ [(if (m_less (low_high_l1.2, (1 : Int)) x1) = true then (low_high_l1.2, (1 : Int)) else x1)])) : (List (Int × Int)))) ([] : (List (Int × Int))) x0)
theorem ok_clipped (T : Txt K mg) : Ok P w K mg base CX0 2 "clipped" ["bounds", "number"] (sl2 K ((fun b p => b.length ≤ 8 ∧ (∀ t ∈ b, -50 ≤ t.1 ∧ t.1 ≤ 50 ∧ -50 ≤ t.2 ∧ t.2 ≤ 50) ∧ Sz 2000 p) : (List (Int × Int)) → (Int × Int) → Prop) m_clipped) := by
  refine ok_of T.d_clipped sc_clipped (bi2 fun _ _ _ _ _ _ _ _ => rfl) len_sl2 (fun f cdv A outer s H vs Q E hr h => ?_)
  have nd := sc_clipped.nd
  obtain ⟨v0, v1, x0, x1, rfl, r0, r1, hp, q⟩ := h
  refine ⟨_, (pss_cons (ps_set (i := 2) nd rfl (.inl rfl) (pe_lst pa_nil))
      (pss_cons (ps_for PassesOwn.never rfl (k_pl K rfl (pv 0)) (k_gt K rfl 2 rfl (pgs_cons (pg_name (i := 3) nd rfl (.inl rfl) (.inr rfl)) (pgs_cons (pg_name (i := 4) nd rfl (.inl rfl) (.inr rfl)) pgs_nil))) (pss_one (ps_if (pt_val (pe_fn (ok_less T) (hr.mono (by decide)) pass0 (pa_cons (pv 1) (pa_cons (pe_tup (pa_cons (pv 3) (pa_cons pe_int pa_nil))) pa_nil)))) (pss_one (ps_expr (k_app K rfl (pv 2) (pe_tup (pa_cons (pv 3) (pa_cons pe_int pa_nil)))))) (pss_one (ps_expr (k_app K rfl (pv 2) (pe_ifExp (pt_val (pe_fn (ok_less T) (hr.mono (by decide)) pass0 (pa_cons (pe_tup (pa_cons (pv 4) (pa_cons pe_int pa_nil))) (pa_cons (pv 1) pa_nil)))) (pe_tup (pa_cons (pv 4) (pa_cons pe_int pa_nil))) (pv 1))))))))
      (pss_one (ps_ret (pv 2))))), ?_⟩
  refine q_setL (K := K) (erl_lst (α := (Int × Int)) ea_nil) (fun p1588 _ _ e1589 hn1590 h1591 rl1592 => ?_)
  have f1594 := Mus.fresh (Mus.refl _) nin0 hn1590
  have u1593 := Un.of h1591 rl1592
  -- for (low, high) in bounds
  refine q_for (K := K) (src_list (er_var rfl (Rp.mono (SF.of e1589) r0))) (fun H1 k σ' H' => ∃ (s_l1 : (List (Int × Int))) (y1596 : Option V) (y1597 : Option V), σ' = [some v0, some v1, some (.ref p1588), y1596, y1597] ∧ s_l1 = (List.take k x0).foldl (fun (s_l1 : (List (Int × Int))) (low_high_l1 : (Int × Int)) => ((if (m_less x1 (low_high_l1.1, (1 : Int))) = true then (s_l1 ++ [(low_high_l1.1, (1 : Int))]) else (s_l1 ++ [(if (m_less (low_high_l1.2, (1 : Int)) x1) = true then (low_high_l1.2, (1 : Int)) else x1)])) : (List (Int × Int)))) ([] : (List (Int × Int))) ∧ Mus [p1588] H1 H' ∧ Un K H' p1588 s_l1) (fun H1 e => ⟨([] : (List (Int × Int))), _, _, rfl, rfl, Mus.refl _, (Un.mono e u1593)⟩) (fun _ _ _ _ h => by obtain ⟨_, _, _, _, _, m, _⟩ := h; exact m.sf) (fun H1 k1604 low_high_l1 σ' H' vlow_high_l1 _ e1601 hx1600 hP e1602 rlow_high_l1 => ?_) (fun H1 σ' H' e1601 hP => ?_)
  ·
    obtain ⟨s_l1, y1596, y1597, rfl, hs1598, m1603, u1605⟩ := hP
    obtain ⟨v1607, v1608, r1609, r1610, tg1611⟩ := tg_pair (k := 3) (m := 4) rlow_high_l1
    refine tg1611 _ ?_
    have hlow_high_l1 := List.mem_of_getElem? hx1600
    have hturn1 := hs1598
    refine q_last ?_
    have r1612 := (Rp.mono ((((SF.of e1589).trans (SF.of e1601)).trans m1603.sf).trans (SF.of e1602)) r0)
    have r1613 := (Rp.mono ((((SF.of e1589).trans (SF.of e1601)).trans m1603.sf).trans (SF.of e1602)) r1)
    refine q_if (K := K) (et_B (er_call2 (er_var rfl r1613) (er_pair (er_var rfl r1609) er_int) (by first | exact ⟨hp.2.2, (sz_one (by have := hp.2.1 _ hlow_high_l1; omega)).le (by decide)⟩ | exact ⟨(sz_one (by have := hp.2.1 _ hlow_high_l1; omega)).le (by decide), hp.2.2⟩))) (fun hc1615 _ e1614 => ?_) (fun hc1615 _ e1614 => ?_)
    ·
      refine q_last ?_
      refine q_app (K := K) rfl (Un.mono e1614 (Un.mono e1602 u1605)) (er_pair (er_var rfl (Rp.mono (SF.of e1614) r1609)) er_int) (by have g1 := fold_growE 1 hturn1 (fun s x _ => by split <;> simp); simp only [List.length_take, List.length_nil] at g1; have := hp.1; omega) (fun _ m1616 u1617 => ?_)
      refine s_nxz ?_
      refine s_nx ?_
      exact ⟨(s_l1 ++ [(low_high_l1.1, (1 : Int))]), _, _, rfl, (Eq.trans (show (s_l1 ++ [(low_high_l1.1, (1 : Int))]) = (if (m_less x1 (low_high_l1.1, (1 : Int))) = true then (s_l1 ++ [(low_high_l1.1, (1 : Int))]) else (s_l1 ++ [(if (m_less (low_high_l1.2, (1 : Int)) x1) = true then (low_high_l1.2, (1 : Int)) else x1)])) from by rw [if_pos hc1615]) (fold_step hx1600 hs1598)), ((((Mus.baseS (Mus.refl _) m1603 (allC (.inr (.head _)) all0)).trans (Mus.of e1602)).trans (Mus.of e1614)).trans (Mus.mu m1616 (.head _))), u1617⟩
    ·
      refine q_last ?_
      refine q_app (K := K) rfl (Un.mono e1614 (Un.mono e1602 u1605)) (er_if (et_B (er_call2 (er_pair (er_var rfl (Rp.mono (SF.of e1614) r1610)) er_int) (er_var rfl (Rp.mono (SF.of e1614) r1613)) (by first | exact ⟨hp.2.2, (sz_one (by have := hp.2.1 _ hlow_high_l1; omega)).le (by decide)⟩ | exact ⟨(sz_one (by have := hp.2.1 _ hlow_high_l1; omega)).le (by decide), hp.2.2⟩))) (fun hif => (er_pair (er_var rfl (Rp.mono (SF.of e1614) r1610)) er_int)) (fun hif => (er_var rfl (Rp.mono (SF.of e1614) r1613)))) (by have g1 := fold_growE 1 hturn1 (fun s x _ => by split <;> simp); simp only [List.length_take, List.length_nil] at g1; have := hp.1; omega) (fun _ m1618 u1619 => ?_)
      refine s_nxz ?_
      refine s_nx ?_
      exact ⟨(s_l1 ++ [(if (m_less (low_high_l1.2, (1 : Int)) x1) = true then (low_high_l1.2, (1 : Int)) else x1)]), _, _, rfl, (Eq.trans (show (s_l1 ++ [(if (m_less (low_high_l1.2, (1 : Int)) x1) = true then (low_high_l1.2, (1 : Int)) else x1)]) = (if (m_less x1 (low_high_l1.1, (1 : Int))) = true then (s_l1 ++ [(low_high_l1.1, (1 : Int))]) else (s_l1 ++ [(if (m_less (low_high_l1.2, (1 : Int)) x1) = true then (low_high_l1.2, (1 : Int)) else x1)])) from by rw [if_neg (nff hc1615)]) (fold_step hx1600 hs1598)), ((((Mus.baseS (Mus.refl _) m1603 (allC (.inr (.head _)) all0)).trans (Mus.of e1602)).trans (Mus.of e1614)).trans (Mus.mu m1618 (.head _))), u1619⟩
  ·
    obtain ⟨s_l1, y1596, y1597, rfl, hs1598, m1603, u1605⟩ := hP
    replace hs1598 := fold_all hs1598
    subst hs1598
    obtain ⟨us, h1, rr⟩ := u1605
    exact ⟨.ref p1588, rfl, q p1588 us _ (Mus.same0 (Mus.baseS (((Mus.refl _).trans (Mus.of e1589)).trans (Mus.of e1601)) m1603 (allC (.inl f1594) all0))) f1594 h1 rr⟩
def clpF (p : Int × Int) (t : Int × Int) : Int × Int := if m_less p (t.1, 1) = true then (t.1, 1) else if m_less (t.2, 1) p = true then (t.2, 1) else p
theorem clipped_map (b : List (Int × Int)) (p : Int × Int) : m_clipped b p = b.map (clpF p) := by
  unfold m_clipped
  have e : (fun (s : List (Int × Int)) (t : Int × Int) => if m_less p (t.1, 1) = true then s ++ [(t.1, (1 : Int))] else s ++ [if m_less (t.2, 1) p = true then (t.2, (1 : Int)) else p]) = fun s t => s ++ [clpF p t] := by
    funext s t
    unfold clpF
    split <;> rfl
  refine Eq.trans (congrArg (fun f => List.foldl f [] b) e) ?_
  rw [fold_app1]; rfl
theorem clip_sz {b : List (Int × Int)} (hB : BOk b) {p : Int × Int} (hp : Sz 10 p) : m_clipped b p ≠ [] ∧ (m_clipped b p).length ≤ 8 ∧ ∀ q ∈ m_clipped b p, Sz 10 q := by
  rw [clipped_map]
  have := hB.1; have := hB.2.1
  refine ⟨fun e => ?_, by rw [List.length_map]; omega, fun q hq => ?_⟩
  · have := congrArg List.length e; rw [List.length_map] at this; simp at this; subst this; simp at *
  · obtain ⟨t, ht, rfl⟩ := List.mem_map.mp hq
    have := hB.2.2 t ht
    unfold clpF
    split
    · exact (sz_one (by omega)).le (by decide)
    · split
      · exact (sz_one (by omega)).le (by decide)
      · exact hp
theorem zm {b : List (Int × Int)} {t : Int × Int} (h : t ∈ (srt (m_lows b ++ m_highs b)).zip (cutL (srt (m_lows b ++ m_highs b)) (some (1 : Int)) none)) : (t.1, t.2) ∈ (marks b).zip ((marks b).drop 1) := by
  rw [show (1 : Int) = ((1 : Nat) : Int) from rfl, cutL_from] at h
  exact h
def m_centre_of (x0 : (List (Int × Int))) : (Int × Int) := (if (decide ((mxl (m_lows x0)) ≤ (mnl (m_highs x0)))) = true then ((mxl (m_lows x0)), (1 : Int)) else (match List.findSome? (fun (one_other_l1 : (Int × Int)) => ((if ((!(m_less (frI (((mapIf (fun (x1667 : (Int × Int)) => (decide (x1667.1 ≥ one_other_l1.2))) (fun (x1667 : (Int × Int)) => x1667.1) x0) ++ (mapIf (fun (x1674 : (Int × Int)) => (decide (x1674.2 ≤ one_other_l1.1))) (fun (x1674 : (Int × Int)) => x1674.2) x0)).sum) ((((mapIf (fun (x1667 : (Int × Int)) => (decide (x1667.1 ≥ one_other_l1.2))) (fun (x1667 : (Int × Int)) => x1667.1) x0) ++ (mapIf (fun (x1674 : (Int × Int)) => (decide (x1674.2 ≤ one_other_l1.1))) (fun (x1674 : (Int × Int)) => x1674.2) x0)).length : Nat) : Int)) (one_other_l1.1, (1 : Int)))) && (!(m_less (one_other_l1.2, (1 : Int)) (frI (((mapIf (fun (x1667 : (Int × Int)) => (decide (x1667.1 ≥ one_other_l1.2))) (fun (x1667 : (Int × Int)) => x1667.1) x0) ++ (mapIf (fun (x1674 : (Int × Int)) => (decide (x1674.2 ≤ one_other_l1.1))) (fun (x1674 : (Int × Int)) => x1674.2) x0)).sum) ((((mapIf (fun (x1667 : (Int × Int)) => (decide (x1667.1 ≥ one_other_l1.2))) (fun (x1667 : (Int × Int)) => x1667.1) x0) ++ (mapIf (fun (x1674 : (Int × Int)) => (decide (x1674.2 ≤ one_other_l1.1))) (fun (x1674 : (Int × Int)) => x1674.2) x0)).length : Nat) : Int))))) = true then (some (frI (((mapIf (fun (x1667 : (Int × Int)) => (decide (x1667.1 ≥ one_other_l1.2))) (fun (x1667 : (Int × Int)) => x1667.1) x0) ++ (mapIf (fun (x1674 : (Int × Int)) => (decide (x1674.2 ≤ one_other_l1.1))) (fun (x1674 : (Int × Int)) => x1674.2) x0)).sum) ((((mapIf (fun (x1667 : (Int × Int)) => (decide (x1667.1 ≥ one_other_l1.2))) (fun (x1667 : (Int × Int)) => x1667.1) x0) ++ (mapIf (fun (x1674 : (Int × Int)) => (decide (x1674.2 ≤ one_other_l1.1))) (fun (x1674 : (Int × Int)) => x1674.2) x0)).length : Nat) : Int))) else none) : Option (Int × Int))) ((srt ((m_lows x0) ++ (m_highs x0))).zip (cutL (srt ((m_lows x0) ++ (m_highs x0))) (some (1 : Int)) none)) with | some r => r | none => ((mxl (m_lows x0)), (1 : Int))))
theorem ok_centre_of (T : Txt K mg) : Ok P w K mg base CX0 3 "centre_of" ["bounds"] (sp1 K ((fun b => BOk b) : (List (Int × Int)) → Prop) m_centre_of) := by
  refine ok_of T.d_centre_of sc_centre_of (bi1 fun _ _ _ _ _ _ _ => rfl) len_sp1 (fun f cdv A outer s H vs Q E hr h => ?_)
  have nd := sc_centre_of.nd
  obtain ⟨v0, x0, rfl, r0, hp, q⟩ := h
  refine ⟨_, (pss_cons (ps_par (i := 1) (j := 2) (by rfl) nd rfl rfl (by decide) rfl rfl (pa_cons (pe_callB (k_max K rfl rfl) (by rfl) T.n_max (by decide +kernel) (pa_cons (pe_frz (pe_fn (ok_lows T) (hr.mono (by decide)) pass0 (pa_cons (pv 0) pa_nil))) pa_nil)) (pa_cons (pe_callB (k_min K rfl rfl) (by rfl) T.n_min (by decide +kernel) (pa_cons (pe_frz (pe_fn (ok_highs T) (hr.mono (by decide)) pass0 (pa_cons (pv 0) pa_nil))) pa_nil)) pa_nil)) (by rfl))
      (pss_cons (ps_if (pt_cmpR op_le (pv 1) (pv 2) (nomark _)) (pss_one (ps_ret (pe_tup (pa_cons (pv 1) (pa_cons pe_int pa_nil))))) pss_nil)
      (pss_cons (ps_set (i := 3) nd rfl (.inl rfl) (pe_frz (pe_callB (k_sorted K rfl) (by rfl) T.n_sorted (by decide +kernel) (pa_cons (pe_frz (pe_op op_catR (pe_frz (pe_fn (ok_lows T) (hr.mono (by decide)) pass0 (pa_cons (pv 0) pa_nil))) (pe_frz (pe_fn (ok_highs T) (hr.mono (by decide)) pass0 (pa_cons (pv 0) pa_nil))))) pa_nil))))
      (pss_cons (ps_for PassesOwn.never rfl (k_pz K rfl (by rfl) T.n_zip (pa_cons (pv 3) (pa_cons (pe_frz (pe_slice (k_sl K rfl) (pv 3) (po_some pe_int) po_none)) pa_nil))) (k_gt K rfl 2 rfl (pgs_cons (pg_name (i := 4) nd rfl (.inr rfl) (.inl rfl)) (pgs_cons (pg_name (i := 5) nd rfl (.inr rfl) (.inl rfl)) pgs_nil))) (pss_cons (ps_set (i := 6) nd rfl (.inl rfl) (pe_frz (pe_op op_catR (pe_frz (pe_lc (own := [("a", 8), ("b", 9)]) rfl nd (k_pl K rfl (pv 0)) (blkOk_by (N := N_centre_of) (sc := defScope s_centre_of) (by decide +kernel)) (fun _ _ _ _ _ => (k_gt K rfl 2 rfl (pgs_cons (pg_name (i := 8) nd rfl (.inl rfl) (.inr rfl)) (pgs_cons (pg_name (i := 9) nd rfl (.inl rfl) (.inr rfl)) pgs_nil)))) (fun _ _ _ _ _ => (pts_one (pt_cmpR op_ge (pv 8) (pv 5) (nomark _)))) (fun _ _ _ _ _ => (pv 8)))) (pe_frz (pe_lc (own := [("a", 8), ("b", 9)]) rfl nd (k_pl K rfl (pv 0)) (blkOk_by (N := N_centre_of) (sc := defScope s_centre_of) (by decide +kernel)) (fun _ _ _ _ _ => (k_gt K rfl 2 rfl (pgs_cons (pg_name (i := 8) nd rfl (.inl rfl) (.inr rfl)) (pgs_cons (pg_name (i := 9) nd rfl (.inl rfl) (.inr rfl)) pgs_nil)))) (fun _ _ _ _ _ => (pts_one (pt_cmpR op_le (pv 9) (pv 4) (nomark _)))) (fun _ _ _ _ _ => (pv 9)))))))
      (pss_cons (ps_set (i := 7) nd rfl (.inl rfl) (pe_fn (ok_lowest T) (hr.mono (by decide)) pass0 (pa_cons (pe_callB (k_sum K rfl rfl) (by rfl) T.n_sum (by decide +kernel) (pa_cons (pv 6) pa_nil)) (pa_cons (pe_callB (k_len K rfl) (by rfl) T.n_len PySem.boot_len (pa_cons (pv 6) pa_nil)) pa_nil))))
      (pss_one (ps_if (PW.pt (pw_and (pt_not (pt_val (pe_fn (ok_less T) (hr.mono (by decide)) pass0 (pa_cons (pv 7) (pa_cons (pe_tup (pa_cons (pv 4) (pa_cons pe_int pa_nil))) pa_nil))))) (pw_and1 (pt_not (pt_val (pe_fn (ok_less T) (hr.mono (by decide)) pass0 (pa_cons (pe_tup (pa_cons (pv 5) (pa_cons pe_int pa_nil))) (pa_cons (pv 7) pa_nil)))))))) (pss_one (ps_ret (pv 7))) pss_nil)))))
      (pss_one (ps_ret (pe_tup (pa_cons (pv 1) (pa_cons pe_int pa_nil))))))))), ?_⟩
  refine q_par (K := K) (er_max (er_frz (erl_call1 (er_var rfl r0) (by first | omega | (have := hp.2.1; omega) | (have := hp.1.2.1; omega)))) (by first | exact ne_lows hp | exact ne_highs hp)) (er_min (er_frz (erl_call1 (er_var rfl r0) (by first | omega | (have := hp.2.1; omega) | (have := hp.1.2.1; omega)))) (by first | exact ne_lows hp | exact ne_highs hp)) (fun v1637 v1638 _ e1634 r1635 r1636 => ?_)
  refine q_if (K := K) (et_test (er_op (er_var rfl r1635) (er_var rfl r1636) rr_le)) (fun hc1640 _ e1639 => ?_) (fun hc1640 _ e1639 => ?_)
  ·
    exact s_ret (K := K) (er_pair (er_var rfl (Rp.mono (SF.of e1639) r1635)) er_int) (fun u _ e1641 rr => q u _ ((e1634.trans e1639).trans e1641) (by rw [(show m_centre_of x0 = ((mxl (m_lows x0)), (1 : Int)) from by unfold m_centre_of; rw [if_pos hc1640])]; exact rr))
  ·
    refine s_nxz ?_
    refine q_set (K := K) (er_frz (erl_sorted (er_frz (erl_cat (er_frz (erl_call1 (er_var rfl (Rp.mono ((SF.of e1634).trans (SF.of e1639)) r0)) (by first | omega | (have := hp.2.1; omega) | (have := hp.1.2.1; omega)))) (er_frz (erl_call1 (er_var rfl (Rp.mono ((SF.of e1634).trans (SF.of e1639)) r0)) (by first | omega | (have := hp.2.1; omega) | (have := hp.1.2.1; omega)))) (by first | (have := hp.2.1; omega) | (have := hp.2.1; rw [len_lows, len_highs]; omega) | (have := hp.2.1; have := mapIf_le (c := fun t : Int × Int => decide (t.1 ≥ one_other_l1.2)) (f := fun t => t.1) (l := x0); have := mapIf_le (c := fun t : Int × Int => decide (t.2 ≤ one_other_l1.1)) (f := fun t => t.2) (l := x0); omega)))))) (fun v1644 _ e1642 r1643 => ?_)
    -- for (one, other) in zip(marks, marks[1:])
    refine q_for (K := K) (src_zip (er_var rfl r1643) (er_frz (erl_sl (er_var rfl r1643) (eo_some er_int) eo_none))) (fun H1 k σ' H' => ∃ (y1646 : Option V) (y1647 : Option V) (y1648 : Option V) (y1649 : Option V), σ' = [some v0, some v1637, some v1638, some v1644, y1646, y1647, y1648, y1649, none, none] ∧ (List.take k ((srt ((m_lows x0) ++ (m_highs x0))).zip (cutL (srt ((m_lows x0) ++ (m_highs x0))) (some (1 : Int)) none))).findSome? (fun (one_other_l1 : (Int × Int)) => ((if ((!(m_less (frI (((mapIf (fun (x1667 : (Int × Int)) => (decide (x1667.1 ≥ one_other_l1.2))) (fun (x1667 : (Int × Int)) => x1667.1) x0) ++ (mapIf (fun (x1674 : (Int × Int)) => (decide (x1674.2 ≤ one_other_l1.1))) (fun (x1674 : (Int × Int)) => x1674.2) x0)).sum) ((((mapIf (fun (x1667 : (Int × Int)) => (decide (x1667.1 ≥ one_other_l1.2))) (fun (x1667 : (Int × Int)) => x1667.1) x0) ++ (mapIf (fun (x1674 : (Int × Int)) => (decide (x1674.2 ≤ one_other_l1.1))) (fun (x1674 : (Int × Int)) => x1674.2) x0)).length : Nat) : Int)) (one_other_l1.1, (1 : Int)))) && (!(m_less (one_other_l1.2, (1 : Int)) (frI (((mapIf (fun (x1667 : (Int × Int)) => (decide (x1667.1 ≥ one_other_l1.2))) (fun (x1667 : (Int × Int)) => x1667.1) x0) ++ (mapIf (fun (x1674 : (Int × Int)) => (decide (x1674.2 ≤ one_other_l1.1))) (fun (x1674 : (Int × Int)) => x1674.2) x0)).sum) ((((mapIf (fun (x1667 : (Int × Int)) => (decide (x1667.1 ≥ one_other_l1.2))) (fun (x1667 : (Int × Int)) => x1667.1) x0) ++ (mapIf (fun (x1674 : (Int × Int)) => (decide (x1674.2 ≤ one_other_l1.1))) (fun (x1674 : (Int × Int)) => x1674.2) x0)).length : Nat) : Int))))) = true then (some (frI (((mapIf (fun (x1667 : (Int × Int)) => (decide (x1667.1 ≥ one_other_l1.2))) (fun (x1667 : (Int × Int)) => x1667.1) x0) ++ (mapIf (fun (x1674 : (Int × Int)) => (decide (x1674.2 ≤ one_other_l1.1))) (fun (x1674 : (Int × Int)) => x1674.2) x0)).sum) ((((mapIf (fun (x1667 : (Int × Int)) => (decide (x1667.1 ≥ one_other_l1.2))) (fun (x1667 : (Int × Int)) => x1667.1) x0) ++ (mapIf (fun (x1674 : (Int × Int)) => (decide (x1674.2 ≤ one_other_l1.1))) (fun (x1674 : (Int × Int)) => x1674.2) x0)).length : Nat) : Int))) else none) : Option (Int × Int))) = none ∧ Mus [] H1 H') (fun H1 e => ⟨_, _, _, _, rfl, rfl, Mus.refl _⟩) (fun _ _ _ _ h => by obtain ⟨_, _, _, _, _, _, m⟩ := h; exact m.sf) (fun H1 k1656 one_other_l1 σ' H' vone_other_l1 _ e1653 hx1652 hP e1654 rone_other_l1 => ?_) (fun H1 σ' H' e1653 hP => ?_)
    ·
      obtain ⟨y1646, y1647, y1648, y1649, rfl, hn1651, m1655⟩ := hP
      obtain ⟨v1658, v1659, r1660, r1661, tg1662⟩ := tg_pair (k := 4) (m := 5) rone_other_l1
      refine tg1662 _ ?_
      have hone_other_l1 := List.mem_of_getElem? hx1652
      have r1663 := (Rp.mono ((((((SF.of e1634).trans (SF.of e1639)).trans (SF.of e1642)).trans (SF.of e1653)).trans m1655.sf).trans (SF.of e1654)) r0)
      have r1664 := (Rp.mono (((((SF.of e1639).trans (SF.of e1642)).trans (SF.of e1653)).trans m1655.sf).trans (SF.of e1654)) r1635)
      have r1665 := (Rp.mono (((((SF.of e1639).trans (SF.of e1642)).trans (SF.of e1653)).trans m1655.sf).trans (SF.of e1654)) r1636)
      refine q_set (K := K) (er_frz (erl_cat (er_frz (erl_lc2 (c := fun (x1667 : (Int × Int)) => (decide (x1667.1 ≥ one_other_l1.2))) (f := fun (x1667 : (Int × Int)) => x1667.1) (src_list (er_var rfl r1663)) (by first | (have := hp.2.1; omega) | (have := hp.2.1; rw [len_lows, len_highs]; omega) | (have := hp.2.1; have := mapIf_le (c := fun t : Int × Int => decide (t.1 ≥ one_other_l1.2)) (f := fun t => t.1) (l := x0); have := mapIf_le (c := fun t : Int × Int => decide (t.2 ≤ one_other_l1.1)) (f := fun t => t.2) (l := x0); omega)) (by intros; rfl) (fun x1667 hx1668 v1669 v1670 _ e1666 r1671 r1672 => ⟨(et_test (er_op (er_var rfl r1671) (er_var rfl (Rp.mono (SF.of e1666) r1661)) rr_ge)), fun _ => (er_var rfl r1671)⟩))) (er_frz (erl_lc2 (c := fun (x1674 : (Int × Int)) => (decide (x1674.2 ≤ one_other_l1.1))) (f := fun (x1674 : (Int × Int)) => x1674.2) (src_list (er_var rfl r1663)) (by first | (have := hp.2.1; omega) | (have := hp.2.1; rw [len_lows, len_highs]; omega) | (have := hp.2.1; have := mapIf_le (c := fun t : Int × Int => decide (t.1 ≥ one_other_l1.2)) (f := fun t => t.1) (l := x0); have := mapIf_le (c := fun t : Int × Int => decide (t.2 ≤ one_other_l1.1)) (f := fun t => t.2) (l := x0); omega)) (by intros; rfl) (fun x1674 hx1675 v1676 v1677 _ e1673 r1678 r1679 => ⟨(et_test (er_op (er_var rfl r1679) (er_var rfl (Rp.mono (SF.of e1673) r1660)) rr_le)), fun _ => (er_var rfl r1679)⟩))) (by first | (have := hp.2.1; omega) | (have := hp.2.1; rw [len_lows, len_highs]; omega) | (have := hp.2.1; have := mapIf_le (c := fun t : Int × Int => decide (t.1 ≥ one_other_l1.2)) (f := fun t => t.1) (l := x0); have := mapIf_le (c := fun t : Int × Int => decide (t.2 ≤ one_other_l1.1)) (f := fun t => t.2) (l := x0); omega)))) (fun v1682 _ e1680 r1681 => ?_)
      have r1683 := (Rp.mono ((((SF.of e1653).trans m1655.sf).trans (SF.of e1654)).trans (SF.of e1680)) r1643)
      refine q_set (K := K) (er_call2 (er_sum (er_var rfl r1681)) (er_up (er_len (er_var rfl r1681))) (by have h := num_sz hp (of_decide_eq_false (by assumption)) (zm hone_other_l1); exact small_pre h.1 (by have := fixed_len x0 one_other_l1.1 one_other_l1.2; have := hp.2.1; show ((fixed x0 one_other_l1.1 one_other_l1.2).length : Int) ≤ 100; omega))) (fun v1686 _ e1684 r1685 => ?_)
      refine q_last ?_
      refine q_if (K := K) (et_and (et_not (et_B (er_call2 (er_var rfl r1685) (er_pair (er_var rfl (Rp.mono ((SF.of e1680).trans (SF.of e1684)) r1660)) er_int) (by have h := num_sz hp (of_decide_eq_false (by assumption)) (zm hone_other_l1); obtain ⟨_, c1, c2, _⟩ := consec (srt_sorted _) (zm hone_other_l1); have d1 := mark_in hp c1; have d2 := mark_in hp c2; first | exact ⟨h.2.le (by decide), (sz_one (by omega)).le (by decide)⟩ | exact ⟨(sz_one (by omega)).le (by decide), h.2.le (by decide)⟩)))) (fun hsc => (et_not (et_B (er_call2 (er_pair (er_var rfl (Rp.mono ((SF.of e1680).trans (SF.of e1684)) r1661)) er_int) (er_var rfl r1685) (by have h := num_sz hp (of_decide_eq_false (by assumption)) (zm hone_other_l1); obtain ⟨_, c1, c2, _⟩ := consec (srt_sorted _) (zm hone_other_l1); have d1 := mark_in hp c1; have d2 := mark_in hp c2; first | exact ⟨h.2.le (by decide), (sz_one (by omega)).le (by decide)⟩ | exact ⟨(sz_one (by omega)).le (by decide), h.2.le (by decide)⟩)))))) (fun hc1688 _ e1687 => ?_) (fun hc1688 _ e1687 => ?_)
      ·
        have fd1690 := find_at hx1652 hn1651 (show (if ((!(m_less (frI (((mapIf (fun (x1667 : (Int × Int)) => (decide (x1667.1 ≥ one_other_l1.2))) (fun (x1667 : (Int × Int)) => x1667.1) x0) ++ (mapIf (fun (x1674 : (Int × Int)) => (decide (x1674.2 ≤ one_other_l1.1))) (fun (x1674 : (Int × Int)) => x1674.2) x0)).sum) ((((mapIf (fun (x1667 : (Int × Int)) => (decide (x1667.1 ≥ one_other_l1.2))) (fun (x1667 : (Int × Int)) => x1667.1) x0) ++ (mapIf (fun (x1674 : (Int × Int)) => (decide (x1674.2 ≤ one_other_l1.1))) (fun (x1674 : (Int × Int)) => x1674.2) x0)).length : Nat) : Int)) (one_other_l1.1, (1 : Int)))) && (!(m_less (one_other_l1.2, (1 : Int)) (frI (((mapIf (fun (x1667 : (Int × Int)) => (decide (x1667.1 ≥ one_other_l1.2))) (fun (x1667 : (Int × Int)) => x1667.1) x0) ++ (mapIf (fun (x1674 : (Int × Int)) => (decide (x1674.2 ≤ one_other_l1.1))) (fun (x1674 : (Int × Int)) => x1674.2) x0)).sum) ((((mapIf (fun (x1667 : (Int × Int)) => (decide (x1667.1 ≥ one_other_l1.2))) (fun (x1667 : (Int × Int)) => x1667.1) x0) ++ (mapIf (fun (x1674 : (Int × Int)) => (decide (x1674.2 ≤ one_other_l1.1))) (fun (x1674 : (Int × Int)) => x1674.2) x0)).length : Nat) : Int))))) = true then (some (frI (((mapIf (fun (x1667 : (Int × Int)) => (decide (x1667.1 ≥ one_other_l1.2))) (fun (x1667 : (Int × Int)) => x1667.1) x0) ++ (mapIf (fun (x1674 : (Int × Int)) => (decide (x1674.2 ≤ one_other_l1.1))) (fun (x1674 : (Int × Int)) => x1674.2) x0)).sum) ((((mapIf (fun (x1667 : (Int × Int)) => (decide (x1667.1 ≥ one_other_l1.2))) (fun (x1667 : (Int × Int)) => x1667.1) x0) ++ (mapIf (fun (x1674 : (Int × Int)) => (decide (x1674.2 ≤ one_other_l1.1))) (fun (x1674 : (Int × Int)) => x1674.2) x0)).length : Nat) : Int))) else none) = some (frI (((mapIf (fun (x1667 : (Int × Int)) => (decide (x1667.1 ≥ one_other_l1.2))) (fun (x1667 : (Int × Int)) => x1667.1) x0) ++ (mapIf (fun (x1674 : (Int × Int)) => (decide (x1674.2 ≤ one_other_l1.1))) (fun (x1674 : (Int × Int)) => x1674.2) x0)).sum) ((((mapIf (fun (x1667 : (Int × Int)) => (decide (x1667.1 ≥ one_other_l1.2))) (fun (x1667 : (Int × Int)) => x1667.1) x0) ++ (mapIf (fun (x1674 : (Int × Int)) => (decide (x1674.2 ≤ one_other_l1.1))) (fun (x1674 : (Int × Int)) => x1674.2) x0)).length : Nat) : Int)) from by rw [if_pos hc1688])
        exact s_ret (K := K) (er_var rfl (Rp.mono (SF.of e1687) r1685)) (fun u _ e1689 rr => q u _ (Mus.same0 ((((((Mus.baseS (((((Mus.refl _).trans (Mus.of e1634)).trans (Mus.of e1639)).trans (Mus.of e1642)).trans (Mus.of e1653)) m1655 all0).trans (Mus.of e1654)).trans (Mus.of e1680)).trans (Mus.of e1684)).trans (Mus.of e1687)).trans (Mus.of e1689))) (by rw [(show m_centre_of x0 = (frI (((mapIf (fun (x1667 : (Int × Int)) => (decide (x1667.1 ≥ one_other_l1.2))) (fun (x1667 : (Int × Int)) => x1667.1) x0) ++ (mapIf (fun (x1674 : (Int × Int)) => (decide (x1674.2 ≤ one_other_l1.1))) (fun (x1674 : (Int × Int)) => x1674.2) x0)).sum) ((((mapIf (fun (x1667 : (Int × Int)) => (decide (x1667.1 ≥ one_other_l1.2))) (fun (x1667 : (Int × Int)) => x1667.1) x0) ++ (mapIf (fun (x1674 : (Int × Int)) => (decide (x1674.2 ≤ one_other_l1.1))) (fun (x1674 : (Int × Int)) => x1674.2) x0)).length : Nat) : Int)) from by unfold m_centre_of; rw [if_neg (nff hc1640)]; rw [fd1690])]; exact rr))
      ·
        refine s_nxz ?_
        refine s_nx ?_
        exact ⟨_, _, _, _, rfl, (find_none hx1652 hn1651 (show (if ((!(m_less (frI (((mapIf (fun (x1667 : (Int × Int)) => (decide (x1667.1 ≥ one_other_l1.2))) (fun (x1667 : (Int × Int)) => x1667.1) x0) ++ (mapIf (fun (x1674 : (Int × Int)) => (decide (x1674.2 ≤ one_other_l1.1))) (fun (x1674 : (Int × Int)) => x1674.2) x0)).sum) ((((mapIf (fun (x1667 : (Int × Int)) => (decide (x1667.1 ≥ one_other_l1.2))) (fun (x1667 : (Int × Int)) => x1667.1) x0) ++ (mapIf (fun (x1674 : (Int × Int)) => (decide (x1674.2 ≤ one_other_l1.1))) (fun (x1674 : (Int × Int)) => x1674.2) x0)).length : Nat) : Int)) (one_other_l1.1, (1 : Int)))) && (!(m_less (one_other_l1.2, (1 : Int)) (frI (((mapIf (fun (x1667 : (Int × Int)) => (decide (x1667.1 ≥ one_other_l1.2))) (fun (x1667 : (Int × Int)) => x1667.1) x0) ++ (mapIf (fun (x1674 : (Int × Int)) => (decide (x1674.2 ≤ one_other_l1.1))) (fun (x1674 : (Int × Int)) => x1674.2) x0)).sum) ((((mapIf (fun (x1667 : (Int × Int)) => (decide (x1667.1 ≥ one_other_l1.2))) (fun (x1667 : (Int × Int)) => x1667.1) x0) ++ (mapIf (fun (x1674 : (Int × Int)) => (decide (x1674.2 ≤ one_other_l1.1))) (fun (x1674 : (Int × Int)) => x1674.2) x0)).length : Nat) : Int))))) = true then (some (frI (((mapIf (fun (x1667 : (Int × Int)) => (decide (x1667.1 ≥ one_other_l1.2))) (fun (x1667 : (Int × Int)) => x1667.1) x0) ++ (mapIf (fun (x1674 : (Int × Int)) => (decide (x1674.2 ≤ one_other_l1.1))) (fun (x1674 : (Int × Int)) => x1674.2) x0)).sum) ((((mapIf (fun (x1667 : (Int × Int)) => (decide (x1667.1 ≥ one_other_l1.2))) (fun (x1667 : (Int × Int)) => x1667.1) x0) ++ (mapIf (fun (x1674 : (Int × Int)) => (decide (x1674.2 ≤ one_other_l1.1))) (fun (x1674 : (Int × Int)) => x1674.2) x0)).length : Nat) : Int))) else none) = none from by rw [if_neg (nff hc1688)])), (((((Mus.baseS (Mus.refl _) m1655 all0).trans (Mus.of e1654)).trans (Mus.of e1680)).trans (Mus.of e1684)).trans (Mus.of e1687))⟩
    ·
      obtain ⟨y1646, y1647, y1648, y1649, rfl, hn1651, m1655⟩ := hP
      replace hn1651 := find_all hn1651
      have r1691 := (Rp.mono (((((SF.of e1634).trans (SF.of e1639)).trans (SF.of e1642)).trans (SF.of e1653)).trans m1655.sf) r0)
      have r1692 := (Rp.mono ((((SF.of e1639).trans (SF.of e1642)).trans (SF.of e1653)).trans m1655.sf) r1635)
      have r1693 := (Rp.mono ((((SF.of e1639).trans (SF.of e1642)).trans (SF.of e1653)).trans m1655.sf) r1636)
      exact s_ret (K := K) (er_pair (er_var rfl r1692) er_int) (fun u _ e1694 rr => q u _ (Mus.same0 ((Mus.baseS (((((Mus.refl _).trans (Mus.of e1634)).trans (Mus.of e1639)).trans (Mus.of e1642)).trans (Mus.of e1653)) m1655 all0).trans (Mus.of e1694))) (by rw [(show m_centre_of x0 = ((mxl (m_lows x0)), (1 : Int)) from by unfold m_centre_of; rw [if_neg (nff hc1640)]; rw [hn1651])]; exact rr))
theorem cen_sz {b : List (Int × Int)} (hp : BOk b) : Sz 10 (m_centre_of b) := by
  have hl : -50 ≤ mxl (m_lows b) ∧ mxl (m_lows b) ≤ 50 := by
    obtain ⟨p, h, e⟩ := List.mem_map.mp (mxl_mem (ne_lows hp))
    have := hp.2.2 p h
    have e : p.1 = mxl (m_lows b) := e
    rw [← e]; omega
  unfold m_centre_of
  split
  · exact (sz_one (by omega)).le (by decide)
  · rename_i hc
    have hc := of_decide_eq_false (Bool.eq_false_iff.mpr hc)
    split
    · rename_i r h
      obtain ⟨t, ht, e⟩ := List.exists_of_findSome?_eq_some h
      split at e
      · cases e; exact (num_sz hp hc (zm ht)).2
      · cases e
    · exact (sz_one (by omega)).le (by decide)
def m_nearest_choice (x0 : (List (Int × Int))) : (List (Int × Int)) := (m_clipped x0 (m_centre_of x0))
theorem ok_nearest_choice (T : Txt K mg) : Ok P w K mg base CX0 5 "nearest_choice" ["bounds"] (sl1 K ((fun b => BOk b) : (List (Int × Int)) → Prop) m_nearest_choice) := by
  refine ok_of T.d_nearest_choice sc_nearest_choice (bi1 fun _ _ _ _ _ _ _ => rfl) len_sl1 (fun f cdv A outer s H vs Q E hr h => ?_)
  have nd := sc_nearest_choice.nd
  obtain ⟨v0, x0, rfl, r0, hp, q⟩ := h
  refine ⟨_, (pss_cons (ps_expr (pe_fn (ok_check_bounds T) (hr.mono (by decide)) pass0 (pa_cons (pv 0) pa_nil)))
      (pss_one (ps_ret (pe_fn (ok_clipped T) (hr.mono (by decide)) pass0 (pa_cons (pv 0) (pa_cons (pe_fn (ok_centre_of T) (hr.mono (by decide)) pass0 (pa_cons (pv 0) pa_nil)) pa_nil)))))), ?_⟩
  refine q_drop (K := K) (er_call1 (er_var rfl r0) (by exact hp)) (fun _ e1695 => ?_)
  exact s_retL (K := K) (erl_call2 (er_var rfl (Rp.mono (SF.of e1695) r0)) (er_call1 (er_var rfl (Rp.mono (SF.of e1695) r0)) (by exact hp)) (by exact ⟨by have := hp.2.1; omega, fun t ht => by have := hp.2.2 t ht; omega, (cen_sz hp).le (by decide)⟩)) (fun p us _ e1696 hn h1 rr => q p us _ (e1695.trans e1696) (e1695.free hn) h1 rr)
def m_ranks_of (x0 : (List (Int × Int))) (x1 : Int) : (Int × Int) := (((1 : Int) + (((mapIf (fun (x1717 : (Nat × (Int × Int))) => ((!(decide (((x1717.1 : Nat) : Int) = x1))) && (decide (x1717.2.2 < ((x0).getD (x1).toNat (0, 0)).1)))) (fun (x1717 : (Nat × (Int × Int))) => (1 : Int)) (enumL x0)).length : Nat) : Int)), (((x0.length : Nat) : Int) - (((mapIf (fun (x1727 : (Nat × (Int × Int))) => ((!(decide (((x1727.1 : Nat) : Int) = x1))) && (decide (x1727.2.1 > ((x0).getD (x1).toNat (0, 0)).2)))) (fun (x1727 : (Nat × (Int × Int))) => (1 : Int)) (enumL x0)).length : Nat) : Int)))
theorem ok_ranks_of (T : Txt K mg) : Ok P w K mg base CX0 1 "ranks_of" ["bounds", "place"] (sp2 K ((fun b k => BOk b ∧ 0 ≤ k ∧ k < b.length) : (List (Int × Int)) → Int → Prop) m_ranks_of) := by
  refine ok_of T.d_ranks_of sc_ranks_of (bi2 fun _ _ _ _ _ _ _ _ => rfl) len_sp2 (fun f cdv A outer s H vs Q E hr h => ?_)
  have nd := sc_ranks_of.nd
  obtain ⟨v0, v1, x0, x1, rfl, r0, r1, hp, q⟩ := h
  refine ⟨_, (pss_cons (ps_asg (pe_ix (k_ixl K rfl) (pv 0) (pv 1) (fun _ _ => rfl)) (k_gt K rfl 2 rfl (pgs_cons (pg_name (i := 2) nd rfl (.inr rfl) (.inl rfl)) (pgs_cons (pg_name (i := 3) nd rfl (.inr rfl) (.inl rfl)) pgs_nil))))
      (pss_cons (ps_set (i := 4) nd rfl (.inl rfl) (pe_callB (k_len K rfl) (by rfl) T.n_len PySem.boot_len (pa_cons (pe_frz (pe_lc (own := [("k", 5), ("one", 6)]) rfl nd (k_pe K rfl (by rfl) T.n_enumerate (pa_cons (pv 0) pa_nil)) (blkOk_by (N := N_ranks_of) (sc := defScope s_ranks_of) (by decide +kernel)) (fun _ _ _ _ _ => (k_gt K rfl 2 rfl (pgs_cons (pg_name (i := 5) nd rfl (.inl rfl) (.inr rfl)) (pgs_cons (pg_name (i := 6) nd rfl (.inl rfl) (.inr rfl)) pgs_nil)))) (fun _ _ _ _ _ => (pts_one (PW.pt (pw_and (pt_cmpR op_ne (pv 5) (pv 1) (nomark _)) (pw_and1 (pt_cmpR op_lt (pe_ix (k_ixt K rfl) (pv 6) pe_int (fun _ _ => rfl)) (pv 2) (nomark _))))))) (fun _ _ _ _ _ => pe_int))) pa_nil)))
      (pss_cons (ps_set (i := 7) nd rfl (.inl rfl) (pe_callB (k_len K rfl) (by rfl) T.n_len PySem.boot_len (pa_cons (pe_frz (pe_lc (own := [("k", 5), ("one", 6)]) rfl nd (k_pe K rfl (by rfl) T.n_enumerate (pa_cons (pv 0) pa_nil)) (blkOk_by (N := N_ranks_of) (sc := defScope s_ranks_of) (by decide +kernel)) (fun _ _ _ _ _ => (k_gt K rfl 2 rfl (pgs_cons (pg_name (i := 5) nd rfl (.inl rfl) (.inr rfl)) (pgs_cons (pg_name (i := 6) nd rfl (.inl rfl) (.inr rfl)) pgs_nil)))) (fun _ _ _ _ _ => (pts_one (PW.pt (pw_and (pt_cmpR op_ne (pv 5) (pv 1) (nomark _)) (pw_and1 (pt_cmpR op_gt (pe_ix (k_ixt K rfl) (pv 6) pe_int (fun _ _ => rfl)) (pv 3) (nomark _))))))) (fun _ _ _ _ _ => pe_int))) pa_nil)))
      (pss_one (ps_ret (pe_tup (pa_cons (pe_op op_add pe_int (pv 4)) (pa_cons (pe_op op_sub (pe_callB (k_len K rfl) (by rfl) T.n_len PySem.boot_len (pa_cons (pv 0) pa_nil)) (pv 7)) pa_nil)))))))), ?_⟩
  refine q_unp (K := K) (er_op (er_var rfl r0) (er_var rfl r1) (rr_ixI (x := ((x0).getD (x1).toNat (0, 0))) (n := (x1).toNat) (by have := hp.2; omega) (by exact getD_at (by have := hp.2; omega)))) (fun v1714 v1715 _ e1711 r1712 r1713 => ?_)
  refine q_set (K := K) (er_len (er_frz (erl_lc2 (c := fun (x1717 : (Nat × (Int × Int))) => ((!(decide (((x1717.1 : Nat) : Int) = x1))) && (decide (x1717.2.2 < ((x0).getD (x1).toNat (0, 0)).1)))) (f := fun (x1717 : (Nat × (Int × Int))) => (1 : Int)) (src_enum (er_var rfl (Rp.mono (SF.of e1711) r0))) (by have := hp.1.2.1; first | omega | (rw [List.length_range]; omega) | (rw [enumL_len]; omega)) (by intros; rfl) (fun x1717 hx1718 v1719 v1720 _ e1716 r1721 r1722 => ⟨(et_and (et_test (er_op (er_up (er_var rfl r1721)) (er_var rfl (Rp.mono (SF.of e1716) (Rp.mono (SF.of e1711) r1))) rr_neI)) (fun hsc => (et_test (er_op (er_op (er_var rfl r1722) er_int rr_ixP1) (er_var rfl (Rp.mono (SF.of e1716) r1712)) rr_lt)))), fun _ => er_int⟩)))) (fun v1725 _ e1723 r1724 => ?_)
  refine q_set (K := K) (er_len (er_frz (erl_lc2 (c := fun (x1727 : (Nat × (Int × Int))) => ((!(decide (((x1727.1 : Nat) : Int) = x1))) && (decide (x1727.2.1 > ((x0).getD (x1).toNat (0, 0)).2)))) (f := fun (x1727 : (Nat × (Int × Int))) => (1 : Int)) (src_enum (er_var rfl (Rp.mono ((SF.of e1711).trans (SF.of e1723)) r0))) (by have := hp.1.2.1; first | omega | (rw [List.length_range]; omega) | (rw [enumL_len]; omega)) (by intros; rfl) (fun x1727 hx1728 v1729 v1730 _ e1726 r1731 r1732 => ⟨(et_and (et_test (er_op (er_up (er_var rfl r1731)) (er_var rfl (Rp.mono (SF.of e1726) (Rp.mono ((SF.of e1711).trans (SF.of e1723)) r1))) rr_neI)) (fun hsc => (et_test (er_op (er_op (er_var rfl r1732) er_int rr_ixP0) (er_var rfl (Rp.mono (SF.of e1726) (Rp.mono (SF.of e1723) r1713))) rr_gt)))), fun _ => er_int⟩)))) (fun v1735 _ e1733 r1734 => ?_)
  exact s_ret (K := K) (er_pair (er_op er_int (er_up (er_var rfl (Rp.mono (SF.of e1733) r1724))) rr_add) (er_op (er_up (er_len (er_var rfl (Rp.mono (((SF.of e1711).trans (SF.of e1723)).trans (SF.of e1733)) r0)))) (er_up (er_var rfl r1734)) rr_sub)) (fun u _ e1736 rr => q u _ (((e1711.trans e1723).trans e1733).trans e1736) rr)
def m_can_be_greatest (x0 : (List (Int × Int))) : (List Nat) := (mapIf (fun (x1744 : Nat) => (decide ((m_ranks_of x0 ((x1744 : Nat) : Int)).2 = ((x0.length : Nat) : Int)))) (fun (x1744 : Nat) => x1744) (List.range x0.length))
theorem ok_can_be_greatest (T : Txt K mg) : Ok P w K mg base CX0 5 "can_be_greatest" ["bounds"] (sl1 K ((fun b => BOk b) : (List (Int × Int)) → Prop) m_can_be_greatest) := by
  refine ok_of T.d_can_be_greatest sc_can_be_greatest (bi1 fun _ _ _ _ _ _ _ => rfl) len_sl1 (fun f cdv A outer s H vs Q E hr h => ?_)
  have nd := sc_can_be_greatest.nd
  obtain ⟨v0, x0, rfl, r0, hp, q⟩ := h
  refine ⟨_, (pss_cons (ps_expr (pe_fn (ok_check_bounds T) (hr.mono (by decide)) pass0 (pa_cons (pv 0) pa_nil)))
      (pss_one (ps_ret (pe_lc (own := [("k", 1)]) rfl nd (pi_range1 (by rfl) T.n_range (pa_cons (pe_callB (k_len K rfl) (by rfl) T.n_len PySem.boot_len (pa_cons (pv 0) pa_nil)) pa_nil)) (blkOk_by (N := N_can_be_greatest) (sc := defScope s_can_be_greatest) (by decide +kernel)) (fun _ _ _ _ _ => (pg_name (i := 1) nd rfl (.inl rfl) (.inr rfl))) (fun _ _ _ _ _ => (pts_one (pt_cmpR op_eq (pe_ix (k_ixt K rfl) (pe_fn (ok_ranks_of T) (hr.mono (by decide)) pass0 (pa_cons (pv 0) (pa_cons (pv 1) pa_nil))) pe_int (fun _ _ => rfl)) (pe_callB (k_len K rfl) (by rfl) T.n_len PySem.boot_len (pa_cons (pv 0) pa_nil)) (nomark _)))) (fun _ _ _ _ _ => (pv 1)))))), ?_⟩
  refine q_drop (K := K) (er_call1 (er_var rfl r0) (by exact hp)) (fun _ e1742 => ?_)
  exact s_retL (K := K) (erl_lc1 (c := fun (x1744 : Nat) => (decide ((m_ranks_of x0 ((x1744 : Nat) : Int)).2 = ((x0.length : Nat) : Int)))) (f := fun (x1744 : Nat) => x1744) (src_range1 (er_len (er_var rfl (Rp.mono (SF.of e1742) r0))) (by have := hp.2.1; first | omega | (rw [List.length_range]; omega) | (rw [enumL_len]; omega) | (have g1 := fold_growE 1 hturn1 (fun s x _ => by split <;> simp); simp only [List.length_take, enumL_len, List.length_nil] at g1; omega))) (by have := hp.2.1; first | omega | (rw [List.length_range]; omega) | (rw [enumL_len]; omega) | (have g1 := fold_growE 1 hturn1 (fun s x _ => by split <;> simp); simp only [List.length_take, enumL_len, List.length_nil] at g1; omega)) (by intros; rfl) (fun x1744 hx1745 v1746 _ e1743 r1747 => ⟨(et_test (er_op (er_op (er_call2 (er_var rfl (Rp.mono (SF.of e1743) (Rp.mono (SF.of e1742) r0))) (er_up (er_var rfl r1747)) (by exact ⟨hp, by omega, by have := List.mem_range.mp (by assumption); omega⟩)) er_int rr_ixP1) (er_up (er_len (er_var rfl (Rp.mono (SF.of e1743) (Rp.mono (SF.of e1742) r0))))) rr_eqI)), fun _ => (er_var rfl r1747)⟩)) (fun p us _ e1748 hn h1 rr => q p us _ (e1742.trans e1748) (e1742.free hn) h1 rr)
def m_surely_greatest (x0 : (List (Int × Int))) : (List Nat) := (List.foldl (fun (s_l1 : (List Nat)) (k_one_l1 : (Nat × (Int × Int))) => ((if ((mapIf (fun (x1783 : (Nat × (Int × Int))) => (!(decide (((x1783.1 : Nat) : Int) = ((k_one_l1.1 : Nat) : Int))))) (fun (x1783 : (Nat × (Int × Int))) => (decide (k_one_l1.2.1 ≥ x1783.2.2))) (enumL x0)).all id) = true then (s_l1 ++ [k_one_l1.1]) else s_l1) : (List Nat))) ([] : (List Nat)) (enumL x0))
theorem ok_surely_greatest (T : Txt K mg) : Ok P w K mg base CX0 5 "surely_greatest" ["bounds"] (sl1 K ((fun b => BOk b) : (List (Int × Int)) → Prop) m_surely_greatest) := by
  refine ok_of T.d_surely_greatest sc_surely_greatest (bi1 fun _ _ _ _ _ _ _ => rfl) len_sl1 (fun f cdv A outer s H vs Q E hr h => ?_)
  have nd := sc_surely_greatest.nd
  obtain ⟨v0, x0, rfl, r0, hp, q⟩ := h
  refine ⟨_, (pss_cons (ps_expr (pe_fn (ok_check_bounds T) (hr.mono (by decide)) pass0 (pa_cons (pv 0) pa_nil)))
      (pss_cons (ps_set (i := 1) nd rfl (.inl rfl) (pe_lst pa_nil))
      (pss_cons (ps_for PassesOwn.never rfl (k_pe K rfl (by rfl) T.n_enumerate (pa_cons (pv 0) pa_nil)) (k_gt K rfl 2 rfl (pgs_cons (pg_name (i := 2) nd rfl (.inr rfl) (.inl rfl)) (pgs_cons (pg_name (i := 3) nd rfl (.inr rfl) (.inl rfl)) pgs_nil))) (pss_one (ps_if (pt_val (pe_callB (k_all K rfl rfl) (by rfl) T.n_all (by decide +kernel) (pa_cons (pe_frz (pe_lc (own := [("j", 4), ("other", 5)]) rfl nd (k_pe K rfl (by rfl) T.n_enumerate (pa_cons (pv 0) pa_nil)) (blkOk_by (N := N_surely_greatest) (sc := defScope s_surely_greatest) (by decide +kernel)) (fun _ _ _ _ _ => (k_gt K rfl 2 rfl (pgs_cons (pg_name (i := 4) nd rfl (.inl rfl) (.inr rfl)) (pgs_cons (pg_name (i := 5) nd rfl (.inl rfl) (.inr rfl)) pgs_nil)))) (fun _ _ _ _ _ => (pts_one (pt_cmpR op_ne (pv 4) (pv 2) (nomark _)))) (fun _ _ _ _ _ => (pe_cmpR op_ge (pe_ix (k_ixt K rfl) (pv 3) pe_int (fun _ _ => rfl)) (pe_ix (k_ixt K rfl) (pv 5) pe_int (fun _ _ => rfl)) (nomark _))))) pa_nil))) (pss_one (ps_expr (k_app K rfl (pv 1) (pv 2)))) pss_nil)))
      (pss_one (ps_ret (pv 1)))))), ?_⟩
  refine q_drop (K := K) (er_call1 (er_var rfl r0) (by exact hp)) (fun _ e1756 => ?_)
  refine q_setL (K := K) (erl_lst (α := Nat) ea_nil) (fun p1757 _ _ e1758 hn1759 h1760 rl1761 => ?_)
  have f1763 := Mus.fresh ((Mus.refl _).trans (Mus.of e1756)) nin0 hn1759
  have u1762 := Un.of h1760 rl1761
  -- for (k, one) in enumerate(bounds)
  refine q_for (K := K) (src_enum (er_var rfl (Rp.mono ((SF.of e1756).trans (SF.of e1758)) r0))) (fun H1 k σ' H' => ∃ (s_l1 : (List Nat)) (y1765 : Option V) (y1766 : Option V), σ' = [some v0, some (.ref p1757), y1765, y1766, none, none] ∧ s_l1 = (List.take k (enumL x0)).foldl (fun (s_l1 : (List Nat)) (k_one_l1 : (Nat × (Int × Int))) => ((if ((mapIf (fun (x1783 : (Nat × (Int × Int))) => (!(decide (((x1783.1 : Nat) : Int) = ((k_one_l1.1 : Nat) : Int))))) (fun (x1783 : (Nat × (Int × Int))) => (decide (k_one_l1.2.1 ≥ x1783.2.2))) (enumL x0)).all id) = true then (s_l1 ++ [k_one_l1.1]) else s_l1) : (List Nat))) ([] : (List Nat)) ∧ Mus [p1757] H1 H' ∧ Un K H' p1757 s_l1) (fun H1 e => ⟨([] : (List Nat)), _, _, rfl, rfl, Mus.refl _, (Un.mono e u1762)⟩) (fun _ _ _ _ h => by obtain ⟨_, _, _, _, _, m, _⟩ := h; exact m.sf) (fun H1 k1773 k_one_l1 σ' H' vk_one_l1 _ e1770 hx1769 hP e1771 rk_one_l1 => ?_) (fun H1 σ' H' e1770 hP => ?_)
  ·
    obtain ⟨s_l1, y1765, y1766, rfl, hs1767, m1772, u1774⟩ := hP
    obtain ⟨v1776, v1777, r1778, r1779, tg1780⟩ := tg_pair (k := 2) (m := 3) rk_one_l1
    refine tg1780 _ ?_
    have hk_one_l1 := List.mem_of_getElem? hx1769
    have hturn1 := hs1767
    refine q_last ?_
    have r1781 := (Rp.mono (((((SF.of e1756).trans (SF.of e1758)).trans (SF.of e1770)).trans m1772.sf).trans (SF.of e1771)) r0)
    refine q_if (K := K) (et_B (er_all (er_frz (erl_lc2 (c := fun (x1783 : (Nat × (Int × Int))) => (!(decide (((x1783.1 : Nat) : Int) = ((k_one_l1.1 : Nat) : Int))))) (f := fun (x1783 : (Nat × (Int × Int))) => (decide (k_one_l1.2.1 ≥ x1783.2.2))) (src_enum (er_var rfl r1781)) (by have := hp.2.1; first | omega | (rw [List.length_range]; omega) | (rw [enumL_len]; omega) | (have g1 := fold_growE 1 hturn1 (fun s x _ => by split <;> simp); simp only [List.length_take, enumL_len, List.length_nil] at g1; omega)) (by intros; rfl) (fun x1783 hx1784 v1785 v1786 _ e1782 r1787 r1788 => ⟨(et_test (er_op (er_up (er_var rfl r1787)) (er_up (er_var rfl (Rp.mono (SF.of e1782) r1778))) rr_neI)), fun _ => (er_op (er_op (er_var rfl (Rp.mono (SF.of e1782) r1779)) er_int rr_ixP0) (er_op (er_var rfl r1788) er_int rr_ixP1) rr_ge)⟩))))) (fun hc1790 _ e1789 => ?_) (fun hc1790 _ e1789 => ?_)
    ·
      refine q_last ?_
      refine q_app (K := K) rfl (Un.mono e1789 (Un.mono e1771 u1774)) (er_var rfl (Rp.mono (SF.of e1789) r1778)) (by have := hp.2.1; first | omega | (rw [List.length_range]; omega) | (rw [enumL_len]; omega) | (have g1 := fold_growE 1 hturn1 (fun s x _ => by split <;> simp); simp only [List.length_take, enumL_len, List.length_nil] at g1; omega)) (fun _ m1791 u1792 => ?_)
      refine s_nxz ?_
      refine s_nx ?_
      exact ⟨(s_l1 ++ [k_one_l1.1]), _, _, rfl, (Eq.trans (show (s_l1 ++ [k_one_l1.1]) = (if ((mapIf (fun (x1783 : (Nat × (Int × Int))) => (!(decide (((x1783.1 : Nat) : Int) = ((k_one_l1.1 : Nat) : Int))))) (fun (x1783 : (Nat × (Int × Int))) => (decide (k_one_l1.2.1 ≥ x1783.2.2))) (enumL x0)).all id) = true then (s_l1 ++ [k_one_l1.1]) else s_l1) from by rw [if_pos hc1790]) (fold_step hx1769 hs1767)), ((((Mus.baseS (Mus.refl _) m1772 (allC (.inr (.head _)) all0)).trans (Mus.of e1771)).trans (Mus.of e1789)).trans (Mus.mu m1791 (.head _))), u1792⟩
    ·
      refine s_nxz ?_
      refine s_nx ?_
      exact ⟨s_l1, _, _, rfl, (Eq.trans (show s_l1 = (if ((mapIf (fun (x1783 : (Nat × (Int × Int))) => (!(decide (((x1783.1 : Nat) : Int) = ((k_one_l1.1 : Nat) : Int))))) (fun (x1783 : (Nat × (Int × Int))) => (decide (k_one_l1.2.1 ≥ x1783.2.2))) (enumL x0)).all id) = true then (s_l1 ++ [k_one_l1.1]) else s_l1) from by rw [if_neg (nff hc1790)]) (fold_step hx1769 hs1767)), (((Mus.baseS (Mus.refl _) m1772 (allC (.inr (.head _)) all0)).trans (Mus.of e1771)).trans (Mus.of e1789)), (Un.mono e1789 (Un.mono e1771 u1774))⟩
  ·
    obtain ⟨s_l1, y1765, y1766, rfl, hs1767, m1772, u1774⟩ := hP
    replace hs1767 := fold_all hs1767
    subst hs1767
    have r1793 := (Rp.mono ((((SF.of e1756).trans (SF.of e1758)).trans (SF.of e1770)).trans m1772.sf) r0)
    obtain ⟨us, h1, rr⟩ := u1774
    exact ⟨.ref p1757, rfl, q p1757 us _ (Mus.same0 (Mus.baseS ((((Mus.refl _).trans (Mus.of e1756)).trans (Mus.of e1758)).trans (Mus.of e1770)) m1772 (allC (.inl f1763) all0))) f1763 h1 rr⟩
def m_sure_pairs (x0 : (List (Int × Int))) : (List (Int × Int)) := (List.foldl (fun (s_l1 : (List (Int × Int))) (k_l1 : Nat) => ((s_l1 ++ (mapIf (fun (x1820 : Nat) => (decide (((x0).getD (k_l1) (0, 0)).2 < ((x0).getD (x1820) (0, 0)).1))) (fun (x1820 : Nat) => (((k_l1 : Nat) : Int), ((x1820 : Nat) : Int))) (List.range x0.length))) : (List (Int × Int)))) ([] : (List (Int × Int))) (List.range x0.length))
theorem ok_sure_pairs (T : Txt K mg) : Ok P w K mg base CX0 5 "sure_pairs" ["bounds"] (sl1 K ((fun b => BOk b) : (List (Int × Int)) → Prop) m_sure_pairs) := by
  refine ok_of T.d_sure_pairs sc_sure_pairs (bi1 fun _ _ _ _ _ _ _ => rfl) len_sl1 (fun f cdv A outer s H vs Q E hr h => ?_)
  have nd := sc_sure_pairs.nd
  obtain ⟨v0, x0, rfl, r0, hp, q⟩ := h
  refine ⟨_, (pss_cons (ps_expr (pe_fn (ok_check_bounds T) (hr.mono (by decide)) pass0 (pa_cons (pv 0) pa_nil)))
      (pss_cons (ps_set (i := 1) nd rfl (.inl rfl) (pe_lst pa_nil))
      (pss_cons (ps_for PassesOwn.never rfl (pi_range1 (by rfl) T.n_range (pa_cons (pe_callB (k_len K rfl) (by rfl) T.n_len PySem.boot_len (pa_cons (pv 0) pa_nil)) pa_nil)) (pg_name (i := 2) nd rfl (.inr rfl) (.inl rfl)) (pss_one (ps_aug (i := 1) nd rfl (.inl rfl) (pe_lc (own := [("j", 3)]) rfl nd (pi_range1 (by rfl) T.n_range (pa_cons (pe_callB (k_len K rfl) (by rfl) T.n_len PySem.boot_len (pa_cons (pv 0) pa_nil)) pa_nil)) (blkOk_by (N := N_sure_pairs) (sc := defScope s_sure_pairs) (by decide +kernel)) (fun _ _ _ _ _ => (pg_name (i := 3) nd rfl (.inl rfl) (.inr rfl))) (fun _ _ _ _ _ => (pts_one (pt_cmpR op_lt (pe_ix (k_ixt K rfl) (pe_ix (k_ixl K rfl) (pv 0) (pv 2) (fun _ _ => rfl)) pe_int (fun _ _ => rfl)) (pe_ix (k_ixt K rfl) (pe_ix (k_ixl K rfl) (pv 0) (pv 3) (fun _ _ => rfl)) pe_int (fun _ _ => rfl)) (nomark _)))) (fun _ _ _ _ _ => (pe_tup (pa_cons (pv 2) (pa_cons (pv 3) pa_nil))))) ip_ext)))
      (pss_one (ps_ret (pv 1)))))), ?_⟩
  refine q_drop (K := K) (er_call1 (er_var rfl r0) (by exact hp)) (fun _ e1799 => ?_)
  refine q_setL (K := K) (erl_lst (α := (Int × Int)) ea_nil) (fun p1800 _ _ e1801 hn1802 h1803 rl1804 => ?_)
  have f1806 := Mus.fresh ((Mus.refl _).trans (Mus.of e1799)) nin0 hn1802
  have u1805 := Un.of h1803 rl1804
  -- for k in range(len(bounds))
  refine q_for (K := K) (src_range1 (er_len (er_var rfl (Rp.mono ((SF.of e1799).trans (SF.of e1801)) r0))) (by first | (have := hp.2.1; omega) | (rw [List.length_range]; have := hp.2.1; omega) | (have g1 := fold_growE 7 hturn1 (fun s x _ => by rw [List.length_append]; have := mapIf_le (c := fun y : Nat => decide ((x0.getD x (0, 0)).2 < (x0.getD y (0, 0)).1)) (f := fun y : Nat => ((x : Int), (y : Int))) (l := List.range x0.length); rw [List.length_range] at this; have := hp.2.1; omega); have g2 := mapIf_le (c := fun y : Nat => decide ((x0.getD k_l1 (0, 0)).2 < (x0.getD y (0, 0)).1)) (f := fun y : Nat => ((k_l1 : Int), (y : Int))) (l := List.range x0.length); simp only [List.length_take, List.length_range, List.length_nil] at g1 g2; have := hp.2.1; omega))) (fun H1 k σ' H' => ∃ (s_l1 : (List (Int × Int))) (y1808 : Option V), σ' = [some v0, some (.ref p1800), y1808, none] ∧ s_l1 = (List.take k (List.range x0.length)).foldl (fun (s_l1 : (List (Int × Int))) (k_l1 : Nat) => ((s_l1 ++ (mapIf (fun (x1820 : Nat) => (decide (((x0).getD (k_l1) (0, 0)).2 < ((x0).getD (x1820) (0, 0)).1))) (fun (x1820 : Nat) => (((k_l1 : Nat) : Int), ((x1820 : Nat) : Int))) (List.range x0.length))) : (List (Int × Int)))) ([] : (List (Int × Int))) ∧ Mus [p1800] H1 H' ∧ Un K H' p1800 s_l1) (fun H1 e => ⟨([] : (List (Int × Int))), _, rfl, rfl, Mus.refl _, (Un.mono e u1805)⟩) (fun _ _ _ _ h => by obtain ⟨_, _, _, _, m, _⟩ := h; exact m.sf) (fun H1 k1815 k_l1 σ' H' vk_l1 _ e1812 hx1811 hP e1813 rk_l1 => ?_) (fun H1 σ' H' e1812 hP => ?_)
  ·
    obtain ⟨s_l1, y1808, rfl, hs1809, m1814, u1816⟩ := hP
    refine s_gn ?_
    have hk_l1 := List.mem_of_getElem? hx1811
    have hturn1 := hs1809
    refine q_last ?_
    have r1818 := (Rp.mono (((((SF.of e1799).trans (SF.of e1801)).trans (SF.of e1812)).trans m1814.sf).trans (SF.of e1813)) r0)
    refine q_ext (K := K) rfl (Un.mono e1813 u1816) (erl_lc1 (c := fun (x1820 : Nat) => (decide (((x0).getD (k_l1) (0, 0)).2 < ((x0).getD (x1820) (0, 0)).1))) (f := fun (x1820 : Nat) => (((k_l1 : Nat) : Int), ((x1820 : Nat) : Int))) (src_range1 (er_len (er_var rfl r1818)) (by first | (have := hp.2.1; omega) | (rw [List.length_range]; have := hp.2.1; omega) | (have g1 := fold_growE 7 hturn1 (fun s x _ => by rw [List.length_append]; have := mapIf_le (c := fun y : Nat => decide ((x0.getD x (0, 0)).2 < (x0.getD y (0, 0)).1)) (f := fun y : Nat => ((x : Int), (y : Int))) (l := List.range x0.length); rw [List.length_range] at this; have := hp.2.1; omega); have g2 := mapIf_le (c := fun y : Nat => decide ((x0.getD k_l1 (0, 0)).2 < (x0.getD y (0, 0)).1)) (f := fun y : Nat => ((k_l1 : Int), (y : Int))) (l := List.range x0.length); simp only [List.length_take, List.length_range, List.length_nil] at g1 g2; have := hp.2.1; omega))) (by first | (have := hp.2.1; omega) | (rw [List.length_range]; have := hp.2.1; omega) | (have g1 := fold_growE 7 hturn1 (fun s x _ => by rw [List.length_append]; have := mapIf_le (c := fun y : Nat => decide ((x0.getD x (0, 0)).2 < (x0.getD y (0, 0)).1)) (f := fun y : Nat => ((x : Int), (y : Int))) (l := List.range x0.length); rw [List.length_range] at this; have := hp.2.1; omega); have g2 := mapIf_le (c := fun y : Nat => decide ((x0.getD k_l1 (0, 0)).2 < (x0.getD y (0, 0)).1)) (f := fun y : Nat => ((k_l1 : Int), (y : Int))) (l := List.range x0.length); simp only [List.length_take, List.length_range, List.length_nil] at g1 g2; have := hp.2.1; omega)) (by intros; rfl) (fun x1820 hx1821 v1822 _ e1819 r1823 => ⟨(et_test (er_op (er_op (er_op (er_var rfl (Rp.mono (SF.of e1819) r1818)) (er_up (er_var rfl (Rp.mono (SF.of e1819) rk_l1))) (rr_ixL (x := ((x0).getD (k_l1) (0, 0))) (by exact getD_at (by simp only [List.mem_range, mem_rgI] at *; omega)))) er_int rr_ixP1) (er_op (er_op (er_var rfl (Rp.mono (SF.of e1819) r1818)) (er_up (er_var rfl r1823)) (rr_ixL (x := ((x0).getD (x1820) (0, 0))) (by exact getD_at (by simp only [List.mem_range, mem_rgI] at *; omega)))) er_int rr_ixP0) rr_lt)), fun _ => (er_pair (er_up (er_var rfl (Rp.mono (SF.of e1819) rk_l1))) (er_up (er_var rfl r1823)))⟩)) (by first | (have := hp.2.1; omega) | (rw [List.length_range]; have := hp.2.1; omega) | (have g1 := fold_growE 7 hturn1 (fun s x _ => by rw [List.length_append]; have := mapIf_le (c := fun y : Nat => decide ((x0.getD x (0, 0)).2 < (x0.getD y (0, 0)).1)) (f := fun y : Nat => ((x : Int), (y : Int))) (l := List.range x0.length); rw [List.length_range] at this; have := hp.2.1; omega); have g2 := mapIf_le (c := fun y : Nat => decide ((x0.getD k_l1 (0, 0)).2 < (x0.getD y (0, 0)).1)) (f := fun y : Nat => ((k_l1 : Int), (y : Int))) (l := List.range x0.length); simp only [List.length_take, List.length_range, List.length_nil] at g1 g2; have := hp.2.1; omega)) (fun _ m1824 u1825 => ?_)
    refine s_nx ?_
    exact ⟨(s_l1 ++ (mapIf (fun (x1820 : Nat) => (decide (((x0).getD (k_l1) (0, 0)).2 < ((x0).getD (x1820) (0, 0)).1))) (fun (x1820 : Nat) => (((k_l1 : Nat) : Int), ((x1820 : Nat) : Int))) (List.range x0.length))), _, rfl, (fold_step hx1811 hs1809), (((Mus.baseS (Mus.refl _) m1814 (allC (.inr (.head _)) all0)).trans (Mus.of e1813)).trans (Mus.mu m1824 (.head _))), u1825⟩
  ·
    obtain ⟨s_l1, y1808, rfl, hs1809, m1814, u1816⟩ := hP
    replace hs1809 := fold_all hs1809
    subst hs1809
    have r1826 := (Rp.mono ((((SF.of e1799).trans (SF.of e1801)).trans (SF.of e1812)).trans m1814.sf) r0)
    obtain ⟨us, h1, rr⟩ := u1816
    exact ⟨.ref p1800, rfl, q p1800 us _ (Mus.same0 (Mus.baseS ((((Mus.refl _).trans (Mus.of e1799)).trans (Mus.of e1801)).trans (Mus.of e1812)) m1814 (allC (.inl f1806) all0))) f1806 h1 rr⟩
theorem chain_src {b : List (Int × Int)} {x : Int × Int} (h : x ∈ srtP (((enumL b).map (fun (x : (Nat × (Int × Int))) => (Pt.mk x.2.2 ((x.1 : Nat) : Int)))).map fun p => (p.a, p.b))) : 0 ≤ x.2 ∧ x.2 < (b.length : Int) := by
  obtain ⟨p, hp, rfl⟩ := List.mem_map.mp ((srtP_perm _).mem_iff.mp h)
  obtain ⟨e, he, rfl⟩ := List.mem_map.mp hp
  have := (mem_enumN he).2
  show 0 ≤ (e.1 : Int) ∧ (e.1 : Int) < _
  omega
theorem chain_src_len (b : List (Int × Int)) : (srtP (((enumL b).map (fun (x : (Nat × (Int × Int))) => (Pt.mk x.2.2 ((x.1 : Nat) : Int)))).map fun p => (p.a, p.b))).length = b.length := by
  rw [(srtP_perm _).length_eq, List.length_map, List.length_map, enumL_len]
def m_longest_chain (x0 : (List (Int × Int))) : (List Int) := (List.foldl (fun (s_l1 : (List Int)) (high_k_l1 : (Int × Int)) => ((if ((decide (s_l1 = ([] : (List Int)))) || (decide (((x0).getD (((s_l1).getLastD 0)).toNat (0, 0)).2 < ((x0).getD (high_k_l1.2).toNat (0, 0)).1))) = true then (s_l1 ++ [high_k_l1.2]) else s_l1) : (List Int))) ([] : (List Int)) (srtP (((enumL x0).map (fun (x1836 : (Nat × (Int × Int))) => (Pt.mk x1836.2.2 ((x1836.1 : Nat) : Int)))).map fun p => (p.a, p.b))))
theorem ok_longest_chain (T : Txt K mg) : Ok P w K mg base CX0 5 "longest_chain" ["bounds"] (sl1 K ((fun b => BOk b) : (List (Int × Int)) → Prop) m_longest_chain) := by
  refine ok_of T.d_longest_chain sc_longest_chain (bi1 fun _ _ _ _ _ _ _ => rfl) len_sl1 (fun f cdv A outer s H vs Q E hr h => ?_)
  have nd := sc_longest_chain.nd
  obtain ⟨v0, x0, rfl, r0, hp, q⟩ := h
  refine ⟨_, (pss_cons (ps_expr (pe_fn (ok_check_bounds T) (hr.mono (by decide)) pass0 (pa_cons (pv 0) pa_nil)))
      (pss_cons (ps_set (i := 1) nd rfl (.inl rfl) (pe_frz (pe_callB (k_sortedP K rfl) (by rfl) T.n_sorted (by decide +kernel) (pa_cons (pe_frz (pe_lc (own := [("k", 2), ("one", 3)]) rfl nd (k_pe K rfl (by rfl) T.n_enumerate (pa_cons (pv 0) pa_nil)) (blkOk_by (N := N_longest_chain) (sc := defScope s_longest_chain) (by decide +kernel)) (fun _ _ _ _ _ => (k_gt K rfl 2 rfl (pgs_cons (pg_name (i := 2) nd rfl (.inl rfl) (.inr rfl)) (pgs_cons (pg_name (i := 3) nd rfl (.inl rfl) (.inr rfl)) pgs_nil)))) (fun _ _ _ _ _ => pts_nil) (fun _ _ _ _ _ => (pe_tup (pa_cons (pe_ix (k_ixt K rfl) (pv 3) pe_int (fun _ _ => rfl)) (pa_cons (pv 2) pa_nil)))))) pa_nil))))
      (pss_cons (ps_set (i := 4) nd rfl (.inl rfl) (pe_lst pa_nil))
      (pss_cons (ps_for PassesOwn.never rfl (k_pl K rfl (pv 1)) (k_gt K rfl 2 rfl (pgs_cons (pg_name (i := 5) nd rfl (.inl rfl) (.inr rfl)) (pgs_cons (pg_name (i := 2) nd rfl (.inl rfl) (.inr rfl)) pgs_nil))) (pss_one (ps_if (PW.pt (pw_or (pt_cmpR (k_eqD K rfl hr.units) (pv 4) (pe_frz (pe_lst pa_nil)) (nomark _)) (pw_or1 (pt_cmpR op_lt (pe_ix (k_ixt K rfl) (pe_ix (k_ixl K rfl) (pv 0) (pe_ix (k_ixl K rfl) (pv 4) (pe_un un_neg pe_int) (fun _ _ => rfl)) (fun _ _ => rfl)) pe_int (fun _ _ => rfl)) (pe_ix (k_ixt K rfl) (pe_ix (k_ixl K rfl) (pv 0) (pv 2) (fun _ _ => rfl)) pe_int (fun _ _ => rfl)) (nomark _))))) (pss_one (ps_expr (k_app K rfl (pv 4) (pv 2)))) pss_nil)))
      (pss_one (ps_ret (pv 4))))))), ?_⟩
  refine q_drop (K := K) (er_call1 (er_var rfl r0) (by exact hp)) (fun _ e1834 => ?_)
  refine q_set (K := K) (er_frz (erl_sortedP (er_frz (erl_lm2 (f := fun (x1836 : (Nat × (Int × Int))) => (Pt.mk x1836.2.2 ((x1836.1 : Nat) : Int))) (src_enum (er_var rfl (Rp.mono (SF.of e1834) r0))) (by first | (have := hp.2.1; omega) | (rw [enumL_len]; have := hp.2.1; omega) | (have g1 := fold_growE 1 hturn1 (fun s x _ => by split <;> simp); have := chain_src_len x0; simp only [List.length_take, List.length_nil] at g1; have := hp.2.1; omega)) (by intros; rfl) (fun x1836 hx1837 v1838 v1839 _ e1835 r1840 r1841 => (er_ptup (er_op (er_var rfl r1841) er_int rr_ixP1) (er_up (er_var rfl r1840)))))))) (fun v1844 _ e1842 r1843 => ?_)
  refine q_setL (K := K) (erl_lst (α := Int) ea_nil) (fun p1845 _ _ e1846 hn1847 h1848 rl1849 => ?_)
  have f1851 := Mus.fresh (((Mus.refl _).trans (Mus.of e1834)).trans (Mus.of e1842)) nin0 hn1847
  have u1850 := Un.of h1848 rl1849
  -- for (high, k) in order
  refine q_for (K := K) (src_list (er_var rfl (Rp.mono (SF.of e1846) r1843))) (fun H1 k σ' H' => ∃ (s_l1 : (List Int)) (y1853 : Option V) (y1854 : Option V), σ' = [some v0, some v1844, y1853, none, some (.ref p1845), y1854] ∧ s_l1 = (List.take k (srtP (((enumL x0).map (fun (x1836 : (Nat × (Int × Int))) => (Pt.mk x1836.2.2 ((x1836.1 : Nat) : Int)))).map fun p => (p.a, p.b)))).foldl (fun (s_l1 : (List Int)) (high_k_l1 : (Int × Int)) => ((if ((decide (s_l1 = ([] : (List Int)))) || (decide (((x0).getD (((s_l1).getLastD 0)).toNat (0, 0)).2 < ((x0).getD (high_k_l1.2).toNat (0, 0)).1))) = true then (s_l1 ++ [high_k_l1.2]) else s_l1) : (List Int))) ([] : (List Int)) ∧ Mus [p1845] H1 H' ∧ Un K H' p1845 s_l1) (fun H1 e => ⟨([] : (List Int)), _, _, rfl, rfl, Mus.refl _, (Un.mono e u1850)⟩) (fun _ _ _ _ h => by obtain ⟨_, _, _, _, _, m, _⟩ := h; exact m.sf) (fun H1 k1861 high_k_l1 σ' H' vhigh_k_l1 _ e1858 hx1857 hP e1859 rhigh_k_l1 => ?_) (fun H1 σ' H' e1858 hP => ?_)
  ·
    obtain ⟨s_l1, y1853, y1854, rfl, hs1855, m1860, u1862⟩ := hP
    obtain ⟨v1864, v1865, r1866, r1867, tg1868⟩ := tg_pair (k := 5) (m := 2) rhigh_k_l1
    refine tg1868 _ ?_
    have hhigh_k_l1 := List.mem_of_getElem? hx1857
    have hturn1 := hs1855
    refine q_last ?_
    have r1869 := (Rp.mono ((((((SF.of e1834).trans (SF.of e1842)).trans (SF.of e1846)).trans (SF.of e1858)).trans m1860.sf).trans (SF.of e1859)) r0)
    have r1870 := (Rp.mono ((((SF.of e1846).trans (SF.of e1858)).trans m1860.sf).trans (SF.of e1859)) r1843)
    refine q_if (K := K) (et_or (et_test (er_eqU rfl (Un.mono e1859 u1862) (er_frz (erl_lst (α := Int) ea_nil)))) (fun hsc => (et_test (er_op (er_op (er_op (er_var rfl r1869) (er_lastU (x := ((s_l1).getLastD 0)) rfl (Un.mono e1859 u1862) (er_neg er_int) (by first | exact last_atD (of_decide_eq_false hsc) | exact getD_at (by have := (chain_src (by assumption)).2; have := (chain_src (by assumption)).1; omega) | exact getD_at (by have := fold_invE (fun s => ∀ y ∈ s, 0 ≤ y ∧ y < (x0.length : Int)) hturn1 (fun _ h => by cases h) (fun s x hx ih => by have := chain_src (List.mem_of_mem_take hx); split <;> intro y hy <;> first | exact ih y hy | (rcases List.mem_append.mp hy with h | h <;> first | exact ih y h | (rw [List.mem_singleton.mp h]; omega))) _ (lastD_mem (d := 0) (of_decide_eq_false hsc)); omega))) (rr_ixI (x := ((x0).getD (((s_l1).getLastD 0)).toNat (0, 0))) (n := (((s_l1).getLastD 0)).toNat) (by first | (have := (chain_src (by assumption)).1; omega) | (have := fold_invE (fun s => ∀ y ∈ s, 0 ≤ y ∧ y < (x0.length : Int)) hturn1 (fun _ h => by cases h) (fun s x hx ih => by have := chain_src (List.mem_of_mem_take hx); split <;> intro y hy <;> first | exact ih y hy | (rcases List.mem_append.mp hy with h | h <;> first | exact ih y h | (rw [List.mem_singleton.mp h]; omega))) _ (lastD_mem (d := 0) (of_decide_eq_false hsc)); omega)) (by first | exact last_atD (of_decide_eq_false hsc) | exact getD_at (by have := (chain_src (by assumption)).2; have := (chain_src (by assumption)).1; omega) | exact getD_at (by have := fold_invE (fun s => ∀ y ∈ s, 0 ≤ y ∧ y < (x0.length : Int)) hturn1 (fun _ h => by cases h) (fun s x hx ih => by have := chain_src (List.mem_of_mem_take hx); split <;> intro y hy <;> first | exact ih y hy | (rcases List.mem_append.mp hy with h | h <;> first | exact ih y h | (rw [List.mem_singleton.mp h]; omega))) _ (lastD_mem (d := 0) (of_decide_eq_false hsc)); omega)))) er_int rr_ixP1) (er_op (er_op (er_var rfl r1869) (er_var rfl r1867) (rr_ixI (x := ((x0).getD (high_k_l1.2).toNat (0, 0))) (n := (high_k_l1.2).toNat) (by first | (have := (chain_src (by assumption)).1; omega) | (have := fold_invE (fun s => ∀ y ∈ s, 0 ≤ y ∧ y < (x0.length : Int)) hturn1 (fun _ h => by cases h) (fun s x hx ih => by have := chain_src (List.mem_of_mem_take hx); split <;> intro y hy <;> first | exact ih y hy | (rcases List.mem_append.mp hy with h | h <;> first | exact ih y h | (rw [List.mem_singleton.mp h]; omega))) _ (lastD_mem (d := 0) (of_decide_eq_false hsc)); omega)) (by first | exact last_atD (of_decide_eq_false hsc) | exact getD_at (by have := (chain_src (by assumption)).2; have := (chain_src (by assumption)).1; omega) | exact getD_at (by have := fold_invE (fun s => ∀ y ∈ s, 0 ≤ y ∧ y < (x0.length : Int)) hturn1 (fun _ h => by cases h) (fun s x hx ih => by have := chain_src (List.mem_of_mem_take hx); split <;> intro y hy <;> first | exact ih y hy | (rcases List.mem_append.mp hy with h | h <;> first | exact ih y h | (rw [List.mem_singleton.mp h]; omega))) _ (lastD_mem (d := 0) (of_decide_eq_false hsc)); omega)))) er_int rr_ixP0) rr_lt)))) (fun hc1872 _ e1871 => ?_) (fun hc1872 _ e1871 => ?_)
    ·
      refine q_last ?_
      refine q_app (K := K) rfl (Un.mono e1871 (Un.mono e1859 u1862)) (er_var rfl (Rp.mono (SF.of e1871) r1867)) (by first | (have := hp.2.1; omega) | (rw [enumL_len]; have := hp.2.1; omega) | (have g1 := fold_growE 1 hturn1 (fun s x _ => by split <;> simp); have := chain_src_len x0; simp only [List.length_take, List.length_nil] at g1; have := hp.2.1; omega)) (fun _ m1873 u1874 => ?_)
      refine s_nxz ?_
      refine s_nx ?_
      exact ⟨(s_l1 ++ [high_k_l1.2]), _, _, rfl, (Eq.trans (show (s_l1 ++ [high_k_l1.2]) = (if ((decide (s_l1 = ([] : (List Int)))) || (decide (((x0).getD (((s_l1).getLastD 0)).toNat (0, 0)).2 < ((x0).getD (high_k_l1.2).toNat (0, 0)).1))) = true then (s_l1 ++ [high_k_l1.2]) else s_l1) from by rw [if_pos hc1872]) (fold_step hx1857 hs1855)), ((((Mus.baseS (Mus.refl _) m1860 (allC (.inr (.head _)) all0)).trans (Mus.of e1859)).trans (Mus.of e1871)).trans (Mus.mu m1873 (.head _))), u1874⟩
    ·
      refine s_nxz ?_
      refine s_nx ?_
      exact ⟨s_l1, _, _, rfl, (Eq.trans (show s_l1 = (if ((decide (s_l1 = ([] : (List Int)))) || (decide (((x0).getD (((s_l1).getLastD 0)).toNat (0, 0)).2 < ((x0).getD (high_k_l1.2).toNat (0, 0)).1))) = true then (s_l1 ++ [high_k_l1.2]) else s_l1) from by rw [if_neg (nff hc1872)]) (fold_step hx1857 hs1855)), (((Mus.baseS (Mus.refl _) m1860 (allC (.inr (.head _)) all0)).trans (Mus.of e1859)).trans (Mus.of e1871)), (Un.mono e1871 (Un.mono e1859 u1862))⟩
  ·
    obtain ⟨s_l1, y1853, y1854, rfl, hs1855, m1860, u1862⟩ := hP
    replace hs1855 := fold_all hs1855
    subst hs1855
    have r1875 := (Rp.mono (((((SF.of e1834).trans (SF.of e1842)).trans (SF.of e1846)).trans (SF.of e1858)).trans m1860.sf) r0)
    obtain ⟨us, h1, rr⟩ := u1862
    exact ⟨.ref p1845, rfl, q p1845 us _ (Mus.same0 (Mus.baseS (((((Mus.refl _).trans (Mus.of e1834)).trans (Mus.of e1842)).trans (Mus.of e1846)).trans (Mus.of e1858)) m1860 (allC (.inl f1851) all0))) f1851 h1 rr⟩
def m_rank_table (x0 : (List (Int × Int))) : (List (Int × Int)) := ((List.range x0.length).map (fun (x1883 : Nat) => (m_ranks_of x0 ((x1883 : Nat) : Int))))
theorem ok_rank_table (T : Txt K mg) : Ok P w K mg base CX0 5 "rank_table" ["bounds"] (sl1 K ((fun b => BOk b) : (List (Int × Int)) → Prop) m_rank_table) := by
  refine ok_of T.d_rank_table sc_rank_table (bi1 fun _ _ _ _ _ _ _ => rfl) len_sl1 (fun f cdv A outer s H vs Q E hr h => ?_)
  have nd := sc_rank_table.nd
  obtain ⟨v0, x0, rfl, r0, hp, q⟩ := h
  refine ⟨_, (pss_cons (ps_expr (pe_fn (ok_check_bounds T) (hr.mono (by decide)) pass0 (pa_cons (pv 0) pa_nil)))
      (pss_one (ps_ret (pe_lc (own := [("k", 1)]) rfl nd (pi_range1 (by rfl) T.n_range (pa_cons (pe_callB (k_len K rfl) (by rfl) T.n_len PySem.boot_len (pa_cons (pv 0) pa_nil)) pa_nil)) (blkOk_by (N := N_rank_table) (sc := defScope s_rank_table) (by decide +kernel)) (fun _ _ _ _ _ => (pg_name (i := 1) nd rfl (.inl rfl) (.inr rfl))) (fun _ _ _ _ _ => pts_nil) (fun _ _ _ _ _ => (pe_fn (ok_ranks_of T) (hr.mono (by decide)) pass0 (pa_cons (pv 0) (pa_cons (pv 1) pa_nil)))))))), ?_⟩
  refine q_drop (K := K) (er_call1 (er_var rfl r0) (by exact hp)) (fun _ e1881 => ?_)
  exact s_retL (K := K) (erl_lm1 (f := fun (x1883 : Nat) => (m_ranks_of x0 ((x1883 : Nat) : Int))) (src_range1 (er_len (er_var rfl (Rp.mono (SF.of e1881) r0))) (by have := hp.2.1; first | omega | (rw [List.length_range]; omega) | (rw [enumL_len]; omega) | (have g1 := fold_growE 1 hturn1 (fun s x _ => by split <;> simp); simp only [List.length_take, enumL_len, List.length_nil] at g1; omega))) (by have := hp.2.1; first | omega | (rw [List.length_range]; omega) | (rw [enumL_len]; omega) | (have g1 := fold_growE 1 hturn1 (fun s x _ => by split <;> simp); simp only [List.length_take, enumL_len, List.length_nil] at g1; omega)) (by intros; rfl) (fun x1883 hx1884 v1885 _ e1882 r1886 => (er_call2 (er_var rfl (Rp.mono (SF.of e1882) (Rp.mono (SF.of e1881) r0))) (er_up (er_var rfl r1886)) (by exact ⟨hp, by omega, by have := List.mem_range.mp (by assumption); omega⟩)))) (fun p us _ e1887 hn h1 rr => q p us _ (e1881.trans e1887) (e1881.free hn) h1 rr)
theorem co_no1 {o : List Int} {n : Nat} (h : ∀ y ∈ o, 0 ≤ y ∧ y < (n : Int)) : (!(o.map fun k => m_is_int k 0 ((n : Int) - 1)).all id) = false := by
  rw [Bool.not_eq_false', List.all_map, List.all_eq_true]
  intro y hy
  have := h y hy
  simp [m_is_int]; omega
theorem co_rg (n : Nat) : (rgI 0 n).Pairwise (· < ·) := by
  unfold rgI
  rw [List.pairwise_map]
  exact List.Pairwise.imp (fun h => by omega) List.pairwise_lt_range
theorem co_mem {n : Nat} {k : Int} : k ∈ rgI 0 n ↔ 0 ≤ k ∧ k < (n : Int) := by
  unfold rgI
  rw [List.mem_map]
  constructor
  · rintro ⟨j, hj, rfl⟩; have := List.mem_range.mp hj; omega
  · rintro ⟨h1, h2⟩; exact ⟨k.toNat, List.mem_range.mpr (by omega), by omega⟩
theorem co_srt {o : List Int} {n : Nat} (hl : o.length = n) (h : ∀ y ∈ o, 0 ≤ y ∧ y < (n : Int)) (nd : o.Nodup) : srt o = rgI 0 n := by
  refine up_ext (lt_of_le_nodup _ (srt_sorted o) ((srt_perm o).nodup_iff.mpr nd)) (co_rg n) fun k => ?_
  rw [(srt_perm o).mem_iff, co_mem]
  refine ⟨h k, fun hk => ?_⟩
  by_cases c : k ∈ o
  · exact c
  · have h1 := nodup_sub (m := (rgI 0 n).erase k) nd fun y hy => (List.mem_erase_of_ne (fun (e : y = k) => c (e ▸ hy))).mpr (co_mem.mpr (h y hy))
    rw [List.length_erase_of_mem (co_mem.mpr hk)] at h1
    have h2 : (rgI 0 n).length = n := by unfold rgI; rw [List.length_map, List.length_range]
    omega
theorem co_no2 {o : List Int} {n : Nat} (hl : o.length = n) (h : ∀ y ∈ o, 0 ≤ y ∧ y < (n : Int)) (nd : o.Nodup) : (!decide (srt o = rgI 0 n)) = false := by
  rw [co_srt hl h nd, decide_eq_true rfl]; rfl
theorem cf_len {γ : Type} {n : Nat} {f : γ × List Int → Int → γ × List Int} {l : List Int} {a s : γ × List Int} (hs : s = l.foldl f a) (ha : a.2.length = n) (hf : ∀ s x, (f s x).2.length = s.2.length) : s.2.length = n := by
  rw [hs]
  exact fold_inv (P := fun s : γ × List Int => s.2.length = n) ha (fun s x _ h => by rw [hf]; exact h)

theorem ok_check_order (T : Txt K mg) : Ok P w K mg base CX0 2 "check_order" ["bounds", "value"] (sp2 K ((fun b o => BOk b ∧ o.length = b.length ∧ (∀ y ∈ o, 0 ≤ y ∧ y < (b.length : Int)) ∧ o.Nodup) : (List (Int × Int)) → (List Int) → Prop) (fun _ _ => ())) := by
  refine ok_of T.d_check_order sc_check_order (bi2 fun _ _ _ _ _ _ _ _ => rfl) len_sp2 (fun f cdv A outer s H vs Q E hr h => ?_)
  have nd := sc_check_order.nd
  obtain ⟨v0, v1, x0, x1, rfl, r0, r1, hp, q⟩ := h
  refine ⟨_, (pss_cons (ps_if (PW.pt (pw_or (pt_not (pt_val (pe_callB (k_isi K rfl) (by rfl) T.n_isinstance (by decide +kernel) (pa_cons (pv 1) (pa_cons (pe_bltn (v := .ty "list") (by rfl) T.n_list (by decide +kernel) rfl) pa_nil))))) (pw_or1 (pt_not (pt_val (pe_callB (k_all K rfl rfl) (by rfl) T.n_all (by decide +kernel) (pa_cons (pe_frz (pe_lc (own := [("k", 2)]) rfl nd (k_pl K rfl (pv 1)) (blkOk_by (N := N_check_order) (sc := defScope s_check_order) (by decide +kernel)) (fun _ _ _ _ _ => (pg_name (i := 2) nd rfl (.inl rfl) (.inr rfl))) (fun _ _ _ _ _ => pts_nil) (fun _ _ _ _ _ => (pe_fn (ok_is_int T) (hr.mono (by decide)) pass0 (pa_cons (pv 2) (pa_cons pe_int (pa_cons (pe_op op_sub (pe_callB (k_len K rfl) (by rfl) T.n_len PySem.boot_len (pa_cons (pv 0) pa_nil)) pe_int) pa_nil))))))) pa_nil))))))) (pss_one ps_never) pss_nil)
      (pss_one (ps_if (pt_cmpR (k_neD K rfl hr.units) (pe_frz (pe_callB (k_sorted K rfl) (by rfl) T.n_sorted (by decide +kernel) (pa_cons (pv 1) pa_nil))) (pe_frz (pe_listRg rfl (by rfl) T.n_list (prg_1 (by rfl) T.n_range (pe_callB (k_len K rfl) (by rfl) T.n_len PySem.boot_len (pa_cons (pv 0) pa_nil))))) (nomark _)) (pss_one ps_never) pss_nil))), ?_⟩
  refine q_not (K := K) (et_or (et_not (et_B (er_isi (b := true) (er_var rfl r1) (show kitB "list" "list" = some true from by decide)))) (fun hsc => (et_not (et_B (er_all (er_frz (erl_lm1 (f := fun (x1894 : Int) => (m_is_int x1894 (0 : Int) (((x0.length : Nat) : Int) - (1 : Int)))) (src_list (er_var rfl r1)) (by have := hp.1.2.1; have := hp.2.1; omega) (by intros; rfl) (fun x1894 hx1895 v1896 _ e1893 r1897 => (er_call3 (er_var rfl r1897) er_int (er_op (er_up (er_len (er_var rfl (Rp.mono (SF.of e1893) r0)))) er_int rr_sub) trivial))))))))) (by first | exact co_no1 hp.2.2.1 | exact co_no2 hp.2.1 hp.2.2.1 hp.2.2.2) (fun _ e1898 => ?_)
  refine q_last ?_
  refine q_not (K := K) (et_test (er_op (er_frz (erl_sorted (er_var rfl (Rp.mono (SF.of e1898) r1)))) (er_frz (erl_rangeI (er_len (er_var rfl (Rp.mono (SF.of e1898) r0))) (by have := hp.1.2.1; have := hp.2.1; omega))) rr_neT)) (by first | exact co_no1 hp.2.2.1 | exact co_no2 hp.2.1 hp.2.2.1 hp.2.2.2) (fun _ e1899 => ?_)
  refine s_nx ?_
  exact q .non _ (e1898.trans e1899) rfl
def m_is_possible (x0 : (List (Int × Int))) (x1 : (List Int)) : Bool := (match List.findSome? (fun (k_l1 : Nat) => ((match List.findSome? (fun (j_l2 : Nat) => ((if (decide (((x0).getD (((x1).getD (j_l2) 0)).toNat (0, 0)).1 > ((x0).getD (((x1).getD (k_l1) 0)).toNat (0, 0)).2)) = true then (some false) else none) : Option Bool)) (List.range k_l1) with | some r => some r | none => none) : Option Bool)) (List.range x1.length) with | some r => r | none => true)
theorem ok_is_possible (T : Txt K mg) : Ok P w K mg base CX0 1 "is_possible" ["bounds", "order"] (sp2 K ((fun b o => BOk b ∧ o.length = b.length ∧ ∀ y ∈ o, 0 ≤ y ∧ y < (b.length : Int)) : (List (Int × Int)) → (List Int) → Prop) m_is_possible) := by
  refine ok_of T.d_is_possible sc_is_possible (bi2 fun _ _ _ _ _ _ _ _ => rfl) len_sp2 (fun f cdv A outer s H vs Q E hr h => ?_)
  have nd := sc_is_possible.nd
  obtain ⟨v0, v1, x0, x1, rfl, r0, r1, hp, q⟩ := h
  refine ⟨_, (pss_cons (ps_for PassesOwn.never rfl (pi_range1 (by rfl) T.n_range (pa_cons (pe_callB (k_len K rfl) (by rfl) T.n_len PySem.boot_len (pa_cons (pv 1) pa_nil)) pa_nil)) (pg_name (i := 2) nd rfl (.inl rfl) (.inr rfl)) (pss_one (ps_for PassesOwn.never rfl (pi_range1 (by rfl) T.n_range (pa_cons (pv 2) pa_nil)) (pg_name (i := 3) nd rfl (.inl rfl) (.inr rfl)) (pss_one (ps_if (pt_cmpR op_gt (pe_ix (k_ixt K rfl) (pe_ix (k_ixl K rfl) (pv 0) (pe_ix (k_ixl K rfl) (pv 1) (pv 3) (fun _ _ => rfl)) (fun _ _ => rfl)) pe_int (fun _ _ => rfl)) (pe_ix (k_ixt K rfl) (pe_ix (k_ixl K rfl) (pv 0) (pe_ix (k_ixl K rfl) (pv 1) (pv 2) (fun _ _ => rfl)) (fun _ _ => rfl)) pe_int (fun _ _ => rfl)) (nomark _)) (pss_one (ps_ret pe_bl)) pss_nil)))))
      (pss_one (ps_ret pe_bl))), ?_⟩
  -- for k in range(len(order))
  refine q_for (K := K) (src_range1 (er_len (er_var rfl r1)) (by have := hp.1.2.1; have := hp.2.1; first | omega | (have := List.mem_range.mp hk_l1; omega))) (fun H1 k σ' H' => ∃ (y1901 : Option V) (y1902 : Option V), σ' = [some v0, some v1, y1901, y1902] ∧ (List.take k (List.range x1.length)).findSome? (fun (k_l1 : Nat) => ((match List.findSome? (fun (j_l2 : Nat) => ((if (decide (((x0).getD (((x1).getD (j_l2) 0)).toNat (0, 0)).1 > ((x0).getD (((x1).getD (k_l1) 0)).toNat (0, 0)).2)) = true then (some false) else none) : Option Bool)) (List.range k_l1) with | some r => some r | none => none) : Option Bool)) = none ∧ Mus [] H1 H') (fun H1 e => ⟨_, _, rfl, rfl, Mus.refl _⟩) (fun _ _ _ _ h => by obtain ⟨_, _, _, _, m⟩ := h; exact m.sf) (fun H1 k1909 k_l1 σ' H' vk_l1 _ e1906 hx1905 hP e1907 rk_l1 => ?_) (fun H1 σ' H' e1906 hP => ?_)
  ·
    obtain ⟨y1901, y1902, rfl, hn1904, m1908⟩ := hP
    refine s_gn ?_
    have hk_l1 := List.mem_of_getElem? hx1905
    refine q_last ?_
    -- for j in range(k)
    refine q_for (K := K) (src_range1 (er_var rfl rk_l1) (by have := hp.1.2.1; have := hp.2.1; first | omega | (have := List.mem_range.mp hk_l1; omega))) (fun H1 k σ' H' => ∃ (y1912 : Option V), σ' = [some v0, some v1, some vk_l1, y1912] ∧ (List.take k (List.range k_l1)).findSome? (fun (j_l2 : Nat) => ((if (decide (((x0).getD (((x1).getD (j_l2) 0)).toNat (0, 0)).1 > ((x0).getD (((x1).getD (k_l1) 0)).toNat (0, 0)).2)) = true then (some false) else none) : Option Bool)) = none ∧ Mus [] H1 H') (fun H1 e => ⟨_, rfl, rfl, Mus.refl _⟩) (fun _ _ _ _ h => by obtain ⟨_, _, _, m⟩ := h; exact m.sf) (fun H1 k1919 j_l2 σ' H' vj_l2 _ e1916 hx1915 hP e1917 rj_l2 => ?_) (fun H1 σ' H' e1916 hP => ?_)
    ·
      obtain ⟨y1912, rfl, hn1914, m1918⟩ := hP
      refine s_gn ?_
      have hj_l2 := List.mem_of_getElem? hx1915
      refine q_last ?_
      have r1921 := (Rp.mono ((((((SF.of e1906).trans m1908.sf).trans (SF.of e1907)).trans (SF.of e1916)).trans m1918.sf).trans (SF.of e1917)) r0)
      have r1922 := (Rp.mono ((((((SF.of e1906).trans m1908.sf).trans (SF.of e1907)).trans (SF.of e1916)).trans m1918.sf).trans (SF.of e1917)) r1)
      refine q_if (K := K) (et_test (er_op (er_op (er_op (er_var rfl r1921) (er_op (er_var rfl r1922) (er_up (er_var rfl rj_l2)) (rr_ixL (x := ((x1).getD (j_l2) 0)) (by first | exact getD_at (List.mem_range.mp hk_l1) | exact getD_at (by have h1 := List.mem_range.mp hk_l1; have h2 := List.mem_range.mp hj_l2; omega) | exact getD_at (by have := hp.2.2 _ (at_mem (d := 0) (List.mem_range.mp hk_l1)); omega) | exact getD_at (by have := hp.2.2 _ (at_mem (d := 0) (show j_l2 < x1.length from (by have h1 := List.mem_range.mp hk_l1; have h2 := List.mem_range.mp hj_l2; omega))); omega)))) (rr_ixI (x := ((x0).getD (((x1).getD (j_l2) 0)).toNat (0, 0))) (n := (((x1).getD (j_l2) 0)).toNat) (by first | (have := hp.2.2 _ (at_mem (d := 0) (List.mem_range.mp hk_l1)); omega) | (have := hp.2.2 _ (at_mem (d := 0) (show j_l2 < x1.length from (by have h1 := List.mem_range.mp hk_l1; have h2 := List.mem_range.mp hj_l2; omega))); omega)) (by first | exact getD_at (List.mem_range.mp hk_l1) | exact getD_at (by have h1 := List.mem_range.mp hk_l1; have h2 := List.mem_range.mp hj_l2; omega) | exact getD_at (by have := hp.2.2 _ (at_mem (d := 0) (List.mem_range.mp hk_l1)); omega) | exact getD_at (by have := hp.2.2 _ (at_mem (d := 0) (show j_l2 < x1.length from (by have h1 := List.mem_range.mp hk_l1; have h2 := List.mem_range.mp hj_l2; omega))); omega)))) er_int rr_ixP0) (er_op (er_op (er_var rfl r1921) (er_op (er_var rfl r1922) (er_up (er_var rfl (Rp.mono (((SF.of e1916).trans m1918.sf).trans (SF.of e1917)) rk_l1))) (rr_ixL (x := ((x1).getD (k_l1) 0)) (by first | exact getD_at (List.mem_range.mp hk_l1) | exact getD_at (by have h1 := List.mem_range.mp hk_l1; have h2 := List.mem_range.mp hj_l2; omega) | exact getD_at (by have := hp.2.2 _ (at_mem (d := 0) (List.mem_range.mp hk_l1)); omega) | exact getD_at (by have := hp.2.2 _ (at_mem (d := 0) (show j_l2 < x1.length from (by have h1 := List.mem_range.mp hk_l1; have h2 := List.mem_range.mp hj_l2; omega))); omega)))) (rr_ixI (x := ((x0).getD (((x1).getD (k_l1) 0)).toNat (0, 0))) (n := (((x1).getD (k_l1) 0)).toNat) (by first | (have := hp.2.2 _ (at_mem (d := 0) (List.mem_range.mp hk_l1)); omega) | (have := hp.2.2 _ (at_mem (d := 0) (show j_l2 < x1.length from (by have h1 := List.mem_range.mp hk_l1; have h2 := List.mem_range.mp hj_l2; omega))); omega)) (by first | exact getD_at (List.mem_range.mp hk_l1) | exact getD_at (by have h1 := List.mem_range.mp hk_l1; have h2 := List.mem_range.mp hj_l2; omega) | exact getD_at (by have := hp.2.2 _ (at_mem (d := 0) (List.mem_range.mp hk_l1)); omega) | exact getD_at (by have := hp.2.2 _ (at_mem (d := 0) (show j_l2 < x1.length from (by have h1 := List.mem_range.mp hk_l1; have h2 := List.mem_range.mp hj_l2; omega))); omega)))) er_int rr_ixP1) rr_gt)) (fun hc1924 _ e1923 => ?_) (fun hc1924 _ e1923 => ?_)
      ·
        have r1925 := (Rp.mono ((((SF.of e1916).trans m1918.sf).trans (SF.of e1917)).trans (SF.of e1923)) rk_l1)
        have fd1927 := find_at hx1915 hn1914 (show (if (decide (((x0).getD (((x1).getD (j_l2) 0)).toNat (0, 0)).1 > ((x0).getD (((x1).getD (k_l1) 0)).toNat (0, 0)).2)) = true then (some false) else none) = some false from by rw [if_pos hc1924])
        have fd1928 := find_at hx1905 hn1904 (show (match List.findSome? (fun (j_l2 : Nat) => ((if (decide (((x0).getD (((x1).getD (j_l2) 0)).toNat (0, 0)).1 > ((x0).getD (((x1).getD (k_l1) 0)).toNat (0, 0)).2)) = true then (some false) else none) : Option Bool)) (List.range k_l1) with | some r => some r | none => none) = some false from by rw [fd1927])
        exact s_ret (K := K) er_bl (fun u _ e1926 rr => q u _ (Mus.same0 ((((Mus.baseS (((Mus.baseS ((Mus.refl _).trans (Mus.of e1906)) m1908 all0).trans (Mus.of e1907)).trans (Mus.of e1916)) m1918 all0).trans (Mus.of e1917)).trans (Mus.of e1923)).trans (Mus.of e1926))) (by rw [(show m_is_possible x0 x1 = false from by unfold m_is_possible; rw [fd1928])]; exact rr))
      ·
        refine s_nxz ?_
        refine s_nx ?_
        exact ⟨_, rfl, (find_none hx1915 hn1914 (show (if (decide (((x0).getD (((x1).getD (j_l2) 0)).toNat (0, 0)).1 > ((x0).getD (((x1).getD (k_l1) 0)).toNat (0, 0)).2)) = true then (some false) else none) = none from by rw [if_neg (nff hc1924)])), (((Mus.baseS (Mus.refl _) m1918 all0).trans (Mus.of e1917)).trans (Mus.of e1923))⟩
    ·
      obtain ⟨y1912, rfl, hn1914, m1918⟩ := hP
      replace hn1914 := find_all hn1914
      refine s_nx ?_
      exact ⟨_, _, rfl, (find_none hx1905 hn1904 (show (match List.findSome? (fun (j_l2 : Nat) => ((if (decide (((x0).getD (((x1).getD (j_l2) 0)).toNat (0, 0)).1 > ((x0).getD (((x1).getD (k_l1) 0)).toNat (0, 0)).2)) = true then (some false) else none) : Option Bool)) (List.range k_l1) with | some r => some r | none => none) = none from by rw [hn1914])), (Mus.baseS (((Mus.baseS (Mus.refl _) m1908 all0).trans (Mus.of e1907)).trans (Mus.of e1916)) m1918 all0)⟩
  ·
    obtain ⟨y1901, y1902, rfl, hn1904, m1908⟩ := hP
    replace hn1904 := find_all hn1904
    exact s_ret (K := K) er_bl (fun u _ e1929 rr => q u _ (Mus.same0 ((Mus.baseS ((Mus.refl _).trans (Mus.of e1906)) m1908 all0).trans (Mus.of e1929))) (by rw [(show m_is_possible x0 x1 = true from by unfold m_is_possible; rw [hn1904])]; exact rr))
def m_can_be_order (x0 : (List (Int × Int))) (x1 : (List Int)) : Bool := (m_is_possible x0 x1)
theorem ok_can_be_order (T : Txt K mg) : Ok P w K mg base CX0 5 "can_be_order" ["bounds", "order"] (sp2 K ((fun b o => BOk b ∧ o.length = b.length ∧ (∀ y ∈ o, 0 ≤ y ∧ y < (b.length : Int)) ∧ o.Nodup) : (List (Int × Int)) → (List Int) → Prop) m_can_be_order) := by
  refine ok_of T.d_can_be_order sc_can_be_order (bi2 fun _ _ _ _ _ _ _ _ => rfl) len_sp2 (fun f cdv A outer s H vs Q E hr h => ?_)
  have nd := sc_can_be_order.nd
  obtain ⟨v0, v1, x0, x1, rfl, r0, r1, hp, q⟩ := h
  refine ⟨_, (pss_cons (ps_expr (pe_fn (ok_check_bounds T) (hr.mono (by decide)) pass0 (pa_cons (pv 0) pa_nil)))
      (pss_cons (ps_expr (pe_fn (ok_check_order T) (hr.mono (by decide)) pass0 (pa_cons (pv 0) (pa_cons (pv 1) pa_nil))))
      (pss_one (ps_ret (pe_fn (ok_is_possible T) (hr.mono (by decide)) pass0 (pa_cons (pv 0) (pa_cons (pv 1) pa_nil))))))), ?_⟩
  refine q_drop (K := K) (er_call1 (er_var rfl r0) (by exact hp.1)) (fun _ e1930 => ?_)
  refine q_drop (K := K) (er_call2 (er_var rfl (Rp.mono (SF.of e1930) r0)) (er_var rfl (Rp.mono (SF.of e1930) r1)) (by exact hp)) (fun _ e1931 => ?_)
  exact s_ret (K := K) (er_call2 (er_var rfl (Rp.mono ((SF.of e1930).trans (SF.of e1931)) r0)) (er_var rfl (Rp.mono ((SF.of e1930).trans (SF.of e1931)) r1)) (by exact ⟨hp.1, hp.2.1, hp.2.2.1⟩)) (fun u _ e1932 rr => q u _ ((e1930.trans e1931).trans e1932) rr)
def m_choice_for (x0 : (List (Int × Int))) (x1 : (List Int)) : (List Int) := (List.foldl (fun (s_l1 : (Int × (List Int))) (place_l1 : Int) => (((max s_l1.1 (((x0).getD (place_l1).toNat (0, 0)).1)), (s_l1.2.set ((place_l1).toNat) (max s_l1.1 (((x0).getD (place_l1).toNat (0, 0)).1)))) : (Int × (List Int)))) ((-(51 : Int)), (List.replicate (((x0.length : Nat) : Int)).toNat [(0 : Int)]).flatten) x1).2
theorem ok_choice_for (T : Txt K mg) : Ok P w K mg base CX0 5 "choice_for" ["bounds", "order"] (sl2 K ((fun b o => (BOk b ∧ o.length = b.length ∧ (∀ y ∈ o, 0 ≤ y ∧ y < (b.length : Int)) ∧ o.Nodup) ∧ m_is_possible b o = true) : (List (Int × Int)) → (List Int) → Prop) m_choice_for) := by
  refine ok_of T.d_choice_for sc_choice_for (bi2 fun _ _ _ _ _ _ _ _ => rfl) len_sl2 (fun f cdv A outer s H vs Q E hr h => ?_)
  have nd := sc_choice_for.nd
  obtain ⟨v0, v1, x0, x1, rfl, r0, r1, hp, q⟩ := h
  refine ⟨_, (pss_cons (ps_expr (pe_fn (ok_check_bounds T) (hr.mono (by decide)) pass0 (pa_cons (pv 0) pa_nil)))
      (pss_cons (ps_expr (pe_fn (ok_check_order T) (hr.mono (by decide)) pass0 (pa_cons (pv 0) (pa_cons (pv 1) pa_nil))))
      (pss_cons (ps_if (pt_not (pt_val (pe_fn (ok_is_possible T) (hr.mono (by decide)) pass0 (pa_cons (pv 0) (pa_cons (pv 1) pa_nil))))) (pss_one ps_never) pss_nil)
      (pss_cons (ps_set (i := 2) nd rfl (.inl rfl) (pe_op op_rep (pe_lst (pa_cons pe_int pa_nil)) (pe_callB (k_len K rfl) (by rfl) T.n_len PySem.boot_len (pa_cons (pv 0) pa_nil))))
      (pss_cons (ps_set (i := 3) nd rfl (.inl rfl) (pe_un un_neg pe_int))
      (pss_cons (ps_for PassesOwn.never rfl (k_pl K rfl (pv 1)) (pg_name (i := 4) nd rfl (.inl rfl) (.inr rfl)) (pss_cons (ps_set (i := 3) nd rfl (.inl rfl) (pe_callB (call_max2 rfl) (by rfl) T.n_max (by decide +kernel) (pa_cons (pv 3) (pa_cons (pe_ix (k_ixt K rfl) (pe_ix (k_ixl K rfl) (pv 0) (pv 4) (fun _ _ => rfl)) pe_int (fun _ _ => rfl)) pa_nil))))
      (pss_one (ps_asg (pv 3) (pg_sub (pv 2) (pv 4) set_list)))))
      (pss_one (ps_ret (pv 2))))))))), ?_⟩
  refine q_drop (K := K) (er_call1 (er_var rfl r0) (by exact hp.1.1)) (fun _ e1933 => ?_)
  refine q_drop (K := K) (er_call2 (er_var rfl (Rp.mono (SF.of e1933) r0)) (er_var rfl (Rp.mono (SF.of e1933) r1)) (by exact hp.1)) (fun _ e1934 => ?_)
  refine q_not (K := K) (et_not (et_B (er_call2 (er_var rfl (Rp.mono ((SF.of e1933).trans (SF.of e1934)) r0)) (er_var rfl (Rp.mono ((SF.of e1933).trans (SF.of e1934)) r1)) (by exact ⟨hp.1.1, hp.1.2.1, hp.1.2.2.1⟩)))) (by rw [hp.2]; rfl) (fun _ e1935 => ?_)
  refine q_setL (K := K) (erl_rep (erl_lst (ea_cons er_int ea_nil)) (fun _ e => Er.mono e (er_up (er_len (er_var rfl (Rp.mono (((SF.of e1933).trans (SF.of e1934)).trans (SF.of e1935)) r0))))) (by have := hp.1.1.2.1; first | omega | (simp; omega)) (by have := hp.1.1.2.1; first | omega | (simp; omega))) (fun p1936 _ _ e1937 hn1938 h1939 rl1940 => ?_)
  have f1942 := Mus.fresh ((((Mus.refl _).trans (Mus.of e1933)).trans (Mus.of e1934)).trans (Mus.of e1935)) nin0 hn1938
  have u1941 := Un.of h1939 rl1940
  have r1943 := (Rp.mono ((((SF.of e1933).trans (SF.of e1934)).trans (SF.of e1935)).trans (SF.of e1937)) r0)
  have r1944 := (Rp.mono ((((SF.of e1933).trans (SF.of e1934)).trans (SF.of e1935)).trans (SF.of e1937)) r1)
  refine q_set (K := K) (er_neg er_int) (fun v1947 _ e1945 r1946 => ?_)
  -- for place in order
  refine q_for (K := K) (src_list (er_var rfl (Rp.mono (SF.of e1945) r1944))) (fun H1 k σ' H' => ∃ (s_l1 : (Int × (List Int))) (w1949 : V) (y1950 : Option V), σ' = [some v0, some v1, some (.ref p1936), some w1949, y1950] ∧ s_l1 = (List.take k x1).foldl (fun (s_l1 : (Int × (List Int))) (place_l1 : Int) => (((max s_l1.1 (((x0).getD (place_l1).toNat (0, 0)).1)), (s_l1.2.set ((place_l1).toNat) (max s_l1.1 (((x0).getD (place_l1).toNat (0, 0)).1)))) : (Int × (List Int)))) ((-(51 : Int)), (List.replicate (((x0.length : Nat) : Int)).toNat [(0 : Int)]).flatten) ∧ Mus [p1936] H1 H' ∧ Rp.rep K H' w1949 s_l1.1 ∧ Un K H' p1936 s_l1.2) (fun H1 e => ⟨((-(51 : Int)), (List.replicate (((x0.length : Nat) : Int)).toNat [(0 : Int)]).flatten), _, _, rfl, rfl, Mus.refl _, (Rp.mono (SF.of e) r1946), (Un.mono e (Un.mono e1945 u1941))⟩) (fun _ _ _ _ h => by obtain ⟨_, _, _, _, _, m, _, _⟩ := h; exact m.sf) (fun H1 k1957 place_l1 σ' H' vplace_l1 _ e1954 hx1953 hP e1955 rplace_l1 => ?_) (fun H1 σ' H' e1954 hP => ?_)
  ·
    obtain ⟨s_l1, w1949, y1950, rfl, hs1951, m1956, r1958, u1959⟩ := hP
    refine s_gn ?_
    have hplace_l1 := List.mem_of_getElem? hx1953
    have hturn1 := hs1951
    have r1961 := (Rp.mono ((((SF.of e1945).trans (SF.of e1954)).trans m1956.sf).trans (SF.of e1955)) r1943)
    have r1962 := (Rp.mono ((((SF.of e1945).trans (SF.of e1954)).trans m1956.sf).trans (SF.of e1955)) r1944)
    refine q_set (K := K) (er_max2 (er_var rfl (Rp.mono (SF.of e1955) r1958)) (er_op (er_op (er_var rfl r1961) (er_var rfl rplace_l1) (rr_ixI (x := ((x0).getD (place_l1).toNat (0, 0))) (n := (place_l1).toNat) (by have := hp.1.2.2.1 _ hplace_l1; omega) (by have hq := hp.1.2.2.1 _ hplace_l1; first | exact getD_at (by omega) | (rw [cf_len hturn1 (n := x0.length) (by simp) (fun s x => by simp)]; omega)))) er_int rr_ixP0)) (fun v1965 _ e1963 r1964 => ?_)
    refine q_last ?_
    refine q_setI (K := K) rfl (Un.mono e1963 (Un.mono e1955 u1959)) (er_var rfl r1964) (er_dn (n := (place_l1).toNat) (er_var rfl (Rp.mono (SF.of e1963) rplace_l1)) (by have := hp.1.2.2.1 _ hplace_l1; omega)) (by have hq := hp.1.2.2.1 _ hplace_l1; first | exact getD_at (by omega) | (rw [cf_len hturn1 (n := x0.length) (by simp) (fun s x => by simp)]; omega)) (fun _ m1966 u1967 => ?_)
    refine s_nx ?_
    exact ⟨((max s_l1.1 (((x0).getD (place_l1).toNat (0, 0)).1)), (s_l1.2.set ((place_l1).toNat) (max s_l1.1 (((x0).getD (place_l1).toNat (0, 0)).1)))), _, _, rfl, (fold_step hx1953 hs1951), ((((Mus.baseS (Mus.refl _) m1956 (allC (.inr (.head _)) all0)).trans (Mus.of e1955)).trans (Mus.of e1963)).trans (Mus.mu m1966 (.head _))), (Rp.mono m1966.sf r1964), u1967⟩
  ·
    obtain ⟨s_l1, w1949, y1950, rfl, hs1951, m1956, r1958, u1959⟩ := hP
    replace hs1951 := fold_all hs1951
    subst hs1951
    obtain ⟨us, h1, rr⟩ := u1959
    exact ⟨.ref p1936, rfl, q p1936 us _ (Mus.same0 (Mus.baseS (((((((Mus.refl _).trans (Mus.of e1933)).trans (Mus.of e1934)).trans (Mus.of e1935)).trans (Mus.of e1937)).trans (Mus.of e1945)).trans (Mus.of e1954)) m1956 (allC (.inl f1942) all0))) f1942 h1 rr⟩
theorem np_in {n : Nat} {c : Nat → Bool} {k : Nat} (h : k ∈ mapIf c (fun x : Nat => x) (List.range n)) : k < n := by
  unfold mapIf at h
  rw [List.map_id'] at h
  exact List.mem_range.mp (List.mem_filter.mp h).1
def m_next_places (x0 : (List (Int × Int))) (x1 : (List Int)) : (List Nat) := (mapIf (fun (x1992 : Nat) => (((mapIf (fun (x1984 : Nat) => (neg true (decide (((x1984 : Nat) : Int) ∈ x1)))) (fun (x1984 : Nat) => x1984) (List.range x0.length)).map (fun (x1997 : Nat) => (decide (((x0).getD (x1992) (0, 0)).1 ≤ ((x0).getD (x1997) (0, 0)).2)))).all id)) (fun (x1992 : Nat) => x1992) (mapIf (fun (x1984 : Nat) => (neg true (decide (((x1984 : Nat) : Int) ∈ x1)))) (fun (x1984 : Nat) => x1984) (List.range x0.length)))
theorem ok_next_places (T : Txt K mg) : Ok P w K mg base CX0 1 "next_places" ["bounds", "done"] (sl2 K ((fun b d => BOk b ∧ d.length ≤ 7) : (List (Int × Int)) → (List Int) → Prop) m_next_places) := by
  refine ok_of T.d_next_places sc_next_places (bi2 fun _ _ _ _ _ _ _ _ => rfl) len_sl2 (fun f cdv A outer s H vs Q E hr h => ?_)
  have nd := sc_next_places.nd
  obtain ⟨v0, v1, x0, x1, rfl, r0, r1, hp, q⟩ := h
  refine ⟨_, (pss_cons (ps_set (i := 2) nd rfl (.inr rfl) (pe_frz (pe_lc (own := [("k", 3)]) rfl nd (pi_range1 (by rfl) T.n_range (pa_cons (pe_callB (k_len K rfl) (by rfl) T.n_len PySem.boot_len (pa_cons (pv 0) pa_nil)) pa_nil)) (blkOk_by (N := N_next_places) (sc := defScope s_next_places) (by decide +kernel)) (fun _ _ _ _ _ => (pg_name (i := 3) nd rfl (.inl rfl) (.inr rfl))) (fun _ _ _ _ _ => (pts_one (pt_cmpR (k_notIn K rfl) (pv 3) (pv 1) (by rfl)))) (fun _ _ _ _ _ => (pv 3)))))
      (pss_one (ps_ret (pe_lc (own := [("k", 3)]) rfl nd (k_pl K rfl (pv 2)) (blkOk_by (N := N_next_places) (sc := defScope s_next_places) (by decide +kernel)) (fun _ _ _ _ _ => (pg_name (i := 3) nd rfl (.inr rfl) (.inl rfl))) (fun _ _ _ _ _ => (pts_one (pt_val (pe_callB (k_all K rfl rfl) (by rfl) T.n_all (by decide +kernel) (pa_cons (pe_frz (pe_lc (own := [("j", 4)]) rfl nd (k_pl K rfl (pv 2)) (blkOk_by (N := N_next_places) rfl) (fun _ _ _ _ _ => (pg_name (i := 4) nd rfl (.inl rfl) (.inr rfl))) (fun _ _ _ _ _ => pts_nil) (fun _ _ _ _ _ => (pe_cmpR op_le (pe_ix (k_ixt K rfl) (pe_ix (k_ixl K rfl) (pv 0) (pv 3) (fun _ _ => rfl)) pe_int (fun _ _ => rfl)) (pe_ix (k_ixt K rfl) (pe_ix (k_ixl K rfl) (pv 0) (pv 4) (fun _ _ => rfl)) pe_int (fun _ _ => rfl)) (nomark _))))) pa_nil))))) (fun _ _ _ _ _ => (pv 3)))))), ?_⟩
  refine q_set (K := K) (er_frz (erl_lc1 (c := fun (x1984 : Nat) => (neg true (decide (((x1984 : Nat) : Int) ∈ x1)))) (f := fun (x1984 : Nat) => x1984) (src_range1 (er_len (er_var rfl r0)) (by have := hp.1.2.1; first | omega | (rw [List.length_range]; omega) | exact Nat.le_trans mapIf_le (by rw [List.length_range]; omega))) (by have := hp.1.2.1; first | omega | (rw [List.length_range]; omega) | exact Nat.le_trans mapIf_le (by rw [List.length_range]; omega)) (by intros; rfl) (fun x1984 hx1985 v1986 _ e1983 r1987 => ⟨(et_test (er_op (er_up (er_var rfl r1987)) (er_var rfl (Rp.mono (SF.of e1983) r1)) (rr_inI (n := true)))), fun _ => (er_var rfl r1987)⟩))) (fun v1990 _ e1988 r1989 => ?_)
  exact s_retL (K := K) (erl_lc1 (c := fun (x1992 : Nat) => (((mapIf (fun (x1984 : Nat) => (neg true (decide (((x1984 : Nat) : Int) ∈ x1)))) (fun (x1984 : Nat) => x1984) (List.range x0.length)).map (fun (x1997 : Nat) => (decide (((x0).getD (x1992) (0, 0)).1 ≤ ((x0).getD (x1997) (0, 0)).2)))).all id)) (f := fun (x1992 : Nat) => x1992) (src_list (er_var rfl r1989)) (by have := hp.1.2.1; first | omega | (rw [List.length_range]; omega) | exact Nat.le_trans mapIf_le (by rw [List.length_range]; omega)) (by intros; rfl) (fun x1992 hx1993 v1994 _ e1991 r1995 => ⟨(et_B (er_all (er_frz (erl_lm1 (f := fun (x1997 : Nat) => (decide (((x0).getD (x1992) (0, 0)).1 ≤ ((x0).getD (x1997) (0, 0)).2))) (src_list (er_var rfl (Rp.mono (SF.of e1991) r1989))) (by have := hp.1.2.1; first | omega | (rw [List.length_range]; omega) | exact Nat.le_trans mapIf_le (by rw [List.length_range]; omega)) (by intros; rfl) (fun x1997 hx1998 v1999 _ e1996 r2000 => (er_op (er_op (er_op (er_var rfl (Rp.mono (SF.of (e1991.trans e1996)) (Rp.mono (SF.of e1988) r0))) (er_up (er_var rfl (Rp.mono (SF.of e1996) r1995))) (rr_ixL (x := ((x0).getD (x1992) (0, 0))) (by first | exact getD_at (np_in (by assumption)) | exact getD_at (List.mem_range.mp (by assumption))))) er_int rr_ixP0) (er_op (er_op (er_var rfl (Rp.mono (SF.of (e1991.trans e1996)) (Rp.mono (SF.of e1988) r0))) (er_up (er_var rfl r2000)) (rr_ixL (x := ((x0).getD (x1997) (0, 0))) (by first | exact getD_at (np_in (by assumption)) | exact getD_at (List.mem_range.mp (by assumption))))) er_int rr_ixP1) rr_le)))))), fun _ => (er_var rfl r1995)⟩)) (fun p us _ e2001 hn h1 rr => q p us _ (e1988.trans e2001) (e1988.free hn) h1 rr)
/-- in how many orders the other places can follow -/
def W (b : List (Int × Int)) : Nat → List Int → Int
  | 0, _ => 1
  | m + 1, d => ((m_next_places b d).map fun k : Nat => W b m (d ++ [((k : Nat) : Int)])).sum
def wV (b : List (Int × Int)) (s : List Int) : Int := W b (b.length - s.length) s
theorem np_perm {b : List (Int × Int)} {d d' : List Int} (h : ∀ k, k ∈ d ↔ k ∈ d') : m_next_places b d = m_next_places b d' := by
  have e : (fun x : Nat => neg true (decide (((x : Nat) : Int) ∈ d))) = fun x : Nat => neg true (decide (((x : Nat) : Int) ∈ d')) := by
    funext x; rw [decide_eq_decide.mpr (h _)]
  unfold m_next_places
  rw [e]
theorem W_perm {b : List (Int × Int)} : ∀ (m : Nat) {d d' : List Int}, (∀ k, k ∈ d ↔ k ∈ d') → W b m d = W b m d'
  | 0, _, _, _ => rfl
  | m + 1, d, d', h => by
    show ((m_next_places b d).map fun k : Nat => W b m (d ++ [((k : Nat) : Int)])).sum = ((m_next_places b d').map fun k : Nat => W b m (d' ++ [((k : Nat) : Int)])).sum
    rw [np_perm h]
    congr 1
    refine List.map_congr_left fun k _ => W_perm m fun x => ?_
    rw [List.mem_append, List.mem_append, h]
def RowK (n : Nat) (r : List Int) : Prop := r.Nodup ∧ ∀ y ∈ r, 0 ≤ y ∧ y < (n : Int)
theorem np_mem {b : List (Int × Int)} {d : List Int} {k : Nat} (h : k ∈ m_next_places b d) : k < b.length ∧ ((k : Nat) : Int) ∉ d := by
  unfold m_next_places mapIf at h
  rw [List.map_id', List.map_id'] at h
  have h1 := (List.mem_filter.mp (List.mem_filter.mp h).1)
  refine ⟨List.mem_range.mp h1.1, fun m => ?_⟩
  have := h1.2
  unfold neg at this
  simp [m] at this
theorem rowK_snoc {n : Nat} {d : List Int} (h : RowK n d) {k : Nat} (hk : k < n) (hn : ((k : Nat) : Int) ∉ d) : RowK n (d ++ [((k : Nat) : Int)]) := by
  refine ⟨List.nodup_append.mpr ⟨h.1, by simp, fun x hx y hy e => ?_⟩, fun y hy => ?_⟩
  · rw [List.mem_singleton.mp hy] at e; exact hn (e ▸ hx)
  · rcases List.mem_append.mp hy with q | q
    · exact h.2 y q
    · rw [List.mem_singleton.mp q]; omega
theorem srt_upK {n : Nat} {d : List Int} (h : RowK n d) : (srt d).Pairwise (· < ·) ∧ ∀ x ∈ srt d, 0 ≤ x ∧ x < (n : Int) := by
  refine ⟨lt_of_le_nodup _ (srt_sorted d) ((srt_perm d).nodup_iff.mpr h.1), fun x hx => h.2 x ((srt_perm d).mem_iff.mp hx)⟩
theorem wV_srt {b : List (Int × Int)} {d : List Int} {m : Nat} (h : d.length + m = b.length) : wV b (srt d) = W b m d := by
  unfold wV
  rw [srt_len, show b.length - d.length = m by omega]
  exact W_perm m fun k => (srt_perm d).mem_iff
def spWays (K : Fg) (m : Nat) : Sp := fun vs H Q _ => ∃ (vb vd : V) (p : Addr) (b : List (Int × Int)) (d : List Int), vs = [vb, vd, .ref p] ∧ Rp.rep K H vb b ∧ Rp.rep K H vd d ∧ BOk b ∧ RowK b.length d ∧ d.length + m = b.length ∧ KO (wV b) b.length p H ∧
  ∀ H', Mu p H H' → KO (wV b) b.length p H' → Q (.int (W b m d)) H'
def spLt (K : Fg) (M : Nat) : Sp := fun vs H Q E => ∃ m, m < M ∧ spWays K m vs H Q E
theorem len_spLt {K : Fg} {M : Nat} : ∀ vs H Q E, spLt K M vs H Q E → vs.length = 3 := fun vs H Q E h => by obtain ⟨_, _, _, _, _, _, _, rfl, _⟩ := h; rfl
theorem ek_ways {σ : L2.St} {H : Hp} {p : Addr} {b : List (Int × Int)} {d : List Int} {m M k : Nat} {ta tb : TE} {E : XK} (hm : m < M) (hσ : σ[k]? = some (some (.ref p))) (ha : ∀ H1, Mu p H H1 → Er K ta σ H1 b) (hb : ∀ H1, Mu p H H1 → Er K tb σ H1 d) (hB : BOk b) (hd : RowK b.length d) (hl : d.length + m = b.length) :
    Ek K p (KO (wV b) b.length p) (tCall (spLt K M) [] E (tCons ta (tCons tb (tCons (tVar k) tNil)))) σ H (W b m d) := fun H1 mu j Q q =>
  ha H1 mu H1 (Same.refl _) _ fun vb H2 e2 rb => hb H1 mu H2 e2 _ fun vd H3 e3 rd => ⟨.ref p, hσ, m, hm, vb, vd, p, b, d, rfl, Rp.mono (SF.of e3) rb, rd, hB, hd, hl, ko_jk.mono (e2.trans e3) j, fun H4 m4 j4 => q _ H4 ((Mu.of (e2.trans e3)).trans m4) j4 rfl⟩
theorem ok_ways (T : Txt K mg) : ∀ M, Ok P w K mg base CX0 (M + 2) "ways_from" ["bounds", "done", "known"] (spLt K M)
  | 0 => by
    refine ok_of T.d_ways_from sc_ways_from (bi3 fun _ _ _ _ _ _ _ _ _ => rfl) len_spLt (fun f cdv A outer s H vs Q E hr h => ?_)
    obtain ⟨m, hm, _⟩ := h
    omega
  | M + 1 => by
    have ih := ok_ways T M
    refine ok_of T.d_ways_from sc_ways_from (bi3 fun _ _ _ _ _ _ _ _ _ => rfl) len_spLt (fun f cdv A outer s H vs Q E hr h => ?_)
    have nd := sc_ways_from.nd
    obtain ⟨m, hm, vb, vd, p, b, d, rfl, rb, rd, hB, hd, hl, ko, q⟩ := h
    refine ⟨_, (pss_cons (ps_if (pt_cmpR op_eq (pe_callB (k_len K rfl) (by rfl) T.n_len PySem.boot_len (pa_cons (pv 1) pa_nil)) (pe_callB (k_len K rfl) (by rfl) T.n_len PySem.boot_len (pa_cons (pv 0) pa_nil)) (nomark _)) (pss_one (ps_ret pe_int)) pss_nil)
      (pss_cons (ps_set (i := 3) nd rfl (.inl rfl) (pe_callTy (k_tupC K rfl) (by rfl) T.n_tuple (by decide +kernel) (pa_cons (pe_frz (pe_callB (k_sorted K rfl) (by rfl) T.n_sorted (by decide +kernel) (pa_cons (pv 1) pa_nil))) pa_nil)))
      (pss_cons (ps_if (pt_cmp (pc_dnotin (u1 hr) (pv 3) (pv 2))) (pss_one (ps_dput (u1 hr) (pv 2) (pv 3) (pe_callB (k_sum K rfl rfl) (by rfl) T.n_sum (by decide +kernel) (pa_cons (pe_frz (pe_lc (own := [("k", 4)]) rfl nd (k_pl K rfl (pe_frz (pe_fn (ok_next_places T) (hr.mono (by omega)) pass0 (pa_cons (pv 0) (pa_cons (pv 1) pa_nil))))) (blkOk_by (N := N_ways_from) (sc := defScope s_ways_from) (by decide +kernel)) (fun _ _ _ _ _ => (pg_name (i := 4) nd rfl (.inl rfl) (.inr rfl))) (fun _ _ _ _ _ => pts_nil) (fun _ _ _ _ _ => (pe_fn ih (hr.mono (by omega)) pass0 (pa_cons (pv 0) (pa_cons (pe_frz (pe_op op_catR (pv 1) (pe_frz (pe_lst (pa_cons (pv 4) pa_nil))))) (pa_cons (pv 2) pa_nil))))))) pa_nil)) (by rfl))) pss_nil)
      (pss_one (ps_ret (pe_dget (u1 hr) (pv 2) (pv 3) (fun _ _ => rfl))))))), ?_⟩
    have hn : b.length ≤ 7 := hB.2.1
    refine q_when (K := K) (et_test (er_op (er_up (er_len (er_var rfl rd))) (er_up (er_len (er_var rfl rb))) rr_eqI)) (fun hc H1 e => ?_) (fun hc H1 e => ?_)
    · have hc := of_decide_eq_true hc
      have h0 : m = 0 := by omega
      subst h0
      exact s_ret (K := K) (er_int (i := 1)) (fun u H2 e2 r => by
        cases (show u = .int 1 from r)
        exact q H2 (Mu.of (e.trans e2)) (ko_jk.mono (e.trans e2) ko))
    · have hc := of_decide_eq_false hc
      obtain ⟨m', rfl⟩ : ∃ m', m = m' + 1 := ⟨m - 1, by omega⟩
      refine q_set (K := K) (er_keyT (er_frz (erl_sorted (er_var rfl (Rp.mono (SF.of e) rd))))) (fun v H2 e2 rk => ?_)
      have ko2 := ko_jk.mono (e.trans e2) ko
      obtain ⟨c, hc2, hf⟩ := et_notinK (K := K) (m := 2) (k := 3) (σ := [some vb, some vd, some (.ref p), some v, none]) rfl ko2 rfl rk
      obtain ⟨hu, hr2⟩ := srt_upK hd
      have hW : wV b (srt d) = W b (m' + 1) d := wV_srt hl
      refine q_when hc2 (fun hb H3 e3 => ?_) (fun hb H3 e3 => ?_)
      · refine q_last ?_
        have eA := (e.trans e2).trans e3
        have rb3 := Rp.mono (SF.of eA) rb
        have rd3 := Rp.mono (SF.of eA) rd
        refine q_putK (n := b.length) (V0 := wV b) (by omega) rfl (ko_jk.mono e3 ko2) rfl (Rp.mono (SF.of e3) rk) hu hr2 ?_ (fun H4 m4 j4 hv => ?_)
        · rw [hW]
          refine ek_sum ko_jk (ek_frz ko_jk (ekl_lm1 (f := fun k : Nat => W b m' (d ++ [((k : Nat) : Int)])) ko_jk (fun H5 m5 _ => src_list (er_frz (erl_call2 (er_var rfl (Rp.mono m5.sf rb3)) (er_var rfl (Rp.mono m5.sf rd3)) ⟨hB, by omega⟩))) ?_ (by intros; rfl) (fun k hk vk H5 m5 j5 r5 => ?_)))
          · unfold m_next_places
            exact Nat.le_trans mapIf_le (Nat.le_trans mapIf_le (by rw [List.length_range]; omega))
          · obtain ⟨k1, k2⟩ := np_mem hk
            refine ek_ways (by omega) rfl (fun H6 m6 => er_var rfl (Rp.mono (m5.trans m6).sf rb3)) (fun H6 m6 => er_frz (erl_cat (er_var rfl (Rp.mono (m5.trans m6).sf rd3)) (er_frz (erl_lst (α := Int) (ea_cons (er_up (er_var rfl (Rp.mono m6.sf r5))) ea_nil))) (by simp only [List.length_singleton]; omega))) hB (rowK_snoc hd k1 k2) (by rw [List.length_append, List.length_singleton]; omega)
        · refine s_nxz ?_
          refine s_retK (V0 := wV b) rfl rfl (Rp.mono m4.sf (Rp.mono (SF.of e3) rk)) hv ?_
          rw [hW]
          exact q H4 ((Mu.of eA).trans m4) j4
      · obtain ⟨kvs, h1, h2⟩ := hf hb
        refine s_retK (V0 := wV b) rfl rfl (Rp.mono (SF.of e3) rk) ⟨kvs, e3 _ _ h1, h2⟩ ?_
        rw [hW]
        exact q H3 (Mu.of ((e.trans e2).trans e3)) (ko_jk.mono e3 ko2)

/-- the place with a rank, and what is left of the rank -/
def pickW (b : List (Int × Int)) (m : Nat) (d : List Int) : List Nat → Int → Option (Nat × Int)
  | [], _ => none
  | k :: ks, r => if r < W b m (d ++ [((k : Nat) : Int)]) then some (k, r) else pickW b m d ks (r - W b m (d ++ [((k : Nat) : Int)]))
def OA (b : List (Int × Int)) : Nat → List Int → Int → List Int
  | 0, d, _ => d
  | m + 1, d, r => match pickW b m d (m_next_places b d) r with
    | some p => OA b m (d ++ [((p.1 : Nat) : Int)]) p.2
    | none => d
theorem pickW_none {b : List (Int × Int)} {m : Nat} {d : List Int} : ∀ {ks : List Nat} {r : Int}, pickW b m d ks r = none → (ks.map fun k : Nat => W b m (d ++ [((k : Nat) : Int)])).sum ≤ r ∨ ks = []
  | [], _, _ => .inr rfl
  | k :: ks, r, h => by
    unfold pickW at h
    by_cases c : r < W b m (d ++ [((k : Nat) : Int)])
    · rw [if_pos c] at h; cases h
    · rw [if_neg c] at h
      rw [List.map_cons, List.sum_cons]
      rcases pickW_none h with q | q
      · left; omega
      · left; rw [q]; simp; omega
def m_order_at (b : List (Int × Int)) (r : Int) : Except Str (List Int) := if (!m_is_int r 0 (W b b.length [] - 1)) = true then .error "BadNumber" else .ok (OA b b.length [] r)
theorem ok_order_atX (T : Txt K mg) : Ok P w K mg base (L2.CX P w) 11 "order_at" ["bounds", "rank"] (sx2 K ((fun b _ => BOk b) : (List (Int × Int)) → Int → Prop) m_order_at) := by
  refine okx_of T.d_order_at sc_order_at (bi2 fun _ _ _ _ _ _ _ _ => rfl) len_sx2 (fun f cdv A outer s H vs Q E hr h => ?_)
  have nd := sc_order_at.nd
  obtain ⟨v0, v1, b, r, rfl, r0, r1, hB, qo, qe⟩ := h
  refine ⟨_, (pss_cons (ps_expr (pe_fn (ok_check_bounds T) (hr.mono (by decide)) pass0 (pa_cons (pv 0) pa_nil)))
      (pss_cons (ps_set (i := 2) nd rfl (.inl rfl) pe_dnewT)
      (pss_cons (ps_if (pt_not (pt_val (pe_fn (ok_is_int T) (hr.mono (by decide)) pass0 (pa_cons (pv 1) (pa_cons pe_int (pa_cons (pe_op op_sub (pe_fn (ok_ways T 8) (hr.mono (by decide)) pass0 (pa_cons (pv 0) (pa_cons (pe_frz (pe_lst pa_nil)) (pa_cons (pv 2) pa_nil)))) pe_int) pa_nil)))))) (pss_one (k_raiseQ K rfl tkD (T.x.e "BadNumber" (by decide)))) pss_nil)
      (PSs.nox (pss_cons (ps_set (i := 3) nd rfl (.inl rfl) (pe_frz (pe_lst pa_nil)))
      (pss_cons (ps_while PassesOwn.never (pt_cmpR op_lt (pe_callB (k_len K rfl) (by rfl) T.n_len PySem.boot_len (pa_cons (pv 3) pa_nil)) (pe_callB (k_len K rfl) (by rfl) T.n_len PySem.boot_len (pa_cons (pv 0) pa_nil)) (nomark _)) (pss_one (ps_for PassesOwn.never rfl (k_pl K rfl (pe_frz (pe_fn (ok_next_places T) (hr.mono (by decide)) pass0 (pa_cons (pv 0) (pa_cons (pv 3) pa_nil))))) (pg_name (i := 4) nd rfl (.inl rfl) (.inr rfl)) (pss_cons (ps_set (i := 5) nd rfl (.inl rfl) (pe_fn (ok_ways T 8) (hr.mono (by decide)) pass0 (pa_cons (pv 0) (pa_cons (pe_frz (pe_op op_catR (pv 3) (pe_frz (pe_lst (pa_cons (pv 4) pa_nil))))) (pa_cons (pv 2) pa_nil)))))
      (pss_cons (ps_if (pt_cmpR op_lt (pv 1) (pv 5) (nomark _)) (pss_cons (ps_set (i := 3) nd rfl (.inl rfl) (pe_frz (pe_op op_catR (pv 3) (pe_frz (pe_lst (pa_cons (pv 4) pa_nil))))))
      (pss_one ps_break)) pss_nil)
      (pss_one (ps_aug (i := 1) nd rfl (.inl rfl) (pv 5) ip_sub)))))))
      (pss_one (ps_ret (pv 3))))))))), ?_⟩
  have hn : b.length ≤ 7 := hB.2.1
  refine q_drop (K := K) (er_call1 (er_var rfl r0) hB) (fun H1 e1 => ?_)
  refine q_newK (V0 := wV b) (n := b.length) (fun p H2 e2 hp ko => ?_)
  have e12 := e1.trans e2
  have hp0 : H p = none := e1.free hp
  refine q_ifK (K := K) (p := p) (J := KO (wV b) b.length p) ko (ekt_not (ekt_B (ek_call3 ko_jk (ek_of ko_jk fun H3 m _ => er_var rfl (Rp.mono ((SF.of e12).trans m.sf) r1)) (ek_of ko_jk fun _ _ _ => er_int) (ek_op ko_jk (ek_ways (m := b.length) (by omega) rfl (fun H3 m => er_var rfl (Rp.mono ((SF.of e12).trans m.sf) r0)) (fun H3 m => er_frz (erl_lst (α := Int) ea_nil)) hB ⟨List.nodup_nil, fun _ h => by cases h⟩ (by simp)) (ek_of ko_jk fun _ _ _ => er_int) rr_sub) trivial))) (fun hc H3 m3 k3 => ?_) (fun hc H3 m3 k3 => ?_)
  · refine q_last ?_
    exact qe "BadNumber" (show m_order_at b r = _ from by unfold m_order_at; rw [if_pos hc]) (by decide) _ (m3.base e12 hp0)
  · have hr1 : 0 ≤ r ∧ r < W b b.length [] := by
      unfold m_is_int at hc
      simp at hc
      omega
    have ho : m_order_at b r = .ok (OA b b.length [] r) := by unfold m_order_at; rw [if_neg (nff hc)]
    refine q_set (K := K) (er_frz (erl_lst (α := Int) ea_nil)) (fun v H4 e4 r4 => ?_)
    have m4 : Mu p H2 H4 := m3.trans (Mu.of e4)
    refine q_whileN (K := K) (fun n σ' H' => ∃ (d : List Int) (t : Int) (vf : V) (y4 y5 : Option V), σ' = [some v0, some (.int t), some (.ref p), some vf, y4, y5] ∧ n + d.length = b.length ∧ RowK b.length d ∧ 0 ≤ t ∧ t < W b n d ∧ OA b n d t = OA b b.length [] r ∧ Mu p H2 H' ∧ KO (wV b) b.length p H' ∧ Rp.rep K H' vf d) b.length ⟨[], r, v, none, none, by cases (show v1 = .int r from r1); rfl, rfl, ⟨List.nodup_nil, fun _ h => by cases h⟩, hr1.1, hr1.2, rfl, m4, ko_jk.mono e4 k3, r4⟩ (fun n σ' H' hP => ?_)
    obtain ⟨d, t, vf, y4, y5, rfl, hl, hd, ht0, ht1, hoa, m, ko', rf⟩ := hP
    have rb := Rp.mono ((SF.of e12).trans m.sf) r0
    refine ⟨decide ((d.length : Int) < (b.length : Int)), et_test (er_op (er_up (er_len (er_var rfl rf))) (er_up (er_len (er_var rfl rb))) rr_lt), fun hc2 H5 e5 => ?_, fun hc2 H5 e5 => ?_⟩
    · have hc2 := of_decide_eq_true hc2
      obtain ⟨n', rfl⟩ : ∃ n', n = n' + 1 := ⟨n - 1, by omega⟩
      refine q_last ?_
      refine s_for (K := K) (l := m_next_places b d) (src_list (er_frz (erl_call2 (er_var rfl (Rp.mono (SF.of e5) rb)) (er_var rfl (Rp.mono (SF.of e5) rf)) ⟨hB, by omega⟩)))
        (fun H6 k σ' H' => ∃ (t' : Int) (y4 y5 : Option V), σ' = [some v0, some (.int t'), some (.ref p), some vf, y4, y5] ∧ 0 ≤ t' ∧ pickW b n' d ((m_next_places b d).drop k) t' = pickW b n' d (m_next_places b d) t ∧ Mu p H6 H' ∧ KO (wV b) b.length p H')
        (fun H6 e6 => ⟨t, y4, y5, rfl, ht0, rfl, Mu.refl _, ko_jk.mono (e5.trans e6) ko'⟩) (fun H6 k σ' H' h => by obtain ⟨_, _, _, _, _, _, h, _⟩ := h; exact h.sf) (fun H6 k x σ' H' vx H7 e6 hx hP e7 rx => ?_) (fun H6 σ' H' e6 hP => ?_)
      · obtain ⟨t', y4', y5', rfl, h1, h2, m6, k6⟩ := hP
        obtain ⟨x1, x2⟩ := np_mem (List.mem_of_getElem? hx)
        have mA : Mu p H' H7 := Mu.of e7
        have mB : Mu p H2 H7 := (m.trans (Mu.of (e5.trans e6))).trans (m6.trans mA)
        have hdr : (m_next_places b d).drop k = x :: (m_next_places b d).drop (k + 1) := by
          obtain ⟨hk, hxx⟩ := List.getElem?_eq_some_iff.mp hx
          rw [← hxx, List.drop_eq_getElem_cons hk]
        have rb7 := Rp.mono ((SF.of e12).trans mB.sf) r0
        have rf7 := Rp.mono (((SF.of (e5.trans e6)).trans m6.sf).trans mA.sf) rf
        refine s_gn ?_
        refine q_setK (K := K) (p := p) (J := KO (wV b) b.length p) (x := W b n' (d ++ [((x : Nat) : Int)])) (ko_jk.mono e7 k6) (ek_ways (by omega) rfl (fun H8 m8 => er_var rfl (Rp.mono m8.sf rb7)) (fun H8 m8 => er_frz (erl_cat (er_var rfl (Rp.mono m8.sf rf7)) (er_frz (erl_lst (α := Int) (ea_cons (er_up (er_var rfl (Rp.mono m8.sf rx))) ea_nil))) (by simp only [List.length_singleton]; omega))) hB (rowK_snoc hd x1 x2) (by rw [List.length_append, List.length_singleton]; omega)) (fun v8 H8 m8 k8 r8 => ?_)
        cases (show v8 = .int _ from r8)
        have mC : Mu p H2 H8 := mB.trans m8
        refine q_if (K := K) (et_test (er_op (er_var (x := t') rfl rfl) (er_var (x := W b n' (d ++ [((x : Nat) : Int)])) rfl rfl) rr_lt)) (fun hc3 H9 e9 => ?_) (fun hc3 H9 e9 => ?_)
        · have hc3 := of_decide_eq_true hc3
          refine q_set (K := K) (er_frz (erl_cat (er_var rfl (Rp.mono (m8.sf.trans (SF.of e9)) rf7)) (er_frz (erl_lst (α := Int) (ea_cons (er_up (er_var rfl (Rp.mono (m8.sf.trans (SF.of e9)) rx))) ea_nil))) (by simp only [List.length_singleton]; omega))) (fun v10 H10 e10 r10 => ?_)
          refine ⟨n', by omega, d ++ [((x : Nat) : Int)], t', v10, _, _, rfl, by rw [List.length_append, List.length_singleton]; omega, rowK_snoc hd x1 x2, h1, hc3, ?_, mC.trans (Mu.of (e9.trans e10)), ko_jk.mono (e9.trans e10) k8, r10⟩
          rw [← hoa]
          rw [hdr] at h2
          have h3 : pickW b n' d (m_next_places b d) t = some (x, t') := by rw [← h2]; unfold pickW; rw [if_pos hc3]
          show _ = (match pickW b n' d (m_next_places b d) t with | some p => OA b n' (d ++ [((p.1 : Nat) : Int)]) p.2 | none => d)
          rw [h3]
        · have hc3 := of_decide_eq_false hc3
          refine s_nxz ?_
          refine q_last ?_
          refine s_aug (K := K) (f := fun i j => i - j) rfl (er_var (x := W b n' (d ++ [((x : Nat) : Int)])) rfl rfl) (fun H10 e10 => ?_)
          refine ⟨t' - W b n' (d ++ [((x : Nat) : Int)]), _, _, rfl, by omega, ?_, ((m6.trans mA).trans m8).trans (Mu.of (e9.trans e10)), ko_jk.mono (e9.trans e10) k8⟩
          rw [← h2, hdr]
          show _ = (if t' < W b n' (d ++ [((x : Nat) : Int)]) then some (x, t') else pickW b n' d ((m_next_places b d).drop (k + 1)) (t' - W b n' (d ++ [((x : Nat) : Int)])))
          rw [if_neg hc3]
      · obtain ⟨t', y4', y5', rfl, h1, h2, m6, k6⟩ := hP
        rw [List.drop_length] at h2
        have hW : W b (n' + 1) d = ((m_next_places b d).map fun k : Nat => W b n' (d ++ [((k : Nat) : Int)])).sum := rfl
        rcases pickW_none h2.symm with q | q
        · omega
        · rw [hW, q] at ht1; simp at ht1; omega
    · have hc2 := of_decide_eq_false hc2
      have hn0 : n = 0 := by omega
      subst hn0
      refine q_last ?_
      exact s_ret (K := K) (er_var rfl (Rp.mono (SF.of e5) rf)) (fun u H6 e6 rr => qo _ ho u _ (Mu.base (m.trans (Mu.of (e5.trans e6))) e12 hp0) (by rw [← hoa]; exact rr))
/-- how many orders come before one -/
def RK (b : List (Int × Int)) : Nat → List Int → List Int → Int
  | m + 1, d, x :: o => (mapIf (fun k : Nat => decide (((k : Nat) : Int) < x)) (fun k : Nat => W b m (d ++ [((k : Nat) : Int)])) (m_next_places b d)).sum + RK b m (d ++ [x]) o
  | _, _, _ => 0
def m_rank_of_order (b : List (Int × Int)) (o : List Int) : Except Str Int := if (!m_is_possible b o) = true then .error "NotFound" else .ok (RK b b.length [] o)
theorem ok_rank_of_orderX (T : Txt K mg) : Ok P w K mg base (L2.CX P w) 11 "rank_of_order" ["bounds", "order"] (sx2 K ((fun b o => BOk b ∧ o.length = b.length ∧ (∀ y ∈ o, 0 ≤ y ∧ y < (b.length : Int)) ∧ o.Nodup) : (List (Int × Int)) → (List Int) → Prop) m_rank_of_order) := by
  refine okx_of T.d_rank_of_order sc_rank_of_order (bi2 fun _ _ _ _ _ _ _ _ => rfl) len_sx2 (fun f cdv A outer s H vs Q E hr h => ?_)
  have nd := sc_rank_of_order.nd
  obtain ⟨v0, v1, b, o, rfl, r0, r1, hp, qo, qe⟩ := h
  refine ⟨_, (pss_cons (ps_expr (pe_fn (ok_check_bounds T) (hr.mono (by decide)) pass0 (pa_cons (pv 0) pa_nil)))
      (pss_cons (ps_expr (pe_fn (ok_check_order T) (hr.mono (by decide)) pass0 (pa_cons (pv 0) (pa_cons (pv 1) pa_nil))))
      (pss_cons (ps_if (pt_not (pt_val (pe_fn (ok_is_possible T) (hr.mono (by decide)) pass0 (pa_cons (pv 0) (pa_cons (pv 1) pa_nil))))) (pss_one (k_raiseQ K rfl tkD (T.x.e "NotFound" (by decide)))) pss_nil)
      (PSs.nox (pss_cons (ps_par (i := 2) (j := 3) (by rfl) nd rfl rfl (by decide) rfl rfl (pa_cons pe_int (pa_cons pe_dnewT pa_nil)) (by rfl))
      (pss_cons (ps_for PassesOwn.never rfl (k_pe K rfl (by rfl) T.n_enumerate (pa_cons (pv 1) pa_nil)) (k_gt K rfl 2 rfl (pgs_cons (pg_name (i := 4) nd rfl (.inl rfl) (.inr rfl)) (pgs_cons (pg_name (i := 5) nd rfl (.inl rfl) (.inr rfl)) pgs_nil))) (pss_one (ps_for PassesOwn.never rfl (k_pl K rfl (pe_frz (pe_fn (ok_next_places T) (hr.mono (by decide)) pass0 (pa_cons (pv 0) (pa_cons (pe_frz (pe_slice (k_sl K rfl) (pv 1) po_none (po_some (pv 4)))) pa_nil))))) (pg_name (i := 6) nd rfl (.inl rfl) (.inr rfl)) (pss_one (ps_if (pt_cmpR op_lt (pv 6) (pv 5) (nomark _)) (pss_one (ps_aug (i := 2) nd rfl (.inl rfl) (pe_fn (ok_ways T 8) (hr.mono (by decide)) pass0 (pa_cons (pv 0) (pa_cons (pe_frz (pe_op op_catR (pe_frz (pe_slice (k_sl K rfl) (pv 1) po_none (po_some (pv 4)))) (pe_frz (pe_lst (pa_cons (pv 6) pa_nil))))) (pa_cons (pv 3) pa_nil)))) ip_add)) pss_nil)))))
      (pss_one (ps_ret (pv 2))))))))), ?_⟩
  obtain ⟨hB, hlen, hrng, hnd⟩ := hp
  have hn : b.length ≤ 7 := hB.2.1
  refine q_drop (K := K) (er_call1 (er_var rfl r0) hB) (fun H1 e1 => ?_)
  refine q_drop (K := K) (er_call2 (er_var rfl (Rp.mono (SF.of e1) r0)) (er_var rfl (Rp.mono (SF.of e1) r1)) ⟨hB, hlen, hrng, hnd⟩) (fun H2 e2 => ?_)
  have e12 := e1.trans e2
  refine q_when (K := K) (et_not (et_B (er_call2 (er_var rfl (Rp.mono (SF.of e12) r0)) (er_var rfl (Rp.mono (SF.of e12) r1)) ⟨hB, hlen, hrng⟩))) (fun hc H3 e3 => ?_) (fun hc H3 e3 => ?_)
  · refine q_last ?_
    exact qe "NotFound" (show m_rank_of_order b o = _ from by unfold m_rank_of_order; rw [if_pos hc]) (by decide) _ (e12.trans e3)
  · have ho : m_rank_of_order b o = .ok (RK b b.length [] o) := by unfold m_rank_of_order; rw [if_neg (nff hc)]
    have e13 := e12.trans e3
    refine q_parK (V0 := wV b) (n := b.length) (fun p H4 e4 hp ko => ?_)
    have hp0 : H p = none := e13.free hp
    have e14 := e13.trans e4
    refine q_for (K := K) (l := enumL o) (src_enum (er_var rfl (Rp.mono (SF.of e14) r1)))
      (fun H6 i σ' H' => ∃ (t : Int) (y4 y5 y6 : Option V), σ' = [some v0, some v1, some (.int t), some (.ref p), y4, y5, y6] ∧ t + RK b (b.length - i) (o.take i) (o.drop i) = RK b b.length [] o ∧ Mu p H6 H' ∧ KO (wV b) b.length p H')
      (fun H6 e6 => ⟨0, none, none, none, rfl, by simp, Mu.refl _, ko_jk.mono e6 ko⟩) (fun H6 k σ' H' h => by obtain ⟨_, _, _, _, _, _, h, _⟩ := h; exact h.sf) (fun H6 i x σ' H' vx H7 e6 hx hP e7 rx => ?_) (fun H6 σ' H' e6 hP => ?_)
    · obtain ⟨t, y4, y5, y6, rfl, ht, m6, k6⟩ := hP
      obtain ⟨hx1, hx2⟩ := enumL_get hx
      obtain ⟨i', x'⟩ := x
      dsimp only at hx1 hx2
      subst hx2
      obtain ⟨hi, hxx⟩ := List.getElem?_eq_some_iff.mp hx1
      have hdr : o.drop i' = x' :: o.drop (i' + 1) := by rw [List.drop_eq_getElem_cons hi, hxx]
      have htk : o.take (i' + 1) = o.take i' ++ [x'] := by rw [List.take_add_one, hx1]; rfl
      obtain ⟨w1, w2, q1, q2, tg⟩ := tg_pair (k := 4) (m := 5) rx
      refine tg _ ?_
      refine q_last ?_
      have eS : SF H4 H7 := (SF.of e6).trans (m6.sf.trans (SF.of e7))
      have rb7 := Rp.mono ((SF.of e14).trans eS) r0
      have ro7 := Rp.mono ((SF.of e14).trans eS) r1
      have hcut : cutL o none (some (i' : Int)) = o.take i' := cutL_to o i'
      have hrow : RowK b.length (o.take i') := ⟨List.Sublist.nodup (List.take_sublist _ _) hnd, fun y hy => hrng y (List.mem_of_mem_take hy)⟩
      have hlt : (o.take i').length = i' := by rw [List.length_take]; omega
      obtain ⟨n', hn'⟩ : ∃ n', b.length - i' = n' + 1 := ⟨b.length - i' - 1, by omega⟩
      have hn2 : b.length - (i' + 1) = n' := by omega
      rw [hn', hdr] at ht
      have ht2 : t + ((mapIf (fun k : Nat => decide (((k : Nat) : Int) < x')) (fun k : Nat => W b n' (o.take i' ++ [((k : Nat) : Int)])) (m_next_places b (o.take i'))).sum + RK b n' (o.take i' ++ [x']) (o.drop (i' + 1))) = RK b b.length [] o := ht
      refine s_for (K := K) (l := m_next_places b (o.take i')) (src_list (er_frz (erl_call2 (er_var rfl rb7) (er_frz ((erl_sl (er_var rfl ro7) eo_none (eo_some (er_up (er_var rfl q1)))).to hcut)) ⟨hB, by omega⟩)))
        (fun H8 j σ' H' => ∃ (t' : Int) (y6 : Option V), σ' = [some v0, some v1, some (.int t'), some (.ref p), some w1, some w2, y6] ∧ t' + (mapIf (fun k : Nat => decide (((k : Nat) : Int) < x')) (fun k : Nat => W b n' (o.take i' ++ [((k : Nat) : Int)])) ((m_next_places b (o.take i')).drop j)).sum + RK b n' (o.take i' ++ [x']) (o.drop (i' + 1)) = RK b b.length [] o ∧ Mu p H8 H' ∧ KO (wV b) b.length p H')
        (fun H8 e8 => ⟨t, y6, rfl, by rw [List.drop_zero]; omega, Mu.refl _, ko_jk.mono (e7.trans e8) k6⟩) (fun H8 k σ' H' h => by obtain ⟨_, _, _, _, h, _⟩ := h; exact h.sf) (fun H8 j k σ' H' vk H9 e8 hk hP e9 rk => ?_) (fun H8 σ' H' e8 hP => ?_)
      · obtain ⟨t', y6', rfl, ht', m8, k8⟩ := hP
        obtain ⟨x1, x2⟩ := np_mem (List.mem_of_getElem? hk)
        refine s_gn ?_
        refine q_last ?_
        have eT : SF H7 H9 := (SF.of e8).trans (m8.sf.trans (SF.of e9))
        have hdk : (m_next_places b (o.take i')).drop j = k :: (m_next_places b (o.take i')).drop (j + 1) := by
          obtain ⟨hkk, hkx⟩ := List.getElem?_eq_some_iff.mp hk
          rw [← hkx, List.drop_eq_getElem_cons hkk]
        rw [hdk] at ht'
        unfold mapIf at ht' ⊢
        rw [List.filter_cons] at ht'
        refine s_if (K := K) (et_test (er_op (er_up (er_var rfl rk)) (er_var rfl (Rp.mono eT q2)) rr_lt)) (fun hc3 H10 e10 => ?_) (fun hc3 H10 e10 => ?_)
        · refine q_last ?_
          rw [if_pos hc3, List.map_cons, List.sum_cons] at ht'
          refine s_augK (K := K) (p := p) (J := KO (wV b) b.length p) (f := fun i j => i + j) (j := W b n' (o.take i' ++ [((k : Nat) : Int)])) rfl (ko_jk.mono (e9.trans e10) k8) (ek_ways (by omega) rfl (fun H11 m11 => er_var rfl (Rp.mono (eT.trans ((SF.of e10).trans m11.sf)) rb7)) (fun H11 m11 => er_frz (erl_cat (er_frz ((erl_sl (er_var rfl (Rp.mono (eT.trans ((SF.of e10).trans m11.sf)) ro7)) eo_none (eo_some (er_up (er_var rfl (Rp.mono (eT.trans ((SF.of e10).trans m11.sf)) q1))))).to hcut)) (er_frz (erl_lst (α := Int) (ea_cons (er_up (er_var rfl (Rp.mono ((SF.of e10).trans m11.sf) rk))) ea_nil))) (by simp only [List.length_singleton]; omega))) hB (rowK_snoc hrow x1 x2) (by rw [List.length_append, List.length_singleton]; omega)) (fun H11 m11 k11 => ?_)
          refine s_nx ?_
          exact ⟨_, _, rfl, by omega, (m8.trans (Mu.of (e9.trans e10))).trans m11, k11⟩
        · refine s_nx ?_
          rw [if_neg (nff hc3)] at ht'
          exact ⟨t', _, rfl, by omega, m8.trans (Mu.of (e9.trans e10)), ko_jk.mono (e9.trans e10) k8⟩
      · obtain ⟨t', y6', rfl, ht', m8, k8⟩ := hP
        rw [List.drop_length] at ht'
        refine s_nx ?_
        refine ⟨t', _, _, _, rfl, ?_, (m6.trans (Mu.of (e7.trans e8))).trans m8, k8⟩
        rw [hn2, htk]
        have e0 : (mapIf (fun k : Nat => decide (((k : Nat) : Int) < x')) (fun k : Nat => W b n' (o.take i' ++ [((k : Nat) : Int)])) []).sum = 0 := rfl
        omega
    · obtain ⟨t, y4, y5, y6, rfl, ht, m6, k6⟩ := hP
      rw [enumL_len, hlen, Nat.sub_self] at ht
      have h0 : RK b 0 (o.take b.length) (o.drop b.length) = 0 := by unfold RK; rfl
      refine q_last ?_
      exact s_ret (K := K) (er_var (x := t) rfl rfl) (fun u H7 e7 rr => qo _ ho u _ (Mu.base ((m6.trans (Mu.of e7))) (e14.trans e6) hp0) (by rw [show RK b b.length [] o = t by omega]; exact rr))


theorem ok_checked_facts (T : Txt K mg) : Ok P w K mg base CX0 1 "checked_facts" ["bounds"] (spThru K (fun l : List (Int × Int) => l.length ≤ 100 ∧ ∀ t ∈ l, t.1 ≤ t.2)) := by
  refine okA_of T.d_checked_facts sc_checked_facts (bi1 fun _ _ _ _ _ _ _ => rfl) (fun vs H Q E h => by obtain ⟨_, _, _, rfl, _⟩ := h; rfl) (fun f cdv A outer s H vs Q E hr h => ?_)
  have nd := sc_checked_facts.nd
  obtain ⟨p, us, l, rfl, h1, r, hp, q⟩ := h
  refine ⟨_, (pss_cons (ps_lock (ps_if (pt_val (pe_callB (k_any K rfl rfl) (by rfl) T.n_any (by decide +kernel) (pa_cons (pe_frz (pe_lc (own := [("low", 1), ("high", 2)]) rfl nd (k_pl K rfl (pv 0)) (blkOk_by (N := N_checked_facts) (sc := defScope s_checked_facts) (by decide +kernel)) (fun _ _ _ _ _ => (k_gt K rfl 2 rfl (pgs_cons (pg_name (i := 1) nd rfl (.inl rfl) (.inr rfl)) (pgs_cons (pg_name (i := 2) nd rfl (.inl rfl) (.inr rfl)) pgs_nil)))) (fun _ _ _ _ _ => pts_nil) (fun _ _ _ _ _ => (pe_cmpR op_gt (pv 1) (pv 2) (nomark _))))) pa_nil))) (pss_one ps_never) pss_nil))
      (pss_one (ps_ret (pv 0)))), ?_⟩
  refine q_lockd (K := K) h1 r (fun od r0 => ?_)
  refine s_not (K := K) (et_B (er_any (er_frz (erl_lm2 (f := fun x => decide (x.1 > x.2)) (src_list (er_var rfl r0)) (by have := hp.1; omega) (by intros; rfl) (fun x hx v u _ e r r' => er_op (er_var rfl r) (er_var rfl r') rr_gt))))) (by
    rw [List.any_map, List.any_eq_false]
    intro x hx
    have := hp.2 x hx
    simp; omega) (fun H1 e => ⟨e _ _ upd_same, ?_⟩)
  exact ⟨.ref p, rfl, q _ (same_lock h1 e)⟩
def m_with_sum (x0 : (List (Int × Int))) (x1 : Int) (x2 : Int) : (List (Int × Int)) := (x0.map (fun (x2053 : (Int × Int)) => ((max x2053.1 (x1 - ((x0.map (fun (x2045 : (Int × Int)) => x2045.2)).sum - x2053.2))), (min x2053.2 (x2 - ((x0.map (fun (x2038 : (Int × Int)) => x2038.1)).sum - x2053.1))))))
theorem ok_with_sum (T : Txt K mg) : Ok P w K mg base CX0 5 "with_sum" ["bounds", "least", "greatest"] (sl3 K ((fun b l g => BOk b ∧ (-400 ≤ l ∧ l ≤ g ∧ g ≤ 400) ∧ (m_lows b).sum ≤ g ∧ l ≤ (m_highs b).sum) : (List (Int × Int)) → Int → Int → Prop) m_with_sum) := by
  refine ok_of T.d_with_sum sc_with_sum (bi3 fun _ _ _ _ _ _ _ _ _ => rfl) len_sl3 (fun f cdv A outer s H vs Q E hr h => ?_)
  have nd := sc_with_sum.nd
  obtain ⟨v0, v1, v2, x0, x1, x2, rfl, r0, r1, r2, hp, q⟩ := h
  refine ⟨_, (pss_cons (ps_expr (pe_fn (ok_check_bounds T) (hr.mono (by decide)) pass0 (pa_cons (pv 0) pa_nil)))
      (pss_cons (ps_if (PW.pt (pw_or (pt_not (pt_val (pe_fn (ok_is_int T) (hr.mono (by decide)) pass0 (pa_cons (pv 1) (pa_cons (pe_un un_neg pe_int) (pa_cons pe_int pa_nil)))))) (pw_or1 (pt_not (pt_val (pe_fn (ok_is_int T) (hr.mono (by decide)) pass0 (pa_cons (pv 2) (pa_cons (pv 1) (pa_cons pe_int pa_nil))))))))) (pss_one ps_never) pss_nil)
      (pss_cons (ps_asg (pe_tup (pa_cons (pe_callB (k_sum K rfl rfl) (by rfl) T.n_sum (by decide +kernel) (pa_cons (pe_frz (pe_lc (own := [("low", 5), ("high", 6)]) rfl nd (k_pl K rfl (pv 0)) (blkOk_by (N := N_with_sum) (sc := defScope s_with_sum) (by decide +kernel)) (fun _ _ _ _ _ => (k_gt K rfl 2 rfl (pgs_cons (pg_name (i := 5) nd rfl (.inl rfl) (.inr rfl)) (pgs_cons (pg_name (i := 6) nd rfl (.inl rfl) (.inr rfl)) pgs_nil)))) (fun _ _ _ _ _ => pts_nil) (fun _ _ _ _ _ => (pv 5)))) pa_nil)) (pa_cons (pe_callB (k_sum K rfl rfl) (by rfl) T.n_sum (by decide +kernel) (pa_cons (pe_frz (pe_lc (own := [("low", 5), ("high", 6)]) rfl nd (k_pl K rfl (pv 0)) (blkOk_by (N := N_with_sum) (sc := defScope s_with_sum) (by decide +kernel)) (fun _ _ _ _ _ => (k_gt K rfl 2 rfl (pgs_cons (pg_name (i := 5) nd rfl (.inl rfl) (.inr rfl)) (pgs_cons (pg_name (i := 6) nd rfl (.inl rfl) (.inr rfl)) pgs_nil)))) (fun _ _ _ _ _ => pts_nil) (fun _ _ _ _ _ => (pv 6)))) pa_nil)) pa_nil))) (k_gt K rfl 2 rfl (pgs_cons (pg_name (i := 3) nd rfl (.inr rfl) (.inl rfl)) (pgs_cons (pg_name (i := 4) nd rfl (.inr rfl) (.inl rfl)) pgs_nil))))
      (pss_cons (ps_if (PW.pt (pw_or (pt_cmpR op_gt (pv 3) (pv 2) (nomark _)) (pw_or1 (pt_cmpR op_lt (pv 4) (pv 1) (nomark _))))) (pss_one ps_never) pss_nil)
      (pss_one (ps_ret (pe_lc (own := [("low", 5), ("high", 6)]) rfl nd (k_pl K rfl (pv 0)) (blkOk_by (N := N_with_sum) (sc := defScope s_with_sum) (by decide +kernel)) (fun _ _ _ _ _ => (k_gt K rfl 2 rfl (pgs_cons (pg_name (i := 5) nd rfl (.inl rfl) (.inr rfl)) (pgs_cons (pg_name (i := 6) nd rfl (.inl rfl) (.inr rfl)) pgs_nil)))) (fun _ _ _ _ _ => pts_nil) (fun _ _ _ _ _ => (pe_tup (pa_cons (pe_callB (call_max2 rfl) (by rfl) T.n_max (by decide +kernel) (pa_cons (pv 5) (pa_cons (pe_op op_sub (pv 1) (pe_op op_sub (pv 4) (pv 6))) pa_nil))) (pa_cons (pe_callB (call_min2 rfl) (by rfl) T.n_min (by decide +kernel) (pa_cons (pv 6) (pa_cons (pe_op op_sub (pv 2) (pe_op op_sub (pv 3) (pv 5))) pa_nil))) pa_nil))))))))))), ?_⟩
  refine q_drop (K := K) (er_call1 (er_var rfl r0) (by first | exact hp | exact hp.1)) (fun _ e2030 => ?_)
  refine q_not (K := K) (et_or (et_not (et_B (er_call3 (er_var rfl (Rp.mono (SF.of e2030) r1)) (er_neg er_int) er_int trivial))) (fun hsc => (et_not (et_B (er_call3 (er_var rfl (Rp.mono (SF.of e2030) r2)) (er_var rfl (Rp.mono (SF.of e2030) r1)) er_int trivial))))) (by first | (simp [m_is_int]; omega) | (have h1 := hp.2.2.1; have h2 := hp.2.2.2; simp only [m_lows, m_highs] at h1 h2; simp; omega)) (fun _ e2031 => ?_)
  refine q_unp (K := K) (er_pair (er_sum (er_frz (erl_lm2 (f := fun (x2038 : (Int × Int)) => x2038.1) (src_list (er_var rfl (Rp.mono (SF.of (e2030.trans e2031)) r0))) (by have := hp.1.2.1; omega) (by intros; rfl) (fun x2038 hx2039 v2040 v2041 _ e2037 r2042 r2043 => (er_var rfl r2042))))) (er_sum (er_frz (erl_lm2 (f := fun (x2045 : (Int × Int)) => x2045.2) (src_list (er_var rfl (Rp.mono (SF.of (e2030.trans e2031)) r0))) (by have := hp.1.2.1; omega) (by intros; rfl) (fun x2045 hx2046 v2047 v2048 _ e2044 r2049 r2050 => (er_var rfl r2050)))))) (fun v2035 v2036 _ e2032 r2033 r2034 => ?_)
  refine q_not (K := K) (et_or (et_test (er_op (er_var rfl r2033) (er_var rfl (Rp.mono (SF.of ((e2030.trans e2031).trans e2032)) r2)) rr_gt)) (fun hsc => (et_test (er_op (er_var rfl r2034) (er_var rfl (Rp.mono (SF.of ((e2030.trans e2031).trans e2032)) r1)) rr_lt)))) (by first | (simp [m_is_int]; omega) | (have h1 := hp.2.2.1; have h2 := hp.2.2.2; simp only [m_lows, m_highs] at h1 h2; simp; omega)) (fun _ e2051 => ?_)
  exact s_retL (K := K) (erl_lm2 (f := fun (x2053 : (Int × Int)) => ((max x2053.1 (x1 - ((x0.map (fun (x2045 : (Int × Int)) => x2045.2)).sum - x2053.2))), (min x2053.2 (x2 - ((x0.map (fun (x2038 : (Int × Int)) => x2038.1)).sum - x2053.1))))) (src_list (er_var rfl (Rp.mono (SF.of (((e2030.trans e2031).trans e2032).trans e2051)) r0))) (by have := hp.1.2.1; omega) (by intros; rfl) (fun x2053 hx2054 v2055 v2056 _ e2052 r2057 r2058 => (er_pair (er_max2 (er_var rfl r2057) (er_op (er_var rfl (Rp.mono (SF.of ((((e2030.trans e2031).trans e2032).trans e2051).trans e2052)) r1)) (er_op (er_var rfl (Rp.mono (SF.of (e2051.trans e2052)) r2034)) (er_var rfl r2058) rr_sub) rr_sub)) (er_min2 (er_var rfl r2058) (er_op (er_var rfl (Rp.mono (SF.of ((((e2030.trans e2031).trans e2032).trans e2051).trans e2052)) r2)) (er_op (er_var rfl (Rp.mono (SF.of (e2051.trans e2052)) r2033)) (er_var rfl r2057) rr_sub) rr_sub))))) (fun p us _ e2059 hn h1 rr => q p us _ ((((e2030.trans e2031).trans e2032).trans e2051).trans e2059) ((((e2030.trans e2031).trans e2032).trans e2051).free hn) h1 rr)
def m_narrowed (x0 : (List (Int × Int))) (x1 : (List (Int × Int))) : (List (Int × Int)) := (List.foldl (fun (s_l1 : (List (Int × Int))) (turn_l1 : Nat) => ((List.foldl (fun (s_l2 : (List (Int × Int))) (k_j_l2 : (Int × Int)) => (((s_l2.set ((k_j_l2.1).toNat) (((s_l2).getD (k_j_l2.1).toNat (0, 0)).1, (min (((s_l2).getD (k_j_l2.1).toNat (0, 0)).2) (((s_l2).getD (k_j_l2.2).toNat (0, 0)).2)))).set ((k_j_l2.2).toNat) ((max ((((s_l2.set ((k_j_l2.1).toNat) (((s_l2).getD (k_j_l2.1).toNat (0, 0)).1, (min (((s_l2).getD (k_j_l2.1).toNat (0, 0)).2) (((s_l2).getD (k_j_l2.2).toNat (0, 0)).2))))).getD (k_j_l2.2).toNat (0, 0)).1) ((((s_l2.set ((k_j_l2.1).toNat) (((s_l2).getD (k_j_l2.1).toNat (0, 0)).1, (min (((s_l2).getD (k_j_l2.1).toNat (0, 0)).2) (((s_l2).getD (k_j_l2.2).toNat (0, 0)).2))))).getD (k_j_l2.1).toNat (0, 0)).1)), (((s_l2.set ((k_j_l2.1).toNat) (((s_l2).getD (k_j_l2.1).toNat (0, 0)).1, (min (((s_l2).getD (k_j_l2.1).toNat (0, 0)).2) (((s_l2).getD (k_j_l2.2).toNat (0, 0)).2))))).getD (k_j_l2.2).toNat (0, 0)).2)) : (List (Int × Int)))) s_l1 x1) : (List (Int × Int)))) x0 (List.range x0.length))
theorem ok_narrowed (T : Txt K mg) : Ok P w K mg base CX0 1 "narrowed" ["bounds", "pairs"] (sl2 K ((fun b p => BOk b ∧ p.length ≤ 42 ∧ ∀ t ∈ p, (0 ≤ t.1 ∧ t.1 < b.length) ∧ (0 ≤ t.2 ∧ t.2 < b.length) ∧ t.1 ≠ t.2) : (List (Int × Int)) → (List (Int × Int)) → Prop) m_narrowed) := by
  refine ok_of T.d_narrowed sc_narrowed (bi2 fun _ _ _ _ _ _ _ _ => rfl) len_sl2 (fun f cdv A outer s H vs Q E hr h => ?_)
  have nd := sc_narrowed.nd
  obtain ⟨v0, v1, x0, x1, rfl, r0, r1, hp, q⟩ := h
  refine ⟨_, (pss_cons (ps_set (i := 2) nd rfl (.inl rfl) (pe_callTy (k_list K rfl) (by rfl) T.n_list (by decide +kernel) (pa_cons (pv 0) pa_nil)))
      (pss_cons (ps_for PassesOwn.never rfl (pi_range1 (by rfl) T.n_range (pa_cons (pe_callB (k_len K rfl) (by rfl) T.n_len PySem.boot_len (pa_cons (pv 0) pa_nil)) pa_nil)) (pg_name (i := 3) nd rfl (.inl rfl) (.inr rfl)) (pss_one (ps_for PassesOwn.never rfl (k_pl K rfl (pv 1)) (k_gt K rfl 2 rfl (pgs_cons (pg_name (i := 4) nd rfl (.inl rfl) (.inr rfl)) (pgs_cons (pg_name (i := 5) nd rfl (.inl rfl) (.inr rfl)) pgs_nil))) (pss_cons (ps_asg (pe_tup (pa_cons (pe_ix (k_ixt K rfl) (pe_ix (k_ixl K rfl) (pv 2) (pv 4) (fun _ _ => rfl)) pe_int (fun _ _ => rfl)) (pa_cons (pe_callB (call_min2 rfl) (by rfl) T.n_min (by decide +kernel) (pa_cons (pe_ix (k_ixt K rfl) (pe_ix (k_ixl K rfl) (pv 2) (pv 4) (fun _ _ => rfl)) pe_int (fun _ _ => rfl)) (pa_cons (pe_ix (k_ixt K rfl) (pe_ix (k_ixl K rfl) (pv 2) (pv 5) (fun _ _ => rfl)) pe_int (fun _ _ => rfl)) pa_nil))) pa_nil))) (pg_sub (pv 2) (pv 4) set_list))
      (pss_one (ps_asg (pe_tup (pa_cons (pe_callB (call_max2 rfl) (by rfl) T.n_max (by decide +kernel) (pa_cons (pe_ix (k_ixt K rfl) (pe_ix (k_ixl K rfl) (pv 2) (pv 5) (fun _ _ => rfl)) pe_int (fun _ _ => rfl)) (pa_cons (pe_ix (k_ixt K rfl) (pe_ix (k_ixl K rfl) (pv 2) (pv 4) (fun _ _ => rfl)) pe_int (fun _ _ => rfl)) pa_nil))) (pa_cons (pe_ix (k_ixt K rfl) (pe_ix (k_ixl K rfl) (pv 2) (pv 5) (fun _ _ => rfl)) pe_int (fun _ _ => rfl)) pa_nil))) (pg_sub (pv 2) (pv 5) set_list)))))))
      (pss_one (ps_ret (pv 2))))), ?_⟩
  refine q_setL (K := K) (erl_list (er_var rfl r0)) (fun p2060 _ _ e2061 hn2062 h2063 rl2064 => ?_)
  have f2066 := Mus.fresh (Mus.refl _) nin0 hn2062
  have u2065 := Un.of h2063 rl2064
  -- for turn in range(len(bounds))
  refine q_for (K := K) (src_range1 (er_len (er_var rfl (Rp.mono (SF.of e2061) r0))) (by have := hp.1.2.1; omega)) (fun H1 k σ' H' => ∃ (s_l1 : (List (Int × Int))) (y2068 : Option V) (y2069 : Option V) (y2070 : Option V), σ' = [some v0, some v1, some (.ref p2060), y2068, y2069, y2070] ∧ s_l1 = (List.take k (List.range x0.length)).foldl (fun (s_l1 : (List (Int × Int))) (turn_l1 : Nat) => ((List.foldl (fun (s_l2 : (List (Int × Int))) (k_j_l2 : (Int × Int)) => (((s_l2.set ((k_j_l2.1).toNat) (((s_l2).getD (k_j_l2.1).toNat (0, 0)).1, (min (((s_l2).getD (k_j_l2.1).toNat (0, 0)).2) (((s_l2).getD (k_j_l2.2).toNat (0, 0)).2)))).set ((k_j_l2.2).toNat) ((max ((((s_l2.set ((k_j_l2.1).toNat) (((s_l2).getD (k_j_l2.1).toNat (0, 0)).1, (min (((s_l2).getD (k_j_l2.1).toNat (0, 0)).2) (((s_l2).getD (k_j_l2.2).toNat (0, 0)).2))))).getD (k_j_l2.2).toNat (0, 0)).1) ((((s_l2.set ((k_j_l2.1).toNat) (((s_l2).getD (k_j_l2.1).toNat (0, 0)).1, (min (((s_l2).getD (k_j_l2.1).toNat (0, 0)).2) (((s_l2).getD (k_j_l2.2).toNat (0, 0)).2))))).getD (k_j_l2.1).toNat (0, 0)).1)), (((s_l2.set ((k_j_l2.1).toNat) (((s_l2).getD (k_j_l2.1).toNat (0, 0)).1, (min (((s_l2).getD (k_j_l2.1).toNat (0, 0)).2) (((s_l2).getD (k_j_l2.2).toNat (0, 0)).2))))).getD (k_j_l2.2).toNat (0, 0)).2)) : (List (Int × Int)))) s_l1 x1) : (List (Int × Int)))) x0 ∧ Mus [p2060] H1 H' ∧ Un K H' p2060 s_l1) (fun H1 e => ⟨x0, _, _, _, rfl, rfl, Mus.refl _, (Un.mono e u2065)⟩) (fun _ _ _ _ h => by obtain ⟨_, _, _, _, _, _, m, _⟩ := h; exact m.sf) (fun H1 k2077 turn_l1 σ' H' vturn_l1 _ e2074 hx2073 hP e2075 rturn_l1 => ?_) (fun H1 σ' H' e2074 hP => ?_)
  ·
    obtain ⟨s_l1, y2068, y2069, y2070, rfl, hs2071, m2076, u2078⟩ := hP
    refine s_gn ?_
    have hturn_l1 := List.mem_of_getElem? hx2073
    have hturn1 := hs2071
    refine q_last ?_
    have r2080 := (Rp.mono ((((SF.of e2061).trans (SF.of e2074)).trans m2076.sf).trans (SF.of e2075)) r0)
    have r2081 := (Rp.mono ((((SF.of e2061).trans (SF.of e2074)).trans m2076.sf).trans (SF.of e2075)) r1)
    -- for (k, j) in pairs
    refine q_for (K := K) (src_list (er_var rfl r2081)) (fun H1 k σ' H' => ∃ (s_l2 : (List (Int × Int))) (y2083 : Option V) (y2084 : Option V), σ' = [some v0, some v1, some (.ref p2060), some vturn_l1, y2083, y2084] ∧ s_l2 = (List.take k x1).foldl (fun (s_l2 : (List (Int × Int))) (k_j_l2 : (Int × Int)) => (((s_l2.set ((k_j_l2.1).toNat) (((s_l2).getD (k_j_l2.1).toNat (0, 0)).1, (min (((s_l2).getD (k_j_l2.1).toNat (0, 0)).2) (((s_l2).getD (k_j_l2.2).toNat (0, 0)).2)))).set ((k_j_l2.2).toNat) ((max ((((s_l2.set ((k_j_l2.1).toNat) (((s_l2).getD (k_j_l2.1).toNat (0, 0)).1, (min (((s_l2).getD (k_j_l2.1).toNat (0, 0)).2) (((s_l2).getD (k_j_l2.2).toNat (0, 0)).2))))).getD (k_j_l2.2).toNat (0, 0)).1) ((((s_l2.set ((k_j_l2.1).toNat) (((s_l2).getD (k_j_l2.1).toNat (0, 0)).1, (min (((s_l2).getD (k_j_l2.1).toNat (0, 0)).2) (((s_l2).getD (k_j_l2.2).toNat (0, 0)).2))))).getD (k_j_l2.1).toNat (0, 0)).1)), (((s_l2.set ((k_j_l2.1).toNat) (((s_l2).getD (k_j_l2.1).toNat (0, 0)).1, (min (((s_l2).getD (k_j_l2.1).toNat (0, 0)).2) (((s_l2).getD (k_j_l2.2).toNat (0, 0)).2))))).getD (k_j_l2.2).toNat (0, 0)).2)) : (List (Int × Int)))) s_l1 ∧ Mus [p2060] H1 H' ∧ Un K H' p2060 s_l2) (fun H1 e => ⟨s_l1, _, _, rfl, rfl, Mus.refl _, (Un.mono e (Un.mono e2075 u2078))⟩) (fun _ _ _ _ h => by obtain ⟨_, _, _, _, _, m, _⟩ := h; exact m.sf) (fun H1 k2091 k_j_l2 σ' H' vk_j_l2 _ e2088 hx2087 hP e2089 rk_j_l2 => ?_) (fun H1 σ' H' e2088 hP => ?_)
    ·
      obtain ⟨s_l2, y2083, y2084, rfl, hs2085, m2090, u2092⟩ := hP
      obtain ⟨v2094, v2095, r2096, r2097, tg2098⟩ := tg_pair (k := 4) (m := 5) rk_j_l2
      refine tg2098 _ ?_
      have hk_j_l2 := List.mem_of_getElem? hx2087
      have hturn2 := hs2085
      refine q_setI (K := K) rfl (Un.mono e2089 u2092) (er_pair (er_op (er_ixUI (x := ((s_l2).getD (k_j_l2.1).toNat (0, 0))) (i := k_j_l2.1) (n := (k_j_l2.1).toNat) rfl (Un.mono e2089 u2092) (er_var rfl r2096) (by have hb := hp.2.2 _ (by assumption); omega) (by have hl1 : s_l1.length = x0.length := fold_invE (fun s : List (Int × Int) => s.length = x0.length) hturn1 rfl (fun s x _ hs => fold_inv (P := fun s : List (Int × Int) => s.length = x0.length) hs (fun s x _ hs => by simpa using hs)); have hl2 : s_l2.length = x0.length := fold_invE (fun s : List (Int × Int) => s.length = x0.length) hturn2 hl1 (fun s x _ hs => by simpa using hs); have hb := hp.2.2 _ (by assumption); first | exact getD_at (by omega) | omega | exact getD_at (by rw [List.length_set]; omega) | (rw [List.length_set]; omega))) er_int rr_ixP0) (er_min2 (er_op (er_ixUI (x := ((s_l2).getD (k_j_l2.1).toNat (0, 0))) (i := k_j_l2.1) (n := (k_j_l2.1).toNat) rfl (Un.mono e2089 u2092) (er_var rfl r2096) (by have hb := hp.2.2 _ (by assumption); omega) (by have hl1 : s_l1.length = x0.length := fold_invE (fun s : List (Int × Int) => s.length = x0.length) hturn1 rfl (fun s x _ hs => fold_inv (P := fun s : List (Int × Int) => s.length = x0.length) hs (fun s x _ hs => by simpa using hs)); have hl2 : s_l2.length = x0.length := fold_invE (fun s : List (Int × Int) => s.length = x0.length) hturn2 hl1 (fun s x _ hs => by simpa using hs); have hb := hp.2.2 _ (by assumption); first | exact getD_at (by omega) | omega | exact getD_at (by rw [List.length_set]; omega) | (rw [List.length_set]; omega))) er_int rr_ixP1) (er_op (er_ixUI (x := ((s_l2).getD (k_j_l2.2).toNat (0, 0))) (i := k_j_l2.2) (n := (k_j_l2.2).toNat) rfl (Un.mono e2089 u2092) (er_var rfl r2097) (by have hb := hp.2.2 _ (by assumption); omega) (by have hl1 : s_l1.length = x0.length := fold_invE (fun s : List (Int × Int) => s.length = x0.length) hturn1 rfl (fun s x _ hs => fold_inv (P := fun s : List (Int × Int) => s.length = x0.length) hs (fun s x _ hs => by simpa using hs)); have hl2 : s_l2.length = x0.length := fold_invE (fun s : List (Int × Int) => s.length = x0.length) hturn2 hl1 (fun s x _ hs => by simpa using hs); have hb := hp.2.2 _ (by assumption); first | exact getD_at (by omega) | omega | exact getD_at (by rw [List.length_set]; omega) | (rw [List.length_set]; omega))) er_int rr_ixP1))) (er_dn (n := (k_j_l2.1).toNat) (er_var rfl r2096) (by have hb := hp.2.2 _ (by assumption); omega)) (by have hl1 : s_l1.length = x0.length := fold_invE (fun s : List (Int × Int) => s.length = x0.length) hturn1 rfl (fun s x _ hs => fold_inv (P := fun s : List (Int × Int) => s.length = x0.length) hs (fun s x _ hs => by simpa using hs)); have hl2 : s_l2.length = x0.length := fold_invE (fun s : List (Int × Int) => s.length = x0.length) hturn2 hl1 (fun s x _ hs => by simpa using hs); have hb := hp.2.2 _ (by assumption); first | exact getD_at (by omega) | omega | exact getD_at (by rw [List.length_set]; omega) | (rw [List.length_set]; omega)) (fun _ m2099 u2100 => ?_)
      refine q_last ?_
      have r2101 := (Rp.mono ((((SF.of e2088).trans m2090.sf).trans (SF.of e2089)).trans m2099.sf) r2080)
      have r2102 := (Rp.mono ((((SF.of e2088).trans m2090.sf).trans (SF.of e2089)).trans m2099.sf) r2081)
      have r2103 := (Rp.mono ((((SF.of e2088).trans m2090.sf).trans (SF.of e2089)).trans m2099.sf) rturn_l1)
      refine q_setI (K := K) rfl u2100 (er_pair (er_max2 (er_op (er_ixUI (x := (((s_l2.set ((k_j_l2.1).toNat) (((s_l2).getD (k_j_l2.1).toNat (0, 0)).1, (min (((s_l2).getD (k_j_l2.1).toNat (0, 0)).2) (((s_l2).getD (k_j_l2.2).toNat (0, 0)).2))))).getD (k_j_l2.2).toNat (0, 0))) (i := k_j_l2.2) (n := (k_j_l2.2).toNat) rfl u2100 (er_var rfl (Rp.mono m2099.sf r2097)) (by have hb := hp.2.2 _ (by assumption); omega) (by have hl1 : s_l1.length = x0.length := fold_invE (fun s : List (Int × Int) => s.length = x0.length) hturn1 rfl (fun s x _ hs => fold_inv (P := fun s : List (Int × Int) => s.length = x0.length) hs (fun s x _ hs => by simpa using hs)); have hl2 : s_l2.length = x0.length := fold_invE (fun s : List (Int × Int) => s.length = x0.length) hturn2 hl1 (fun s x _ hs => by simpa using hs); have hb := hp.2.2 _ (by assumption); first | exact getD_at (by omega) | omega | exact getD_at (by rw [List.length_set]; omega) | (rw [List.length_set]; omega))) er_int rr_ixP0) (er_op (er_ixUI (x := (((s_l2.set ((k_j_l2.1).toNat) (((s_l2).getD (k_j_l2.1).toNat (0, 0)).1, (min (((s_l2).getD (k_j_l2.1).toNat (0, 0)).2) (((s_l2).getD (k_j_l2.2).toNat (0, 0)).2))))).getD (k_j_l2.1).toNat (0, 0))) (i := k_j_l2.1) (n := (k_j_l2.1).toNat) rfl u2100 (er_var rfl (Rp.mono m2099.sf r2096)) (by have hb := hp.2.2 _ (by assumption); omega) (by have hl1 : s_l1.length = x0.length := fold_invE (fun s : List (Int × Int) => s.length = x0.length) hturn1 rfl (fun s x _ hs => fold_inv (P := fun s : List (Int × Int) => s.length = x0.length) hs (fun s x _ hs => by simpa using hs)); have hl2 : s_l2.length = x0.length := fold_invE (fun s : List (Int × Int) => s.length = x0.length) hturn2 hl1 (fun s x _ hs => by simpa using hs); have hb := hp.2.2 _ (by assumption); first | exact getD_at (by omega) | omega | exact getD_at (by rw [List.length_set]; omega) | (rw [List.length_set]; omega))) er_int rr_ixP0)) (er_op (er_ixUI (x := (((s_l2.set ((k_j_l2.1).toNat) (((s_l2).getD (k_j_l2.1).toNat (0, 0)).1, (min (((s_l2).getD (k_j_l2.1).toNat (0, 0)).2) (((s_l2).getD (k_j_l2.2).toNat (0, 0)).2))))).getD (k_j_l2.2).toNat (0, 0))) (i := k_j_l2.2) (n := (k_j_l2.2).toNat) rfl u2100 (er_var rfl (Rp.mono m2099.sf r2097)) (by have hb := hp.2.2 _ (by assumption); omega) (by have hl1 : s_l1.length = x0.length := fold_invE (fun s : List (Int × Int) => s.length = x0.length) hturn1 rfl (fun s x _ hs => fold_inv (P := fun s : List (Int × Int) => s.length = x0.length) hs (fun s x _ hs => by simpa using hs)); have hl2 : s_l2.length = x0.length := fold_invE (fun s : List (Int × Int) => s.length = x0.length) hturn2 hl1 (fun s x _ hs => by simpa using hs); have hb := hp.2.2 _ (by assumption); first | exact getD_at (by omega) | omega | exact getD_at (by rw [List.length_set]; omega) | (rw [List.length_set]; omega))) er_int rr_ixP1)) (er_dn (n := (k_j_l2.2).toNat) (er_var rfl (Rp.mono m2099.sf r2097)) (by have hb := hp.2.2 _ (by assumption); omega)) (by have hl1 : s_l1.length = x0.length := fold_invE (fun s : List (Int × Int) => s.length = x0.length) hturn1 rfl (fun s x _ hs => fold_inv (P := fun s : List (Int × Int) => s.length = x0.length) hs (fun s x _ hs => by simpa using hs)); have hl2 : s_l2.length = x0.length := fold_invE (fun s : List (Int × Int) => s.length = x0.length) hturn2 hl1 (fun s x _ hs => by simpa using hs); have hb := hp.2.2 _ (by assumption); first | exact getD_at (by omega) | omega | exact getD_at (by rw [List.length_set]; omega) | (rw [List.length_set]; omega)) (fun _ m2104 u2105 => ?_)
      refine s_nx ?_
      exact ⟨((s_l2.set ((k_j_l2.1).toNat) (((s_l2).getD (k_j_l2.1).toNat (0, 0)).1, (min (((s_l2).getD (k_j_l2.1).toNat (0, 0)).2) (((s_l2).getD (k_j_l2.2).toNat (0, 0)).2)))).set ((k_j_l2.2).toNat) ((max ((((s_l2.set ((k_j_l2.1).toNat) (((s_l2).getD (k_j_l2.1).toNat (0, 0)).1, (min (((s_l2).getD (k_j_l2.1).toNat (0, 0)).2) (((s_l2).getD (k_j_l2.2).toNat (0, 0)).2))))).getD (k_j_l2.2).toNat (0, 0)).1) ((((s_l2.set ((k_j_l2.1).toNat) (((s_l2).getD (k_j_l2.1).toNat (0, 0)).1, (min (((s_l2).getD (k_j_l2.1).toNat (0, 0)).2) (((s_l2).getD (k_j_l2.2).toNat (0, 0)).2))))).getD (k_j_l2.1).toNat (0, 0)).1)), (((s_l2.set ((k_j_l2.1).toNat) (((s_l2).getD (k_j_l2.1).toNat (0, 0)).1, (min (((s_l2).getD (k_j_l2.1).toNat (0, 0)).2) (((s_l2).getD (k_j_l2.2).toNat (0, 0)).2))))).getD (k_j_l2.2).toNat (0, 0)).2)), _, _, rfl, (fold_step hx2087 hs2085), ((((Mus.baseS (Mus.refl _) m2090 (allC (.inr (.head _)) all0)).trans (Mus.of e2089)).trans (Mus.mu m2099 (.head _))).trans (Mus.mu m2104 (.head _))), u2105⟩
    ·
      obtain ⟨s_l2, y2083, y2084, rfl, hs2085, m2090, u2092⟩ := hP
      replace hs2085 := fold_all hs2085
      subst hs2085
      refine s_nx ?_
      exact ⟨(List.foldl (fun (s_l2 : (List (Int × Int))) (k_j_l2 : (Int × Int)) => (((s_l2.set ((k_j_l2.1).toNat) (((s_l2).getD (k_j_l2.1).toNat (0, 0)).1, (min (((s_l2).getD (k_j_l2.1).toNat (0, 0)).2) (((s_l2).getD (k_j_l2.2).toNat (0, 0)).2)))).set ((k_j_l2.2).toNat) ((max ((((s_l2.set ((k_j_l2.1).toNat) (((s_l2).getD (k_j_l2.1).toNat (0, 0)).1, (min (((s_l2).getD (k_j_l2.1).toNat (0, 0)).2) (((s_l2).getD (k_j_l2.2).toNat (0, 0)).2))))).getD (k_j_l2.2).toNat (0, 0)).1) ((((s_l2.set ((k_j_l2.1).toNat) (((s_l2).getD (k_j_l2.1).toNat (0, 0)).1, (min (((s_l2).getD (k_j_l2.1).toNat (0, 0)).2) (((s_l2).getD (k_j_l2.2).toNat (0, 0)).2))))).getD (k_j_l2.1).toNat (0, 0)).1)), (((s_l2.set ((k_j_l2.1).toNat) (((s_l2).getD (k_j_l2.1).toNat (0, 0)).1, (min (((s_l2).getD (k_j_l2.1).toNat (0, 0)).2) (((s_l2).getD (k_j_l2.2).toNat (0, 0)).2))))).getD (k_j_l2.2).toNat (0, 0)).2)) : (List (Int × Int)))) s_l1 x1), _, _, _, rfl, (fold_step hx2073 hs2071), (Mus.baseS (((Mus.baseS (Mus.refl _) m2076 (allC (.inr (.head _)) all0)).trans (Mus.of e2075)).trans (Mus.of e2088)) m2090 (allC (.inr (.head _)) all0)), u2092⟩
  ·
    obtain ⟨s_l1, y2068, y2069, y2070, rfl, hs2071, m2076, u2078⟩ := hP
    replace hs2071 := fold_all hs2071
    subst hs2071
    obtain ⟨us, h1, rr⟩ := u2078
    exact ⟨.ref p2060, rfl, q p2060 us _ (Mus.same0 (Mus.baseS (((Mus.refl _).trans (Mus.of e2061)).trans (Mus.of e2074)) m2076 (allC (.inl f2066) all0))) f2066 h1 rr⟩
/-! ### bounds narrowed by pairs -/
def nstep (s : List (Int × Int)) (t : Int × Int) : List (Int × Int) :=
  (s.set t.1.toNat ((s.getD t.1.toNat (0, 0)).1, min (s.getD t.1.toNat (0, 0)).2 (s.getD t.2.toNat (0, 0)).2)).set t.2.toNat
    (max ((s.set t.1.toNat ((s.getD t.1.toNat (0, 0)).1, min (s.getD t.1.toNat (0, 0)).2 (s.getD t.2.toNat (0, 0)).2)).getD t.2.toNat (0, 0)).1 ((s.set t.1.toNat ((s.getD t.1.toNat (0, 0)).1, min (s.getD t.1.toNat (0, 0)).2 (s.getD t.2.toNat (0, 0)).2)).getD t.1.toNat (0, 0)).1,
     ((s.set t.1.toNat ((s.getD t.1.toNat (0, 0)).1, min (s.getD t.1.toNat (0, 0)).2 (s.getD t.2.toNat (0, 0)).2)).getD t.2.toNat (0, 0)).2)
theorem narrowed_eq (b p : List (Int × Int)) : m_narrowed b p = (List.range b.length).foldl (fun s _ => p.foldl nstep s) b := rfl
theorem nstep_len (s : List (Int × Int)) (t : Int × Int) : (nstep s t).length = s.length := by unfold nstep; rw [List.length_set, List.length_set]
theorem narrowed_len (b p : List (Int × Int)) : (m_narrowed b p).length = b.length := by
  rw [narrowed_eq]
  exact fold_inv (P := fun s : List (Int × Int) => s.length = b.length) rfl fun s _ _ hs => fold_inv (P := fun s : List (Int × Int) => s.length = b.length) hs fun s t _ hs => by rw [nstep_len]; exact hs

def m_with_pairs (x0 : (List (Int × Int))) (x1 : (List (Int × Int))) : (List (Int × Int)) := (m_narrowed x0 x1)
theorem ok_with_pairs (T : Txt K mg) : Ok P w K mg base CX0 5 "with_pairs" ["bounds", "pairs"] (sl2 K ((fun b p => (BOk b ∧ p.length ≤ 42 ∧ ∀ t ∈ p, (0 ≤ t.1 ∧ t.1 < b.length) ∧ (0 ≤ t.2 ∧ t.2 < b.length) ∧ t.1 ≠ t.2) ∧ ∀ t ∈ m_narrowed b p, t.1 ≤ t.2) : (List (Int × Int)) → (List (Int × Int)) → Prop) m_with_pairs) := by
  refine ok_of T.d_with_pairs sc_with_pairs (bi2 fun _ _ _ _ _ _ _ _ => rfl) len_sl2 (fun f cdv A outer s H vs Q E hr h => ?_)
  have nd := sc_with_pairs.nd
  obtain ⟨v0, v1, x0, x1, rfl, r0, r1, hp, q⟩ := h
  refine ⟨_, (pss_cons (ps_expr (pe_fn (ok_check_bounds T) (hr.mono (by decide)) pass0 (pa_cons (pv 0) pa_nil)))
      (pss_cons (ps_expr (pe_fn (ok_check_pairs T) (hr.mono (by decide)) pass0 (pa_cons (pv 0) (pa_cons (pv 1) pa_nil))))
      (pss_one (ps_ret (pe_fn (ok_checked_facts T) (hr.mono (by decide)) pass0 (pa_cons (pe_fn (ok_narrowed T) (hr.mono (by decide)) pass0 (pa_cons (pv 0) (pa_cons (pv 1) pa_nil))) pa_nil)))))), ?_⟩
  refine q_drop (K := K) (er_call1 (er_var rfl r0) (by exact hp.1.1)) (fun _ e2106 => ?_)
  refine q_drop (K := K) (er_call2 (er_var rfl (Rp.mono (SF.of e2106) r0)) (er_var rfl (Rp.mono (SF.of e2106) r1)) (by exact hp.1)) (fun _ e2107 => ?_)
  exact s_retL (K := K) (erl_thru (erl_call2 (er_var rfl (Rp.mono ((SF.of e2106).trans (SF.of e2107)) r0)) (er_var rfl (Rp.mono ((SF.of e2106).trans (SF.of e2107)) r1)) (by exact hp.1)) (by have := hp.1.1.2.1; exact ⟨by rw [narrowed_len]; omega, hp.2⟩)) (fun p us _ e2108 hn h1 rr => q p us _ ((e2106.trans e2107).trans e2108) ((e2106.trans e2107).free hn) h1 rr)
def m_can_be_pairs (x0 : (List (Int × Int))) (x1 : (List (Int × Int))) : Bool := (((m_narrowed x0 x1).map (fun (x2119 : (Int × Int)) => (decide (x2119.1 ≤ x2119.2)))).all id)
theorem ok_can_be_pairs (T : Txt K mg) : Ok P w K mg base CX0 5 "can_be_pairs" ["bounds", "pairs"] (sp2 K ((fun b p => BOk b ∧ p.length ≤ 42 ∧ ∀ t ∈ p, (0 ≤ t.1 ∧ t.1 < b.length) ∧ (0 ≤ t.2 ∧ t.2 < b.length) ∧ t.1 ≠ t.2) : (List (Int × Int)) → (List (Int × Int)) → Prop) m_can_be_pairs) := by
  refine ok_of T.d_can_be_pairs sc_can_be_pairs (bi2 fun _ _ _ _ _ _ _ _ => rfl) len_sp2 (fun f cdv A outer s H vs Q E hr h => ?_)
  have nd := sc_can_be_pairs.nd
  obtain ⟨v0, v1, x0, x1, rfl, r0, r1, hp, q⟩ := h
  refine ⟨_, (pss_cons (ps_expr (pe_fn (ok_check_bounds T) (hr.mono (by decide)) pass0 (pa_cons (pv 0) pa_nil)))
      (pss_cons (ps_expr (pe_fn (ok_check_pairs T) (hr.mono (by decide)) pass0 (pa_cons (pv 0) (pa_cons (pv 1) pa_nil))))
      (pss_one (ps_ret (pe_callB (k_all K rfl rfl) (by rfl) T.n_all (by decide +kernel) (pa_cons (pe_frz (pe_lc (own := [("low", 2), ("high", 3)]) rfl nd (k_pl K rfl (pe_frz (pe_fn (ok_narrowed T) (hr.mono (by decide)) pass0 (pa_cons (pv 0) (pa_cons (pv 1) pa_nil))))) (blkOk_by (N := N_can_be_pairs) (sc := defScope s_can_be_pairs) (by decide +kernel)) (fun _ _ _ _ _ => (k_gt K rfl 2 rfl (pgs_cons (pg_name (i := 2) nd rfl (.inl rfl) (.inr rfl)) (pgs_cons (pg_name (i := 3) nd rfl (.inl rfl) (.inr rfl)) pgs_nil)))) (fun _ _ _ _ _ => pts_nil) (fun _ _ _ _ _ => (pe_cmpR op_le (pv 2) (pv 3) (nomark _))))) pa_nil)))))), ?_⟩
  refine q_drop (K := K) (er_call1 (er_var rfl r0) (by exact hp.1)) (fun _ e2116 => ?_)
  refine q_drop (K := K) (er_call2 (er_var rfl (Rp.mono (SF.of e2116) r0)) (er_var rfl (Rp.mono (SF.of e2116) r1)) (by exact hp)) (fun _ e2117 => ?_)
  exact s_ret (K := K) (er_all (er_frz (erl_lm2 (f := fun (x2119 : (Int × Int)) => (decide (x2119.1 ≤ x2119.2))) (src_list (er_frz (erl_call2 (er_var rfl (Rp.mono ((SF.of e2116).trans (SF.of e2117)) r0)) (er_var rfl (Rp.mono ((SF.of e2116).trans (SF.of e2117)) r1)) (by exact hp)))) (by have := hp.1.2.1; rw [narrowed_len]; omega) (by intros; rfl) (fun x2119 hx2120 v2121 v2122 _ e2118 r2123 r2124 => (er_op (er_var rfl r2123) (er_var rfl r2124) rr_le))))) (fun u _ e2125 rr => q u _ ((e2116.trans e2117).trans e2125) rr)
theorem wv_ord {b : List (Int × Int)} {k l h : Int} (hp : BOk b ∧ (0 ≤ k ∧ k < b.length) ∧ (-50 ≤ l ∧ l ≤ h ∧ h ≤ 50) ∧ max l (b.getD k.toNat (0, 0)).1 ≤ min h (b.getD k.toNat (0, 0)).2) : ∀ t ∈ b.set k.toNat (max l (b.getD k.toNat (0, 0)).1, min h (b.getD k.toNat (0, 0)).2), t.1 ≤ t.2 := fun t ht => by
  rcases List.mem_or_eq_of_mem_set ht with q | q
  · exact ord_of hp.1 t q
  · subst q; exact hp.2.2.2
def m_with_value (x0 : (List (Int × Int))) (x1 : Int) (x2 : Int) (x3 : Int) : (List (Int × Int)) := (x0.set ((x1).toNat) ((max x2 (((x0).getD (x1).toNat (0, 0)).1)), (min x3 (((x0).getD (x1).toNat (0, 0)).2))))
theorem ok_with_value (T : Txt K mg) : Ok P w K mg base CX0 5 "with_value" ["bounds", "place", "low", "high"] (sl4 K ((fun b k l h => BOk b ∧ (0 ≤ k ∧ k < b.length) ∧ (-50 ≤ l ∧ l ≤ h ∧ h ≤ 50) ∧ max l (b.getD k.toNat (0, 0)).1 ≤ min h (b.getD k.toNat (0, 0)).2) : (List (Int × Int)) → Int → Int → Int → Prop) m_with_value) := by
  refine ok_of T.d_with_value sc_with_value (bi4 fun _ _ _ _ _ _ _ _ _ _ => rfl) len_sl4 (fun f cdv A outer s H vs Q E hr h => ?_)
  have nd := sc_with_value.nd
  obtain ⟨v0, v1, v2, v3, x0, x1, x2, x3, rfl, r0, r1, r2, r3, hp, q⟩ := h
  refine ⟨_, (pss_cons (ps_expr (pe_fn (ok_check_bounds T) (hr.mono (by decide)) pass0 (pa_cons (pv 0) pa_nil)))
      (pss_cons (ps_expr (pe_fn (ok_check_place T) (hr.mono (by decide)) pass0 (pa_cons (pv 0) (pa_cons (pv 1) pa_nil))))
      (pss_cons (ps_if (PW.pt (pw_or (pt_not (pt_val (pe_fn (ok_is_int T) (hr.mono (by decide)) pass0 (pa_cons (pv 2) (pa_cons (pe_un un_neg pe_int) (pa_cons pe_int pa_nil)))))) (pw_or1 (pt_not (pt_val (pe_fn (ok_is_int T) (hr.mono (by decide)) pass0 (pa_cons (pv 3) (pa_cons (pv 2) (pa_cons pe_int pa_nil))))))))) (pss_one ps_never) pss_nil)
      (pss_cons (ps_set (i := 4) nd rfl (.inl rfl) (pe_callTy (k_list K rfl) (by rfl) T.n_list (by decide +kernel) (pa_cons (pv 0) pa_nil)))
      (pss_cons (ps_asg (pe_tup (pa_cons (pe_callB (call_max2 rfl) (by rfl) T.n_max (by decide +kernel) (pa_cons (pv 2) (pa_cons (pe_ix (k_ixt K rfl) (pe_ix (k_ixl K rfl) (pv 0) (pv 1) (fun _ _ => rfl)) pe_int (fun _ _ => rfl)) pa_nil))) (pa_cons (pe_callB (call_min2 rfl) (by rfl) T.n_min (by decide +kernel) (pa_cons (pv 3) (pa_cons (pe_ix (k_ixt K rfl) (pe_ix (k_ixl K rfl) (pv 0) (pv 1) (fun _ _ => rfl)) pe_int (fun _ _ => rfl)) pa_nil))) pa_nil))) (pg_sub (pv 4) (pv 1) set_list))
      (pss_one (ps_ret (pe_fn (ok_checked_facts T) (hr.mono (by decide)) pass0 (pa_cons (pv 4) pa_nil))))))))), ?_⟩
  refine q_drop (K := K) (er_call1 (er_var rfl r0) (by exact hp.1)) (fun _ e2126 => ?_)
  refine q_drop (K := K) (er_call2 (er_var rfl (Rp.mono (SF.of e2126) r0)) (er_var rfl (Rp.mono (SF.of e2126) r1)) (by have := hp.1.2.1; exact ⟨by omega, hp.2.1⟩)) (fun _ e2127 => ?_)
  refine q_not (K := K) (et_or (et_not (et_B (er_call3 (er_var rfl (Rp.mono ((SF.of e2126).trans (SF.of e2127)) r2)) (er_neg er_int) er_int trivial))) (fun hsc => (et_not (et_B (er_call3 (er_var rfl (Rp.mono ((SF.of e2126).trans (SF.of e2127)) r3)) (er_var rfl (Rp.mono ((SF.of e2126).trans (SF.of e2127)) r2)) er_int trivial))))) (by simp [m_is_int]; omega) (fun _ e2128 => ?_)
  refine q_setL (K := K) (erl_list (er_var rfl (Rp.mono (((SF.of e2126).trans (SF.of e2127)).trans (SF.of e2128)) r0))) (fun p2129 _ _ e2130 hn2131 h2132 rl2133 => ?_)
  have f2135 := Mus.fresh ((((Mus.refl _).trans (Mus.of e2126)).trans (Mus.of e2127)).trans (Mus.of e2128)) nin0 hn2131
  have u2134 := Un.of h2132 rl2133
  have r2136 := (Rp.mono ((((SF.of e2126).trans (SF.of e2127)).trans (SF.of e2128)).trans (SF.of e2130)) r0)
  have r2137 := (Rp.mono ((((SF.of e2126).trans (SF.of e2127)).trans (SF.of e2128)).trans (SF.of e2130)) r1)
  have r2138 := (Rp.mono ((((SF.of e2126).trans (SF.of e2127)).trans (SF.of e2128)).trans (SF.of e2130)) r2)
  have r2139 := (Rp.mono ((((SF.of e2126).trans (SF.of e2127)).trans (SF.of e2128)).trans (SF.of e2130)) r3)
  refine q_setI (K := K) rfl u2134 (er_pair (er_max2 (er_var rfl r2138) (er_op (er_op (er_var rfl r2136) (er_var rfl r2137) (rr_ixI (x := ((x0).getD (x1).toNat (0, 0))) (n := (x1).toNat) (by have := hp.2.1; omega) (by first | exact getD_at (by have := hp.2.1; omega) | (have := hp.2.1; omega)))) er_int rr_ixP0)) (er_min2 (er_var rfl r2139) (er_op (er_op (er_var rfl r2136) (er_var rfl r2137) (rr_ixI (x := ((x0).getD (x1).toNat (0, 0))) (n := (x1).toNat) (by have := hp.2.1; omega) (by first | exact getD_at (by have := hp.2.1; omega) | (have := hp.2.1; omega)))) er_int rr_ixP1))) (er_dn (n := (x1).toNat) (er_var rfl r2137) (by have := hp.2.1; omega)) (by first | exact getD_at (by have := hp.2.1; omega) | (have := hp.2.1; omega)) (fun _ m2140 u2141 => ?_)
  refine s_retThru (K := K) rfl u2141 (by exact ⟨by have := hp.1.2.1; simp; omega, fun t ht => wv_ord hp t ht⟩) (fun _ us e2142 h1 rr => ?_)
  exact q p2129 us _ (Mus.same0 ((Mus.mut (((((Mus.refl _).trans (Mus.of e2126)).trans (Mus.of e2127)).trans (Mus.of e2128)).trans (Mus.of e2130)) f2135 m2140).trans (Mus.of e2142))) f2135 h1 rr
def m_met (x0 : (List (Int × Int))) (x1 : (List (Int × Int))) : (List (Int × Int)) := ((x0.zip x1).map (fun (x2154 : ((Int × Int) × (Int × Int))) => ((max x2154.1.1 x2154.2.1), (min x2154.1.2 x2154.2.2))))
theorem ok_met (T : Txt K mg) : Ok P w K mg base CX0 5 "met" ["one", "other"] (sl2 K ((fun a b => BOk a ∧ BOk b ∧ a.length = b.length ∧ ∀ t ∈ a.zip b, max t.1.1 t.2.1 ≤ min t.1.2 t.2.2) : (List (Int × Int)) → (List (Int × Int)) → Prop) m_met) := by
  refine ok_of T.d_met sc_met (bi2 fun _ _ _ _ _ _ _ _ => rfl) len_sl2 (fun f cdv A outer s H vs Q E hr h => ?_)
  have nd := sc_met.nd
  obtain ⟨v0, v1, x0, x1, rfl, r0, r1, hp, q⟩ := h
  refine ⟨_, (pss_cons (ps_expr (pe_fn (ok_check_bounds T) (hr.mono (by decide)) pass0 (pa_cons (pv 0) pa_nil)))
      (pss_cons (ps_expr (pe_fn (ok_check_bounds T) (hr.mono (by decide)) pass0 (pa_cons (pv 1) pa_nil)))
      (pss_cons (ps_if (pt_cmpR op_ne (pe_callB (k_len K rfl) (by rfl) T.n_len PySem.boot_len (pa_cons (pv 0) pa_nil)) (pe_callB (k_len K rfl) (by rfl) T.n_len PySem.boot_len (pa_cons (pv 1) pa_nil)) (nomark _)) (pss_one ps_never) pss_nil)
      (pss_one (ps_ret (pe_fn (ok_checked_facts T) (hr.mono (by decide)) pass0 (pa_cons (pe_lc (own := [("a", 2), ("b", 3)]) rfl nd (k_pz K rfl (by rfl) T.n_zip (pa_cons (pv 0) (pa_cons (pv 1) pa_nil))) (blkOk_by (N := N_met) (sc := defScope s_met) (by decide +kernel)) (fun _ _ _ _ _ => (k_gt K rfl 2 rfl (pgs_cons (pg_name (i := 2) nd rfl (.inl rfl) (.inr rfl)) (pgs_cons (pg_name (i := 3) nd rfl (.inl rfl) (.inr rfl)) pgs_nil)))) (fun _ _ _ _ _ => pts_nil) (fun _ _ _ _ _ => (pe_tup (pa_cons (pe_callB (call_max2 rfl) (by rfl) T.n_max (by decide +kernel) (pa_cons (pe_ix (k_ixt K rfl) (pv 2) pe_int (fun _ _ => rfl)) (pa_cons (pe_ix (k_ixt K rfl) (pv 3) pe_int (fun _ _ => rfl)) pa_nil))) (pa_cons (pe_callB (call_min2 rfl) (by rfl) T.n_min (by decide +kernel) (pa_cons (pe_ix (k_ixt K rfl) (pv 2) pe_int (fun _ _ => rfl)) (pa_cons (pe_ix (k_ixt K rfl) (pv 3) pe_int (fun _ _ => rfl)) pa_nil))) pa_nil))))) pa_nil))))))), ?_⟩
  refine q_drop (K := K) (er_call1 (er_var rfl r0) (by first | exact hp | exact hp.1 | exact hp.2.1)) (fun _ e2150 => ?_)
  refine q_drop (K := K) (er_call1 (er_var rfl (Rp.mono (SF.of e2150) r1)) (by first | exact hp | exact hp.1 | exact hp.2.1)) (fun _ e2151 => ?_)
  refine q_not (K := K) (et_test (er_op (er_up (er_len (er_var rfl (Rp.mono (SF.of (e2150.trans e2151)) r0)))) (er_up (er_len (er_var rfl (Rp.mono (SF.of (e2150.trans e2151)) r1)))) rr_neI)) (by simp; omega) (fun _ e2152 => ?_)
  exact s_retL (K := K) (erl_thru (erl_lm2 (f := fun (x2154 : ((Int × Int) × (Int × Int))) => ((max x2154.1.1 x2154.2.1), (min x2154.1.2 x2154.2.2))) (src_zip (er_var rfl (Rp.mono (SF.of ((e2150.trans e2151).trans e2152)) r0)) (er_var rfl (Rp.mono (SF.of ((e2150.trans e2151).trans e2152)) r1))) (by have := hp.1.2.1; simp; omega) (by intros; rfl) (fun x2154 hx2155 v2156 v2157 _ e2153 r2158 r2159 => (er_pair (er_max2 (er_op (er_var rfl r2158) er_int rr_ixP0) (er_op (er_var rfl r2159) er_int rr_ixP0)) (er_min2 (er_op (er_var rfl r2158) er_int rr_ixP1) (er_op (er_var rfl r2159) er_int rr_ixP1))))) (by exact ⟨by have := hp.1.2.1; simp; omega, fun t ht => by obtain ⟨s, hs, rfl⟩ := List.mem_map.mp ht; exact hp.2.2.2 s hs⟩)) (fun p us _ e2160 hn h1 rr => q p us _ (((e2150.trans e2151).trans e2152).trans e2160) (((e2150.trans e2151).trans e2152).free hn) h1 rr)
def m_as_fractionsI (x0 : (Int × Int)) : (List (Int × Int)) := (([x0.1, x0.2]).map (fun (x2167 : Int) => (x2167, (1 : Int))))
theorem ok_as_fractions (T : Txt K mg) : Ok P w K mg base CX0 1 "as_fractions" ["pair"] (sl1 K ((fun _ => True) : (Int × Int) → Prop) m_as_fractionsI) := by
  refine ok_of T.d_as_fractions sc_as_fractions (bi1 fun _ _ _ _ _ _ _ => rfl) len_sl1 (fun f cdv A outer s H vs Q E hr h => ?_)
  have nd := sc_as_fractions.nd
  obtain ⟨v0, x0, rfl, r0, hp, q⟩ := h
  refine ⟨_, (pss_one (ps_ret (pe_lc (own := [("one", 1)]) rfl nd (k_pt K rfl (pv 0)) (blkOk_by (N := N_as_fractions) (sc := defScope s_as_fractions) (by decide +kernel)) (fun _ _ _ _ _ => (pg_name (i := 1) nd rfl (.inl rfl) (.inr rfl))) (fun _ _ _ _ _ => pts_nil) (fun _ _ _ _ _ => (pe_ifExp (pt_val (pe_callB (k_isi K rfl) (by rfl) T.n_isinstance (by decide +kernel) (pa_cons (pv 1) (pa_cons (pe_bltn (v := .ty "tuple") (by rfl) T.n_tuple (by decide +kernel) rfl) pa_nil)))) (pv 1) (pe_tup (pa_cons (pv 1) (pa_cons pe_int pa_nil)))))))), ?_⟩
  exact s_retL (K := K) (erl_lm1 (f := fun (x2167 : Int) => (x2167, (1 : Int))) (src_two (er_var rfl r0)) (by simp) (by intros; rfl) (fun x2167 hx2168 v2169 _ e2166 r2170 => (er_ifF (et_B (er_isi (b := false) (er_var rfl r2170) (show kitB "int" "tuple" = some false from by decide))) (er_pair (er_var rfl r2170) er_int)))) (fun p us _ e2171 hn h1 rr => q p us _ e2171 ((Same.refl _).free hn) h1 rr)
def m_as_fractionsF (x0 : ((Int × Int) × (Int × Int))) : (List (Int × Int)) := (([x0.1, x0.2]).map (fun (x2178 : (Int × Int)) => x2178))
theorem ok_as_fractions_2 (T : Txt K mg) : Ok P w K mg base CX0 1 "as_fractions" ["pair"] (sl1 K ((fun _ => True) : ((Int × Int) × (Int × Int)) → Prop) m_as_fractionsF) := by
  refine ok_of T.d_as_fractions sc_as_fractions (bi1 fun _ _ _ _ _ _ _ => rfl) len_sl1 (fun f cdv A outer s H vs Q E hr h => ?_)
  have nd := sc_as_fractions.nd
  obtain ⟨v0, x0, rfl, r0, hp, q⟩ := h
  refine ⟨_, (pss_one (ps_ret (pe_lc (own := [("one", 1)]) rfl nd (k_pt K rfl (pv 0)) (blkOk_by (N := N_as_fractions) (sc := defScope s_as_fractions) (by decide +kernel)) (fun _ _ _ _ _ => (pg_name (i := 1) nd rfl (.inl rfl) (.inr rfl))) (fun _ _ _ _ _ => pts_nil) (fun _ _ _ _ _ => (pe_ifExp (pt_val (pe_callB (k_isi K rfl) (by rfl) T.n_isinstance (by decide +kernel) (pa_cons (pv 1) (pa_cons (pe_bltn (v := .ty "tuple") (by rfl) T.n_tuple (by decide +kernel) rfl) pa_nil)))) (pv 1) (pe_tup (pa_cons (pv 1) (pa_cons pe_int pa_nil)))))))), ?_⟩
  exact s_retL (K := K) (erl_lm1 (f := fun (x2178 : (Int × Int)) => x2178) (src_two (er_var rfl r0)) (by simp) (by intros; rfl) (fun x2178 hx2179 v2180 _ e2177 r2181 => (er_ifT (et_B (er_isi (b := true) (er_var rfl r2181) (show kitB "tuple" "tuple" = some true from by decide))) (er_var rfl r2181)))) (fun p us _ e2182 hn h1 rr => q p us _ e2182 ((Same.refl _).free hn) h1 rr)
def m_figure_range (x0 : (List (Int × Int))) (x1 : Str) : (List (Int × Int)) := (if (decide (x1 = ("sum" : Str))) = true then (m_as_fractionsI (m_sum_range x0)) else (if (decide (x1 = ("mean" : Str))) = true then (m_as_fractionsF (m_mean_range x0)) else (if (decide (x1 = ("median" : Str))) = true then (m_as_fractionsF (m_median_range x0)) else (m_as_fractionsI (if (decide (x1 = ("least" : Str))) = true then (m_least_range x0) else (m_greatest_range x0))))))
theorem ok_figure_range (T : Txt K mg) : Ok P w K mg base CX0 6 "figure_range" ["bounds", "figure"] (sl2 K ((fun b _ => BOk b) : (List (Int × Int)) → Str → Prop) m_figure_range) := by
  refine ok_of T.d_figure_range sc_figure_range (bi2 fun _ _ _ _ _ _ _ _ => rfl) len_sl2 (fun f cdv A outer s H vs Q E hr h => ?_)
  have nd := sc_figure_range.nd
  obtain ⟨v0, v1, x0, x1, rfl, r0, r1, hp, q⟩ := h
  refine ⟨_, (pss_cons (ps_if (pt_cmpR op_eq (pv 1) pe_str (nomark _)) (pss_one (ps_ret (pe_fn (ok_as_fractions T) (hr.mono (by decide)) pass0 (pa_cons (pe_fn (ok_sum_range T) (hr.mono (by decide)) pass0 (pa_cons (pv 0) pa_nil)) pa_nil)))) pss_nil)
      (pss_cons (ps_if (pt_cmpR op_eq (pv 1) pe_str (nomark _)) (pss_one (ps_ret (pe_fn (ok_as_fractions_2 T) (hr.mono (by decide)) pass0 (pa_cons (pe_fn (ok_mean_range T) (hr.mono (by decide)) pass0 (pa_cons (pv 0) pa_nil)) pa_nil)))) pss_nil)
      (pss_cons (ps_if (pt_cmpR op_eq (pv 1) pe_str (nomark _)) (pss_one (ps_ret (pe_fn (ok_as_fractions_2 T) (hr.mono (by decide)) pass0 (pa_cons (pe_fn (ok_median_range T) (hr.mono (by decide)) pass0 (pa_cons (pv 0) pa_nil)) pa_nil)))) pss_nil)
      (pss_one (ps_ret (pe_fn (ok_as_fractions T) (hr.mono (by decide)) pass0 (pa_cons (pe_ifExp (pt_cmpR op_eq (pv 1) pe_str (nomark _)) (pe_fn (ok_least_range T) (hr.mono (by decide)) pass0 (pa_cons (pv 0) pa_nil)) (pe_fn (ok_greatest_range T) (hr.mono (by decide)) pass0 (pa_cons (pv 0) pa_nil))) pa_nil))))))), ?_⟩
  refine q_when (K := K) (et_test (er_op (er_var rfl r1) er_str rr_eqS)) (fun hc2184 _ e2183 => ?_) (fun hc2184 _ e2183 => ?_)
  ·
    exact s_retL (K := K) (erl_call1 (er_call1 (er_var rfl (Rp.mono (SF.of e2183) r0)) (by exact hp)) trivial) (fun p us _ e2185 hn h1 rr => q p us _ (e2183.trans e2185) (e2183.free hn) h1 (by rw [(show m_figure_range x0 x1 = (m_as_fractionsI (m_sum_range x0)) from by unfold m_figure_range; rw [if_pos hc2184])]; exact rr))
  ·
    refine q_when (K := K) (et_test (er_op (er_var rfl (Rp.mono (SF.of e2183) r1)) er_str rr_eqS)) (fun hc2187 _ e2186 => ?_) (fun hc2187 _ e2186 => ?_)
    ·
      exact s_retL (K := K) (erl_call1 (er_call1 (er_var rfl (Rp.mono (SF.of (e2183.trans e2186)) r0)) (by exact hp)) trivial) (fun p us _ e2188 hn h1 rr => q p us _ ((e2183.trans e2186).trans e2188) ((e2183.trans e2186).free hn) h1 (by rw [(show m_figure_range x0 x1 = (m_as_fractionsF (m_mean_range x0)) from by unfold m_figure_range; rw [if_neg (by rw [hc2184]; exact Bool.false_ne_true)]; rw [if_pos hc2187])]; exact rr))
    ·
      refine q_when (K := K) (et_test (er_op (er_var rfl (Rp.mono (SF.of (e2183.trans e2186)) r1)) er_str rr_eqS)) (fun hc2190 _ e2189 => ?_) (fun hc2190 _ e2189 => ?_)
      ·
        exact s_retL (K := K) (erl_call1 (er_call1 (er_var rfl (Rp.mono (SF.of ((e2183.trans e2186).trans e2189)) r0)) (by exact hp)) trivial) (fun p us _ e2191 hn h1 rr => q p us _ (((e2183.trans e2186).trans e2189).trans e2191) (((e2183.trans e2186).trans e2189).free hn) h1 (by rw [(show m_figure_range x0 x1 = (m_as_fractionsF (m_median_range x0)) from by unfold m_figure_range; rw [if_neg (by rw [hc2184]; exact Bool.false_ne_true)]; rw [if_neg (by rw [hc2187]; exact Bool.false_ne_true)]; rw [if_pos hc2190])]; exact rr))
      ·
        exact s_retL (K := K) (erl_call1 (er_if (et_test (er_op (er_var rfl (Rp.mono (SF.of ((e2183.trans e2186).trans e2189)) r1)) er_str rr_eqS)) (fun hif => (er_call1 (er_var rfl (Rp.mono (SF.of ((e2183.trans e2186).trans e2189)) r0)) (by exact hp))) (fun hif => (er_call1 (er_var rfl (Rp.mono (SF.of ((e2183.trans e2186).trans e2189)) r0)) (by exact hp)))) trivial) (fun p us _ e2192 hn h1 rr => q p us _ (((e2183.trans e2186).trans e2189).trans e2192) (((e2183.trans e2186).trans e2189).free hn) h1 (by rw [(show m_figure_range x0 x1 = (m_as_fractionsI (if (decide (x1 = ("least" : Str))) = true then (m_least_range x0) else (m_greatest_range x0))) from by unfold m_figure_range; rw [if_neg (by rw [hc2184]; exact Bool.false_ne_true)]; rw [if_neg (by rw [hc2187]; exact Bool.false_ne_true)]; rw [if_neg (by rw [hc2190]; exact Bool.false_ne_true)])]; exact rr))
theorem fig_len (b : List (Int × Int)) (f : Str) : (m_figure_range b f).length = 2 := by
  unfold m_figure_range
  repeat' split
  all_goals rfl
theorem mid_den' (l : List Int) : 0 < (m_middle l).2 ∧ (m_middle l).2 ≤ 2 := by
  unfold m_middle
  exact frI_le (by decide)
theorem mean_den {b : List (Int × Int)} (h : BOk b) : (0 < (m_mean_range b).1.2 ∧ (m_mean_range b).1.2 ≤ 7) ∧ 0 < (m_mean_range b).2.2 ∧ (m_mean_range b).2.2 ≤ 7 := by
  have h1 := h.1; have h2 := h.2.1
  unfold m_mean_range
  have a := frI_le (x := (m_lows b).sum) (n := (b.length : Int)) (by omega)
  have c := frI_le (x := (m_highs b).sum) (n := (b.length : Int)) (by omega)
  exact ⟨⟨a.1, Int.le_trans a.2 (by omega)⟩, c.1, Int.le_trans c.2 (by omega)⟩
theorem fig_den {b : List (Int × Int)} (h : BOk b) (f : Str) : (0 < ((m_figure_range b f).getD 0 (0, 0)).2 ∧ ((m_figure_range b f).getD 0 (0, 0)).2 ≤ 7) ∧ 0 < ((m_figure_range b f).getD 1 (0, 0)).2 ∧ ((m_figure_range b f).getD 1 (0, 0)).2 ≤ 7 := by
  have m1 := mid_den' (m_lows b)
  have m2 := mid_den' (m_highs b)
  have mm := mean_den h
  unfold m_figure_range
  split
  · exact ⟨⟨(show (0 : Int) < 1 by decide), (show (1 : Int) ≤ 7 by decide)⟩, (show (0 : Int) < 1 by decide), (show (1 : Int) ≤ 7 by decide)⟩
  · split
    · exact mm
    · split
      · exact ⟨⟨m1.1, Int.le_trans m1.2 (by decide)⟩, m2.1, Int.le_trans m2.2 (by decide)⟩
      · split <;> exact ⟨⟨(show (0 : Int) < 1 by decide), (show (1 : Int) ≤ 7 by decide)⟩, (show (0 : Int) < 1 by decide), (show (1 : Int) ≤ 7 by decide)⟩
theorem ok_check_figure (T : Txt K mg) : Ok P w K mg base CX0 1 "check_figure" ["figure"] (sp1 K ((fun f => f ∈ (["sum", "mean", "median", "least", "greatest"] : List Str)) : Str → Prop) (fun _ => ())) := by
  refine ok_of T.d_check_figure sc_check_figure (bi1 fun _ _ _ _ _ _ _ => rfl) len_sp1 (fun f cdv A outer s H vs Q E hr h => ?_)
  have nd := sc_check_figure.nd
  obtain ⟨v0, x0, rfl, r0, hp, q⟩ := h
  obtain ⟨a_FIGURES, g_FIGURES, t_FIGURES⟩ := T.c_FIGURES
  refine ⟨_, (pss_one (ps_if (PW.pt (pw_or (pt_not (pt_val (pe_callB (k_isi K rfl) (by rfl) T.n_isinstance (by decide +kernel) (pa_cons (pv 0) (pa_cons (pe_bltn (v := .ty "str") (by rfl) T.n_str (by decide +kernel) rfl) pa_nil))))) (pw_or1 (pt_cmpR (k_notIn K rfl) (pv 0) (pe_glob (v := .ref a_FIGURES) rfl g_FIGURES rfl) (by rfl))))) (pss_one ps_never) pss_nil)), ?_⟩
  refine s_not (K := K) (et_or (et_not (et_B (er_isi (b := true) (er_var rfl r0) (show kitB "str" "str" = some true from by decide)))) (fun _ => et_test (er_op (er_var rfl r0) (er_kt t_FIGURES) (rr_inST (n := true))))) (by rw [show decide (x0 ∈ (["sum", "mean", "median", "least", "greatest"] : List Str)) = true from decide_eq_true hp]; rfl) (fun _ e => q .non _ e rfl)
theorem mem_enum {α : Type} [Rp α] {l : List α} {p : Nat × α} (h : p ∈ enumL l) : p.2 ∈ l := by
  obtain ⟨i, hi⟩ := List.getElem?_of_mem h
  exact List.mem_of_getElem? (enumL_get hi).1
theorem figs_mem {l : List (List (Int × Int))} {f : Str} {y : List (Int × Int)} (hp : ∀ b ∈ l, BOk b) (h : y ∈ l.map (fun b => m_figure_range b f)) : y.length = 2 ∧ 0 < (y.getD 0 (0, 0)).2 ∧ (y.getD 0 (0, 0)).2 ≤ 7 ∧ 0 < (y.getD 1 (0, 0)).2 ∧ (y.getD 1 (0, 0)).2 ≤ 7 := by
  obtain ⟨b, hb, rfl⟩ := List.mem_map.mp h
  have := fig_den (hp b hb) f
  exact ⟨fig_len _ _, this.1.1, this.1.2, this.2.1, this.2.2⟩
theorem sum_bnd : ∀ {l : List Int}, (∀ x ∈ l, -50 ≤ x ∧ x ≤ 50) → -50 * (l.length : Int) ≤ l.sum ∧ l.sum ≤ 50 * (l.length : Int)
  | [], _ => by simp
  | x :: l, h => by
    have h1 := h x List.mem_cons_self
    have h2 := sum_bnd (l := l) fun y m => h y (List.mem_cons_of_mem _ m)
    rw [List.sum_cons, List.length_cons]
    omega
theorem sum_sz {l : List Int} (h7 : l.length ≤ 7) (h : ∀ x ∈ l, -50 ≤ x ∧ x ≤ 50) : Sz 2000 (l.sum, 1) := by
  have := sum_bnd h
  refine (show Sz 10 (l.sum, 1) from ⟨(show (0 : Int) < 1 by decide), (show (1 : Int).natAbs < 2 ^ 10 by decide), ?_⟩).le (by decide)
  show l.sum.natAbs < 2 ^ 10
  omega
theorem figs_sz {l : List (List (Int × Int))} {f : Str} {y : List (Int × Int)} (hf : f = ("sum" : Str)) (hp : ∀ b ∈ l, BOk b) (h : y ∈ l.map (fun b => m_figure_range b f)) : Sz 2000 (y.getD (0 : Int).toNat (0, 0)) ∧ Sz 2000 (y.getD (1 : Int).toNat (0, 0)) := by
  obtain ⟨b, hb, rfl⟩ := List.mem_map.mp h
  have hB := hp b hb
  subst hf
  have e : m_figure_range b ("sum" : Str) = [((m_lows b).sum, 1), ((m_highs b).sum, 1)] := by
    unfold m_figure_range
    rw [if_pos (by decide)]
    rfl
  rw [e]
  exact ⟨sum_sz (by rw [len_lows]; exact hB.2.1) fun x hx => by obtain ⟨q, hq, rfl⟩ := List.mem_map.mp hx; have := hB.2.2 q hq; omega, sum_sz (by rw [len_highs]; exact hB.2.1) fun x hx => by obtain ⟨q, hq, rfl⟩ := List.mem_map.mp hx; have := hB.2.2 q hq; omega⟩
def m_best_figures (x0 : (List (List (Int × Int)))) (x1 : Str) : (List Nat) := (mapIf (fun (x2236 : (Nat × (List (Int × Int)))) => (!(((x0.map (fun (x2228 : (List (Int × Int))) => (m_figure_range x2228 x1))).map (fun (x2243 : (List (Int × Int))) => (m_less ((x2236.2).getD ((1 : Int)).toNat (0, 0)) ((x2243).getD ((0 : Int)).toNat (0, 0))))).any id))) (fun (x2236 : (Nat × (List (Int × Int)))) => x2236.1) (enumL (x0.map (fun (x2228 : (List (Int × Int))) => (m_figure_range x2228 x1)))))
theorem ok_best_figures (T : Txt K mg) : Ok P w K mg base CX0 7 "best_figures" ["lists", "figure"] (sl2 K ((fun l f => 1 ≤ l.length ∧ l.length ≤ 5 ∧ (∀ b ∈ l, BOk b) ∧ f = ("sum" : Str)) : (List (List (Int × Int))) → Str → Prop) m_best_figures) := by
  refine ok_of T.d_best_figures sc_best_figures (bi2 fun _ _ _ _ _ _ _ _ => rfl) len_sl2 (fun f cdv A outer s H vs Q E hr h => ?_)
  have nd := sc_best_figures.nd
  obtain ⟨v0, v1, x0, x1, rfl, r0, r1, hp, q⟩ := h
  refine ⟨_, (pss_cons (ps_if (PW.pt (pw_or (pt_not (pt_val (pe_callB (k_isi K rfl) (by rfl) T.n_isinstance (by decide +kernel) (pa_cons (pv 0) (pa_cons (pe_bltn (v := .ty "list") (by rfl) T.n_list (by decide +kernel) rfl) pa_nil))))) (pw_or1 (pt_not (pt_chain op_le op_le pe_int (pe_callB (k_len K rfl) (by rfl) T.n_len PySem.boot_len (pa_cons (pv 0) pa_nil)) pe_int))))) (pss_one ps_never) pss_nil)
      (pss_cons (ps_for PassesOwn.never rfl (k_pl K rfl (pv 0)) (pg_name (i := 2) nd rfl (.inl rfl) (.inr rfl)) (pss_one (ps_expr (pe_fn (ok_check_bounds T) (hr.mono (by decide)) pass0 (pa_cons (pv 2) pa_nil)))))
      (pss_cons (ps_expr (pe_fn (ok_check_figure T) (hr.mono (by decide)) pass0 (pa_cons (pv 1) pa_nil)))
      (pss_cons (ps_set (i := 3) nd rfl (.inr rfl) (pe_frz (pe_lc (own := [("bounds", 2)]) rfl nd (k_pl K rfl (pv 0)) (blkOk_by (N := N_best_figures) (sc := defScope s_best_figures) (by decide +kernel)) (fun _ _ _ _ _ => (pg_name (i := 2) nd rfl (.inl rfl) (.inr rfl))) (fun _ _ _ _ _ => pts_nil) (fun _ _ _ _ _ => (pe_frz (pe_fn (ok_figure_range T) (hr.mono (by decide)) pass0 (pa_cons (pv 2) (pa_cons (pv 1) pa_nil))))))))
      (pss_one (ps_ret (pe_lc (own := [("k", 4), ("one", 5)]) rfl nd (k_pe K rfl (by rfl) T.n_enumerate (pa_cons (pv 3) pa_nil)) (blkOk_by (N := N_best_figures) (sc := defScope s_best_figures) (by decide +kernel)) (fun _ _ _ _ _ => (k_gt K rfl 2 rfl (pgs_cons (pg_name (i := 4) nd rfl (.inl rfl) (.inr rfl)) (pgs_cons (pg_name (i := 5) nd rfl (.inr rfl) (.inl rfl)) pgs_nil)))) (fun _ _ _ _ _ => (pts_one (pt_not (pt_val (pe_callB (k_any K rfl rfl) (by rfl) T.n_any (by decide +kernel) (pa_cons (pe_frz (pe_lc (own := [("other", 6)]) rfl nd (k_pl K rfl (pv 3)) (blkOk_by (N := N_best_figures) rfl) (fun _ _ _ _ _ => (pg_name (i := 6) nd rfl (.inl rfl) (.inr rfl))) (fun _ _ _ _ _ => pts_nil) (fun _ _ _ _ _ => (pe_fn (ok_less T) (hr.mono (by decide)) pass0 (pa_cons (pe_ix (k_ixl K rfl) (pv 5) pe_int (fun _ _ => rfl)) (pa_cons (pe_ix (k_ixl K rfl) (pv 6) pe_int (fun _ _ => rfl)) pa_nil)))))) pa_nil)))))) (fun _ _ _ _ _ => (pv 4))))))))), ?_⟩
  refine q_not (K := K) (et_or (et_not (et_B (er_isi (b := true) (er_var rfl r0) (show kitB "list" "list" = some true from by decide)))) (fun hsc => (et_not (et_test (er_chain er_int (er_up (er_len (er_var rfl r0))) er_int rr_le rr_le))))) (by have h1 := hp.1; have h2 := hp.2.1; simp; omega) (fun _ e2210 => ?_)
  -- for bounds in lists
  refine q_for (K := K) (src_list (er_var rfl (Rp.mono (SF.of e2210) r0))) (fun H1 k σ' H' => ∃ (y2212 : Option V), σ' = [some v0, some v1, y2212, none, none, none, none] ∧ Mus [] H1 H') (fun H1 e => ⟨_, rfl, Mus.refl _⟩) (fun _ _ _ _ h => by obtain ⟨_, _, m⟩ := h; exact m.sf) (fun H1 k2219 bounds_l1 σ' H' vbounds_l1 _ e2216 hx2215 hP e2217 rbounds_l1 => ?_) (fun H1 σ' H' e2216 hP => ?_)
  ·
    obtain ⟨y2212, rfl, m2218⟩ := hP
    refine s_gn ?_
    have hbounds_l1 := List.mem_of_getElem? hx2215
    refine q_last ?_
    have r2221 := (Rp.mono ((((SF.of e2210).trans (SF.of e2216)).trans m2218.sf).trans (SF.of e2217)) r0)
    have r2222 := (Rp.mono ((((SF.of e2210).trans (SF.of e2216)).trans m2218.sf).trans (SF.of e2217)) r1)
    refine q_drop (K := K) (er_call1 (er_var rfl rbounds_l1) (by exact hp.2.2.1 _ (by assumption))) (fun _ e2223 => ?_)
    refine s_nx ?_
    exact ⟨_, rfl, (((Mus.baseS (Mus.refl _) m2218 all0).trans (Mus.of e2217)).trans (Mus.of e2223))⟩
  ·
    obtain ⟨y2212, rfl, m2218⟩ := hP
    refine q_drop (K := K) (er_call1 (er_var rfl (Rp.mono (((SF.of e2210).trans (SF.of e2216)).trans m2218.sf) r1)) (by rw [hp.2.2.2]; decide)) (fun _ e2224 => ?_)
    have r2225 := (Rp.mono ((((SF.of e2210).trans (SF.of e2216)).trans m2218.sf).trans (SF.of e2224)) r0)
    have r2226 := (Rp.mono ((((SF.of e2210).trans (SF.of e2216)).trans m2218.sf).trans (SF.of e2224)) r1)
    refine q_set (K := K) (er_frz (erl_lm1 (f := fun (x2228 : (List (Int × Int))) => (m_figure_range x2228 x1)) (src_list (er_var rfl r2225)) (by first | (have := hp.2.1; omega) | (have := hp.2.1; simp [enumL_len]; omega)) (by intros; rfl) (fun x2228 hx2229 v2230 _ e2227 r2231 => (er_frz (erl_call2 (er_var rfl r2231) (er_var rfl (Rp.mono (SF.of e2227) r2226)) (by exact hp.2.2.1 _ (by assumption))))))) (fun v2234 _ e2232 r2233 => ?_)
    exact s_retL (K := K) (erl_lc2 (c := fun (x2236 : (Nat × (List (Int × Int)))) => (!(((x0.map (fun (x2228 : (List (Int × Int))) => (m_figure_range x2228 x1))).map (fun (x2243 : (List (Int × Int))) => (m_less ((x2236.2).getD ((1 : Int)).toNat (0, 0)) ((x2243).getD ((0 : Int)).toNat (0, 0))))).any id))) (f := fun (x2236 : (Nat × (List (Int × Int)))) => x2236.1) (src_enum (er_var rfl r2233)) (by first | (have := hp.2.1; omega) | (have := hp.2.1; simp [enumL_len]; omega)) (by intros; rfl) (fun x2236 hx2237 v2238 v2239 _ e2235 r2240 r2241 => ⟨(et_not (et_B (er_any (er_frz (erl_lm1 (f := fun (x2243 : (List (Int × Int))) => (m_less ((x2236.2).getD ((1 : Int)).toNat (0, 0)) ((x2243).getD ((0 : Int)).toNat (0, 0)))) (src_list (er_var rfl (Rp.mono (SF.of e2235) r2233))) (by first | (have := hp.2.1; omega) | (have := hp.2.1; simp [enumL_len]; omega)) (by intros; rfl) (fun x2243 hx2244 v2245 _ e2242 r2246 => (er_call2 (er_op (er_var rfl (Rp.mono (SF.of e2242) r2241)) er_int (rr_ixI (x := ((x2236.2).getD ((1 : Int)).toNat (0, 0))) (n := ((1 : Int)).toNat) (by rfl) (by first | exact getD_at (by rw [(figs_mem hp.2.2.1 (mem_enum (by assumption))).1]; decide) | exact getD_at (by rw [(figs_mem hp.2.2.1 (by assumption)).1]; decide)))) (er_op (er_var rfl r2246) er_int (rr_ixI (x := ((x2243).getD ((0 : Int)).toNat (0, 0))) (n := ((0 : Int)).toNat) (by rfl) (by first | exact getD_at (by rw [(figs_mem hp.2.2.1 (mem_enum (by assumption))).1]; decide) | exact getD_at (by rw [(figs_mem hp.2.2.1 (by assumption)).1]; decide)))) (by exact ⟨(figs_sz hp.2.2.2 hp.2.2.1 (mem_enum (by assumption))).2, (figs_sz hp.2.2.2 hp.2.2.1 (by assumption)).1⟩)))))))), fun _ => (er_var rfl r2240)⟩)) (fun p us _ e2247 hn h1 rr => q p us _ (Mus.same0 ((((Mus.baseS (((Mus.refl _).trans (Mus.of e2210)).trans (Mus.of e2216)) m2218 all0).trans (Mus.of e2224)).trans (Mus.of e2232)).trans (Mus.of e2247))) ((Mus.same0 (((Mus.baseS (((Mus.refl _).trans (Mus.of e2210)).trans (Mus.of e2216)) m2218 all0).trans (Mus.of e2224)).trans (Mus.of e2232))).free hn) h1 rr)
theorem ok_checked_changing (T : Txt K mg) : Ok P w K mg base CX0 4 "checked_changing" ["bounds"] (spThru K (fun l : List (Int × Int) => BOk l)) := by
  refine okA_of T.d_checked_changing sc_checked_changing (bi1 fun _ _ _ _ _ _ _ => rfl) (fun vs H Q E h => by obtain ⟨_, _, _, rfl, _⟩ := h; rfl) (fun f cdv A outer s H vs Q E hr h => ?_)
  have nd := sc_checked_changing.nd
  obtain ⟨p, us, l, rfl, h1, r, hp, q⟩ := h
  refine ⟨_, (pss_cons (ps_lock (ps_if (pt_not (pt_val (pe_fn (ok_is_bounds T) (hr.mono (by decide)) pass0 (pa_cons (pv 0) pa_nil)))) (pss_one ps_never) pss_nil))
      (pss_one (ps_ret (pv 0)))), ?_⟩
  refine q_lockd (K := K) h1 r (fun od r0 => ?_)
  refine s_not (K := K) (et_not (et_B (er_call1 (er_var rfl r0) (by have := hp.2.1; omega)))) (by rw [isBounds_ok hp]; rfl) (fun H1 e => ⟨e _ _ upd_same, ?_⟩)
  exact ⟨.ref p, rfl, q _ (same_lock h1 e)⟩
def m_moved (x0 : (List (Int × Int))) (x1 : Int) : (List (Int × Int)) := (x0.map (fun (x2258 : (Int × Int)) => ((x2258.1 + x1), (x2258.2 + x1))))
theorem ok_moved (T : Txt K mg) : Ok P w K mg base CX0 5 "moved" ["bounds", "by"] (sl2 K ((fun b k => BOk b ∧ (-100 ≤ k ∧ k ≤ 100) ∧ BOk (b.map fun x => (x.1 + k, x.2 + k))) : (List (Int × Int)) → Int → Prop) m_moved) := by
  refine ok_of T.d_moved sc_moved (bi2 fun _ _ _ _ _ _ _ _ => rfl) len_sl2 (fun f cdv A outer s H vs Q E hr h => ?_)
  have nd := sc_moved.nd
  obtain ⟨v0, v1, x0, x1, rfl, r0, r1, hp, q⟩ := h
  refine ⟨_, (pss_cons (ps_expr (pe_fn (ok_check_bounds T) (hr.mono (by decide)) pass0 (pa_cons (pv 0) pa_nil)))
      (pss_cons (ps_if (pt_not (pt_val (pe_fn (ok_is_int T) (hr.mono (by decide)) pass0 (pa_cons (pv 1) (pa_cons (pe_un un_neg pe_int) (pa_cons pe_int pa_nil)))))) (pss_one ps_never) pss_nil)
      (pss_one (ps_ret (pe_fn (ok_checked_changing T) (hr.mono (by decide)) pass0 (pa_cons (pe_lc (own := [("low", 2), ("high", 3)]) rfl nd (k_pl K rfl (pv 0)) (blkOk_by (N := N_moved) (sc := defScope s_moved) (by decide +kernel)) (fun _ _ _ _ _ => (k_gt K rfl 2 rfl (pgs_cons (pg_name (i := 2) nd rfl (.inl rfl) (.inr rfl)) (pgs_cons (pg_name (i := 3) nd rfl (.inl rfl) (.inr rfl)) pgs_nil)))) (fun _ _ _ _ _ => pts_nil) (fun _ _ _ _ _ => (pe_tup (pa_cons (pe_op op_add (pv 2) (pv 1)) (pa_cons (pe_op op_add (pv 3) (pv 1)) pa_nil))))) pa_nil)))))), ?_⟩
  refine q_drop (K := K) (er_call1 (er_var rfl r0) (by first | exact hp.1 | exact hp.2.1)) (fun _ e2255 => ?_)
  refine q_not (K := K) (et_not (et_B (er_call3 (er_var rfl (Rp.mono (SF.of e2255) r1)) (er_neg er_int) er_int trivial))) (by simp [m_is_int]; omega) (fun _ e2256 => ?_)
  exact s_retL (K := K) (erl_thru (erl_lm2 (f := fun (x2258 : (Int × Int)) => ((x2258.1 + x1), (x2258.2 + x1))) (src_list (er_var rfl (Rp.mono ((SF.of e2255).trans (SF.of e2256)) r0))) (by have := hp.1.2.1; omega) (by intros; rfl) (fun x2258 hx2259 v2260 v2261 _ e2257 r2262 r2263 => (er_pair (er_op (er_var rfl r2262) (er_var rfl (Rp.mono (SF.of e2257) (Rp.mono ((SF.of e2255).trans (SF.of e2256)) r1))) rr_add) (er_op (er_var rfl r2263) (er_var rfl (Rp.mono (SF.of e2257) (Rp.mono ((SF.of e2255).trans (SF.of e2256)) r1))) rr_add)))) (by exact hp.2.2)) (fun p us _ e2264 hn h1 rr => q p us _ ((e2255.trans e2256).trans e2264) ((e2255.trans e2256).free hn) h1 rr)
def scl (b : List (Int × Int)) (k : Int) : List (Int × Int) := b.map fun x => (min (x.1 * k) (x.2 * k), max (x.1 * k) (x.2 * k))
def m_scaled (x0 : (List (Int × Int))) (x1 : Int) : (List (Int × Int)) := (x0.map (fun (x2275 : (Int × Int)) => ((min (x2275.1 * x1) (x2275.2 * x1)), (max (x2275.1 * x1) (x2275.2 * x1)))))
theorem ok_scaled (T : Txt K mg) : Ok P w K mg base CX0 5 "scaled" ["bounds", "by"] (sl2 K ((fun b k => BOk b ∧ (-50 ≤ k ∧ k ≤ 50) ∧ BOk (scl b k)) : (List (Int × Int)) → Int → Prop) m_scaled) := by
  refine ok_of T.d_scaled sc_scaled (bi2 fun _ _ _ _ _ _ _ _ => rfl) len_sl2 (fun f cdv A outer s H vs Q E hr h => ?_)
  have nd := sc_scaled.nd
  obtain ⟨v0, v1, x0, x1, rfl, r0, r1, hp, q⟩ := h
  refine ⟨_, (pss_cons (ps_expr (pe_fn (ok_check_bounds T) (hr.mono (by decide)) pass0 (pa_cons (pv 0) pa_nil)))
      (pss_cons (ps_if (pt_not (pt_val (pe_fn (ok_is_int T) (hr.mono (by decide)) pass0 (pa_cons (pv 1) (pa_cons (pe_un un_neg pe_int) (pa_cons pe_int pa_nil)))))) (pss_one ps_never) pss_nil)
      (pss_one (ps_ret (pe_fn (ok_checked_changing T) (hr.mono (by decide)) pass0 (pa_cons (pe_lc (own := [("low", 2), ("high", 3)]) rfl nd (k_pl K rfl (pv 0)) (blkOk_by (N := N_scaled) (sc := defScope s_scaled) (by decide +kernel)) (fun _ _ _ _ _ => (k_gt K rfl 2 rfl (pgs_cons (pg_name (i := 2) nd rfl (.inl rfl) (.inr rfl)) (pgs_cons (pg_name (i := 3) nd rfl (.inl rfl) (.inr rfl)) pgs_nil)))) (fun _ _ _ _ _ => pts_nil) (fun _ _ _ _ _ => (pe_tup (pa_cons (pe_callB (call_min2 rfl) (by rfl) T.n_min (by decide +kernel) (pa_cons (pe_op op_mul (pv 2) (pv 1)) (pa_cons (pe_op op_mul (pv 3) (pv 1)) pa_nil))) (pa_cons (pe_callB (call_max2 rfl) (by rfl) T.n_max (by decide +kernel) (pa_cons (pe_op op_mul (pv 2) (pv 1)) (pa_cons (pe_op op_mul (pv 3) (pv 1)) pa_nil))) pa_nil))))) pa_nil)))))), ?_⟩
  refine q_drop (K := K) (er_call1 (er_var rfl r0) (by first | exact hp.1 | exact hp.2.1)) (fun _ e2272 => ?_)
  refine q_not (K := K) (et_not (et_B (er_call3 (er_var rfl (Rp.mono (SF.of e2272) r1)) (er_neg er_int) er_int trivial))) (by simp [m_is_int]; omega) (fun _ e2273 => ?_)
  exact s_retL (K := K) (erl_thru (erl_lm2 (f := fun (x2275 : (Int × Int)) => ((min (x2275.1 * x1) (x2275.2 * x1)), (max (x2275.1 * x1) (x2275.2 * x1)))) (src_list (er_var rfl (Rp.mono ((SF.of e2272).trans (SF.of e2273)) r0))) (by have := hp.1.2.1; omega) (by intros; rfl) (fun x2275 hx2276 v2277 v2278 _ e2274 r2279 r2280 => (er_pair (er_min2 (er_op (er_var rfl r2279) (er_var rfl (Rp.mono (SF.of e2274) (Rp.mono ((SF.of e2272).trans (SF.of e2273)) r1))) (rr_mul (by have h1 := hp.1.2.2 _ (by assumption); have h2 := hp.2.1; exact .inl ⟨by omega, by omega⟩))) (er_op (er_var rfl r2280) (er_var rfl (Rp.mono (SF.of e2274) (Rp.mono ((SF.of e2272).trans (SF.of e2273)) r1))) (rr_mul (by have h1 := hp.1.2.2 _ (by assumption); have h2 := hp.2.1; exact .inl ⟨by omega, by omega⟩)))) (er_max2 (er_op (er_var rfl r2279) (er_var rfl (Rp.mono (SF.of e2274) (Rp.mono ((SF.of e2272).trans (SF.of e2273)) r1))) (rr_mul (by have h1 := hp.1.2.2 _ (by assumption); have h2 := hp.2.1; exact .inl ⟨by omega, by omega⟩))) (er_op (er_var rfl r2280) (er_var rfl (Rp.mono (SF.of e2274) (Rp.mono ((SF.of e2272).trans (SF.of e2273)) r1))) (rr_mul (by have h1 := hp.1.2.2 _ (by assumption); have h2 := hp.2.1; exact .inl ⟨by omega, by omega⟩))))))) (by exact hp.2.2)) (fun p us _ e2281 hn h1 rr => q p us _ ((e2272.trans e2273).trans e2281) ((e2272.trans e2273).free hn) h1 rr)
def m_widened (x0 : (List (Int × Int))) (x1 : Int) : (List (Int × Int)) := (x0.map (fun (x2292 : (Int × Int)) => ((x2292.1 - x1), (x2292.2 + x1))))
theorem ok_widened (T : Txt K mg) : Ok P w K mg base CX0 5 "widened" ["bounds", "by"] (sl2 K ((fun b k => BOk b ∧ (0 ≤ k ∧ k ≤ 50) ∧ BOk (b.map fun x => (x.1 - k, x.2 + k))) : (List (Int × Int)) → Int → Prop) m_widened) := by
  refine ok_of T.d_widened sc_widened (bi2 fun _ _ _ _ _ _ _ _ => rfl) len_sl2 (fun f cdv A outer s H vs Q E hr h => ?_)
  have nd := sc_widened.nd
  obtain ⟨v0, v1, x0, x1, rfl, r0, r1, hp, q⟩ := h
  refine ⟨_, (pss_cons (ps_expr (pe_fn (ok_check_bounds T) (hr.mono (by decide)) pass0 (pa_cons (pv 0) pa_nil)))
      (pss_cons (ps_if (pt_not (pt_val (pe_fn (ok_is_int T) (hr.mono (by decide)) pass0 (pa_cons (pv 1) (pa_cons pe_int (pa_cons pe_int pa_nil)))))) (pss_one ps_never) pss_nil)
      (pss_one (ps_ret (pe_fn (ok_checked_changing T) (hr.mono (by decide)) pass0 (pa_cons (pe_lc (own := [("low", 2), ("high", 3)]) rfl nd (k_pl K rfl (pv 0)) (blkOk_by (N := N_widened) (sc := defScope s_widened) (by decide +kernel)) (fun _ _ _ _ _ => (k_gt K rfl 2 rfl (pgs_cons (pg_name (i := 2) nd rfl (.inl rfl) (.inr rfl)) (pgs_cons (pg_name (i := 3) nd rfl (.inl rfl) (.inr rfl)) pgs_nil)))) (fun _ _ _ _ _ => pts_nil) (fun _ _ _ _ _ => (pe_tup (pa_cons (pe_op op_sub (pv 2) (pv 1)) (pa_cons (pe_op op_add (pv 3) (pv 1)) pa_nil))))) pa_nil)))))), ?_⟩
  refine q_drop (K := K) (er_call1 (er_var rfl r0) (by first | exact hp.1 | exact hp.2.1)) (fun _ e2289 => ?_)
  refine q_not (K := K) (et_not (et_B (er_call3 (er_var rfl (Rp.mono (SF.of e2289) r1)) er_int er_int trivial))) (by simp [m_is_int]; omega) (fun _ e2290 => ?_)
  exact s_retL (K := K) (erl_thru (erl_lm2 (f := fun (x2292 : (Int × Int)) => ((x2292.1 - x1), (x2292.2 + x1))) (src_list (er_var rfl (Rp.mono ((SF.of e2289).trans (SF.of e2290)) r0))) (by have := hp.1.2.1; omega) (by intros; rfl) (fun x2292 hx2293 v2294 v2295 _ e2291 r2296 r2297 => (er_pair (er_op (er_var rfl r2296) (er_var rfl (Rp.mono (SF.of e2291) (Rp.mono ((SF.of e2289).trans (SF.of e2290)) r1))) rr_sub) (er_op (er_var rfl r2297) (er_var rfl (Rp.mono (SF.of e2291) (Rp.mono ((SF.of e2289).trans (SF.of e2290)) r1))) rr_add)))) (by exact hp.2.2)) (fun p us _ e2298 hn h1 rr => q p us _ ((e2289.trans e2290).trans e2298) ((e2289.trans e2290).free hn) h1 rr)
def m_added (x0 : (List (Int × Int))) (x1 : (List (Int × Int))) : (List (Int × Int)) := ((x0.zip x1).map (fun (x2310 : ((Int × Int) × (Int × Int))) => ((x2310.1.1 + x2310.2.1), (x2310.1.2 + x2310.2.2))))
theorem ok_added (T : Txt K mg) : Ok P w K mg base CX0 5 "added" ["one", "other"] (sl2 K ((fun a b => BOk a ∧ BOk b ∧ a.length = b.length ∧ BOk ((a.zip b).map fun x => (x.1.1 + x.2.1, x.1.2 + x.2.2))) : (List (Int × Int)) → (List (Int × Int)) → Prop) m_added) := by
  refine ok_of T.d_added sc_added (bi2 fun _ _ _ _ _ _ _ _ => rfl) len_sl2 (fun f cdv A outer s H vs Q E hr h => ?_)
  have nd := sc_added.nd
  obtain ⟨v0, v1, x0, x1, rfl, r0, r1, hp, q⟩ := h
  refine ⟨_, (pss_cons (ps_expr (pe_fn (ok_check_bounds T) (hr.mono (by decide)) pass0 (pa_cons (pv 0) pa_nil)))
      (pss_cons (ps_expr (pe_fn (ok_check_bounds T) (hr.mono (by decide)) pass0 (pa_cons (pv 1) pa_nil)))
      (pss_cons (ps_if (pt_cmpR op_ne (pe_callB (k_len K rfl) (by rfl) T.n_len PySem.boot_len (pa_cons (pv 0) pa_nil)) (pe_callB (k_len K rfl) (by rfl) T.n_len PySem.boot_len (pa_cons (pv 1) pa_nil)) (nomark _)) (pss_one ps_never) pss_nil)
      (pss_one (ps_ret (pe_fn (ok_checked_changing T) (hr.mono (by decide)) pass0 (pa_cons (pe_lc (own := [("a", 2), ("b", 3)]) rfl nd (k_pz K rfl (by rfl) T.n_zip (pa_cons (pv 0) (pa_cons (pv 1) pa_nil))) (blkOk_by (N := N_added) (sc := defScope s_added) (by decide +kernel)) (fun _ _ _ _ _ => (k_gt K rfl 2 rfl (pgs_cons (pg_name (i := 2) nd rfl (.inl rfl) (.inr rfl)) (pgs_cons (pg_name (i := 3) nd rfl (.inl rfl) (.inr rfl)) pgs_nil)))) (fun _ _ _ _ _ => pts_nil) (fun _ _ _ _ _ => (pe_tup (pa_cons (pe_op op_add (pe_ix (k_ixt K rfl) (pv 2) pe_int (fun _ _ => rfl)) (pe_ix (k_ixt K rfl) (pv 3) pe_int (fun _ _ => rfl))) (pa_cons (pe_op op_add (pe_ix (k_ixt K rfl) (pv 2) pe_int (fun _ _ => rfl)) (pe_ix (k_ixt K rfl) (pv 3) pe_int (fun _ _ => rfl))) pa_nil))))) pa_nil))))))), ?_⟩
  refine q_drop (K := K) (er_call1 (er_var rfl r0) (by first | exact hp.1 | exact hp.2.1)) (fun _ e2306 => ?_)
  refine q_drop (K := K) (er_call1 (er_var rfl (Rp.mono (SF.of e2306) r1)) (by first | exact hp.1 | exact hp.2.1)) (fun _ e2307 => ?_)
  refine q_not (K := K) (et_test (er_op (er_up (er_len (er_var rfl (Rp.mono ((SF.of e2306).trans (SF.of e2307)) r0)))) (er_up (er_len (er_var rfl (Rp.mono ((SF.of e2306).trans (SF.of e2307)) r1)))) rr_neI)) (by have := hp.2.2.1; simp; omega) (fun _ e2308 => ?_)
  exact s_retL (K := K) (erl_thru (erl_lm2 (f := fun (x2310 : ((Int × Int) × (Int × Int))) => ((x2310.1.1 + x2310.2.1), (x2310.1.2 + x2310.2.2))) (src_zip (er_var rfl (Rp.mono (((SF.of e2306).trans (SF.of e2307)).trans (SF.of e2308)) r0)) (er_var rfl (Rp.mono (((SF.of e2306).trans (SF.of e2307)).trans (SF.of e2308)) r1))) (by have := hp.1.2.1; simp; omega) (by intros; rfl) (fun x2310 hx2311 v2312 v2313 _ e2309 r2314 r2315 => (er_pair (er_op (er_op (er_var rfl r2314) er_int rr_ixP0) (er_op (er_var rfl r2315) er_int rr_ixP0) rr_add) (er_op (er_op (er_var rfl r2314) er_int rr_ixP1) (er_op (er_var rfl r2315) er_int rr_ixP1) rr_add)))) (by exact hp.2.2.2)) (fun p us _ e2316 hn h1 rr => q p us _ (((e2306.trans e2307).trans e2308).trans e2316) (((e2306.trans e2307).trans e2308).free hn) h1 rr)
def m_with_bound (x0 : (List (Int × Int))) (x1 : (Int × Int)) : (List (Int × Int)) := (x0 ++ [x1])
theorem ok_with_bound (T : Txt K mg) : Ok P w K mg base CX0 5 "with_bound" ["bounds", "bound"] (sl2 K ((fun b p => BOk b ∧ m_is_bound p = true ∧ BOk (b ++ [p])) : (List (Int × Int)) → (Int × Int) → Prop) m_with_bound) := by
  refine ok_of T.d_with_bound sc_with_bound (bi2 fun _ _ _ _ _ _ _ _ => rfl) len_sl2 (fun f cdv A outer s H vs Q E hr h => ?_)
  have nd := sc_with_bound.nd
  obtain ⟨v0, v1, x0, x1, rfl, r0, r1, hp, q⟩ := h
  refine ⟨_, (pss_cons (ps_expr (pe_fn (ok_check_bounds T) (hr.mono (by decide)) pass0 (pa_cons (pv 0) pa_nil)))
      (pss_cons (ps_if (pt_not (pt_val (pe_fn (ok_is_bound T) (hr.mono (by decide)) pass0 (pa_cons (pv 1) pa_nil)))) (pss_one ps_never) pss_nil)
      (pss_one (ps_ret (pe_fn (ok_checked_changing T) (hr.mono (by decide)) pass0 (pa_cons (pe_op op_catR (pv 0) (pe_frz (pe_lst (pa_cons (pv 1) pa_nil)))) pa_nil)))))), ?_⟩
  refine q_drop (K := K) (er_call1 (er_var rfl r0) (by first | exact hp.1 | exact hp.2.1)) (fun _ e2317 => ?_)
  refine q_not (K := K) (et_not (et_B (er_call1 (er_var rfl (Rp.mono (SF.of e2317) r1)) trivial))) (by rw [hp.2.1]; rfl) (fun _ e2318 => ?_)
  exact s_retL (K := K) (erl_thru (erl_cat (er_var rfl (Rp.mono ((SF.of e2317).trans (SF.of e2318)) r0)) (er_frz (erl_lst (ea_cons (er_var rfl (Rp.mono ((SF.of e2317).trans (SF.of e2318)) r1)) ea_nil))) (by have := hp.1.2.1; simp; omega)) (by exact hp.2.2)) (fun p us _ e2319 hn h1 rr => q p us _ ((e2317.trans e2318).trans e2319) ((e2317.trans e2318).free hn) h1 rr)
def m_without_value (x0 : (List (Int × Int))) (x1 : Int) : (List (Int × Int)) := ((cutL x0 none (some x1)) ++ (cutL x0 (some (x1 + (1 : Int))) none))
theorem ok_without_value (T : Txt K mg) : Ok P w K mg base CX0 5 "without_value" ["bounds", "place"] (sl2 K ((fun b k => BOk b ∧ (0 ≤ k ∧ k < b.length) ∧ 2 ≤ b.length) : (List (Int × Int)) → Int → Prop) m_without_value) := by
  refine ok_of T.d_without_value sc_without_value (bi2 fun _ _ _ _ _ _ _ _ => rfl) len_sl2 (fun f cdv A outer s H vs Q E hr h => ?_)
  have nd := sc_without_value.nd
  obtain ⟨v0, v1, x0, x1, rfl, r0, r1, hp, q⟩ := h
  refine ⟨_, (pss_cons (ps_expr (pe_fn (ok_check_bounds T) (hr.mono (by decide)) pass0 (pa_cons (pv 0) pa_nil)))
      (pss_cons (ps_expr (pe_fn (ok_check_place T) (hr.mono (by decide)) pass0 (pa_cons (pv 0) (pa_cons (pv 1) pa_nil))))
      (pss_cons (ps_if (pt_cmpR op_eq (pe_callB (k_len K rfl) (by rfl) T.n_len PySem.boot_len (pa_cons (pv 0) pa_nil)) pe_int (nomark _)) (pss_one ps_never) pss_nil)
      (pss_one (ps_ret (pe_op op_catR (pe_frz (pe_slice (k_sl K rfl) (pv 0) po_none (po_some (pv 1)))) (pe_frz (pe_slice (k_sl K rfl) (pv 0) (po_some (pe_op op_add (pv 1) pe_int)) po_none)))))))), ?_⟩
  refine q_drop (K := K) (er_call1 (er_var rfl r0) (by first | exact hp.1 | exact hp.2.1)) (fun _ e2320 => ?_)
  refine q_drop (K := K) (er_call2 (er_var rfl (Rp.mono (SF.of e2320) r0)) (er_var rfl (Rp.mono (SF.of e2320) r1)) (by have := hp.1.2.1; exact ⟨by omega, hp.2.1⟩)) (fun _ e2321 => ?_)
  refine q_not (K := K) (et_test (er_op (er_up (er_len (er_var rfl (Rp.mono ((SF.of e2320).trans (SF.of e2321)) r0)))) (er_up (er_c (x := (1 : Nat)) fun _ => rfl)) rr_eqI)) (by have := hp.2.2; simp; omega) (fun _ e2322 => ?_)
  exact s_retL (K := K) (erl_cat (er_frz (erl_sl (er_var rfl (Rp.mono (((SF.of e2320).trans (SF.of e2321)).trans (SF.of e2322)) r0)) eo_none (eo_some (er_var rfl (Rp.mono (((SF.of e2320).trans (SF.of e2321)).trans (SF.of e2322)) r1))))) (er_frz (erl_sl (er_var rfl (Rp.mono (((SF.of e2320).trans (SF.of e2321)).trans (SF.of e2322)) r0)) (eo_some (er_op (er_var rfl (Rp.mono (((SF.of e2320).trans (SF.of e2321)).trans (SF.of e2322)) r1)) er_int rr_add)) eo_none)) (by have h1 := cut_len (l := x0) none (some x1); have h2 := cut_len (l := x0) (some (x1 + 1)) none; have := hp.1.2.1; omega)) (fun p us _ e2323 hn h1 rr => q p us _ (((e2320.trans e2321).trans e2322).trans e2323) (((e2320.trans e2321).trans e2322).free hn) h1 rr)
theorem ren_in {b : List (Int × Int)} {o : Tp Int} (hp : BOk b ∧ o.l.Perm (rgI 0 b.length)) {x : Int} (hx : x ∈ o.l) : 0 ≤ x ∧ x < (b.length : Int) := by
  have h := mem_rgI.mp (hp.2.mem_iff.mp hx); omega
theorem ren_len {b : List (Int × Int)} {o : Tp Int} (hp : BOk b ∧ o.l.Perm (rgI 0 b.length)) : o.l.length = b.length := by rw [hp.2.length_eq, len_rgI]
theorem ren_d1 {b : List (Int × Int)} {o : Tp Int} (hp : BOk b ∧ o.l.Perm (rgI 0 b.length)) : ((!true) || (!((o.l.map fun k : Int => m_is_int k (0 : Int) (((b.length : Nat) : Int) - (1 : Int))).all id))) = false := by
  have h : ((o.l.map fun k : Int => m_is_int k (0 : Int) (((b.length : Nat) : Int) - (1 : Int))).all id) = true := by
    rw [List.all_map, List.all_eq_true]
    intro x hx
    have := ren_in hp hx
    simp [m_is_int]; omega
  rw [h]; rfl
theorem rg_le (n : Nat) : (rgI 0 n).Pairwise (· ≤ ·) := by
  unfold rgI
  rw [List.pairwise_map]
  exact List.Pairwise.imp (fun h => by omega) (List.pairwise_lt_range (n := n))
theorem ren_d2 {b : List (Int × Int)} {o : Tp Int} (hp : BOk b ∧ o.l.Perm (rgI 0 b.length)) : (!(decide (srt o.l = rgI 0 b.length))) = false := by
  rw [← srt_eq hp.2.symm (rg_le _), decide_eq_true rfl]; rfl
def m_renamed (x0 : (List (Int × Int))) (x1 : (Tp Int)) : (List (Int × Int)) := (x1.l.map (fun (x2343 : Int) => ((x0).getD (x2343).toNat (0, 0))))
theorem ok_renamed (T : Txt K mg) : Ok P w K mg base CX0 5 "renamed" ["bounds", "order"] (sl2 K ((fun b o => BOk b ∧ o.l.Perm (rgI 0 b.length)) : (List (Int × Int)) → (Tp Int) → Prop) m_renamed) := by
  refine ok_of T.d_renamed sc_renamed (bi2 fun _ _ _ _ _ _ _ _ => rfl) len_sl2 (fun f cdv A outer s H vs Q E hr h => ?_)
  have nd := sc_renamed.nd
  obtain ⟨v0, v1, x0, x1, rfl, r0, r1, hp, q⟩ := h
  refine ⟨_, (pss_cons (ps_expr (pe_fn (ok_check_bounds T) (hr.mono (by decide)) pass0 (pa_cons (pv 0) pa_nil)))
      (pss_cons (ps_if (PW.pt (pw_or (pt_not (pt_val (pe_callB (k_isi K rfl) (by rfl) T.n_isinstance (by decide +kernel) (pa_cons (pv 1) (pa_cons (pe_bltn (v := .ty "tuple") (by rfl) T.n_tuple (by decide +kernel) rfl) pa_nil))))) (pw_or1 (pt_not (pt_val (pe_callB (k_all K rfl rfl) (by rfl) T.n_all (by decide +kernel) (pa_cons (pe_frz (pe_lc (own := [("k", 2)]) rfl nd (k_pt K rfl (pv 1)) (blkOk_by (N := N_renamed) (sc := defScope s_renamed) (by decide +kernel)) (fun _ _ _ _ _ => (pg_name (i := 2) nd rfl (.inl rfl) (.inr rfl))) (fun _ _ _ _ _ => pts_nil) (fun _ _ _ _ _ => (pe_fn (ok_is_int T) (hr.mono (by decide)) pass0 (pa_cons (pv 2) (pa_cons pe_int (pa_cons (pe_op op_sub (pe_callB (k_len K rfl) (by rfl) T.n_len PySem.boot_len (pa_cons (pv 0) pa_nil)) pe_int) pa_nil))))))) pa_nil))))))) (pss_one ps_never) pss_nil)
      (pss_cons (ps_if (pt_cmpR (k_neD K rfl hr.units) (pe_frz (pe_callB (k_sortedT K rfl) (by rfl) T.n_sorted (by decide +kernel) (pa_cons (pv 1) pa_nil))) (pe_frz (pe_listRg rfl (by rfl) T.n_list (prg_1 (by rfl) T.n_range (pe_callB (k_len K rfl) (by rfl) T.n_len PySem.boot_len (pa_cons (pv 0) pa_nil))))) (nomark _)) (pss_one ps_never) pss_nil)
      (pss_one (ps_ret (pe_lc (own := [("k", 2)]) rfl nd (k_pt K rfl (pv 1)) (blkOk_by (N := N_renamed) (sc := defScope s_renamed) (by decide +kernel)) (fun _ _ _ _ _ => (pg_name (i := 2) nd rfl (.inl rfl) (.inr rfl))) (fun _ _ _ _ _ => pts_nil) (fun _ _ _ _ _ => (pe_ix (k_ixl K rfl) (pv 0) (pv 2) (fun _ _ => rfl))))))))), ?_⟩
  refine q_drop (K := K) (er_call1 (er_var rfl r0) (by first | exact hp.1 | exact hp.2.1)) (fun _ e2334 => ?_)
  refine q_not (K := K) (et_or (et_not (et_B (er_isi (b := true) (er_var rfl (Rp.mono (SF.of e2334) r1)) (show kitB "tuple" "tuple" = some true from by decide)))) (fun hsc => (et_not (et_B (er_all (er_frz (erl_lm1 (f := fun (x2336 : Int) => (m_is_int x2336 (0 : Int) (((x0.length : Nat) : Int) - (1 : Int)))) (src_tup (er_var rfl (Rp.mono (SF.of e2334) r1))) (by have := hp.1.2.1; have := ren_len hp; omega) (by intros; rfl) (fun x2336 hx2337 v2338 _ e2335 r2339 => (er_call3 (er_var rfl r2339) er_int (er_op (er_up (er_len (er_var rfl (Rp.mono (SF.of e2335) (Rp.mono (SF.of e2334) r0))))) er_int rr_sub) trivial))))))))) (by first | exact ren_d1 hp | exact ren_d2 hp) (fun _ e2340 => ?_)
  refine q_not (K := K) (et_test (er_op (er_frz (erl_sortedT (er_var rfl (Rp.mono ((SF.of e2334).trans (SF.of e2340)) r1)))) (er_frz (erl_rangeI (er_len (er_var rfl (Rp.mono ((SF.of e2334).trans (SF.of e2340)) r0))) (by have := hp.1.2.1; have := ren_len hp; omega))) rr_neT)) (by first | exact ren_d1 hp | exact ren_d2 hp) (fun _ e2341 => ?_)
  exact s_retL (K := K) (erl_lm1 (f := fun (x2343 : Int) => ((x0).getD (x2343).toNat (0, 0))) (src_tup (er_var rfl (Rp.mono (((SF.of e2334).trans (SF.of e2340)).trans (SF.of e2341)) r1))) (by have := hp.1.2.1; have := ren_len hp; omega) (by intros; rfl) (fun x2343 hx2344 v2345 _ e2342 r2346 => (er_op (er_var rfl (Rp.mono (SF.of e2342) (Rp.mono (((SF.of e2334).trans (SF.of e2340)).trans (SF.of e2341)) r0))) (er_var rfl r2346) (rr_ixI (x := ((x0).getD (x2343).toNat (0, 0))) (n := (x2343).toNat) (by have := ren_in hp (by assumption); omega) (by exact getD_at (by have := ren_in hp (by assumption); omega)))))) (fun p us _ e2347 hn h1 rr => q p us _ (((e2334.trans e2340).trans e2341).trans e2347) (((e2334.trans e2340).trans e2341).free hn) h1 rr)
theorem log_b {i : Int} (h : -50 ≤ i ∧ i ≤ 50) : i.natAbs.log2 < 1920 := Nat.lt_of_le_of_lt (Nat.log2_le_self _) (by omega)
theorem sz_ok {n : Nat} (h : n ≤ 8) : n ≤ sizeLine := Nat.le_trans h (by decide)
theorem fb_t1 {p : Int × Int} (h : -50 ≤ p.1 ∧ p.1 ≤ p.2 ∧ p.2 ≤ 50) : (Str.empty ++ itxt p.1).length ≤ sizeLine := sz_ok (by rw [str_len]; have := itxt_len (i := p.1) (by omega); have : Str.empty.length = 0 := rfl; omega)
theorem fb_t2 {p : Int × Int} (h : -50 ≤ p.1 ∧ p.1 ≤ p.2 ∧ p.2 ≤ 50) : (Str.empty ++ itxt p.1 ++ (".." : Str)).length ≤ sizeLine := sz_ok (by rw [str_len, str_len]; have := itxt_len (i := p.1) (by omega); have : Str.empty.length = 0 := rfl; have : (".." : Str).length = 2 := (by decide +kernel); omega)
theorem fb_len {p : Int × Int} (h : -50 ≤ p.1 ∧ p.1 ≤ p.2 ∧ p.2 ≤ 50) : (Str.empty ++ itxt p.1 ++ (".." : Str) ++ itxt p.2).length ≤ 8 := by rw [str_len, str_len, str_len]; have := itxt_len (i := p.1) (by omega); have := itxt_len (i := p.2) (by omega); have : Str.empty.length = 0 := rfl; have : (".." : Str).length = 2 := (by decide +kernel); omega
theorem fb_t3 {p : Int × Int} (h : -50 ≤ p.1 ∧ p.1 ≤ p.2 ∧ p.2 ≤ 50) : (Str.empty ++ itxt p.1 ++ (".." : Str) ++ itxt p.2).length ≤ sizeLine := sz_ok (fb_len h)
def btxt (p : Int × Int) : Str := if decide (p.1 = p.2) = true then itxt p.1 else (Str.empty ++ itxt p.1 ++ (".." : Str) ++ itxt p.2)
theorem btxt_len {p : Int × Int} (h : -50 ≤ p.1 ∧ p.1 ≤ p.2 ∧ p.2 ≤ 50) : (btxt p).length ≤ 8 := by
  unfold btxt
  split
  · have := itxt_len (i := p.1) (by omega); omega
  · exact fb_len h
theorem fb_join {b : List (Int × Int)} (h : BOk b) : ((b.map btxt).map (·.length)).sum + (b.map btxt).length * (" " : Str).length ≤ 16777216 := by
  have h1 := txt_sum (l := b) (f := btxt) (n := 8) fun x hx => btxt_len (h.2.2 x hx)
  have h2 := h.2.1
  have h3 : (" " : Str).length = 1 := by decide +kernel
  rw [List.length_map, h3]
  omega
def m_format_bounds (x0 : (List (Int × Int))) : Str := (Txt.join (" " : Str) (x0.map (fun (x2357 : (Int × Int)) => (if (decide (x2357.1 = x2357.2)) = true then (itxt x2357.1) else (((Str.empty ++ (itxt x2357.1)) ++ (".." : Str)) ++ (itxt x2357.2))))))
theorem ok_format_bounds (T : Txt K mg) : Ok P w K mg base CX0 5 "format_bounds" ["bounds"] (sp1 K ((fun b => BOk b) : (List (Int × Int)) → Prop) m_format_bounds) := by
  refine ok_of T.d_format_bounds sc_format_bounds (bi1 fun _ _ _ _ _ _ _ => rfl) len_sp1 (fun f cdv A outer s H vs Q E hr h => ?_)
  have nd := sc_format_bounds.nd
  obtain ⟨v0, x0, rfl, r0, hp, q⟩ := h
  refine ⟨_, (pss_cons (ps_expr (pe_fn (ok_check_bounds T) (hr.mono (by decide)) pass0 (pa_cons (pv 0) pa_nil)))
      (pss_one (ps_ret (k_join K rfl pe_str (pe_frz (pe_lc (own := [("low", 1), ("high", 2)]) rfl nd (k_pl K rfl (pv 0)) (blkOk_by (N := N_format_bounds) (sc := defScope s_format_bounds) (by decide +kernel)) (fun _ _ _ _ _ => (k_gt K rfl 2 rfl (pgs_cons (pg_name (i := 1) nd rfl (.inl rfl) (.inr rfl)) (pgs_cons (pg_name (i := 2) nd rfl (.inl rfl) (.inr rfl)) pgs_nil)))) (fun _ _ _ _ _ => pts_nil) (fun _ _ _ _ _ => (pe_ifExp (pt_cmpR op_eq (pv 1) (pv 2) (nomark _)) (pe_callTy (k_str K rfl) (by rfl) T.n_str (by decide +kernel) (pa_cons (pv 1) pa_nil)) (k_fstr K rfl (PJ.cons (pe_fmt (pv 1)) (PJ.cons pe_str (PJ.cons (pe_fmt (pv 2)) PJ.nil)))))))))))), ?_⟩
  refine q_drop (K := K) (er_call1 (er_var rfl r0) (by exact hp)) (fun _ e2355 => ?_)
  exact s_ret (K := K) (er_join er_str (er_frz (erl_lm2 (f := fun (x2357 : (Int × Int)) => (if (decide (x2357.1 = x2357.2)) = true then (itxt x2357.1) else (((Str.empty ++ (itxt x2357.1)) ++ (".." : Str)) ++ (itxt x2357.2)))) (src_list (er_var rfl (Rp.mono (SF.of e2355) r0))) (by have := hp.2.1; omega) (by intros; rfl) (fun x2357 hx2358 v2359 v2360 _ e2356 r2361 r2362 => (er_if (et_test (er_op (er_var rfl r2361) (er_var rfl r2362) rr_eqI)) (fun hif => (er_strI (er_var rfl r2361) (by have hb := hp.2.2 _ (by assumption); exact log_b (by omega)))) (fun hif => (er_js (ej_cons (er_fmtI (er_var rfl r2361) (by have hb := hp.2.2 _ (by assumption); exact log_b (by omega))) (by have hb := hp.2.2 _ (by assumption); first | exact fb_t1 hb | exact fb_t2 hb | exact fb_t3 hb) (ej_cons er_str (by have hb := hp.2.2 _ (by assumption); first | exact fb_t1 hb | exact fb_t2 hb | exact fb_t3 hb) (ej_cons (er_fmtI (er_var rfl r2362) (by have hb := hp.2.2 _ (by assumption); exact log_b (by omega))) (by have hb := hp.2.2 _ (by assumption); first | exact fb_t1 hb | exact fb_t2 hb | exact fb_t3 hb) ej_nil))))))))) (by exact fb_join hp)) (fun u _ e2363 rr => q u _ (e2355.trans e2363) rr)
theorem ok__law_start (T : Txt K mg) : Ok P w K mg base CX0 1 "_law_start" ["_law_script"] (spStart K) := by
  refine ok_of T.d__law_start sc__law_start (bi1 fun _ _ _ _ _ _ _ => rfl) (fun vs H Q E h => by obtain ⟨_, _, rfl, _⟩ := h; rfl) (fun f cdv A outer s H vs Q E hr h => ?_)
  have nd := sc__law_start.nd
  obtain ⟨a, ns, rfl, hs, hz, q⟩ := h
  refine ⟨_, (pss_one (ps_ret (pe_lst (pa_cons (pe_ifExp (pt_cmpR (k_neD K rfl hr.units) (pv 0) (pe_lst pa_nil) (nomark _)) (pe_callTy (k_list K rfl) (by rfl) T.n_list (by decide +kernel) (pa_cons (pv 0) pa_nil)) (pe_lst (pa_cons pe_int pa_nil))) (pa_cons pe_int pa_nil))))), ?_⟩
  refine ⟨.ref a, rfl, Nat.zero_le _, fun e he => ?_⟩
  have hs1 : SqL K (upd H e (.lst [])) a (ns.map V.int) := (same_new he : L2.Same _ _).seq hs
  refine ⟨_, _, .lst hs1 (dp_all (rl_of_ints ns)), .lst (sq_lst upd_same) .nil, shaped_of (α := List Int) (Rt.all ns) (by decide), shaped_of (α := List Int) (x := []) (Rt.all _) (by decide), _, rfl, ite2 (fun c => ?_) (fun c => ?_)⟩
  · refine ⟨.ref a, rfl, a, _, rfl, .inl hs1, fun pn hn => ?_⟩
    have s2 : L2.Same H (upd (upd H e (.lst [])) pn (.lst (ns.map V.int))) := (same_new he).trans (same_new hn)
    refine ⟨by show 2 ≤ sizeLine; decide, fun pd hd => ?_⟩
    refine q pd pn _ (s2.trans (same_new hd)) (s2.free hd) ((same_new he : L2.Same _ _).free hn) ⟨ns, 0, upd_same, upd_get upd_same (ne_of_none upd_same hd), ?_, by omega, by omega, (ne_of_none upd_same hd).symm⟩
    cases ns with
    | nil => exact absurd c (by decide)
    | cons x r => exact Nat.succ_pos _
  · refine ⟨by show 1 ≤ sizeLine; decide, fun pn hn => ?_⟩
    have s2 : L2.Same H (upd (upd H e (.lst [])) pn (.lst [.int 0])) := (same_new he).trans (same_new hn)
    refine ⟨by show 2 ≤ sizeLine; decide, fun pd hd => ?_⟩
    exact q pd pn _ (s2.trans (same_new hd)) (s2.free hd) ((same_new he : L2.Same _ _).free hn) ⟨[0], 0, upd_same, upd_get upd_same (ne_of_none upd_same hd), by decide, by decide, by omega, (ne_of_none upd_same hd).symm⟩
theorem ok__law_draw (T : Txt K mg) : Ok P w K mg base CX0 1 "_law_draw" ["_law_draws", "_law_limit"] spDraw := by
  refine ok_of T.d__law_draw sc__law_draw (bi2 fun _ _ _ _ _ _ _ _ => rfl) (fun vs H Q E h => by obtain ⟨_, _, _, rfl, _⟩ := h; rfl) (fun f cdv A outer s H vs Q E hr h => ?_)
  have nd := sc__law_draw.nd
  obtain ⟨pd, pn, lim, rfl, ⟨ns, k, h1, h2, hl, hl2, hk, hne⟩, l0, l1, q⟩ := h
  refine ⟨_, (pss_cons (ps_set (i := 2) nd rfl (.inl rfl) (pe_ix (k_ixl K rfl) (pv 0) pe_int (fun _ _ => rfl)))
      (pss_cons (ps_asg (pe_op op_add (pe_ix (k_ixl K rfl) (pv 0) pe_int (fun _ _ => rfl)) pe_int) (pg_sub (pv 0) pe_int set_list))
      (pss_cons (ps_set (i := 3) nd rfl (.inl rfl) (pe_op op_mod (pe_ix (k_ixl K rfl) (pv 0) pe_int (fun _ _ => rfl)) (pe_callB (k_len K rfl) (by rfl) T.n_len PySem.boot_len (pa_cons (pv 2) pa_nil))))
      (pss_cons (ps_set (i := 4) nd rfl (.inl rfl) (pe_ix (k_ixl K rfl) (pv 2) (pv 3) (fun _ _ => rfl)))
      (pss_cons (ps_if (pt_cmpR op_ge (pv 4) pe_int (nomark _)) (pss_cons (ps_asg (pe_op op_fdiv (pv 4) (pv 1)) (pg_sub (pv 2) (pv 3) set_list)) (pss_one (ps_ret (pe_op op_mod (pv 4) (pv 1))))) pss_nil)
      (pss_cons (ps_set (i := 5) nd rfl (.inl rfl) (pe_op op_mod (pe_op op_add (pv 4) (pe_op op_mul pe_int (pe_ix (k_ixl K rfl) (pv 0) pe_int (fun _ _ => rfl)))) pe_int))
      (pss_cons (ps_set (i := 5) nd rfl (.inl rfl) (pe_op op_mod (pe_op op_pow (pv 5) pe_int) pe_int))
      (pss_one (ps_ret (pe_op op_mod (pe_op op_fdiv (pe_op op_mod (pe_op op_add (pe_op op_mul (pe_op op_fdiv (pv 5) pe_int) pe_int) (pv 5)) pe_int) pe_int) (pv 1))))))))))), ?_⟩
  refine ⟨.ref pd, rfl, pd, _, 0, .ref pn, rfl, rfl, sq_lst h1, atI_nat (j := 0) rfl, ?_⟩
  refine ⟨.ref pd, rfl, pd, _, 1, .int k, rfl, rfl, sq_lst h1, atI_nat (j := 1) rfl, k, 1, rfl, rfl, .ref pd, rfl, pd, _, 1, 1, rfl, rfl, h1, rfl, ?_⟩
  have g1 : (upd H pd (.lst [.ref pn, .int (k + 1)])) pd = some (.lst [.ref pn, .int (k + 1)]) := upd_same
  have g2 : (upd H pd (.lst [.ref pn, .int (k + 1)])) pn = some (.lst (ns.map V.int)) := upd_get h2 hne.symm
  have m1 : DM pd pn H (upd H pd (.lst [.ref pn, .int (k + 1)])) := ⟨SF.lst h1, fun q o n _ e => upd_get e n⟩
  have d1 : Dr (upd H pd (.lst [.ref pn, .int (k + 1)])) pd pn := ⟨ns, k + 1, g1, g2, hl, hl2, by omega, hne⟩
  show tSeq _ _ _ _ (upd H pd (.lst [.ref pn, .int (k + 1)]))
  generalize upd H pd (.lst [.ref pn, .int (k + 1)]) = H1 at g1 g2 m1 d1
  have hlen : (ns.map V.int).length = ns.length := List.length_map ..
  refine ⟨.ref pd, rfl, pd, _, 1, .int (k + 1), rfl, rfl, sq_lst g1, atI_nat (j := 1) rfl, .ref pn, rfl, pn, _, rfl, .inl (sq_lst g2), k + 1, _, rfl, rfl, (by rw [hlen]; omega), ?_⟩
  obtain ⟨m, hm, hm2⟩ : ∃ m : Nat, (k + 1) % ((ns.map V.int).length : Int) = (m : Int) ∧ m < ns.length := by
    have a := Int.emod_nonneg (k + 1) (show ((ns.map V.int).length : Int) ≠ 0 by rw [hlen]; omega)
    have b := Int.emod_lt_of_pos (k + 1) (show (0 : Int) < ((ns.map V.int).length : Int) by rw [hlen]; omega)
    exact ⟨((k + 1) % ((ns.map V.int).length : Int)).toNat, by omega, by rw [hlen] at b ⊢; omega⟩
  have hc : (ns.map V.int)[m]? = some (.int ns[m]) := by rw [List.getElem?_map, List.getElem?_eq_getElem hm2]; rfl
  refine ⟨.ref pn, rfl, .int ((k + 1) % ((ns.map V.int).length : Int)), rfl, pn, _, _, _, rfl, rfl, sq_lst g2, at_of hm hc, ?_⟩
  refine ⟨.int ns[m], rfl, ns[m], 1000000000000000000, rfl, rfl, _, rfl, ite2 (fun _ => ?_) (fun _ => ?_)⟩
  · refine ⟨.int ns[m], rfl, .int lim, rfl, ns[m], lim, rfl, rfl, ⟨l0, by omega⟩, .ref pn, rfl, .int ((k + 1) % ((ns.map V.int).length : Int)), rfl, pn, _, _, m, rfl, rfl, g2, ?_, ?_⟩
    · rw [hm, hlen]; unfold ixN; rw [if_pos (by omega), if_pos (by omega)]; simp
    · refine ⟨.int ns[m], rfl, .int lim, rfl, ns[m], lim, rfl, rfl, l0, ?_⟩
      have e : (ns.map V.int).set m (.int (ns[m] / lim)) = (ns.set m (ns[m] / lim)).map V.int := by rw [List.map_set]
      rw [e]
      refine q _ _ (Int.emod_nonneg _ (by omega)) (Int.emod_lt_of_pos _ l0) (m1.trans ⟨SF.lst g2, fun q o _ n e => upd_get e n⟩) ⟨_, k + 1, upd_get g1 hne, upd_same, by rw [List.length_set]; exact hl, by rw [List.length_set]; exact hl2, by omega, hne⟩
  · refine ⟨.int ns[m], rfl, .ref pd, rfl, pd, _, 1, .int (k + 1), rfl, rfl, sq_lst g1, atI_nat (j := 1) rfl, 104729, k + 1, rfl, rfl, .inl ⟨by decide, by decide⟩, ns[m], _, rfl, rfl, _, _, rfl, rfl, (show (0 : Int) < 4294967291 by decide), ?_⟩
    have x0 : 0 ≤ (ns[m] + 104729 * (k + 1)) % 4294967291 := Int.emod_nonneg _ (by decide)
    have x1 : (ns[m] + 104729 * (k + 1)) % 4294967291 < 4294967291 := Int.emod_lt_of_pos _ (by decide)
    refine ⟨_, rfl, (ns[m] + 104729 * (k + 1)) % 4294967291, 5, rfl, rfl, ⟨by decide, by decide, by omega⟩, _, _, rfl, rfl, (show (0 : Int) < 4294967279 by decide), ?_⟩
    refine ⟨_, rfl, _, 64, rfl, rfl, ⟨by decide, by decide⟩, _, 69621, rfl, rfl, .inr ⟨by decide, by decide⟩, _, rfl, _, _, rfl, rfl, _, _, rfl, rfl, (show (0 : Int) < 4294967231 by decide), _, 8, rfl, rfl, ⟨by decide, by decide⟩, .int lim, rfl, _, lim, rfl, rfl, l0, ?_⟩
    exact q _ _ (Int.emod_nonneg _ (by omega)) (Int.emod_lt_of_pos _ l0) m1 d1
theorem ok__law_pick {α : Type} [Rp α] (T : Txt K mg) : Ok P w K mg base CX0 2 "_law_pick" ["_law_draws", "_law_choices"] (spPick K (α := α)) := by
  refine ok_of T.d__law_pick sc__law_pick (bi2 fun _ _ _ _ _ _ _ _ => rfl) (fun vs H Q E h => by obtain ⟨_, _, _, _, rfl, _⟩ := h; rfl) (fun f cdv A outer s H vs Q E hr h => ?_)
  have nd := sc__law_pick.nd
  obtain ⟨pd, pn, v, l, rfl, dr, r1, h0, h1, q⟩ := h
  refine ⟨_, (pss_one (ps_ret (pe_ix (k_ixl K rfl) (pv 1) (pe_fn (ok__law_draw T) (hr.mono (by decide)) pass0 (pa_cons (pv 0) (pa_cons (pe_callB (k_len K rfl) (by rfl) T.n_len PySem.boot_len (pa_cons (pv 1) pa_nil)) pa_nil))) (fun _ _ => rfl)))), ?_⟩
  refine s_retP (K := K) (pd := pd) (pn := pn) dr (ep_op (P := fun (x : List α) => x = l) (P2 := fun _ (y : Int) => 0 ≤ y ∧ y < (l.length : Int)) (f := fun _ (y : Int) => if h : y.toNat < l.length then l[y.toNat] else l[0]) (ep_of fun _ m => er_var rfl (Rp.mono m.sf r1)) (fun _ _ => ep_draw (fun _ m => er_up (er_len (er_var rfl (Rp.mono m.sf r1)))) (sub_dr rfl) (by omega) (by omega)) (fun x y hx hy => by
      subst hx
      have hl : y.toNat < x.length := by omega
      rw [dif_pos hl]
      exact rr_ixI (n := y.toNat) (by omega) (List.getElem?_eq_getElem hl))) (fun v H1 z m d hz r => ?_)
  obtain ⟨x, y, hx, hy, rfl⟩ := hz
  have hl : y.toNat < l.length := by omega
  rw [dif_pos hl] at r
  exact q _ v H1 (List.getElem_mem hl) m d r
theorem ok__law_bounds (T : Txt K mg) : Ok P w K mg base CX0 3 "_law_bounds" ["_law_draws", "_law_most"] (spDraws K (fun n => 1 ≤ n ∧ n ≤ 100) BndP) := by
  refine ok_of T.d__law_bounds sc__law_bounds (bi2 fun _ _ _ _ _ _ _ _ => rfl) (fun vs H Q E h => by obtain ⟨_, _, _, rfl, _⟩ := h; rfl) (fun f cdv A outer s H vs Q E hr h => ?_)
  have nd := sc__law_bounds.nd
  obtain ⟨pd, pn, n, rfl, dr, hn, q⟩ := h
  refine ⟨_, (pss_cons (ps_par (i := 2) (j := 3) (by rfl) nd rfl rfl (by decide) rfl rfl (pa_cons (pe_fn (ok__law_pick (α := Int) T) (hr.mono (by decide)) pass0 (pa_cons (pv 0) (pa_cons (pe_frz (pe_lst (pa_cons pe_int (pa_cons pe_int (pa_cons pe_int pa_nil))))) pa_nil))) (pa_cons (pe_fn (ok__law_pick (α := Int) T) (hr.mono (by decide)) pass0 (pa_cons (pv 0) (pa_cons (pe_frz (pe_lst (pa_cons pe_int (pa_cons pe_int (pa_cons pe_int pa_nil))))) pa_nil))) pa_nil)) (by rfl))
      (pss_cons (ps_set (i := 4) nd rfl (.inl rfl) (pe_lst pa_nil))
      (pss_cons (ps_for PassesOwn.never rfl (pi_range1 (by rfl) T.n_range (pa_cons (pe_op op_add pe_int (pe_fn (ok__law_draw T) (hr.mono (by decide)) pass0 (pa_cons (pv 0) (pa_cons (pv 1) pa_nil)))) pa_nil)) (pg_name (i := 5) nd rfl (.inl rfl) (.inr rfl)) (pss_cons (ps_set (i := 6) nd rfl (.inl rfl) (pe_op op_sub (pe_fn (ok__law_draw T) (hr.mono (by decide)) pass0 (pa_cons (pv 0) (pa_cons (pe_op op_mul pe_int (pv 2)) pa_nil))) (pv 2)))
      (pss_one (ps_expr (k_app K rfl (pv 4) (pe_tup (pa_cons (pv 6) (pa_cons (pe_op op_add (pv 6) (pe_fn (ok__law_draw T) (hr.mono (by decide)) pass0 (pa_cons (pv 0) (pa_cons (pv 3) pa_nil)))) pa_nil))))))))
      (pss_one (ps_ret (pv 4)))))), ?_⟩
  refine q_parP (K := K) dr (ep_pick (l := [(3 : Int), 8, 30]) (fun _ _ => er_frz (erl_lst (ea_cons er_int (ea_cons er_int (ea_cons er_int ea_nil))))) (sub_dr rfl) (by decide) (by decide)) (fun _ _ => ep_pick (l := [(2 : Int), 4, 20]) (fun _ _ => er_frz (erl_lst (ea_cons er_int (ea_cons er_int (ea_cons er_int ea_nil))))) (sub_dr rfl) (by decide) (by decide)) (fun vf vw H0 far wide m0 d0 hf hw rf rw' => ?_)
  have hf : 3 ≤ far ∧ far ≤ 30 := by
    rcases List.mem_cons.mp hf with h | h
    · omega
    · rcases List.mem_cons.mp h with h | h
      · omega
      · have := List.mem_singleton.mp h; omega
  have hw : 2 ≤ wide ∧ wide ≤ 20 := by
    rcases List.mem_cons.mp hw with h | h
    · omega
    · rcases List.mem_cons.mp h with h | h
      · omega
      · have := List.mem_singleton.mp h; omega
  refine q_setL (K := K) (l := ([] : List (Int × Int))) (erl_lst ea_nil) (fun p vs H1 e1 hp h1 rl => ?_)
  have n1 : p ≠ pd := (d0.pd_ne hp).symm
  have n2 : p ≠ pn := (d0.pn_ne hp).symm
  cases (show vf = .int far from rf); cases (show vw = .int wide from rw')
  refine q_forR (K := K) (d0.mono e1) (ep_op (ep_of fun _ _ => er_int) (fun _ _ => ep_draw (fun _ _ => er_var (x := n) rfl rfl) (sub_dr rfl) (by omega) (by omega)) (fun _ _ _ _ => rr_add)) (fun x hx => by obtain ⟨_, y, rfl, hy, rfl⟩ := hx; omega)
    (fun x i σ' H' => ∃ (l : List (Int × Int)) (a b : Option V), σ' = [some (.ref pd), some (.int n), some (.int far), some (.int wide), some (.ref p), a, b] ∧ l.length = i ∧ (∀ t ∈ l, -30 ≤ t.1 ∧ t.1 < 30 ∧ t.1 ≤ t.2 ∧ t.2 < t.1 + 20) ∧ DM pd pn H0 H' ∧ Dr H' pd pn ∧ Un K H' p l)
    (fun x H2 m d _ => ⟨[], none, none, rfl, rfl, (fun _ h => by cases h), (DM.of e1).trans m, d, Un.dm m n1 n2 (Un.of h1 rl)⟩) (fun x i σ' H' hx hi hP => ?_) (fun x σ' H' hx hP => ?_)
  · obtain ⟨l, a, b, rfl, hl, hok, m, d, u⟩ := hP
    obtain ⟨_, y, rfl, hy, rfl⟩ := hx
    refine q_setP (K := K) d (ep_op (ep_draw (i := 2 * far) (fun _ _ => er_op er_int (er_var (x := far) rfl rfl) (rr_mul (.inl ⟨by decide, by decide⟩))) (sub_dr rfl) (by omega) (by omega)) (fun _ _ => ep_of (x := far) fun _ _ => er_var rfl rfl) (fun _ _ _ _ => rr_sub)) (fun v H2 x m2 d2 hx r => ?_)
    obtain ⟨z, _, hz, rfl, rfl⟩ := hx
    refine s_appP (K := K) d2 rfl (Un.dm m2 n1 n2 u) n1 n2 (ep_pair (ep_of fun _ m => er_var rfl (Rp.mono m.sf r)) (fun x hx => ep_op (ep_of fun _ m => er_var rfl (Rp.mono m.sf r)) (fun _ _ => ep_draw (i := wide) (fun _ _ => er_var rfl rfl) (sub_dr rfl) (by omega) (by omega)) (fun _ _ _ _ => rr_add))) (by omega) (fun H3 t hb d3 ht u3 => ?_)
    refine ⟨l ++ [t], _, _, rfl, by rw [List.length_append, hl]; rfl, fun s hs => ?_, hb _ (m.trans m2) hp, d3, u3⟩
    rcases List.mem_append.mp hs with hs | hs
    · exact hok s hs
    · rw [List.mem_singleton.mp hs]
      obtain ⟨h1, w, k, rfl, hk, h2⟩ := ht
      omega
  · obtain ⟨l, a, b, rfl, hl, hok, m, d, u⟩ := hP
    obtain ⟨_, y, rfl, hy, rfl⟩ := hx
    obtain ⟨us, hu, ru⟩ := u
    exact ⟨.ref p, rfl, q p us l H' ⟨by omega, by omega, hok⟩ (m0.trans m) d (m0.free dr hp d0) hu ru⟩
theorem l_moved (b : List (Int × Int)) (k : Int) : (m_moved b k).length = b.length := by unfold m_moved; simp
theorem l_scaled (b : List (Int × Int)) (k : Int) : (m_scaled b k).length = b.length := by unfold m_scaled; simp
theorem l_widened (b : List (Int × Int)) (k : Int) : (m_widened b k).length = b.length := by unfold m_widened; simp
theorem l_added (a b : List (Int × Int)) : (m_added a b).length ≤ a.length := by unfold m_added; simp; omega
theorem l_renamed (b : List (Int × Int)) (o : Tp Int) : (m_renamed b o).length = o.l.length := by unfold m_renamed; simp
theorem l_without (b : List (Int × Int)) (k : Int) : (m_without_value b k).length ≤ 2 * b.length := by
  unfold m_without_value
  have h1 := cut_len (l := b) none (some k)
  have h2 := cut_len (l := b) (some (k + 1)) none
  rw [List.length_append]
  omega
theorem l_with (b : List (Int × Int)) (p : Int × Int) : (m_with_bound b p).length = b.length + 1 := by unfold m_with_bound; simp
theorem l_table (b : List (Int × Int)) : (m_rank_table b).length = b.length := by unfold m_rank_table; simp
theorem l_best (l : List (List (Int × Int))) (f : Str) : (m_best_figures l f).length ≤ l.length := by
  unfold m_best_figures
  exact Nat.le_trans mapIf_le (by rw [enumL_len, List.length_map]; exact Nat.le_refl _)
theorem zeros_of (n : Nat) : (List.replicate ((n : Nat) : Int).toNat [((0 : Int), (0 : Int))]).flatten = List.replicate n (0, 0) := by
  rw [show ((n : Nat) : Int).toNat = n from rfl]
  induction n with
  | zero => rfl
  | succ n ih => rw [List.replicate_succ, List.flatten_cons, ih, List.replicate_succ]; rfl
theorem mv0 (b : List (Int × Int)) : (b.map fun x => (x.1 + 0, x.2 + 0)) = b := by simp
theorem wd0 (b : List (Int × Int)) : (b.map fun x => (x.1 - 0, x.2 + 0)) = b := by simp
theorem sc1 {b : List (Int × Int)} (h : ∀ p ∈ b, p.1 ≤ p.2) : scl b 1 = b := by
  unfold scl
  refine Eq.trans (List.map_congr_left fun x hx => ?_) (List.map_id b)
  have := h x hx
  show (min (x.1 * 1) (x.2 * 1), max (x.1 * 1) (x.2 * 1)) = id x
  rw [Int.mul_one, Int.mul_one, Int.min_eq_left this, Int.max_eq_right this]; rfl
theorem ad0 : ∀ b : List (Int × Int), ((b.zip (List.replicate b.length ((0 : Int), (0 : Int)))).map fun x => (x.1.1 + x.2.1, x.1.2 + x.2.2)) = b
  | [] => rfl
  | p :: b => by
    rw [List.length_cons, List.replicate_succ, List.zip_cons_cons, List.map_cons, ad0 b]
    simp
theorem bok_rep {n : Nat} (h : 1 ≤ n ∧ n ≤ 7) : BOk (List.replicate n ((0 : Int), (0 : Int))) := ⟨by simpa using h.1, by simpa using h.2, fun p hp => by rw [List.eq_of_mem_replicate hp]; decide⟩
theorem bok_app {b : List (Int × Int)} (hB : BOk b) (h : b.length ≤ 6) {p : Int × Int} (hp : -50 ≤ p.1 ∧ p.1 ≤ p.2 ∧ p.2 ≤ 50) : BOk (b ++ [p]) := ⟨by simp, by simp; omega, fun q hq => by
  rcases List.mem_append.mp hq with h | h
  · exact hB.2.2 q h
  · simp at h; subst h; exact hp⟩

def m__law_more (x0 : (List (Int × Int))) : Str := (m_format_bounds x0)
theorem ok__law_more (T : Txt K mg) : Ok P w K mg base CX0 8 "_law_more" ["_law_bounds_here"] (sp1 K ((fun b => BOk b ∧ 2 ≤ b.length ∧ b.length ≤ 5) : (List (Int × Int)) → Prop) m__law_more) := by
  refine ok_of T.d__law_more sc__law_more (bi1 fun _ _ _ _ _ _ _ => rfl) len_sp1 (fun f cdv A outer s H vs Q E hr h => ?_)
  have nd := sc__law_more.nd
  obtain ⟨v0, x0, rfl, r0, hp, q⟩ := h
  refine ⟨_, (pss_cons (ps_expr (k_app K rfl (pe_fn (ok_moved T) (hr.mono (by decide)) pass0 (pa_cons (pv 0) (pa_cons pe_int pa_nil))) (pe_tup (pa_cons pe_int (pa_cons pe_int pa_nil)))))
      (pss_cons (ps_expr (k_app K rfl (pe_fn (ok_scaled T) (hr.mono (by decide)) pass0 (pa_cons (pv 0) (pa_cons pe_int pa_nil))) (pe_tup (pa_cons pe_int (pa_cons pe_int pa_nil)))))
      (pss_cons (ps_expr (k_app K rfl (pe_fn (ok_widened T) (hr.mono (by decide)) pass0 (pa_cons (pv 0) (pa_cons pe_int pa_nil))) (pe_tup (pa_cons pe_int (pa_cons pe_int pa_nil)))))
      (pss_cons (ps_expr (k_app K rfl (pe_fn (ok_added T) (hr.mono (by decide)) pass0 (pa_cons (pv 0) (pa_cons (pe_frz (pe_op op_rep (pe_lst (pa_cons (pe_tup (pa_cons pe_int (pa_cons pe_int pa_nil))) pa_nil)) (pe_callB (k_len K rfl) (by rfl) T.n_len PySem.boot_len (pa_cons (pv 0) pa_nil)))) pa_nil))) (pe_tup (pa_cons pe_int (pa_cons pe_int pa_nil)))))
      (pss_cons (ps_expr (k_app K rfl (pe_fn (ok_renamed T) (hr.mono (by decide)) pass0 (pa_cons (pv 0) (pa_cons (pe_tupRg rfl (by rfl) T.n_tuple (prg_1 (by rfl) T.n_range (pe_callB (k_len K rfl) (by rfl) T.n_len PySem.boot_len (pa_cons (pv 0) pa_nil)))) pa_nil))) (pe_tup (pa_cons pe_int (pa_cons pe_int pa_nil)))))
      (pss_cons (ps_expr (k_app K rfl (pe_fn (ok_without_value T) (hr.mono (by decide)) pass0 (pa_cons (pv 0) (pa_cons pe_int pa_nil))) (pe_tup (pa_cons pe_int (pa_cons pe_int pa_nil)))))
      (pss_cons (ps_expr (k_app K rfl (pe_fn (ok_with_bound T) (hr.mono (by decide)) pass0 (pa_cons (pv 0) (pa_cons (pe_tup (pa_cons pe_int (pa_cons pe_int pa_nil))) pa_nil))) (pe_tup (pa_cons pe_int (pa_cons pe_int pa_nil)))))
      (pss_cons (ps_expr (k_app K rfl (pe_fn (ok_best_figures T) (hr.mono (by decide)) pass0 (pa_cons (pe_frz (pe_lst (pa_cons (pv 0) pa_nil))) (pa_cons pe_str pa_nil))) pe_int))
      (pss_cons (ps_expr (k_app K rfl (pe_fn (ok_rank_table T) (hr.mono (by decide)) pass0 (pa_cons (pv 0) pa_nil)) (pe_tup (pa_cons pe_int (pa_cons pe_int pa_nil)))))
      (pss_one (ps_ret (pe_fn (ok_format_bounds T) (hr.mono (by decide)) pass0 (pa_cons (pv 0) pa_nil))))))))))))), ?_⟩
  refine q_appNew (K := K) (erl_call2 (er_var rfl r0) er_int (by exact ⟨hp.1, by decide, by rw [mv0]; exact hp.1⟩)) (by have h5 := hp.2.2; first | (rw [l_moved]; omega) | (rw [l_scaled]; omega) | (rw [l_widened]; omega) | (have := l_added x0 (List.replicate (((x0.length : Nat) : Int)).toNat [((0 : Int), (0 : Int))]).flatten; omega) | (rw [l_renamed]; show (rgI 0 x0.length).length < _; rw [len_rgI]; omega) | (have := l_without x0 0; omega) | (rw [l_with]; omega) | (rw [l_table]; omega) | (have := l_best [x0] ("sum" : Str); simp only [List.length_singleton] at this; omega)) (fun _ e2365 => (er_pair er_int er_int)) (fun _ e2364 => ?_)
  refine q_appNew (K := K) (erl_call2 (er_var rfl (Rp.mono (SF.of e2364) r0)) er_int (by exact ⟨hp.1, by decide, by rw [sc1 (ord_of hp.1)]; exact hp.1⟩)) (by have h5 := hp.2.2; first | (rw [l_moved]; omega) | (rw [l_scaled]; omega) | (rw [l_widened]; omega) | (have := l_added x0 (List.replicate (((x0.length : Nat) : Int)).toNat [((0 : Int), (0 : Int))]).flatten; omega) | (rw [l_renamed]; show (rgI 0 x0.length).length < _; rw [len_rgI]; omega) | (have := l_without x0 0; omega) | (rw [l_with]; omega) | (rw [l_table]; omega) | (have := l_best [x0] ("sum" : Str); simp only [List.length_singleton] at this; omega)) (fun _ e2367 => (er_pair er_int er_int)) (fun _ e2366 => ?_)
  refine q_appNew (K := K) (erl_call2 (er_var rfl (Rp.mono ((SF.of e2364).trans (SF.of e2366)) r0)) er_int (by exact ⟨hp.1, by decide, by rw [wd0]; exact hp.1⟩)) (by have h5 := hp.2.2; first | (rw [l_moved]; omega) | (rw [l_scaled]; omega) | (rw [l_widened]; omega) | (have := l_added x0 (List.replicate (((x0.length : Nat) : Int)).toNat [((0 : Int), (0 : Int))]).flatten; omega) | (rw [l_renamed]; show (rgI 0 x0.length).length < _; rw [len_rgI]; omega) | (have := l_without x0 0; omega) | (rw [l_with]; omega) | (rw [l_table]; omega) | (have := l_best [x0] ("sum" : Str); simp only [List.length_singleton] at this; omega)) (fun _ e2369 => (er_pair er_int er_int)) (fun _ e2368 => ?_)
  refine q_appNew (K := K) (erl_call2 (er_var rfl (Rp.mono (((SF.of e2364).trans (SF.of e2366)).trans (SF.of e2368)) r0)) (er_frz (erl_rep (erl_lst (ea_cons (er_pair er_int er_int) ea_nil)) (fun _ e => Er.mono e (er_up (er_len (er_var rfl (Rp.mono (((SF.of e2364).trans (SF.of e2366)).trans (SF.of e2368)) r0))))) (by have := hp.2.2; first | omega | (simp; omega)) (by have := hp.2.2; first | omega | (simp; omega)))) (by rw [zeros_of]; exact ⟨hp.1, bok_rep ⟨by omega, by omega⟩, by simp, by rw [ad0]; exact hp.1⟩)) (by have h5 := hp.2.2; first | (rw [l_moved]; omega) | (rw [l_scaled]; omega) | (rw [l_widened]; omega) | (have := l_added x0 (List.replicate (((x0.length : Nat) : Int)).toNat [((0 : Int), (0 : Int))]).flatten; omega) | (rw [l_renamed]; show (rgI 0 x0.length).length < _; rw [len_rgI]; omega) | (have := l_without x0 0; omega) | (rw [l_with]; omega) | (rw [l_table]; omega) | (have := l_best [x0] ("sum" : Str); simp only [List.length_singleton] at this; omega)) (fun _ e2371 => (er_pair er_int er_int)) (fun _ e2370 => ?_)
  have r2372 := (Rp.mono ((((SF.of e2364).trans (SF.of e2366)).trans (SF.of e2368)).trans (SF.of e2370)) r0)
  refine q_appNew (K := K) (erl_call2 (er_var rfl r2372) (er_tupRg (er_len (er_var rfl r2372)) (by have := hp.2.2; first | omega | (simp; omega))) (by exact ⟨hp.1, List.Perm.refl _⟩)) (by have h5 := hp.2.2; first | (rw [l_moved]; omega) | (rw [l_scaled]; omega) | (rw [l_widened]; omega) | (have := l_added x0 (List.replicate (((x0.length : Nat) : Int)).toNat [((0 : Int), (0 : Int))]).flatten; omega) | (rw [l_renamed]; show (rgI 0 x0.length).length < _; rw [len_rgI]; omega) | (have := l_without x0 0; omega) | (rw [l_with]; omega) | (rw [l_table]; omega) | (have := l_best [x0] ("sum" : Str); simp only [List.length_singleton] at this; omega)) (fun _ e2374 => (er_pair er_int er_int)) (fun _ e2373 => ?_)
  refine q_appNew (K := K) (erl_call2 (er_var rfl (Rp.mono (SF.of e2373) r2372)) er_int (by exact ⟨hp.1, ⟨by decide, by omega⟩, hp.2.1⟩)) (by have h5 := hp.2.2; first | (rw [l_moved]; omega) | (rw [l_scaled]; omega) | (rw [l_widened]; omega) | (have := l_added x0 (List.replicate (((x0.length : Nat) : Int)).toNat [((0 : Int), (0 : Int))]).flatten; omega) | (rw [l_renamed]; show (rgI 0 x0.length).length < _; rw [len_rgI]; omega) | (have := l_without x0 0; omega) | (rw [l_with]; omega) | (rw [l_table]; omega) | (have := l_best [x0] ("sum" : Str); simp only [List.length_singleton] at this; omega)) (fun _ e2376 => (er_pair er_int er_int)) (fun _ e2375 => ?_)
  refine q_appNew (K := K) (erl_call2 (er_var rfl (Rp.mono ((SF.of e2373).trans (SF.of e2375)) r2372)) (er_pair er_int er_int) (by exact ⟨hp.1, by decide, bok_app hp.1 (by omega) (by decide)⟩)) (by have h5 := hp.2.2; first | (rw [l_moved]; omega) | (rw [l_scaled]; omega) | (rw [l_widened]; omega) | (have := l_added x0 (List.replicate (((x0.length : Nat) : Int)).toNat [((0 : Int), (0 : Int))]).flatten; omega) | (rw [l_renamed]; show (rgI 0 x0.length).length < _; rw [len_rgI]; omega) | (have := l_without x0 0; omega) | (rw [l_with]; omega) | (rw [l_table]; omega) | (have := l_best [x0] ("sum" : Str); simp only [List.length_singleton] at this; omega)) (fun _ e2378 => (er_pair er_int er_int)) (fun _ e2377 => ?_)
  refine q_appNew (K := K) (erl_call2 (er_frz (erl_lst (α := (List (Int × Int))) (ea_cons (er_var rfl (Rp.mono (((SF.of e2373).trans (SF.of e2375)).trans (SF.of e2377)) r2372)) ea_nil))) er_str (by exact ⟨Nat.le_refl _, (show 1 ≤ 5 by decide), fun b hb => by simp at hb; subst hb; exact hp.1, rfl⟩)) (by have h5 := hp.2.2; first | (rw [l_moved]; omega) | (rw [l_scaled]; omega) | (rw [l_widened]; omega) | (have := l_added x0 (List.replicate (((x0.length : Nat) : Int)).toNat [((0 : Int), (0 : Int))]).flatten; omega) | (rw [l_renamed]; show (rgI 0 x0.length).length < _; rw [len_rgI]; omega) | (have := l_without x0 0; omega) | (rw [l_with]; omega) | (rw [l_table]; omega) | (have := l_best [x0] ("sum" : Str); simp only [List.length_singleton] at this; omega)) (fun _ e2380 => (er_c (x := (0 : Nat)) fun _ => rfl)) (fun _ e2379 => ?_)
  have r2381 := (Rp.mono ((((SF.of e2373).trans (SF.of e2375)).trans (SF.of e2377)).trans (SF.of e2379)) r2372)
  refine q_appNew (K := K) (erl_call1 (er_var rfl r2381) (by exact hp.1)) (by have h5 := hp.2.2; first | (rw [l_moved]; omega) | (rw [l_scaled]; omega) | (rw [l_widened]; omega) | (have := l_added x0 (List.replicate (((x0.length : Nat) : Int)).toNat [((0 : Int), (0 : Int))]).flatten; omega) | (rw [l_renamed]; show (rgI 0 x0.length).length < _; rw [len_rgI]; omega) | (have := l_without x0 0; omega) | (rw [l_with]; omega) | (rw [l_table]; omega) | (have := l_best [x0] ("sum" : Str); simp only [List.length_singleton] at this; omega)) (fun _ e2383 => (er_pair er_int er_int)) (fun _ e2382 => ?_)
  exact s_ret (K := K) (er_call1 (er_var rfl (Rp.mono (SF.of e2382) r2381)) (by exact hp.1)) (fun u _ e2384 rr => q u _ (((((((((e2364.trans e2366).trans e2368).trans e2370).trans e2373).trans e2375).trans e2377).trans e2379).trans e2382).trans e2384) rr)
/-- check_place, the list not locked -/
def m_cpU (b : List (Int × Int)) (k : Int) : Except Str Unit := if (!(m_is_int k 0 ((b.length : Int) - 1))) = true then .error "BadNumber" else .ok ()
def spCPU (K : Fg) : Sp := fun vs H Q E => ∃ (n : Addr) (l : List (Int × Int)) (v : V) (k : Int), vs = [.ref n, v] ∧ Un K H n l ∧ Rp.rep K H v k ∧ ansX K (m_cpU l k) H Q E
theorem ok_check_placeU (T : Txt K mg) : Ok P w K mg base (L2.CX P w) 2 "check_place" ["bounds", "value"] (spCPU K) := by
  refine okx_of T.d_check_place sc_check_place (bi2 fun _ _ _ _ _ _ _ _ => rfl) (fun vs H Q E h => by obtain ⟨_, _, _, _, rfl, _⟩ := h; rfl) (fun f cdv A outer s H vs Q E hr h => ?_)
  have nd := sc_check_place.nd
  obtain ⟨n, x0, v1, x1, rfl, hu, r1, qo, qe⟩ := h
  refine ⟨_, (pss_one (ps_if (pt_not (pt_val (pe_fn (ok_is_int T) (hr.mono (by decide)) pass0 (pa_cons (pv 1) (pa_cons pe_int (pa_cons (pe_op op_sub (pe_callB (k_len K rfl) (by rfl) T.n_len PySem.boot_len (pa_cons (pv 0) pa_nil)) pe_int) pa_nil)))))) (pss_one (k_raiseQ K rfl tkD (T.x.e "BadNumber" (by decide)))) pss_nil)), ?_⟩
  refine q_last ?_
  refine q_if (K := K) (et_not (et_B (er_call3 (er_var rfl r1) er_int (er_op (er_up (er_lenU rfl hu)) er_int rr_sub) trivial))) (fun hc21 _ e20 => ?_) (fun hc21 _ e20 => ?_)
  · exact qe "BadNumber" (show m_cpU x0 x1 = .error "BadNumber" from by unfold m_cpU; rw [if_pos hc21]) (by decide) _ e20
  · refine s_nxz ?_
    refine s_nx ?_
    exact qo () (show m_cpU x0 x1 = .ok () from by unfold m_cpU; rw [if_neg (nff hc21)]) .non _ e20 rfl
theorem ex_cpU {W : WX} {σ : L2.St} {H : Hp} {ta tb : TE} {a : Addr} {l : List (Int × Int)} {k : Int} (h : Vs ta σ H (.ref a)) (hu : Un K H a l) (h' : Er K tb σ H k) : ExR K W (tCallS (spCPU K) (WE W) (tCons ta (tCons tb tNil))) σ H (m_cpU l k) := fun H1 e Q qe q =>
  h H1 e _ (h' H1 e _ fun v H2 e2 r2 => ⟨a, l, v, k, rfl, hu.mono (e.trans e2), r2, fun y hy v H3 e3 r3 => q y hy v H3 (e2.trans e3) r3, fun c hc hm H3 e3 => qe c hc hm H3 (e2.trans e3)⟩)
theorem T_na (T : Txt K mg) : NoAttr K (He.ga K "Teller") "now" ∧ NoAttr K (He.ga K "Teller") "past" := ⟨T.k_Teller.na _ (by decide), T.k_Teller.na _ (by decide)⟩
theorem okm___init__ (T : Txt K mg) : OkM P w K mg base (L2.CX P w) 5 "Teller" "__init__" ["self", "bounds"] (spTi K BOk) := by
  refine okm_of T.d_Teller___init__ sc_Teller___init__ (bm2 fun _ _ _ _ _ _ _ _ => rfl) (fun vs H Q E h => by obtain ⟨_, _, _, _, rfl, _⟩ := h; rfl) (fun f cdv A outer s H vs Q E hr h => ?_)
  have nd := sc_Teller___init__.nd
  obtain ⟨p, dx, v, b, rfl, hp, r, hB, q⟩ := h
  obtain ⟨naN, naP⟩ := T_na T
  refine ⟨_, (PSs.nox (pss_cons (ps_expr (pe_fn (ok_check_bounds T) (hr.mono (by decide)) pass0 (pa_cons (pv 1) pa_nil)))
    (pss_cons (ps_fld (pv 0) (pe_callTy (k_list K rfl) (by rfl) T.n_list (by decide +kernel) (pa_cons (pv 1) pa_nil)) rfl)
    (pss_one (ps_fld (pv 0) (pe_lst pa_nil) rfl))))), ?_⟩
  refine q_drop (K := K) (er_call1 (er_var rfl r) hB) (fun H1 e1 => ?_)
  refine q_fldL (K := K) rfl (e1 _ _ hp) T.k_Teller.cl naN (by show 0 < 1000; decide) (erl_list (er_var rfl (Rp.mono (SF.of e1) r))) (fun n us H2 e2 hn h2 rn => ?_)
  have hp2 := e2 _ _ (e1 _ _ hp)
  have hnp : n ≠ p := ne_of_none (e1 _ _ hp) hn |>.symm
  have m2 : Mus [p] H (upd H2 p (.ins (He.ga K "Teller") dx (putF "now" (.ref n) []))) := ⟨(SF.of (e1.trans e2)).trans (SF.chg hp2 fun h => nomatch h), fun c o hc hH => by rw [upd_ne (by simpa using hc)]; exact (e1.trans e2) _ _ hH⟩
  refine s_fldL (K := K) (l := ([] : List Int)) rfl upd_same T.k_Teller.cl naP (by show 1 < 1000; decide) (erl_lst ea_nil) (fun a vs H3 e3 ha h3 ra => ?_)
  cases ra
  have hap : a ≠ p := by rintro rfl; rw [upd_same] at ha; cases ha
  have han : a ≠ n := by rintro rfl; rw [upd_ne hnp, h2] at ha; cases ha
  have ha2 : H2 a = none := by rw [upd_ne hap] at ha; exact ha
  have hp3 := e3 _ _ upd_same
  have hn3 : H3 n = some (.lst us) := e3 _ _ (by rw [upd_ne hnp]; exact h2)
  have hi : ¬ Sta (.ins (He.ga K "Teller") dx (putF "now" (.ref n) [])) := fun h => nomatch h
  have sf : SF H2 (upd H3 p (.ins (He.ga K "Teller") dx (putF "past" (.ref a) (putF "now" (.ref n) [])))) := ((SF.chg hp2 fun h => nomatch h).trans (SF.of e3)).trans (SF.chg hp3 hi)
  refine q _ [p, n, a] (m2.trans ⟨(SF.of e3).trans (SF.chg hp3 hi), fun c o hc hH => by rw [upd_ne (by simpa using hc)]; exact e3 _ _ hH⟩) (fun c hc => ?_) ⟨dx, n, a, [], rfl, upd_same, ⟨us, upd_get hn3 hnp, rn.mono sf⟩, upd_get h3 hap, .nil, ?_⟩
  · simp only [List.mem_cons, List.mem_nil_iff, or_false] at hc
    rcases hc with rfl | rfl | rfl
    · exact .inl rfl
    · exact .inr (e1.free hn)
    · exact .inr ((e1.trans e2).free ha2)
  · simp; exact ⟨⟨fun z => hnp z.symm, fun z => hap z.symm⟩, fun z => han z.symm⟩
theorem q_mkT {σ : L2.St} {H : Hp} {D : Ends} {tz : TS} {ta : TE} {k : Nat} {b : List (Int × Int)} (h : Er K ta σ H b) (hB : BOk b) (q : ∀ p H2 fp, Same H H2 → (∀ a ∈ fp, H a = none) → TA K H2 p fp ⟨b, []⟩ → tz D (σ.set k (some (.ref p))) H2) :
    tSeq (tAsg (tMakeX (He.ga K "Teller") (spTi K BOk) noEs (tCons ta tNil)) (gName k)) tz D σ H := h H (Same.refl _) _ fun v H1 e1 r x dx hx hdx ne => by
  have e2 : Same H1 (upd (upd H1 dx (.own x)) x (.ins (He.ga K "Teller") dx [])) := fun c o hc => by rw [upd_ne (ne_of_none hc hx), upd_ne (ne_of_none hc hdx)]; exact hc
  refine ⟨x, dx, v, b, rfl, upd_same, Rp.mono (SF.of e2) r, hB, fun H' fp m hf t => ⟨rfl, ?_⟩⟩
  refine q x H' fp (e1.trans fun c o hc => m.ne c o (by simpa using ne_of_none hc hx) (e2 _ _ hc)) (fun a ha => ?_) t
  rcases hf a ha with rfl | hf
  · exact e1.free hx
  · exact (e1.trans e2).free hf
theorem q_mkT' {σ : L2.St} {H : Hp} {D : Ends} {ta : TE} {k : Nat} {b : List (Int × Int)} (h : Er K ta σ H b) (hB : BOk b) (q : ∀ p H2 fp, Same H H2 → (∀ a ∈ fp, H a = none) → TA K H2 p fp ⟨b, []⟩ → D.nx (σ.set k (some (.ref p))) H2) :
    tAsg (tMakeX (He.ga K "Teller") (spTi K BOk) noEs (tCons ta tNil)) (gName k) D σ H := q_mkT (tz := fun D σ H => D.nx σ H) h hB q
theorem q_mk3 {α β : Type} [Rp α] [Rp β] {σ : L2.St} {H : Hp} {D : Ends} {tz : TS} {ta tb tc : TE} {i j l : Nat} {b : List (Int × Int)} {x : α} {y : β} (h : Er K ta σ H b) (hB : BOk b) (hb : Er K tb σ H x) (hc : Er K tc σ H y)
    (q : ∀ p H2 fp v u, Same H H2 → (∀ a ∈ fp, H a = none) → TA K H2 p fp ⟨b, []⟩ → Rp.rep K H2 v x → Rp.rep K H2 u y → tz D (((σ.set i (some (.ref p))).set j (some v)).set l (some u)) H2) :
    tSeq (tAsg (tTup (tCons (tMakeX (He.ga K "Teller") (fun vs H Q _ => spTi K BOk vs H Q noE) noEs (tCons ta tNil)) (tCons tb (tCons tc tNil)))) (gTup K 3 (gCons (gName i) (gCons (gName j) (gCons (gName l) gNil))))) tz D σ H := h H (Same.refl _) _ fun v H1 e1 r p dx hx hdx ne => by
  have e2 : Same H1 (upd (upd H1 dx (.own p)) p (.ins (He.ga K "Teller") dx [])) := fun c o hc => by rw [upd_ne (ne_of_none hc hx), upd_ne (ne_of_none hc hdx)]; exact hc
  refine ⟨p, dx, v, b, rfl, upd_same, Rp.mono (SF.of e2) r, hB, fun H' fp m hf t => ⟨rfl, ?_⟩⟩
  have e' : Same H H' := e1.trans fun c o hc => m.ne c o (by simpa using ne_of_none hc hx) (e2 _ _ hc)
  have hf' : ∀ a ∈ fp, H a = none := fun a ha => by
    rcases hf a ha with rfl | hf
    · exact e1.free hx
    · exact (e1.trans e2).free hf
  refine hb H' e' _ fun w H3 e3 rw' => hc H3 (e'.trans e3) _ fun u H4 e4 ru => ⟨by show 3 ≤ sizeLine; decide, fun z hz => ?_⟩
  have e5 : Same H4 (upd H4 z (.tup [.ref p, w, u])) := same_new hz
  exact ⟨z, _, rfl, sq_tup upd_same, rfl, _, _, rfl, _, _, rfl, _, _, rfl, rfl, q p _ fp w u (((e'.trans e3).trans e4).trans e5) hf' (t.mono ((e3.trans e4).trans e5)) (Rp.mono (SF.of (e4.trans e5)) rw') (Rp.mono (SF.of e5) ru)⟩
def tellX (s : Ts) (k l h : Int) : Except Str ((Int × Int) × Ts) :=
  if (!(m_is_int k 0 ((s.now.length : Int) - 1))) = true then .error "BadNumber"
  else if ((!(m_is_int l (-(50 : Int)) (50 : Int))) || (!(m_is_int h l (50 : Int)))) = true then .error "BadNumber"
  else if (decide (max l (s.now.getD k.toNat (0, 0)).1 > min h (s.now.getD k.toNat (0, 0)).2)) = true then .error "NotFound"
  else .ok ((max l (s.now.getD k.toNat (0, 0)).1, min h (s.now.getD k.toNat (0, 0)).2), ⟨s.now.set k.toNat (max l (s.now.getD k.toNat (0, 0)).1, min h (s.now.getD k.toNat (0, 0)).2), s.past ++ [s.now]⟩)
theorem okm_tell (T : Txt K mg) : OkM P w K mg base (L2.CX P w) 3 "Teller" "tell" ["self", "place", "low", "high"] (spTell K tellX) := by
  refine okm_of T.d_Teller_tell sc_Teller_tell (bm4 fun _ _ _ _ _ _ _ _ _ _ => rfl) (fun vs H Q E h => by obtain ⟨_, _, _, _, _, _, _, _, _, rfl, _⟩ := h; rfl) (fun f cdv A outer s H vs Q E hr h => ?_)
  have nd := sc_Teller_tell.nd
  obtain ⟨p, fp, st, v1, v2, v3, k, l, h, rfl, r1, r2, r3, tA, hz, qo, qe⟩ := h
  obtain ⟨naN, naP⟩ := T_na T
  obtain ⟨dx, n, q, as, rfl, hp, hN, hq, hA, hnd⟩ := tA
  refine ⟨_, (pss_cons (ps_expr (pe_fnX (ok_check_placeU T) (hr.mono (by decide)) tkD (pa_cons (pe_fld (pv 0) rfl) (pa_cons (pv 1) pa_nil))))
      (pss_cons (ps_if (PW.pt (pw_or (pt_not (pt_val (pe_fn (ok_is_int T) (hr.mono (by decide)) pass0 (pa_cons (pv 2) (pa_cons (pe_un un_neg pe_int) (pa_cons pe_int pa_nil)))))) (pw_or1 (pt_not (pt_val (pe_fn (ok_is_int T) (hr.mono (by decide)) pass0 (pa_cons (pv 3) (pa_cons (pv 2) (pa_cons pe_int pa_nil))))))))) (pss_one (k_raiseQ K rfl tkD (T.x.e "BadNumber" (by decide)))) pss_nil)
      (pss_cons (ps_set (i := 4) nd rfl (.inl rfl) (pe_tup (pa_cons (pe_callB (call_max2 rfl) (by rfl) T.n_max (by decide +kernel) (pa_cons (pv 2) (pa_cons (pe_ix (k_ixt K rfl) (pe_ix (k_ixl K rfl) (pe_fld (pv 0) rfl) (pv 1) (fun _ _ => rfl)) pe_int (fun _ _ => rfl)) pa_nil))) (pa_cons (pe_callB (call_min2 rfl) (by rfl) T.n_min (by decide +kernel) (pa_cons (pv 3) (pa_cons (pe_ix (k_ixt K rfl) (pe_ix (k_ixl K rfl) (pe_fld (pv 0) rfl) (pv 1) (fun _ _ => rfl)) pe_int (fun _ _ => rfl)) pa_nil))) pa_nil))))
      (pss_cons (ps_if (pt_cmpR op_gt (pe_ix (k_ixt K rfl) (pv 4) pe_int (fun _ _ => rfl)) (pe_ix (k_ixt K rfl) (pv 4) pe_int (fun _ _ => rfl)) (nomark _)) (pss_one (k_raiseQ K rfl tkD (T.x.e "NotFound" (by decide)))) pss_nil)
      (PSs.nox (pss_cons (ps_expr (k_app K rfl (pe_fld (pv 0) rfl) (pe_callTy (k_list K rfl) (by rfl) T.n_list (by decide +kernel) (pa_cons (pe_fld (pv 0) rfl) pa_nil))))
      (pss_cons (ps_asg (pv 4) (pg_sub (pe_fld (pv 0) rfl) (pv 1) set_list))
      (pss_one (ps_ret (pv 4)))))))))), ?_⟩
  have fN : ∀ {σ : L2.St} {H1 : Hp}, Same H H1 → σ[0]? = some (some (.ref p)) → Vs (tFld K (tVar 0) "now") σ H1 (.ref n) := fun e h0 => vs_fld h0 (e _ _ hp) T.k_Teller.cl naN fsT_now
  refine q_dropX (K := K) (ex_cpU (fN (Same.refl _) rfl) hN (er_var rfl r1)) (fun c hE hM _ e1 => qe _ (show tellX st k l h = .error c from by
    unfold m_cpU at hE
    by_cases hc : (!(m_is_int k 0 ((st.now.length : Int) - 1))) = true
    · rw [if_pos hc] at hE; cases hE
      unfold tellX; rw [if_pos hc]
    · rw [if_neg hc] at hE; cases hE) hM _ e1) (fun z H1 hy e1 => ?_)
  have hc1 : ¬ (!(m_is_int k 0 ((st.now.length : Int) - 1))) = true := fun hc => by unfold m_cpU at hy; rw [if_pos hc] at hy; cases hy
  refine q_if (K := K) (et_or (et_not (et_B (er_call3 (er_var rfl (Rp.mono (SF.of e1) r2)) (er_neg er_int) er_int trivial))) (fun hsc => (et_not (et_B (er_call3 (er_var rfl (Rp.mono (SF.of e1) r3)) (er_var rfl (Rp.mono (SF.of e1) r2)) er_int trivial))))) (fun hc2 _ e2 => ?_) (fun hc2 H2 e2 => ?_)
  · exact qe "BadNumber" (show tellX st k l h = .error "BadNumber" from by unfold tellX; rw [if_neg hc1, if_pos hc2]) (by decide) _ (e1.trans e2)
  refine s_nxz ?_
  have hk : 0 ≤ k ∧ k < st.now.length := by
    unfold m_is_int at hc1
    simp at hc1
    omega
  obtain ⟨kn, rfl⟩ : ∃ kn : Nat, k = (kn : Int) := ⟨k.toNat, by omega⟩
  have hkn : kn < st.now.length := by omega
  have e12 := e1.trans e2
  have ix : ∀ {H3 : Hp} {σ : L2.St}, Same H H3 → σ[0]? = some (some (.ref p)) → σ[1]? = some (some v1) → Er K (tOp (rIxL K) (tFld K (tVar 0) "now") (tVar 1)) σ H3 (st.now.getD kn (0, 0)) := fun e h0 h1 => er_ixV (fN e h0) (hN.mono e) (er_var h1 (Rp.mono (SF.of e) r1)) (getD_at hkn)
  refine q_set (K := K) (er_pair (er_max2 (er_var rfl (Rp.mono (SF.of e12) r2)) (er_op (ix e12 rfl rfl) er_int rr_ixP0)) (er_min2 (er_var rfl (Rp.mono (SF.of e12) r3)) (er_op (ix e12 rfl rfl) er_int rr_ixP1))) (fun v4 H3 e3 r4 => ?_)
  have e13 := e12.trans e3
  refine q_if (K := K) (et_test (er_op (er_op (er_var rfl r4) er_int rr_ixP0) (er_op (er_var rfl r4) er_int rr_ixP1) rr_gt)) (fun hc4 H4 e4 => ?_) (fun hc4 H4 e4 => ?_)
  · exact qe "NotFound" (show tellX st kn l h = .error "NotFound" from by unfold tellX; rw [if_neg hc1, if_neg (nff hc2)]; exact if_pos hc4) (by decide) _ (e13.trans e4)
  refine s_nxz ?_
  have e14 := e13.trans e4
  have hok : tellX st kn l h = .ok ((max l (st.now.getD kn (0, 0)).1, min h (st.now.getD kn (0, 0)).2), ⟨st.now.set kn (max l (st.now.getD kn (0, 0)).1, min h (st.now.getD kn (0, 0)).2), st.past ++ [st.now]⟩) := by
    unfold tellX; rw [if_neg hc1, if_neg (nff hc2)]; exact if_neg (nff hc4)
  have hA4 : Paired (fun a b => Un K H4 a b) as st.past := paired_mono (fun a b hu => Un.mono e14 hu) hA
  refine q_appLst (K := K) (vs_fld rfl (e14 _ _ hp) T.k_Teller.cl naP fsT_past) (e14 _ _ hq) (by rw [List.length_map, paired_len hA]; exact hz.2) (erl_listV (fN e14 rfl) (hN.mono e14)) (fun a us H5 e5 ha h5 r5 => ?_)
  have e15 := e14.trans e5
  have t1 := ta_app (s := st) (e14 _ _ hp) (hN.mono e14) (e14 _ _ hq) hA4 hnd e5 ha h5 r5
  obtain ⟨dx', n', q', as', hfp, hp', hN', hq', hA', hnd'⟩ := t1
  obtain ⟨-, rfl, rfl, rfl⟩ : p = p ∧ n = n' ∧ q = q' ∧ as ++ [a] = as' := by simpa using hfp
  have m1 : Mu q H5 (upd H5 q (.lst (as.map V.ref ++ [.ref a]))) := mu_upd (Same.refl _) (e15 _ _ hq)
  have hp6 := m1.ne p _ (by have := hnd; simp at this; exact this.1.2.1) (e15 _ _ hp)
  refine q_setV (K := K) (vs_fld rfl hp6 T.k_Teller.cl naN fsT_now) hN' (er_var rfl (Rp.mono ((SF.of (e4.trans e5)).trans m1.sf) r4)) (er_var (x := ((kn : Nat) : Int)) rfl (Rp.mono ((SF.of e15).trans m1.sf) r1)) hkn (fun H7 us7 e7 r7 => ?_)
  obtain ⟨un, hn6, rn6⟩ := hN'
  have t2 := ta_set (s := ⟨st.now, st.past ++ [st.now]⟩) (e7 _ _ hp') (e7 _ _ hn6) (e7 _ _ hq') (paired_mono (fun a b hu => Un.mono e7 hu) hA') hnd' r7
  have m2 : Mu n H7 (upd H7 n (.lst us7)) := mu_upd (Same.refl _) (e7 _ _ hn6)
  refine q_last ?_
  refine s_ret (K := K) (er_var rfl (Rp.mono (((SF.of (e4.trans e5)).trans m1.sf).trans ((SF.of e7).trans m2.sf)) r4)) (fun u H8 e8 rr => ?_)
  refine qo _ _ hok u H8 _ ?_ ?_ (t2.mono e8) rr
  · exact (((Mus.of e15).trans (Mus.mu m1 (by simp))).trans (Mus.of e7)).trans ((Mus.mu m2 (by simp)).trans (Mus.of e8))
  · intro c hc
    simp only [List.mem_cons, List.mem_append, List.mem_nil_iff, or_false] at hc ⊢
    rcases hc with rfl | rfl | rfl | hc | rfl
    · exact .inl (.inl rfl)
    · exact .inl (.inr (.inl rfl))
    · exact .inl (.inr (.inr (.inl rfl)))
    · exact .inl (.inr (.inr (.inr hc)))
    · exact .inr (e14.free ha)
theorem okm_bounds (T : Txt K mg) : OkM P w K mg base (L2.CX P w) 1 "Teller" "bounds" ["self"] (spTl K Ts.now) := by
  refine okm_of T.d_Teller_bounds sc_Teller_bounds (bm1 fun _ _ _ _ _ _ _ => rfl) (fun vs H Q E h => by obtain ⟨_, _, _, rfl, _⟩ := h; rfl) (fun f cdv A outer s H vs Q E hr h => ?_)
  have nd := sc_Teller_bounds.nd
  obtain ⟨p, fp, st, rfl, tA, hz, q⟩ := h
  obtain ⟨naN, naP⟩ := T_na T
  obtain ⟨dx, n, qa, as, rfl, hp, hN, hq, hA, hnd⟩ := tA
  refine ⟨_, (PSs.nox (pss_one (ps_ret (pe_callTy (k_list K rfl) (by rfl) T.n_list (by decide +kernel) (pa_cons (pe_fld (pv 0) rfl) pa_nil))))), ?_⟩
  exact s_retL (K := K) (erl_listV (vs_fld rfl hp T.k_Teller.cl naN fsT_now) hN) (fun p us _ e hn h1 rr => q p us _ e ((Same.refl _).free hn) h1 rr)
def m_kno (s : Ts) : List Nat := mapIf (fun x : Nat × (Int × Int) => decide (x.2.1 = x.2.2)) (fun x : Nat × (Int × Int) => x.1) (enumL s.now)
theorem okm_known (T : Txt K mg) : OkM P w K mg base (L2.CX P w) 1 "Teller" "known" ["self"] (spTl K m_kno) := by
  refine okm_of T.d_Teller_known sc_Teller_known (bm1 fun _ _ _ _ _ _ _ => rfl) (fun vs H Q E h => by obtain ⟨_, _, _, rfl, _⟩ := h; rfl) (fun f cdv A outer s H vs Q E hr h => ?_)
  have nd := sc_Teller_known.nd
  obtain ⟨p, fp, st, rfl, tA, hz, q⟩ := h
  obtain ⟨naN, naP⟩ := T_na T
  obtain ⟨dx, n, qa, as, rfl, hp, ⟨us, hN, rN⟩, hq, hA, hnd⟩ := tA
  refine ⟨_, (PSs.nox (pss_cons (ps_lock (ps_ret (pe_lc (own := [("k", 1), ("one", 2)]) rfl nd (k_pe K rfl (by rfl) T.n_enumerate (pa_cons (pe_fld (pv 0) rfl) pa_nil)) (blkOk_by (N := N_Teller_known) (sc := defScope s_Teller_known) (by decide +kernel)) (fun _ _ _ _ _ => (k_gt K rfl 2 rfl (pgs_cons (pg_name (i := 1) nd rfl (.inl rfl) (.inr rfl)) (pgs_cons (pg_name (i := 2) nd rfl (.inl rfl) (.inr rfl)) pgs_nil)))) (fun _ _ _ _ _ => (pts_one (pt_cmpR op_eq (pe_ix (k_ixt K rfl) (pv 2) pe_int (fun _ _ => rfl)) (pe_ix (k_ixt K rfl) (pv 2) pe_int (fun _ _ => rfl)) (nomark _)))) (fun _ _ _ _ _ => (pv 1))))) pss_nil)), ?_⟩
  have hnp : p ≠ n := by have := hnd; simp at this; exact this.1.1
  refine q_lockd (K := K) hN rN (fun od r0 => ?_)
  have er0 : ∀ {σ : L2.St}, σ[0]? = some (some (.ref p)) → Er K (tFld K (tVar 0) "now") σ (upd H n (.frz od (.lst us))) st.now := fun h0 H1 e1 Q qq => ⟨.ref p, h0, p, _, dx, _, _, rfl, e1 _ _ (upd_get hp hnp), T.k_Teller.cl, naN, fsT_now, qq _ H1 (Same.refl _) (Rp.mono (SF.of e1) r0)⟩
  refine s_retL (K := K) (erl_lc2 (c := fun (x69 : (Nat × (Int × Int))) => (decide (x69.2.1 = x69.2.2))) (f := fun (x69 : (Nat × (Int × Int))) => x69.1) (src_enum (er0 rfl)) (by rw [enumL_len]; have := hz.1; omega) (by intros; rfl) (fun x69 hx70 v71 v72 _ e68 r73 r74 => ⟨(et_test (er_op (er_op (er_var rfl r74) er_int rr_ixP0) (er_op (er_var rfl r74) er_int rr_ixP1) rr_eqI)), fun _ => (er_var rfl r73)⟩)) (fun a ws H1 e1 hn h1 rr => ?_)
  have han : a ≠ n := by rintro rfl; rw [upd_same] at hn; cases hn
  refine ⟨e1 _ _ upd_same, q a ws _ (same_lock hN e1) (by rw [upd_ne han] at hn; exact hn) (by rw [upd_ne han]; exact h1) ?_⟩
  exact paired_mono (fun v n (hv : v = .int (n : Int)) => (show v = .int (n : Int) from hv)) rr
def undoX (s : Ts) : Except Str (List (Int × Int) × Ts) := if s.past = [] then .error "NotFound" else .ok (s.past.getLastD [], ⟨s.past.getLastD [], s.past.dropLast⟩)
theorem er_eqP {σ : L2.St} {H : Hp} {ta tb : TE} {a : Addr} {as : List Addr} {r : List (List (Int × Int))} (h : Vs ta σ H (.ref a)) (hq : H a = some (.lst (as.map V.ref))) (hA : Paired (fun a b => Un K H a b) as r) (hb : Er K tb σ H ([] : List (List (Int × Int)))) : Er K (tOp (rEqD K) ta tb) σ H (decide (r = [])) := by
  intro H1 e Q q
  refine h H1 e _ (hb H1 e _ fun u H2 e2 r2 => ⟨_, _, ?_, Rq.dp r2, shaped_of (α := List (List (Int × Int))) (Rt.all r) (by decide), shaped_of (α := List (List (Int × Int))) (Rt.all []) (by decide), ?_⟩)
  · refine Dp.lst (sq_lst ((e.trans e2) _ _ hq)) ?_
    have hA' : Paired (fun a b => Un K H2 a b) as r := paired_mono (fun a b hu => Un.mono (e.trans e2) hu) hA
    clear hA hq h q hb r2
    induction hA' with
    | nil => exact .nil
    | cons x y ih => exact .cons (un_dp x) ih
  · rw [eqv_dec]; exact q _ H2 e2 rfl
theorem okm_undo (T : Txt K mg) : OkM P w K mg base (L2.CX P w) 3 "Teller" "undo" ["self"] (spUndo K undoX) := by
  refine okm_of T.d_Teller_undo sc_Teller_undo (bm1 fun _ _ _ _ _ _ _ => rfl) (fun vs H Q E h => by obtain ⟨_, _, _, rfl, _⟩ := h; rfl) (fun f cdv A outer s H vs Q E hr h => ?_)
  have nd := sc_Teller_undo.nd
  obtain ⟨p, fp, st, rfl, tA, hz, qo, qe⟩ := h
  obtain ⟨naN, naP⟩ := T_na T
  obtain ⟨dx, n, q, as, rfl, hp, hN, hq, hA, hnd⟩ := tA
  refine ⟨_, (pss_cons (ps_if (pt_cmpR (k_eqD K rfl hr.units) (pe_fld (pv 0) rfl) (pe_frz (pe_lst pa_nil)) (nomark _)) (pss_one (k_raiseQ K rfl tkD (T.x.e "NotFound" (by decide)))) pss_nil)
      (PSs.nox (pss_cons (ps_fld (pv 0) (pe_bm0 PySem.F.plainAttrs_list PySem.F.slot_list_pop PySem.F.type_list_pop mt_pop (pe_fld (pv 0) rfl)) rfl)
      (pss_one (ps_ret (pe_callTy (k_list K rfl) (by rfl) T.n_list (by decide +kernel) (pa_cons (pe_fld (pv 0) rfl) pa_nil))))))), ?_⟩
  have h0 : (start ["self"] [V.ref p])[0]? = some (some (.ref p)) := rfl
  refine q_if (K := K) (et_test (er_eqP (vs_fld h0 hp T.k_Teller.cl naP fsT_past) hq hA (er_frz (erl_lst ea_nil)))) (fun hc H1 e1 => ?_) (fun hc H1 e1 => ?_)
  · exact qe "NotFound" (show undoX st = .error "NotFound" from by unfold undoX; exact if_pos (of_decide_eq_true hc)) (by decide) _ e1
  refine s_nxz ?_
  have hne : st.past ≠ [] := of_decide_eq_false hc
  have hl : st.past = st.past.dropLast ++ [st.past.getLastD []] := by
    rw [List.getLastD_eq_getLast?, List.getLast?_eq_some_getLast hne]
    exact (List.dropLast_concat_getLast hne).symm
  have hok : undoX st = .ok (st.past.getLastD [], ⟨st.past.getLastD [], st.past.dropLast⟩) := by unfold undoX; exact if_neg hne
  refine q_pop (K := K) (s := st) h0 (e1 _ _ hp) (hN.mono e1) (e1 _ _ hq) (paired_mono (fun a b hu => Un.mono e1 hu) hA) hnd T.k_Teller.cl naN naP hl (fun H2 as' a has m2 t2 => ?_)
  subst has
  have t2' := t2
  obtain ⟨dx', n', q', as2, hfp, hp2, hN2, hq2, hA2, hnd2⟩ := t2
  obtain ⟨-, rfl, rfl, rfl⟩ : p = p ∧ a = n' ∧ q = q' ∧ as' = as2 := by simpa using hfp
  refine q_last ?_
  refine s_retL (K := K) (erl_listV (vs_fld h0 hp2 T.k_Teller.cl naN fsT_now) hN2) (fun c us H3 e3 hn h3 rr => ?_)
  refine qo _ _ hok c us H3 _ (((Mus.of e1).trans (m2.sub (by simp))).trans (Mus.of e3)) (fun x hx => ?_) (t2'.mono e3) (e1.free (m2.fresh (fun hc => t2'.there c (by simp at hc; rcases hc with rfl | rfl <;> simp) hn) hn)) (fun hx => t2'.there c hx hn) h3 rr
  simp only [List.mem_cons, List.mem_append, List.mem_nil_iff, or_false] at hx ⊢
  rcases hx with rfl | rfl | rfl | hx
  · exact .inl (.inl rfl)
  · exact .inl (.inr (.inr (.inr (.inr rfl))))
  · exact .inl (.inr (.inr (.inl rfl)))
  · exact .inl (.inr (.inr (.inr (.inl hx))))
def m_len (s : Ts) : Nat := s.past.length
theorem okm___len__ (T : Txt K mg) : OkM P w K mg base (L2.CX P w) 1 "Teller" "__len__" ["self"] (spTv K m_len) := by
  refine okm_of T.d_Teller___len__ sc_Teller___len__ (bm1 fun _ _ _ _ _ _ _ => rfl) (fun vs H Q E h => by obtain ⟨_, _, _, rfl, _⟩ := h; rfl) (fun f cdv A outer s H vs Q E hr h => ?_)
  have nd := sc_Teller___len__.nd
  obtain ⟨p, fp, st, rfl, tA, hz, q⟩ := h
  obtain ⟨naN, naP⟩ := T_na T
  obtain ⟨dx, n, qa, as, rfl, hp, hN, hq, hA, hnd⟩ := tA
  refine ⟨_, (PSs.nox (pss_one (ps_ret (pe_callB (k_len K rfl) (by rfl) T.n_len PySem.boot_len (pa_cons (pe_fld (pv 0) rfl) pa_nil))))), ?_⟩
  exact s_ret (K := K) ((er_lenR (vs_fld rfl hp T.k_Teller.cl naP fsT_past) hq).to (show _ = m_len st by rw [List.length_map, paired_len hA]; rfl)) (fun u _ e rr => q u _ e rr)

end
end BL

set_option Elab.async false
set_option linter.all false
set_option maxRecDepth 100000
set_option maxHeartbeats 2000000
namespace BL
open PySem PySem.Spec PyProof.Rows L2
theorem mapIf_id {α : Type} {c : α → Bool} {l : List α} : mapIf c (fun x : α => x) l = l.filter c := by unfold mapIf; rw [List.map_id']
def LE1 (b : List (Int × Int)) (x y : Int) : Prop := (b.getD x.toNat (0, 0)).1 ≤ (b.getD y.toNat (0, 0)).2
def lf (n : Nat) (d : List Int) : List Nat := (List.range n).filter fun k : Nat => neg true (decide (((k : Nat) : Int) ∈ d))
theorem lf_mem {n : Nat} {d : List Int} {k : Nat} : k ∈ lf n d ↔ k < n ∧ ((k : Nat) : Int) ∉ d := by
  unfold lf neg
  rw [List.mem_filter, List.mem_range]
  simp
def AO (n : Nat) : Nat → List Int → List (List Int)
  | 0, _ => [[]]
  | m + 1, d => (lf n d).flatMap fun k : Nat => (AO n m (d ++ [((k : Nat) : Int)])).map (((k : Nat) : Int) :: ·)
def CO (b : List (Int × Int)) : Nat → List Int → List (List Int)
  | 0, _ => [[]]
  | m + 1, d => (m_next_places b d).flatMap fun k : Nat => (CO b m (d ++ [((k : Nat) : Int)])).map (((k : Nat) : Int) :: ·)
def ps (b : List (Int × Int)) : List Int → Bool
  | [] => true
  | x :: t => (t.all fun j => decide ((b.getD x.toNat (0, 0)).1 ≤ (b.getD j.toNat (0, 0)).2)) && ps b t
theorem ps_pair {b : List (Int × Int)} : ∀ {o : List Int}, ps b o = true ↔ o.Pairwise (LE1 b)
  | [] => by simp [ps]
  | x :: t => by
    unfold ps
    rw [Bool.and_eq_true, List.pairwise_cons, ps_pair, List.all_eq_true]
    simp only [decide_eq_true_eq, LE1]
theorem flatMap_filter_if {α β : Type} {c : α → Bool} {g : α → List β} : ∀ {l : List α}, (l.flatMap fun k => if c k = true then g k else []) = (l.filter c).flatMap g
  | [] => rfl
  | x :: l => by
    rw [List.flatMap_cons, List.filter_cons, flatMap_filter_if]
    by_cases h : c x = true
    · rw [if_pos h, if_pos h, List.flatMap_cons]
    · rw [if_neg h, if_neg h, List.nil_append]
theorem all_congrL {α : Type} {f g : α → Bool} : ∀ {l : List α}, (∀ x ∈ l, f x = g x) → l.all f = l.all g
  | [], _ => rfl
  | x :: l, h => by rw [List.all_cons, List.all_cons, h x (List.mem_cons_self ..), all_congrL fun y hy => h y (List.mem_cons_of_mem _ hy)]
theorem flatMap_ext {α β : Type} {f g : α → List β} : ∀ {l : List α}, (∀ x ∈ l, f x = g x) → l.flatMap f = l.flatMap g
  | [], _ => rfl
  | x :: l, h => by rw [List.flatMap_cons, List.flatMap_cons, h x (List.mem_cons_self ..), flatMap_ext fun y hy => h y (List.mem_cons_of_mem _ hy)]
theorem filter_flat {α β : Type} {f : α → List β} {p : β → Bool} : ∀ {l : List α}, (l.flatMap f).filter p = l.flatMap fun x => (f x).filter p
  | [] => rfl
  | x :: l => by rw [List.flatMap_cons, List.flatMap_cons, List.filter_append, filter_flat]
theorem np_lf (b : List (Int × Int)) (d : List Int) : m_next_places b d = (lf b.length d).filter fun k : Nat => (lf b.length d).all fun j : Nat => decide ((b.getD k (0, 0)).1 ≤ (b.getD j (0, 0)).2) := by
  unfold m_next_places
  simp only [mapIf_id]
  show (lf b.length d).filter _ = _
  congr 1
  funext k
  rw [List.all_map]; rfl
theorem AO_mem {n : Nat} : ∀ (m : Nat) {d t : List Int}, t ∈ AO n m d → t.length = m ∧ t.Nodup ∧ ∀ y ∈ t, (0 ≤ y ∧ y < (n : Int)) ∧ y ∉ d
  | 0, d, t, h => by rw [List.mem_singleton.mp h]; exact ⟨rfl, List.nodup_nil, fun _ h => by cases h⟩
  | m + 1, d, t, h => by
    obtain ⟨k, hk, ht⟩ := List.mem_flatMap.mp h
    obtain ⟨t', ht', rfl⟩ := List.mem_map.mp ht
    obtain ⟨h1, h2⟩ := lf_mem.mp hk
    obtain ⟨a1, a2, a3⟩ := AO_mem m ht'
    refine ⟨by rw [List.length_cons, a1], List.nodup_cons.mpr ⟨fun q => (a3 _ q).2 (List.mem_append_right _ (List.mem_singleton.mpr rfl)), a2⟩, fun y hy => ?_⟩
    rcases List.mem_cons.mp hy with q | q
    · rw [q]; exact ⟨by omega, h2⟩
    · exact ⟨(a3 y q).1, fun c => (a3 y q).2 (List.mem_append_left _ c)⟩
theorem row_all {n : Nat} {o : List Int} (h : RowK n o) (hl : o.length = n) {k : Nat} (hk : k < n) : ((k : Nat) : Int) ∈ o := by
  have h1 := co_srt hl h.2 h.1
  have h2 : ((k : Nat) : Int) ∈ srt o := by rw [h1]; exact co_mem.mpr (by omega)
  exact (srt_perm o).mem_iff.mp h2
theorem AO_row {n m : Nat} {d t : List Int} (hd : RowK n d) (ht : t ∈ AO n m d) : RowK n (d ++ t) := by
  obtain ⟨a1, a2, a3⟩ := AO_mem m ht
  refine ⟨List.nodup_append.mpr ⟨hd.1, a2, fun x hx y hy e => (a3 y hy).2 (e ▸ hx)⟩, fun y hy => ?_⟩
  rcases List.mem_append.mp hy with q | q
  · exact hd.2 y q
  · exact (a3 y q).1
theorem AO_filter {b : List (Int × Int)} (hb : ∀ p ∈ b, p.1 ≤ p.2) : ∀ (m : Nat) {d : List Int}, RowK b.length d → d.length + m = b.length → (AO b.length m d).filter (ps b) = CO b m d
  | 0, _, _, _ => rfl
  | m + 1, d, hd, hl => by
    show ((lf b.length d).flatMap fun k : Nat => (AO b.length m (d ++ [((k : Nat) : Int)])).map (((k : Nat) : Int) :: ·)).filter (ps b) = (m_next_places b d).flatMap _
    rw [filter_flat, np_lf, ← flatMap_filter_if]
    refine flatMap_ext fun k hk => ?_
    obtain ⟨k1, k2⟩ := lf_mem.mp hk
    have hd2 := rowK_snoc hd k1 k2
    have ih := AO_filter hb m hd2 (by rw [List.length_append, List.length_singleton]; omega)
    rw [List.filter_map]
    by_cases c : ((lf b.length d).all fun j : Nat => decide ((b.getD k (0, 0)).1 ≤ (b.getD j (0, 0)).2)) = true
    · rw [if_pos c, ← ih]
      congr 1
      refine List.filter_congr fun t ht => ?_
      obtain ⟨a1, a2, a3⟩ := AO_mem m ht
      show (ps b (((k : Nat) : Int) :: t)) = ps b t
      unfold ps
      rw [show (t.all fun j => decide ((b.getD (((k : Nat) : Int)).toNat (0, 0)).1 ≤ (b.getD j.toNat (0, 0)).2)) = true from ?_, Bool.true_and]
      · cases t <;> rfl
      · rw [List.all_eq_true] at c ⊢
        intro y hy
        have h3 := a3 y hy
        have := c y.toNat (lf_mem.mpr ⟨by omega, fun q => h3.2 (List.mem_append_left _ (by rw [Int.toNat_of_nonneg h3.1.1] at q; exact q))⟩)
        rw [Int.toNat_natCast]; exact this
    · rw [if_neg c, List.filter_eq_nil_iff.mpr, List.map_nil]
      intro t ht hp
      apply c
      have hr := AO_row hd2 ht
      obtain ⟨a1, a2, a3⟩ := AO_mem m ht
      have hall := fun j hj => row_all hr (by rw [List.length_append, List.length_append, List.length_singleton, a1]; omega) (k := j) hj
      have hp2 : ps b (((k : Nat) : Int) :: t) = true := hp
      unfold ps at hp2
      have hp3 := List.all_eq_true.mp (Bool.and_eq_true_iff.mp hp2).1
      rw [List.all_eq_true]
      intro j hj
      obtain ⟨j1, j2⟩ := lf_mem.mp hj
      rcases List.mem_append.mp (hall j j1) with q | q
      · rcases List.mem_append.mp q with q | q
        · exact absurd q j2
        · have e : j = k := by have := List.mem_singleton.mp q; omega
          rw [e]; exact decide_eq_true (hb _ (at_mem k1))
      · have := hp3 _ q
        rw [Int.toNat_natCast, Int.toNat_natCast] at this
        exact this
theorem AO_pos {n : Nat} : ∀ (m : Nat) {d : List Int}, RowK n d → d.length + m = n → 0 < (AO n m d).length
  | 0, _, _, _ => Nat.one_pos
  | m + 1, d, hd, hl => by
    obtain ⟨k, hk⟩ : ∃ k, k ∈ lf n d := by
      cases e : lf n d with
      | cons k _ => exact ⟨k, List.mem_cons_self ..⟩
      | nil =>
        exfalso
        have h1 := nodup_sub (l := rgI 0 n) (m := d) (List.Pairwise.imp (fun h => by omega) (co_rg n)) fun y hy => by
          have hy := co_mem.mp hy
          by_cases c : y ∈ d
          · exact c
          · have : y.toNat ∈ lf n d := lf_mem.mpr ⟨by omega, by rw [Int.toNat_of_nonneg hy.1]; exact c⟩
            rw [e] at this; cases this
        unfold rgI at h1
        rw [List.length_map, List.length_range] at h1
        omega
    obtain ⟨k1, k2⟩ := lf_mem.mp hk
    have ih := AO_pos m (rowK_snoc hd k1 k2) (by rw [List.length_append, List.length_singleton]; omega)
    obtain ⟨t, ht⟩ := List.exists_mem_of_length_pos ih
    exact List.length_pos_of_mem (List.mem_flatMap.mpr ⟨k, hk, List.mem_map.mpr ⟨t, ht, rfl⟩⟩)
theorem W_len (b : List (Int × Int)) : ∀ (m : Nat) (d : List Int), W b m d = ((CO b m d).length : Int)
  | 0, _ => rfl
  | m + 1, d => by
    show ((m_next_places b d).map fun k : Nat => W b m (d ++ [((k : Nat) : Int)])).sum = (((m_next_places b d).flatMap fun k : Nat => (CO b m (d ++ [((k : Nat) : Int)])).map (((k : Nat) : Int) :: ·)).length : Int)
    generalize m_next_places b d = ks
    induction ks with
    | nil => rfl
    | cons k ks ih =>
      rw [List.map_cons, List.sum_cons, List.flatMap_cons, List.length_append, List.length_map, ih, W_len b m]; omega
theorem pick_at {b : List (Int × Int)} {m : Nat} {d : List Int} : ∀ {ks : List Nat} {r : Int}, 0 ≤ r → (ks.flatMap fun k : Nat => (CO b m (d ++ [((k : Nat) : Int)])).map (((k : Nat) : Int) :: ·))[r.toNat]? = (match pickW b m d ks r with
    | some p => ((CO b m (d ++ [((p.1 : Nat) : Int)]))[p.2.toNat]?).map (((p.1 : Nat) : Int) :: ·)
    | none => none)
  | [], _, _ => by simp [pickW]
  | k :: ks, r, h => by
    rw [List.flatMap_cons]
    unfold pickW
    have hw := W_len b m (d ++ [((k : Nat) : Int)])
    by_cases c : r < W b m (d ++ [((k : Nat) : Int)])
    · rw [if_pos c, List.getElem?_append_left (by rw [List.length_map]; omega), List.getElem?_map]
    · rw [if_neg c, List.getElem?_append_right (by rw [List.length_map]; omega), List.length_map, ← pick_at (by omega)]
      congr 1
      omega
theorem pick_le {b : List (Int × Int)} {m : Nat} {d : List Int} : ∀ {ks : List Nat} {r : Int} {p : Nat × Int}, 0 ≤ r → pickW b m d ks r = some p → 0 ≤ p.2
  | [], _, _, _, h => by cases h
  | k :: ks, r, p, h0, h => by
    unfold pickW at h
    by_cases c : r < W b m (d ++ [((k : Nat) : Int)])
    · rw [if_pos c] at h; cases h; exact h0
    · rw [if_neg c] at h; exact pick_le (by omega) h
theorem OA_at {b : List (Int × Int)} : ∀ (m : Nat) {d : List Int} {r : Int} {t : List Int}, 0 ≤ r → (CO b m d)[r.toNat]? = some t → OA b m d r = d ++ t
  | 0, d, r, t, _, h => by
    have h2 := List.mem_of_getElem? h
    rw [List.mem_singleton.mp h2, List.append_nil]; rfl
  | m + 1, d, r, t, h0, h => by
    have h1 : ((m_next_places b d).flatMap fun k : Nat => (CO b m (d ++ [((k : Nat) : Int)])).map (((k : Nat) : Int) :: ·))[r.toNat]? = some t := h
    rw [pick_at h0] at h1
    show (match pickW b m d (m_next_places b d) r with | some p => OA b m (d ++ [((p.1 : Nat) : Int)]) p.2 | none => d) = _
    cases e : pickW b m d (m_next_places b d) r with
    | none => rw [e] at h1; cases h1
    | some p =>
      rw [e] at h1
      obtain ⟨t', h2, h3⟩ := Option.map_eq_some_iff.mp h1
      show OA b m (d ++ [((p.1 : Nat) : Int)]) p.2 = _
      rw [OA_at m (pick_le h0 e) h2, ← h3]
      simp
theorem np_asc (b : List (Int × Int)) (d : List Int) : (m_next_places b d).Pairwise (· < ·) := by
  rw [np_lf]
  exact (List.pairwise_lt_range.filter _).filter _
theorem np_pos {b : List (Int × Int)} (hb : ∀ p ∈ b, p.1 ≤ p.2) {d : List Int} (h : lf b.length d ≠ []) : m_next_places b d ≠ [] := by
  have h1 : ((lf b.length d).map fun k : Nat => (b.getD k (0, 0)).1) ≠ [] := fun e => h (List.map_eq_nil_iff.mp e)
  obtain ⟨k, hk, e⟩ := List.mem_map.mp (mnl_mem h1)
  intro c
  have : k ∈ m_next_places b d := by
    rw [np_lf]
    refine List.mem_filter.mpr ⟨hk, List.all_eq_true.mpr fun j hj => decide_eq_true ?_⟩
    have h2 := mnl_le (List.mem_map.mpr ⟨j, hj, rfl⟩ : (b.getD j (0, 0)).1 ∈ (lf b.length d).map fun k : Nat => (b.getD k (0, 0)).1)
    have h3 := hb _ (at_mem (d := (0, 0)) (lf_mem.mp hj).1)
    omega
  rw [c] at this; cases this
theorem CO_pos {b : List (Int × Int)} (hb : ∀ p ∈ b, p.1 ≤ p.2) : ∀ (m : Nat) {d : List Int}, RowK b.length d → d.length + m = b.length → 0 < (CO b m d).length
  | 0, _, _, _ => Nat.one_pos
  | m + 1, d, hd, hl => by
    have h0 : lf b.length d ≠ [] := by
      have h1 := AO_pos (m + 1) hd hl
      intro e
      have : AO b.length (m + 1) d = [] := by show (lf b.length d).flatMap _ = _; rw [e]; rfl
      rw [this] at h1; cases h1
    cases e : m_next_places b d with
    | nil => exact absurd e (np_pos hb h0)
    | cons k ks =>
      have hk : k ∈ m_next_places b d := by rw [e]; exact List.mem_cons_self ..
      obtain ⟨k1, k2⟩ := np_mem hk
      have ih := CO_pos hb m (rowK_snoc hd k1 k2) (by rw [List.length_append, List.length_singleton]; omega)
      obtain ⟨t, ht⟩ := List.exists_mem_of_length_pos ih
      exact List.length_pos_of_mem (List.mem_flatMap.mpr ⟨k, hk, List.mem_map.mpr ⟨t, ht, rfl⟩⟩)
/-! ### limits handed along edges, until nothing changes -/
def estep (h : Nat → Int) (e : Nat × Nat) : Nat → Int := fun m => if m = e.1 then min (h e.1) (h e.2) else h m
def pass (E : List (Nat × Nat)) (h : Nat → Int) : Nat → Int := E.foldl estep h
def iter {α : Type} (f : α → α) : Nat → α → α
  | 0, h => h
  | n + 1, h => f (iter f n h)
theorem estep_le (h : Nat → Int) (e : Nat × Nat) (m : Nat) : estep h e m ≤ h m := by
  unfold estep; split
  · rename_i q; subst q; omega
  · exact Int.le_refl _
theorem pass_le : ∀ (E : List (Nat × Nat)) (h : Nat → Int) (m : Nat), pass E h m ≤ h m
  | [], _, _ => Int.le_refl _
  | e :: E, h, m => Int.le_trans (pass_le E (estep h e) m) (estep_le h e m)
theorem pass_edge : ∀ (E : List (Nat × Nat)) (h : Nat → Int) (e : Nat × Nat), e ∈ E → pass E h e.1 ≤ h e.2
  | f :: E, h, e, he => by
    rcases List.mem_cons.mp he with q | he
    · subst q
      refine Int.le_trans (pass_le E (estep h e) e.1) ?_
      unfold estep; rw [if_pos rfl]; omega
    · exact Int.le_trans (pass_edge E (estep h f) e he) (estep_le h f e.2)
theorem pass_low {W : Nat → Int} : ∀ (E : List (Nat × Nat)) (h : Nat → Int), (∀ e ∈ E, W e.1 ≤ W e.2) → (∀ m, W m ≤ h m) → ∀ m, W m ≤ pass E h m
  | [], _, _, hw, m => hw m
  | e :: E, h, hE, hw, m => by
    refine pass_low E (estep h e) (fun f hf => hE f (List.mem_cons_of_mem _ hf)) (fun k => ?_) m
    unfold estep; split
    · rename_i q; subst q
      have := hE e (List.mem_cons_self ..)
      have := hw e.1
      have := hw e.2
      omega
    · exact hw k
/-- all edges at once -/
def jac (E : List (Nat × Nat)) (h : Nat → Int) (k : Nat) : Int := E.foldl (fun a e => if e.1 = k then min a (h e.2) else a) (h k)
theorem jacf : ∀ (E : List (Nat × Nat)) (h : Nat → Int) (k : Nat) (a : Int), E.foldl (fun a e => if e.1 = k then min a (h e.2) else a) a ≤ a ∧ (∀ e ∈ E, e.1 = k → E.foldl (fun a e => if e.1 = k then min a (h e.2) else a) a ≤ h e.2) ∧
    (E.foldl (fun a e => if e.1 = k then min a (h e.2) else a) a = a ∨ ∃ e ∈ E, e.1 = k ∧ E.foldl (fun a e => if e.1 = k then min a (h e.2) else a) a = h e.2)
  | [], _, _, _ => ⟨Int.le_refl _, fun _ h => (nomatch h), .inl rfl⟩
  | f :: E, h, k, a => by
    rw [List.foldl_cons]
    obtain ⟨h1, h2, h3⟩ := jacf E h k (if f.1 = k then min a (h f.2) else a)
    refine ⟨Int.le_trans h1 (by split <;> omega), fun e he hk => ?_, ?_⟩
    · rcases List.mem_cons.mp he with q | he
      · subst q; rw [if_pos hk] at h1 ⊢; omega
      · exact h2 e he hk
    · rcases h3 with e3 | ⟨e, he, hk, e3⟩
      · rw [e3]
        by_cases q : f.1 = k
        · rw [if_pos q]
          by_cases c : a ≤ h f.2
          · exact .inl (by omega)
          · exact .inr ⟨f, List.mem_cons_self .., q, by omega⟩
        · rw [if_neg q]; exact .inl rfl
      · exact .inr ⟨e, List.mem_cons_of_mem _ he, hk, e3⟩
theorem jac_le (E : List (Nat × Nat)) (h : Nat → Int) (k : Nat) : jac E h k ≤ h k := (jacf E h k (h k)).1
theorem jac_edge {E : List (Nat × Nat)} (h : Nat → Int) {e : Nat × Nat} (he : e ∈ E) : jac E h e.1 ≤ h e.2 := (jacf E h e.1 (h e.1)).2.1 e he rfl
theorem jac_is (E : List (Nat × Nat)) (h : Nat → Int) (k : Nat) : jac E h k = h k ∨ ∃ e ∈ E, e.1 = k ∧ jac E h k = h e.2 := (jacf E h k (h k)).2.2
theorem jac_mono {E : List (Nat × Nat)} {h g : Nat → Int} (hg : ∀ m, h m ≤ g m) (k : Nat) : jac E h k ≤ jac E g k := by
  rcases jac_is E g k with e | ⟨f, hf, hk, e⟩
  · rw [e]; exact Int.le_trans (jac_le E h k) (hg k)
  · rw [e]; subst hk; exact Int.le_trans (jac_edge h hf) (hg _)
theorem pass_jac (E : List (Nat × Nat)) (h : Nat → Int) (k : Nat) : pass E h k ≤ jac E h k := by
  rcases jac_is E h k with e | ⟨f, hf, hk, e⟩
  · rw [e]; exact pass_le E h k
  · rw [e]; subst hk; exact pass_edge E h f hf
theorem nodup_lt : ∀ (n : Nat) (l : List Nat), l.Nodup → (∀ m ∈ l, m < n) → l.length ≤ n
  | 0, [], _, _ => Nat.le_refl _
  | 0, m :: l, _, h => absurd (h m (List.mem_cons_self ..)) (Nat.not_lt_zero _)
  | n + 1, l, hl, h => by
    by_cases c : n ∈ l
    · have h1 := nodup_lt n (l.erase n) (hl.erase n) fun m hm => by
        have h2 := h m (List.mem_of_mem_erase hm)
        have h3 : m ≠ n := fun e => by subst e; exact (List.Nodup.not_mem_erase hl) hm
        omega
      rw [List.length_erase_of_mem c] at h1
      omega
    · have := nodup_lt n l hl fun m hm => by
        have h2 := h m hm
        have h3 : m ≠ n := fun e => c (e ▸ hm)
        omega
      omega
theorem iter_le (E : List (Nat × Nat)) (h : Nat → Int) : ∀ (a b : Nat), a ≤ b → ∀ m, iter (jac E) b h m ≤ iter (jac E) a h m
  | a, b, hab, m => by
    induction hab with
    | refl => exact Int.le_refl _
    | step _ ih => exact Int.le_trans (jac_le E _ m) ih
/-- what changes at step t + 1 has t + 2 places behind it -/
theorem chain {E : List (Nat × Nat)} {n : Nat} (hE : ∀ e ∈ E, e.1 < n ∧ e.2 < n) (h : Nat → Int) : ∀ (t k : Nat) (v : Int), k < n → iter (jac E) t h k = v → (∀ s, s + 1 = t → v < iter (jac E) s h k) → ∃ l : List Nat, l.length = t + 1 ∧ l.Nodup ∧ ∀ m ∈ l, m < n ∧ iter (jac E) t h m ≤ v
  | 0, k, v, hk, e, _ => ⟨[k], rfl, by simp, fun m hm => by rw [List.mem_singleton.mp hm]; exact ⟨hk, by rw [e]; exact Int.le_refl _⟩⟩
  | t + 1, k, v, hk, e, hc => by
    have hlt := hc t rfl
    have e' : jac E (iter (jac E) t h) k = v := e
    rcases jac_is E (iter (jac E) t h) k with q | ⟨f, hf, hfk, q⟩
    · rw [q] at e'; omega
    · rw [q] at e'
      obtain ⟨l, h1, h2, h3⟩ := chain hE h t f.2 v (hE f hf).2 e' fun s hs => by
        subst hs
        by_cases c : v < iter (jac E) s h f.2
        · exact c
        · exfalso
          have := jac_edge (iter (jac E) s h) hf
          rw [hfk] at this
          have hlt : v < jac E (iter (jac E) s h) k := hlt
          omega
      have hn : k ∉ l := fun hm => by have := (h3 k hm).2; omega
      refine ⟨k :: l, by rw [List.length_cons, h1], List.nodup_cons.mpr ⟨hn, h2⟩, fun m hm => ?_⟩
      rcases List.mem_cons.mp hm with z | hm
      · subst z; exact ⟨hk, by rw [e]; exact Int.le_refl _⟩
      · exact ⟨(h3 m hm).1, Int.le_trans (jac_le E _ m) (h3 m hm).2⟩
theorem jac_stop {E : List (Nat × Nat)} {n : Nat} (hE : ∀ e ∈ E, e.1 < n ∧ e.2 < n) (h : Nat → Int) (k : Nat) : jac E (iter (jac E) n h) k = iter (jac E) n h k := by
  rcases jac_is E (iter (jac E) n h) k with q | ⟨f, hf, hfk, q⟩
  · exact q
  · by_cases c : jac E (iter (jac E) n h) k < iter (jac E) n h k
    · exfalso
      obtain ⟨l, h1, h2, h3⟩ := chain hE h (n + 1) k _ (hfk ▸ (hE f hf).1) rfl fun s hs => by
        have : s = n := by omega
        subst this; exact c
      have := nodup_lt n l h2 fun m hm => (h3 m hm).1
      omega
    · have := jac_le E (iter (jac E) n h) k
      omega
theorem passes_jac (E : List (Nat × Nat)) (h : Nat → Int) : ∀ t m, iter (pass E) t h m ≤ iter (jac E) t h m
  | 0, _ => Int.le_refl _
  | t + 1, m => Int.le_trans (pass_jac E _ m) (jac_mono (passes_jac E h t) m)
/-- n passes are enough -/
theorem passes_stop {E : List (Nat × Nat)} {n : Nat} (hE : ∀ e ∈ E, e.1 < n ∧ e.2 < n) (h : Nat → Int) : ∀ e ∈ E, iter (pass E) n h e.1 ≤ iter (pass E) n h e.2 := by
  have fix : ∀ e ∈ E, iter (jac E) n h e.1 ≤ iter (jac E) n h e.2 := fun e he => by
    have := jac_edge (iter (jac E) n h) he
    rw [jac_stop hE h e.1] at this; exact this
  have low : ∀ t m, iter (jac E) n h m ≤ iter (pass E) t h m := fun t => by
    induction t with
    | zero => exact iter_le E h 0 n (Nat.zero_le _)
    | succ t ih => exact pass_low E _ fix ih
  have eq : ∀ m, iter (pass E) n h m = iter (jac E) n h m := fun m => Int.le_antisymm (passes_jac E h n m) (low n m)
  intro e he
  rw [eq, eq]; exact fix e he
/-! ### bounds narrowed by pairs: sound and tight -/
def lws (b : List (Int × Int)) : List Int := b.map fun p => p.1
def hgs (b : List (Int × Int)) : List Int := b.map fun p => p.2
section
variable {b : List (Int × Int)}
theorem lo_set {s : List (Int × Int)} {k m : Nat} {p : Int × Int} (h : k < s.length) : lo (s.set k p) m = if m = k then p.1 else lo s m := by
  unfold lo
  rw [List.getD_eq_getElem?_getD, List.getElem?_set]
  by_cases e : k = m
  · subst e; rw [if_pos rfl, if_pos h, if_pos rfl]; rfl
  · rw [if_neg e, if_neg (fun q => e q.symm), List.getD_eq_getElem?_getD]
theorem hi_set {s : List (Int × Int)} {k m : Nat} {p : Int × Int} (h : k < s.length) : hi (s.set k p) m = if m = k then p.2 else hi s m := by
  unfold hi
  rw [List.getD_eq_getElem?_getD, List.getElem?_set]
  by_cases e : k = m
  · subst e; rw [if_pos rfl, if_pos h, if_pos rfl]; rfl
  · rw [if_neg e, if_neg (fun q => e q.symm), List.getD_eq_getElem?_getD]
def PairsOk (b p : List (Int × Int)) : Prop := ∀ t ∈ p, (0 ≤ t.1 ∧ t.1 < b.length) ∧ (0 ≤ t.2 ∧ t.2 < b.length) ∧ t.1 ≠ t.2
def edg (t : Int × Int) : Nat × Nat := (t.1.toNat, t.2.toNat)
def egd (t : Int × Int) : Nat × Nat := (t.2.toNat, t.1.toNat)
def nlo (s : List (Int × Int)) (m : Nat) : Int := -(lo s m)
theorem nstep_at {s : List (Int × Int)} {t : Int × Int} (h : (0 ≤ t.1 ∧ t.1 < s.length) ∧ (0 ≤ t.2 ∧ t.2 < s.length) ∧ t.1 ≠ t.2) : (∀ m, hi (nstep s t) m = estep (hi s) (edg t) m) ∧ ∀ m, nlo (nstep s t) m = estep (nlo s) (egd t) m := by
  have hk : t.1.toNat < s.length := by omega
  have hj : t.2.toNat < s.length := by omega
  have hne : t.1.toNat ≠ t.2.toNat := by omega
  have e : nstep s t = (s.set t.1.toNat (lo s t.1.toNat, min (hi s t.1.toNat) (hi s t.2.toNat))).set t.2.toNat (max (lo (s.set t.1.toNat (lo s t.1.toNat, min (hi s t.1.toNat) (hi s t.2.toNat))) t.2.toNat) (lo (s.set t.1.toNat (lo s t.1.toNat, min (hi s t.1.toNat) (hi s t.2.toNat))) t.1.toNat), hi (s.set t.1.toNat (lo s t.1.toNat, min (hi s t.1.toNat) (hi s t.2.toNat))) t.2.toNat) := rfl
  constructor
  · intro m
    rw [e, hi_set (by rw [List.length_set]; exact hj)]
    show _ = if m = t.1.toNat then min (hi s t.1.toNat) (hi s t.2.toNat) else hi s m
    by_cases c : m = t.2.toNat
    · subst c
      rw [if_pos rfl, if_neg (Ne.symm hne)]
      show hi (s.set _ _) t.2.toNat = _
      rw [hi_set hk, if_neg (Ne.symm hne)]
    · rw [if_neg c, hi_set hk]
  · intro m
    show -(lo (nstep s t) m) = if m = t.2.toNat then min (-(lo s t.2.toNat)) (-(lo s t.1.toNat)) else -(lo s m)
    rw [e, lo_set (by rw [List.length_set]; exact hj)]
    by_cases c : m = t.2.toNat
    · subst c
      rw [if_pos rfl, if_pos rfl]
      show -(max (lo (s.set _ _) t.2.toNat) (lo (s.set _ _) t.1.toNat)) = _
      rw [lo_set hk, lo_set hk, if_neg (Ne.symm hne), if_pos rfl]
      show -(max (lo s t.2.toNat) (lo s t.1.toNat)) = _
      omega
    · rw [if_neg c, if_neg c, lo_set hk]
      by_cases d : m = t.1.toNat
      · subst d; rw [if_pos rfl]
      · rw [if_neg d]
theorem npass_at : ∀ {p s : List (Int × Int)}, PairsOk s p → hi (p.foldl nstep s) = pass (p.map edg) (hi s) ∧ nlo (p.foldl nstep s) = pass (p.map egd) (nlo s)
  | [], _, _ => ⟨rfl, rfl⟩
  | t :: p, s, h => by
    obtain ⟨h1, h2⟩ := nstep_at (h t (List.mem_cons_self ..))
    obtain ⟨h3, h4⟩ := npass_at (p := p) (s := nstep s t) fun u hu => by rw [nstep_len]; exact h u (List.mem_cons_of_mem _ hu)
    rw [List.foldl_cons, h3, h4, funext h1, funext h2]
    exact ⟨rfl, rfl⟩
theorem fold_len (p : List (Int × Int)) (s : List (Int × Int)) : (p.foldl nstep s).length = s.length := fold_inv (P := fun x : List (Int × Int) => x.length = s.length) rfl fun x t _ hx => by rw [nstep_len]; exact hx
theorem iter_comm {α : Type} (f : α → α) : ∀ (n : Nat) (x : α), iter f n (f x) = f (iter f n x)
  | 0, _ => rfl
  | n + 1, x => congrArg f (iter_comm f n x)
theorem fold_iter {α β : Type} (f : α → α) : ∀ (l : List β) (x : α), l.foldl (fun s _ => f s) x = iter f l.length x
  | [], _ => rfl
  | _ :: l, x => by rw [List.foldl_cons, fold_iter f l, List.length_cons, iter_comm]; rfl
theorem niter_at {p : List (Int × Int)} (h : PairsOk b p) : ∀ n, (iter (fun s => p.foldl nstep s) n b).length = b.length ∧ hi (iter (fun s => p.foldl nstep s) n b) = iter (pass (p.map edg)) n (hi b) ∧ nlo (iter (fun s => p.foldl nstep s) n b) = iter (pass (p.map egd)) n (nlo b)
  | 0 => ⟨rfl, rfl, rfl⟩
  | n + 1 => by
    obtain ⟨h1, h2, h3⟩ := niter_at h n
    obtain ⟨h4, h5⟩ := npass_at (p := p) (s := iter (fun s => p.foldl nstep s) n b) fun t ht => by rw [h1]; exact h t ht
    exact ⟨(fold_len p _).trans h1, h4.trans (by rw [h2]; rfl), h5.trans (by rw [h3]; rfl)⟩
theorem narrowed_iter (b p : List (Int × Int)) : m_narrowed b p = iter (fun s => p.foldl nstep s) b.length b := by
  rw [narrowed_eq, fold_iter (fun s : List (Int × Int) => p.foldl nstep s), List.length_range]
theorem iter_pass_le (E : List (Nat × Nat)) (h : Nat → Int) : ∀ n m, iter (pass E) n h m ≤ h m
  | 0, _ => Int.le_refl _
  | n + 1, m => Int.le_trans (pass_le E _ m) (iter_pass_le E h n m)
theorem edg_in {p : List (Int × Int)} (h : PairsOk b p) : ∀ e ∈ p.map edg, e.1 < b.length ∧ e.2 < b.length := fun e he => by
  obtain ⟨t, ht, rfl⟩ := List.mem_map.mp he
  have := h t ht
  unfold edg; simp only; omega
theorem egd_in {p : List (Int × Int)} (h : PairsOk b p) : ∀ e ∈ p.map egd, e.1 < b.length ∧ e.2 < b.length := fun e he => by
  obtain ⟨t, ht, rfl⟩ := List.mem_map.mp he
  have := h t ht
  unfold egd; simp only; omega
theorem nar_facts {p : List (Int × Int)} (h : PairsOk b p) : (∀ m, lo b m ≤ lo (m_narrowed b p) m ∧ hi (m_narrowed b p) m ≤ hi b m) ∧ ∀ t ∈ p, hi (m_narrowed b p) t.1.toNat ≤ hi (m_narrowed b p) t.2.toNat ∧ lo (m_narrowed b p) t.1.toNat ≤ lo (m_narrowed b p) t.2.toNat := by
  obtain ⟨_, h2, h3⟩ := niter_at h b.length
  rw [← narrowed_iter] at h2 h3
  refine ⟨fun m => ?_, fun t ht => ?_⟩
  · have a := iter_pass_le (p.map edg) (hi b) b.length m
    have c := iter_pass_le (p.map egd) (nlo b) b.length m
    rw [← h2] at a
    rw [← h3] at c
    unfold nlo at c
    omega
  · have a := passes_stop (edg_in h) (hi b) (edg t) (List.mem_map.mpr ⟨t, ht, rfl⟩)
    have c := passes_stop (egd_in h) (nlo b) (egd t) (List.mem_map.mpr ⟨t, ht, rfl⟩)
    rw [← h2] at a
    rw [← h3] at c
    unfold edg at a
    unfold nlo egd at c
    simp only at a c
    omega
def Sat (p : List (Int × Int)) (r : List Int) : Prop := ∀ t ∈ p, r.getD t.1.toNat 0 ≤ r.getD t.2.toNat 0
theorem nstep_sound {s : List (Int × Int)} {t : Int × Int} {r : List Int} (h : (0 ≤ t.1 ∧ t.1 < s.length) ∧ (0 ≤ t.2 ∧ t.2 < s.length) ∧ t.1 ≠ t.2) (hr : inB s r) (ht : r.getD t.1.toNat 0 ≤ r.getD t.2.toNat 0) : inB (nstep s t) r := by
  obtain ⟨h1, h2⟩ := inB_iff.mp hr
  obtain ⟨e1, e2⟩ := nstep_at h
  refine inB_iff.mpr ⟨by rw [nstep_len]; exact h1, fun m hm => ?_⟩
  rw [nstep_len] at hm
  have a : hi (nstep s t) m = if m = t.1.toNat then min (hi s t.1.toNat) (hi s t.2.toNat) else hi s m := e1 m
  have c : -(lo (nstep s t) m) = if m = t.2.toNat then min (-(lo s t.2.toNat)) (-(lo s t.1.toNat)) else -(lo s m) := e2 m
  have d := h2 m hm
  have d1 := h2 t.1.toNat (by omega)
  have d2 := h2 t.2.toNat (by omega)
  constructor
  · by_cases q : m = t.2.toNat
    · rw [if_pos q] at c; rw [q] at c ⊢; omega
    · rw [if_neg q] at c; omega
  · by_cases q : m = t.1.toNat
    · rw [if_pos q] at a; rw [q] at a ⊢; omega
    · rw [if_neg q] at a; omega
theorem nar_sound {p : List (Int × Int)} (h : PairsOk b p) {r : List Int} (hr : inB b r) (hs : Sat p r) : inB (m_narrowed b p) r := by
  rw [narrowed_eq]
  refine (fold_inv (P := fun s : List (Int × Int) => s.length = b.length ∧ inB s r) ⟨rfl, hr⟩ fun s _ _ ih => ?_).2
  refine fold_inv (P := fun s : List (Int × Int) => s.length = b.length ∧ inB s r) ih fun s t ht ih => ?_
  refine ⟨by rw [nstep_len]; exact ih.1, nstep_sound (by rw [ih.1]; exact h t ht) ih.2 (hs t ht)⟩
theorem nar_row {p : List (Int × Int)} (h : PairsOk b p) (ho : ∀ q ∈ m_narrowed b p, q.1 ≤ q.2) : (inB b (lws (m_narrowed b p)) ∧ Sat p (lws (m_narrowed b p))) ∧ inB b (hgs (m_narrowed b p)) ∧ Sat p (hgs (m_narrowed b p)) := by
  have hl := narrowed_len b p
  obtain ⟨f1, f2⟩ := nar_facts h
  have el : ∀ k, k < b.length → (lws (m_narrowed b p)).getD k 0 = lo (m_narrowed b p) k := fun k hk => map_at (f := fun p : Int × Int => p.1) (d := (0, 0)) (by rw [hl]; exact hk)
  have eh : ∀ k, k < b.length → (hgs (m_narrowed b p)).getD k 0 = hi (m_narrowed b p) k := fun k hk => map_at (f := fun p : Int × Int => p.2) (d := (0, 0)) (by rw [hl]; exact hk)
  have oo : ∀ k, k < b.length → lo (m_narrowed b p) k ≤ hi (m_narrowed b p) k := fun k hk => lo_hi ho (by rw [hl]; exact hk)
  refine ⟨⟨inB_iff.mpr ⟨by unfold lws; rw [List.length_map, hl], fun k hk => ?_⟩, fun t ht => ?_⟩, inB_iff.mpr ⟨by unfold hgs; rw [List.length_map, hl], fun k hk => ?_⟩, fun t ht => ?_⟩
  · rw [el k hk]; have := f1 k; have := oo k hk; omega
  · have := h t ht
    rw [el _ (by omega), el _ (by omega)]; exact (f2 t ht).2
  · rw [eh k hk]; have := f1 k; have := oo k hk; omega
  · have := h t ht
    rw [eh _ (by omega), eh _ (by omega)]; exact (f2 t ht).1
theorem in_ord {s : List (Int × Int)} {r : List Int} (h : inB s r) : ∀ q ∈ s, q.1 ≤ q.2 := fun q hq => by
  obtain ⟨k, hk, e⟩ := mem_at (d := (0, 0)) hq
  have := (inB_iff.mp h).2 k hk
  unfold lo hi at this
  rw [e] at this; omega
end
section
variable {b : List (Int × Int)}
/-- some choice obeys the pairs -/
theorem nar_iff {p : List (Int × Int)} (h : PairsOk b p) : (∀ q ∈ m_narrowed b p, q.1 ≤ q.2) ↔ ∃ r, inB b r ∧ Sat p r :=
  ⟨fun ho => ⟨_, (nar_row h ho).1⟩, fun ⟨r, h1, h2⟩ => in_ord (nar_sound h h1 h2)⟩
def both (x y : Int) : List (Int × Int) := [(x, y), (y, x)]
theorem both_ok {x y : Int} (hx : 0 ≤ x ∧ x < b.length) (hy : 0 ≤ y ∧ y < b.length) (hn : x ≠ y) : PairsOk b (both x y) := fun t ht => by
  simp only [both, List.mem_cons, List.mem_nil_iff, or_false] at ht
  rcases ht with rfl | rfl
  · exact ⟨hx, hy, hn⟩
  · exact ⟨hy, hx, hn.symm⟩
/-- a choice that has one number at two places -/
def two (b : List (Int × Int)) (x y : Nat) (v : Int) : List Int := (List.range b.length).map fun k => if k = x ∨ k = y then v else lo b k
theorem two_at {x y : Nat} {v : Int} {k : Nat} (hk : k < b.length) : (two b x y v).getD k 0 = if k = x ∨ k = y then v else lo b k := by
  unfold two
  rw [map_at (d := 0) (by rw [List.length_range]; exact hk)]
  rw [show (List.range b.length).getD k 0 = k by rw [List.getD_eq_getElem?_getD, List.getElem?_range hk]; rfl]
theorem two_in (hb : ∀ p ∈ b, p.1 ≤ p.2) {x y : Nat} {v : Int} (hx : lo b x ≤ v ∧ v ≤ hi b x) (hy : lo b y ≤ v ∧ v ≤ hi b y) : inB b (two b x y v) := by
  refine inB_iff.mpr ⟨by unfold two; rw [List.length_map, List.length_range], fun k hk => ?_⟩
  rw [two_at hk]
  by_cases c : k = x ∨ k = y
  · rw [if_pos c]
    rcases c with rfl | rfl
    · exact hx
    · exact hy
  · rw [if_neg c]; exact ⟨Int.le_refl _, lo_hi hb hk⟩
theorem two_sat {x y : Int} {v : Int} (hx : 0 ≤ x ∧ x < b.length) (hy : 0 ≤ y ∧ y < b.length) : Sat (both x y) (two b x.toNat y.toNat v) := fun t ht => by
  simp only [both, List.mem_cons, List.mem_nil_iff, or_false] at ht
  have e1 : (two b x.toNat y.toNat v).getD x.toNat 0 = v := by rw [two_at (by omega), if_pos (.inl rfl)]
  have e2 : (two b x.toNat y.toNat v).getD y.toNat 0 = v := by rw [two_at (by omega), if_pos (.inr rfl)]
  rcases ht with rfl | rfl
  · show (two b x.toNat y.toNat v).getD x.toNat 0 ≤ (two b x.toNat y.toNat v).getD y.toNat 0
    omega
  · show (two b x.toNat y.toNat v).getD y.toNat 0 ≤ (two b x.toNat y.toNat v).getD x.toNat 0
    omega
theorem both_iff (hB : BOk b) {x y : Int} (hx : 0 ≤ x ∧ x < b.length) (hy : 0 ≤ y ∧ y < b.length) (hn : x ≠ y) : (∀ q ∈ m_narrowed b (both x y), q.1 ≤ q.2) ↔ max (lo b x.toNat) (lo b y.toNat) ≤ min (hi b x.toNat) (hi b y.toNat) := by
  rw [nar_iff (both_ok hx hy hn)]
  have ox := lo_hi (ord_of hB) (k := x.toNat) (by omega)
  have oy := lo_hi (ord_of hB) (k := y.toNat) (by omega)
  constructor
  · rintro ⟨r, h1, h2⟩
    have a1 := (inB_iff.mp h1).2 x.toNat (by omega)
    have a2 := (inB_iff.mp h1).2 y.toNat (by omega)
    have s1 := h2 (x, y) (by simp [both])
    have s2 := h2 (y, x) (by simp [both])
    simp only at s1 s2
    omega
  · intro h
    exact ⟨_, two_in (ord_of hB) (v := min (hi b x.toNat) (hi b y.toNat)) (by omega) (by omega), two_sat hx hy⟩
theorem both_at (hB : BOk b) {x y : Int} (hx : 0 ≤ x ∧ x < b.length) (hy : 0 ≤ y ∧ y < b.length) (hn : x ≠ y) (h : max (lo b x.toNat) (lo b y.toNat) ≤ min (hi b x.toNat) (hi b y.toNat)) :
    (m_narrowed b (both x y)).getD x.toNat (0, 0) = (max (lo b x.toNat) (lo b y.toNat), min (hi b x.toNat) (hi b y.toNat)) ∧ (m_narrowed b (both x y)).getD y.toNat (0, 0) = (max (lo b x.toNat) (lo b y.toNat), min (hi b x.toNat) (hi b y.toNat)) := by
  have hP := both_ok (b := b) hx hy hn
  obtain ⟨f1, f2⟩ := nar_facts hP
  have hl := narrowed_len b (both x y)
  have s1 := f2 (x, y) (by simp [both])
  have s2 := f2 (y, x) (by simp [both])
  simp only at s1 s2
  have fx := f1 x.toNat
  have fy := f1 y.toNat
  have ox := lo_hi (ord_of hB) (k := x.toNat) (by omega)
  have oy := lo_hi (ord_of hB) (k := y.toNat) (by omega)
  have i1 := nar_sound hP (two_in (ord_of hB) (x := x.toNat) (y := y.toNat) (v := min (hi b x.toNat) (hi b y.toNat)) (by omega) (by omega)) (two_sat hx hy)
  have i2 := nar_sound hP (two_in (ord_of hB) (x := x.toNat) (y := y.toNat) (v := max (lo b x.toNat) (lo b y.toNat)) (by omega) (by omega)) (two_sat hx hy)
  have g1 := (inB_iff.mp i1).2 x.toNat (by rw [hl]; omega)
  have g2 := (inB_iff.mp i1).2 y.toNat (by rw [hl]; omega)
  have g3 := (inB_iff.mp i2).2 x.toNat (by rw [hl]; omega)
  have g4 := (inB_iff.mp i2).2 y.toNat (by rw [hl]; omega)
  rw [two_at (by omega), if_pos (.inl rfl)] at g1 g3
  rw [two_at (by omega), if_pos (.inr rfl)] at g2 g4
  constructor
  · refine Prod.ext ?_ ?_
    · show lo (m_narrowed b (both x y)) x.toNat = _; omega
    · show hi (m_narrowed b (both x y)) x.toNat = _; omega
  · refine Prod.ext ?_ ?_
    · show lo (m_narrowed b (both x y)) y.toNat = _; omega
    · show hi (m_narrowed b (both x y)) y.toNat = _; omega
theorem fold_same {α β : Type} {f : β → α → β} {b : β} : ∀ {l : List α}, (∀ x ∈ l, f b x = b) → l.foldl f b = b
  | [], _ => rfl
  | x :: l, h => by rw [List.foldl_cons, h x (List.mem_cons_self ..)]; exact fold_same fun y hy => h y (List.mem_cons_of_mem _ hy)
/-- what obeys the pairs already stays -/
theorem nstep_same {s : List (Int × Int)} {t : Int × Int} (h : (0 ≤ t.1 ∧ t.1 < s.length) ∧ (0 ≤ t.2 ∧ t.2 < s.length) ∧ t.1 ≠ t.2) (h1 : hi s t.1.toNat ≤ hi s t.2.toNat) (h2 : lo s t.1.toNat ≤ lo s t.2.toNat) : nstep s t = s := by
  obtain ⟨e1, e2⟩ := nstep_at h
  refine List.ext_getElem (nstep_len s t) fun k hk hk2 => ?_
  have a1 : hi (nstep s t) k = hi s k := by
    rw [e1 k]
    show (if k = t.1.toNat then min (hi s t.1.toNat) (hi s t.2.toNat) else hi s k) = _
    split
    · next q => rw [q]; omega
    · rfl
  have a2 : lo (nstep s t) k = lo s k := by
    have e := e2 k
    have : estep (nlo s) (egd t) k = if k = t.2.toNat then min (-(lo s t.2.toNat)) (-(lo s t.1.toNat)) else -(lo s k) := rfl
    rw [this] at e
    have e : -(lo (nstep s t) k) = _ := e
    by_cases q : k = t.2.toNat
    · rw [if_pos q] at e; rw [q] at e ⊢; omega
    · rw [if_neg q] at e; omega
  have g1 : (nstep s t)[k] = (lo (nstep s t) k, hi (nstep s t) k) := by unfold lo hi; rw [List.getD_eq_getElem?_getD, List.getElem?_eq_getElem hk]; rfl
  have g2 : s[k] = (lo s k, hi s k) := by unfold lo hi; rw [List.getD_eq_getElem?_getD, List.getElem?_eq_getElem hk2]; rfl
  rw [g1, g2, a1, a2]
theorem nar_same {p : List (Int × Int)} (h : PairsOk b p) (hs : ∀ t ∈ p, hi b t.1.toNat ≤ hi b t.2.toNat ∧ lo b t.1.toNat ≤ lo b t.2.toNat) : m_narrowed b p = b := by
  rw [narrowed_eq]
  exact fold_same fun _ _ => fold_same fun t ht => nstep_same (h t ht) (hs t ht).1 (hs t ht).2
theorem nar_nil (b : List (Int × Int)) : m_narrowed b [] = b := nar_same (fun _ h => by cases h) fun _ h => by cases h
theorem both_dec (hB : BOk b) {x y : Int} (hx : 0 ≤ x ∧ x < b.length) (hy : 0 ≤ y ∧ y < b.length) (hn : x ≠ y) {c : Bool} (hc : (decide (max (b.getD x.toNat (0, 0)).1 (b.getD y.toNat (0, 0)).1 ≤ min (b.getD x.toNat (0, 0)).2 (b.getD y.toNat (0, 0)).2)) = true) : ∀ q ∈ m_narrowed b [(x, y), (y, x)], q.1 ≤ q.2 :=
  (both_iff hB hx hy hn).mpr (of_decide_eq_true hc)
end
theorem pair_at {R : Int → Int → Prop} {o : List Int} : o.Pairwise R ↔ ∀ k j, j < k → k < o.length → R (o.getD j 0) (o.getD k 0) := by
  rw [List.pairwise_iff_getElem]
  constructor
  · intro h k j hj hk
    have := h j k (by omega) hk hj
    rw [List.getD_eq_getElem?_getD, List.getD_eq_getElem?_getD, List.getElem?_eq_getElem hk, List.getElem?_eq_getElem (show j < o.length by omega)]
    exact this
  · intro h i j hi hj hij
    have := h j i hij hj
    rw [List.getD_eq_getElem?_getD, List.getD_eq_getElem?_getD, List.getElem?_eq_getElem hi, List.getElem?_eq_getElem hj] at this
    exact this
theorem find_any {α : Type} {c : α → Bool} : ∀ {l : List α}, l.findSome? (fun j => if c j = true then some false else none) = if l.any c = true then some false else none
  | [] => rfl
  | x :: l => by
    rw [List.findSome?_cons, List.any_cons]
    cases e : c x with
    | true => simp
    | false => simp only [Bool.false_eq_true, if_false, Bool.false_or]; exact find_any
theorem poss_any (b : List (Int × Int)) (o : List Int) : m_is_possible b o = !((List.range o.length).any fun k => (List.range k).any fun j => decide ((b.getD (o.getD j 0).toNat (0, 0)).1 > (b.getD (o.getD k 0).toNat (0, 0)).2)) := by
  unfold m_is_possible
  have e : (fun k_l1 : Nat => ((match List.findSome? (fun (j_l2 : Nat) => ((if (decide ((b.getD ((o.getD (j_l2) 0)).toNat (0, 0)).1 > (b.getD ((o.getD (k_l1) 0)).toNat (0, 0)).2)) = true then (some false) else none) : Option Bool)) (List.range k_l1) with | some r => some r | none => none) : Option Bool)) = fun k : Nat => if ((List.range k).any fun j => decide ((b.getD (o.getD j 0).toNat (0, 0)).1 > (b.getD (o.getD k 0).toNat (0, 0)).2)) = true then some false else none := by
    funext k
    rw [find_any]
    cases ((List.range k).any fun j => decide ((b.getD (o.getD j 0).toNat (0, 0)).1 > (b.getD (o.getD k 0).toNat (0, 0)).2)) <;> rfl
  refine (congrArg (fun F : Nat → Option Bool => match List.findSome? F (List.range o.length) with | some r => r | none => true) e).trans ?_
  rw [find_any]
  cases ((List.range o.length).any fun k => (List.range k).any fun j => decide ((b.getD (o.getD j 0).toNat (0, 0)).1 > (b.getD (o.getD k 0).toNat (0, 0)).2)) <;> rfl
theorem poss_ps (b : List (Int × Int)) (o : List Int) : m_is_possible b o = ps b o := by
  rw [Bool.eq_iff_iff, ps_pair, pair_at, poss_any, Bool.not_eq_true', List.any_eq_false]
  constructor
  · intro h k j hj hk
    have h1 := h k (List.mem_range.mpr hk)
    rw [Bool.not_eq_true, List.any_eq_false] at h1
    have h2 := h1 j (List.mem_range.mpr hj)
    unfold LE1
    simp only [decide_eq_true_eq] at h2; omega
  · intro h k hk
    rw [Bool.not_eq_true, List.any_eq_false]
    intro j hj
    have := h k j (List.mem_range.mp hj) (List.mem_range.mp hk)
    unfold LE1 at this
    simp only [decide_eq_true_eq]; omega
section
variable {b : List (Int × Int)}
theorem l_choice {w : Int} : (m_choice_with_sum b w).length = b.length := by
  unfold m_choice_with_sum
  rw [fold_len2 (fun s x => by simp)]; simp
theorem l_widest (hB : BOk b) : (m_widest_choice b).length ≤ 7 := by
  have := hB.2.1
  unfold m_widest_choice
  split <;> simp [m_lows] <;> omega
theorem l_narrow : (m_narrowest_choice b).length = b.length := by unfold m_narrowest_choice; simp
theorem l_apart (hB : BOk b) : (m_surely_apart b).length ≤ 49 := by
  have hn := hB.2.1
  unfold m_surely_apart
  refine Nat.le_trans (fold_grow (c := 7) fun s x _ => ?_) (by rw [List.length_nil, List.length_range]; omega)
  refine Nat.le_trans (fold_grow (c := 1) fun s y _ => by split <;> simp) ?_
  rw [len_rgI]; omega
theorem l_wsq (hB : BOk b) : (m_widest_squares_choice b).length ≤ 7 := by
  have := inB_len (wid_in hB)
  have := hB.2.1
  show (m_widest b).length ≤ 7
  omega
theorem l_near (hB : BOk b) : (m_nearest_choice b).length ≤ 7 := by
  have hn := hB.2.1
  unfold m_nearest_choice m_clipped
  refine Nat.le_trans (fold_grow (c := 1) fun s x _ => by split <;> simp) ?_
  rw [List.length_nil]; omega
theorem l_canbe (hB : BOk b) : (m_can_be_greatest b).length ≤ 7 := by
  have hn := hB.2.1
  unfold m_can_be_greatest
  exact Nat.le_trans mapIf_le (by rw [List.length_range]; exact hn)
theorem l_sgreat (hB : BOk b) : (m_surely_greatest b).length ≤ 7 := by
  have hn := hB.2.1
  unfold m_surely_greatest
  refine Nat.le_trans (fold_grow (c := 1) fun s x _ => by split <;> simp) ?_
  rw [List.length_nil, enumL_len]; omega
theorem l_spairs (hB : BOk b) : (m_sure_pairs b).length ≤ 49 := by
  have hn := hB.2.1
  unfold m_sure_pairs
  refine Nat.le_trans (fold_grow (c := 7) fun s x _ => ?_) (by rw [List.length_nil, List.length_range]; omega)
  rw [List.length_append]
  refine Nat.add_le_add_left (Nat.le_trans mapIf_le ?_) _
  rw [List.length_range]; exact hn
theorem l_chain (hB : BOk b) : (m_longest_chain b).length ≤ 7 := by
  have hn := hB.2.1
  unfold m_longest_chain
  refine Nat.le_trans (fold_grow (c := 1) fun s x _ => by split <;> simp) ?_
  rw [List.length_nil, chain_src_len]; omega
theorem l_cfor {o : List Int} : (m_choice_for b o).length = b.length := by
  unfold m_choice_for
  exact cf_len rfl (by simp) (fun s x => by simp)
theorem l_wsum {x y : Int} : (m_with_sum b x y).length = b.length := by unfold m_with_sum; simp
theorem l_wval {k x y : Int} : (m_with_value b k x y).length = b.length := by unfold m_with_value; simp
theorem l_met {c : List (Int × Int)} : (m_met b c).length ≤ b.length := by unfold m_met; simp; omega
theorem l_wpairs {p : List (Int × Int)} : (m_with_pairs b p).length = b.length := narrowed_len b p
/-! the first of the possible orders -/
abbrev ord0 (b : List (Int × Int)) : List Int := OA b b.length [] 0
theorem o_nil : RowK b.length [] := ⟨List.nodup_nil, fun _ h => by cases h⟩
theorem o_pos (hB : BOk b) : 0 < (CO b b.length []).length := CO_pos (ord_of hB) b.length o_nil (by simp)
theorem o_ok (hB : BOk b) : m_order_at b 0 = .ok (ord0 b) := by
  unfold m_order_at
  have h1 := W_len b b.length []
  have h2 := o_pos hB
  rw [if_neg (by unfold m_is_int; simp; omega)]
theorem o_mem (hB : BOk b) : ord0 b ∈ CO b b.length [] := by
  have h := OA_at (b := b) b.length (d := []) (r := 0) (t := (CO b b.length []).getD 0 []) (by omega) (getD_at (o_pos hB))
  rw [List.nil_append] at h
  show OA b b.length [] 0 ∈ _
  rw [h]
  exact at_mem (o_pos hB)
theorem o_facts (hB : BOk b) : (ord0 b).length = b.length ∧ (∀ y ∈ ord0 b, 0 ≤ y ∧ y < (b.length : Int)) ∧ (ord0 b).Nodup ∧ ps b (ord0 b) = true := by
  have h := o_mem hB
  rw [← AO_filter (ord_of hB) b.length o_nil (by simp)] at h
  obtain ⟨h1, h2⟩ := List.mem_filter.mp h
  obtain ⟨h3, h4, h5⟩ := AO_mem b.length h1
  exact ⟨h3, fun y hy => (h5 y hy).1, h4, h2⟩
theorem o_po (hB : BOk b) : BOk b ∧ (ord0 b).length = b.length ∧ (∀ y ∈ ord0 b, 0 ≤ y ∧ y < (b.length : Int)) ∧ (ord0 b).Nodup := ⟨hB, (o_facts hB).1, (o_facts hB).2.1, (o_facts hB).2.2.1⟩
theorem o_poss (hB : BOk b) : m_is_possible b (ord0 b) = true := by rw [poss_ps]; exact (o_facts hB).2.2.2
theorem o_rank (hB : BOk b) : m_rank_of_order b (ord0 b) = .ok (RK b b.length [] (ord0 b)) := by
  unfold m_rank_of_order
  rw [o_poss hB]; rfl
/-! its first pair -/
abbrev pair0 (b : List (Int × Int)) : List (Int × Int) := [((ord0 b).getD (0 : Int).toNat 0, (ord0 b).getD (1 : Int).toNat 0)]
theorem p_facts (hB : BOk b) (h2 : 2 ≤ b.length) : ∃ x y : Int, pair0 b = [(x, y)] ∧ (0 ≤ x ∧ x < b.length) ∧ (0 ≤ y ∧ y < b.length) ∧ x ≠ y ∧ (b.getD x.toNat (0, 0)).1 ≤ (b.getD y.toNat (0, 0)).2 := by
  obtain ⟨h, hr, hn, hp⟩ := o_facts hB
  unfold pair0
  generalize ord0 b = o at *
  match o, h with
  | x :: y :: t, h =>
    refine ⟨x, y, rfl, hr x (by simp), hr y (by simp), fun e => ?_, ?_⟩
    · have := (List.nodup_cons.mp hn).1
      exact this (by rw [e]; exact List.mem_cons_self)
    · unfold ps at hp
      rw [Bool.and_eq_true, List.all_eq_true] at hp
      exact of_decide_eq_true (hp.1 y (by simp))
  | [x], h => simp at h; omega
  | [], h => simp at h; omega
theorem p_ok (hB : BOk b) (h2 : 2 ≤ b.length) : BOk b ∧ (pair0 b).length ≤ 42 ∧ ∀ t ∈ pair0 b, (0 ≤ t.1 ∧ t.1 < b.length) ∧ (0 ≤ t.2 ∧ t.2 < b.length) ∧ t.1 ≠ t.2 := by
  obtain ⟨x, y, e, hx, hy, hn, _⟩ := p_facts hB h2
  rw [e]
  exact ⟨hB, (show 1 ≤ 42 by decide), fun t ht => by simp at ht; subst ht; exact ⟨hx, hy, hn⟩⟩
theorem p_nar (hB : BOk b) (h2 : 2 ≤ b.length) : ∀ t ∈ m_narrowed b (pair0 b), t.1 ≤ t.2 := by
  have hok := (p_ok hB h2).2.2
  obtain ⟨x, y, e, hx, hy, hn, hl⟩ := p_facts hB h2
  rw [e] at hok ⊢
  refine (nar_iff hok).mpr ⟨two b y.toNat y.toNat (max (lo b x.toNat) (lo b y.toNat)), ?_, fun t ht => ?_⟩
  · have oy := lo_hi (ord_of hB) (k := y.toNat) (by omega)
    have hl : lo b x.toNat ≤ hi b y.toNat := hl
    exact two_in (ord_of hB) (by omega) (by omega)
  · simp at ht; subst ht
    show (two b y.toNat y.toNat _).getD x.toNat 0 ≤ (two b y.toNat y.toNat _).getD y.toNat 0
    rw [two_at (k := x.toNat) (by omega), two_at (k := y.toNat) (by omega), if_neg (by omega), if_pos (.inl rfl)]
    omega
/-! lengths of texts -/
theorem joinL_ge (S : List Nat) : ∀ (p : List Nat) (r : List (List Nat)), p.length ≤ (TL.joinL S (p :: r)).length
  | p, [] => Nat.le_refl _
  | p, q :: r => by show p.length ≤ (p ++ (S ++ TL.joinL S (q :: r))).length; rw [List.length_append]; omega
theorem joinL_le (S : List Nat) : ∀ r : List (List Nat), (TL.joinL S r).length ≤ (r.map List.length).sum + r.length * S.length
  | [] => Nat.zero_le _
  | [p] => by show p.length ≤ _; simp <;> omega
  | p :: q :: r => by
    have ih := joinL_le S (q :: r)
    show (p ++ (S ++ TL.joinL S (q :: r))).length ≤ _
    rw [List.length_append, List.length_append, List.map_cons, List.sum_cons, List.length_cons, Nat.add_mul]
    omega
theorem tl_len (a : Str) : (TL.tl a).length = a.length := by show a.cps.toList.length = a.cps.size; rw [Array.length_toList]
theorem txt_join (a : Str) (l : List Str) : (Txt.join a l).length = (TL.joinL (TL.tl a) (l.map TL.tl)).length := by
  rw [← tl_len, TL.join_eq, TL.tl_join]
theorem more_txt {r : List (Int × Int)} (hB : BOk ((0, 1) :: r)) : 1 ≤ (m_format_bounds ((0, 1) :: r)).length ∧ (m_format_bounds ((0, 1) :: r)).length ≤ sizeLine := by
  have e : m_format_bounds ((0, 1) :: r) = Txt.join (" " : Str) (((0, 1) :: r).map btxt) := rfl
  rw [e, txt_join]
  constructor
  · rw [List.map_cons, List.map_cons]
    refine Nat.le_trans ?_ (joinL_ge _ _ _)
    rw [tl_len]
    decide +kernel
  · refine Nat.le_trans (joinL_le _ _) ?_
    have h := fb_join hB
    rw [List.map_map, tl_len, List.length_map]
    have e2 : (List.length ∘ TL.tl : Str → Nat) = (fun y : Str => y.length) := funext fun y => tl_len y
    rw [e2]
    exact Nat.le_trans h (by decide)
/-! the object -/
theorem tell15 (r : List (Int × Int)) : tellX (Ts.mk ([((0 : Int), (1 : Int))] ++ r) []) 0 1 1 = .ok (((1 : Int), (1 : Int)), Ts.mk ([((1 : Int), (1 : Int))] ++ r) [[((0 : Int), (1 : Int))] ++ r]) := by
  unfold tellX
  rw [if_neg (by unfold m_is_int; simp), if_neg (by decide)]
  rfl
theorem undo15 {x y : List (Int × Int)} : undoX (Ts.mk x [y]) = .ok (y, Ts.mk y []) := by
  unfold undoX
  rw [if_neg (by simp)]
  rfl
theorem rest15 (r : List (Int × Int)) : cutL ([((0 : Int), (1 : Int))] ++ r) (some (1 : Int)) none = r := by
  rw [show (1 : Int) = ((1 : Nat) : Int) from rfl, cutL_from]; rfl
theorem cons15 {r : List (Int × Int)} (h : BndP 4 r) : BOk ([((0 : Int), (1 : Int))] ++ r) := ⟨by simp, by have := h.2.1; simp only [List.length_append, List.length_singleton]; omega, fun p hp => by
  rcases List.mem_append.mp hp with hp | hp
  · simp at hp; subst hp; decide
  · have := h.2.2 p hp; omega⟩
theorem lows_le : ∀ {b : List (Int × Int)}, (∀ p ∈ b, p.1 ≤ p.2) → (m_lows b).sum ≤ (m_highs b).sum
  | [], _ => Int.le_refl _
  | p :: b, h => by
    have h1 := h p List.mem_cons_self
    have h2 := lows_le (b := b) fun q hq => h q (List.mem_cons_of_mem _ hq)
    show (p.1 :: m_lows b).sum ≤ (p.2 :: m_highs b).sum
    rw [List.sum_cons, List.sum_cons]
    omega
theorem lows_highs (h : BOk b) : (m_lows b).sum ≤ (m_highs b).sum := lows_le (ord_of h)
theorem ws15 (hB : BOk b) : (m_lows b).sum ≤ 400 ∧ -400 ≤ (m_highs b).sum := by
  have h1 := sum_bnd (l := m_lows b) fun x hx => by obtain ⟨q, hq, rfl⟩ := List.mem_map.mp hx; have := hB.2.2 q hq; omega
  have h2 := sum_bnd (l := m_highs b) fun x hx => by obtain ⟨q, hq, rfl⟩ := List.mem_map.mp hx; have := hB.2.2 q hq; omega
  rw [len_lows] at h1
  rw [len_highs] at h2
  have := hB.2.1
  omega
theorem met15 (hB : BOk b) : ∀ t ∈ b.zip b, max t.1.1 t.2.1 ≤ min t.1.2 t.2.2 := fun t ht => by
  have h : ∀ (l : List (Int × Int)), t ∈ l.zip l → t.1 = t.2 ∧ t.1 ∈ l := by
    intro l
    induction l with
    | nil => intro h; simp at h
    | cons x l ih =>
      intro h
      rw [List.zip_cons_cons] at h
      rcases List.mem_cons.mp h with rfl | h
      · exact ⟨rfl, List.mem_cons_self⟩
      · exact ⟨(ih h).1, List.mem_cons_of_mem _ (ih h).2⟩
  obtain ⟨e, hm⟩ := h b ht
  have := hB.2.2 _ hm
  rw [← e]; omega
theorem more15 {r : List (Int × Int)} (hB : BOk ([((0 : Int), (1 : Int))] ++ r)) : 1 ≤ (m__law_more ([((0 : Int), (1 : Int))] ++ r)).length ∧ (m__law_more ([((0 : Int), (1 : Int))] ++ r)).length ≤ sizeLine := more_txt hB
theorem dead15 {α β γ : Type} [DecidableEq α] [DecidableEq β] [DecidableEq γ] {x : α} {y : β} {z : γ} {n : Nat} (h : 1 ≤ n) : ((!(decide (x = x))) || ((!(decide (y = y))) || ((!(decide (z = z))) || ((decide (((n : Nat) : Int) < (1 : Int))) || (!(decide (x = x))))))) = false := by
  simp; omega
theorem l_kno (s : Ts) : (m_kno s).length ≤ s.now.length := by
  unfold m_kno
  exact Nat.le_trans mapIf_le (by rw [enumL_len]; exact Nat.le_refl _)
end
section
variable {P : Program} {w : World} {K : Fg} {mg : Str → Option Value} {base : Heap}
theorem ok_law (T : Txt K mg) {f : Addr} {fd : FuncData} (F : FunD K "law" "law" (defArgs s_law) (defBody s_law) (defScope s_law) [] [] f fd) : FnOk P w K mg base CX0 12 f fd ["_law_script"] (spLaw K) := by
  refine fnok_of F sc_law len_law (fun cdv A outer s H vs Q E hr h => ?_)
  have nd := sc_law.nd
  obtain ⟨a, ns, rfl, hs, hz, q⟩ := h
  refine ⟨_, (pss_cons (ps_set (i := 1) nd rfl (.inl rfl) (pe_fn (ok__law_start T) (hr.mono (by decide)) pass0 (pa_cons (pv 0) pa_nil)))
      (pss_cons (ps_set (i := 2) nd rfl (.inl rfl) (pe_frz (pe_op op_catR (pe_frz (pe_lst (pa_cons (pe_tup (pa_cons pe_int (pa_cons pe_int pa_nil))) pa_nil))) (pe_frz (pe_fn (ok__law_bounds T) (hr.mono (by decide)) pass0 (pa_cons (pv 1) (pa_cons pe_int pa_nil)))))))
      (pss_cons (ps_set (i := 3) nd rfl (.inl rfl) (pe_frz (pe_callTy (k_list K rfl) (by rfl) T.n_list (by decide +kernel) (pa_cons (pv 2) pa_nil))))
      (pss_cons (ps_set (i := 4) nd rfl (.inl rfl) (pe_callB (k_len K rfl) (by rfl) T.n_len PySem.boot_len (pa_cons (pv 2) pa_nil)))
      (pss_cons (ps_expr (k_app K rfl (pe_fn (ok_choice_with_sum T) (hr.mono (by decide)) pass0 (pa_cons (pv 2) (pa_cons (pe_ix (k_ixt K rfl) (pe_fn (ok_sum_range T) (hr.mono (by decide)) pass0 (pa_cons (pv 2) pa_nil)) pe_int (fun _ _ => rfl)) pa_nil))) pe_int))
      (pss_cons (ps_expr (k_app K rfl (pe_fn (ok_narrowest_choice T) (hr.mono (by decide)) pass0 (pa_cons (pv 2) pa_nil)) pe_int))
      (pss_cons (ps_expr (k_app K rfl (pe_fn (ok_widest_choice T) (hr.mono (by decide)) pass0 (pa_cons (pv 2) pa_nil)) pe_int))
      (pss_cons (ps_expr (k_app K rfl (pe_fn (ok_surely_apart T) (hr.mono (by decide)) pass0 (pa_cons (pv 2) pa_nil)) (pe_tup (pa_cons pe_int (pa_cons pe_int pa_nil)))))
      (pss_cons (ps_expr (k_app K rfl (pe_unl (pe_fn (ok_widest_squares_choiceN T) (hr.mono (by decide)) pass0 (pa_cons (pv 2) pa_nil))) pe_int))
      (pss_cons (ps_expr (k_app K rfl (pe_fn (ok_nearest_choice T) (hr.mono (by decide)) pass0 (pa_cons (pv 2) pa_nil)) (pe_tup (pa_cons pe_int (pa_cons pe_int pa_nil)))))
      (pss_cons (ps_expr (k_app K rfl (pe_fn (ok_can_be_greatest T) (hr.mono (by decide)) pass0 (pa_cons (pv 2) pa_nil)) pe_int))
      (pss_cons (ps_expr (k_app K rfl (pe_fn (ok_surely_greatest T) (hr.mono (by decide)) pass0 (pa_cons (pv 2) pa_nil)) pe_int))
      (pss_cons (ps_expr (k_app K rfl (pe_fn (ok_sure_pairs T) (hr.mono (by decide)) pass0 (pa_cons (pv 2) pa_nil)) (pe_tup (pa_cons pe_int (pa_cons pe_int pa_nil)))))
      (pss_cons (ps_expr (k_app K rfl (pe_fn (ok_longest_chain T) (hr.mono (by decide)) pass0 (pa_cons (pv 2) pa_nil)) pe_int))
      (pss_cons (ps_set (i := 5) nd rfl (.inl rfl) (pe_fn (ok_order_atX T).calm (hr.mono (by decide)) pass0 (pa_cons (pv 2) (pa_cons pe_int pa_nil))))
      (pss_cons (ps_set (i := 6) nd rfl (.inl rfl) (pe_frz (pe_callTy (k_list K rfl) (by rfl) T.n_list (by decide +kernel) (pa_cons (pv 5) pa_nil))))
      (pss_cons (ps_expr (k_app K rfl (pe_fn (ok_choice_for T) (hr.mono (by decide)) pass0 (pa_cons (pv 2) (pa_cons (pv 5) pa_nil))) pe_int))
      (pss_cons (ps_expr (pe_fn (ok_rank_of_orderX T).calm (hr.mono (by decide)) pass0 (pa_cons (pv 2) (pa_cons (pv 5) pa_nil))))
      (pss_cons (ps_expr (pe_fn (ok_can_be_order T) (hr.mono (by decide)) pass0 (pa_cons (pv 2) (pa_cons (pv 5) pa_nil))))
      (pss_cons (ps_set (i := 7) nd rfl (.inl rfl) (pe_frz (pe_lst (pa_cons (pe_tup (pa_cons (pe_ix (k_ixl K rfl) (pv 6) pe_int (fun _ _ => rfl)) (pa_cons (pe_ix (k_ixl K rfl) (pv 6) pe_int (fun _ _ => rfl)) pa_nil))) pa_nil))))
      (pss_cons (ps_set (i := 8) nd rfl (.inl rfl) (pe_frz (pe_callTy (k_list K rfl) (by rfl) T.n_list (by decide +kernel) (pa_cons (pv 7) pa_nil))))
      (pss_cons (ps_expr (k_app K rfl (pe_fn (ok_with_pairs T) (hr.mono (by decide)) pass0 (pa_cons (pv 2) (pa_cons (pv 7) pa_nil))) (pe_tup (pa_cons pe_int (pa_cons pe_int pa_nil)))))
      (pss_cons (ps_expr (pe_fn (ok_can_be_pairs T) (hr.mono (by decide)) pass0 (pa_cons (pv 2) (pa_cons (pv 7) pa_nil))))
      (pss_cons (ps_expr (k_app K rfl (pe_fn (ok_with_sum T) (hr.mono (by decide)) pass0 (pa_cons (pv 2) (pa_cons (pe_op op_sub pe_int pe_int) (pa_cons pe_int pa_nil)))) (pe_tup (pa_cons pe_int (pa_cons pe_int pa_nil)))))
      (pss_cons (ps_expr (k_app K rfl (pe_fn (ok_with_value T) (hr.mono (by decide)) pass0 (pa_cons (pv 2) (pa_cons pe_int (pa_cons pe_int (pa_cons pe_int pa_nil))))) (pe_tup (pa_cons pe_int (pa_cons pe_int pa_nil)))))
      (pss_cons (ps_expr (k_app K rfl (pe_fn (ok_met T) (hr.mono (by decide)) pass0 (pa_cons (pv 2) (pa_cons (pv 2) pa_nil))) (pe_tup (pa_cons pe_int (pa_cons pe_int pa_nil)))))
      (pss_cons (ps_if (PW.pt (pw_or (pt_cmpR (k_neD K rfl hr.units) (pv 2) (pv 3) (nomark _)) (pw_or (pt_cmpR (k_neD K rfl hr.units) (pv 5) (pv 6) (nomark _)) (pw_or (pt_cmpR (k_neD K rfl hr.units) (pv 7) (pv 8) (nomark _)) (pw_or (pt_cmpR op_lt (pe_callB (k_lenS (X := _)) (by rfl) T.n_len (by decide +kernel) (pa_cons (pe_fn (ok__law_more T) (hr.mono (by decide)) pass0 (pa_cons (pv 2) pa_nil)) pa_nil)) pe_int (nomark _)) (pw_or1 (pt_cmpR (k_neD K rfl hr.units) (pv 2) (pv 3) (nomark _)))))))) (pss_one (ps_ret pe_bl)) pss_nil)
      (pss_cons (ps_set (i := 9) nd rfl (.inl rfl) (pe_mkC (okm___init__ T).calm T.m_Teller T.k_Teller (hr.mono (by decide)) (by rfl) (pa_cons (pv 2) pa_nil)))
      (pss_cons (ps_expr (pe_mC (okm_tell T).calm T.k_Teller (hr.mono (by decide)) (pv 9) (pa_cons pe_int (pa_cons pe_int (pa_cons pe_int pa_nil)))))
      (pss_cons (ps_expr (k_app K rfl (pe_mC0 (okm_bounds T).calm T.k_Teller (hr.mono (by decide)) (pv 9)) (pe_tup (pa_cons pe_int (pa_cons pe_int pa_nil)))))
      (pss_cons (ps_expr (k_app K rfl (pe_mC0 (okm_known T).calm T.k_Teller (hr.mono (by decide)) (pv 9)) pe_int))
      (pss_cons (ps_if (PW.pt (pw_or (pt_cmpR (k_neD K rfl hr.units) (pv 2) (pv 3) (nomark _)) (pw_or1 (pt_cmpR (k_neD K rfl hr.units) (pe_frz (pe_mC0 (okm_bounds T).calm T.k_Teller (hr.mono (by decide)) (pv 9))) (pe_frz (pe_op op_catR (pe_frz (pe_lst (pa_cons (pe_tup (pa_cons pe_int (pa_cons pe_int pa_nil))) pa_nil))) (pe_frz (pe_slice (k_sl K rfl) (pv 3) (po_some pe_int) po_none)))) (nomark _))))) (pss_one (ps_ret pe_bl)) pss_nil)
      (pss_one (ps_ret (pe_and (pe_cmpR (k_eqD K rfl hr.units) (pe_frz (pe_mC0 (okm_undo T).calm T.k_Teller (hr.mono (by decide)) (pv 9))) (pv 3) (nomark _)) (pe_one (pe_cmpR op_eq (pe_callB (cr_lenO (okm___len__ T).calm (hr.mono (by decide))) (by rfl) T.n_len PySem.boot_len (pa_cons (pv 9) pa_nil)) pe_int (nomark _)))))))))))))))))))))))))))))))))))))), ?_⟩
  refine q_start (K := K) rfl hs hz (fun pd pn _ e2385 dr0 => ?_)
  have hpdpn : pd ≠ pn := by obtain ⟨_, _, _, _, _, _, _, h⟩ := dr0; exact h
  refine q_setP (K := K) dr0 (ep_frz (epl_catL (fun _ m2386 => (er_frz (erl_lst (ea_cons (er_pair er_int er_int) ea_nil)))) (ep_frz (epl_draws (fun _ m2387 => er_int) (sub_dr rfl) (by decide))) (by intro m hm; have := hm.2.1; simp only [List.length_singleton]; omega))) (fun v2389 _ x2388 m2391 dr2392 h2393 r2390 => ?_)
  obtain ⟨bounds_here_b, hbounds_here_b, rfl⟩ := h2393
  have hB : BOk ([((0 : Int), (1 : Int))] ++ bounds_here_b) := cons15 hbounds_here_b
  have h2 : 2 ≤ (([((0 : Int), (1 : Int))] ++ bounds_here_b)).length := by have := hbounds_here_b.1; simp only [List.length_append, List.length_singleton]; omega
  have h5 : (([((0 : Int), (1 : Int))] ++ bounds_here_b)).length ≤ 5 := by have := hbounds_here_b.2.1; simp only [List.length_append, List.length_singleton]; omega
  have n2 : (0 : Int).toNat < (([((0 : Int), (1 : Int))] ++ bounds_here_b)).length ∧ (1 : Int).toNat < (([((0 : Int), (1 : Int))] ++ bounds_here_b)).length := ⟨by show 0 < _; omega, by show 1 < _; omega⟩
  have sm15 : ∀ {x : List (Int × Int)} {y : List (List (Int × Int))}, x.length ≤ 5 → y.length ≤ 1 → Small ⟨x, y⟩ := fun h1 h2 => ⟨Nat.le_trans h1 (by decide), Nat.lt_of_le_of_lt h2 (by decide)⟩
  refine q_set (K := K) (er_frz (erl_list (er_var rfl r2390))) (fun v2396 _ e2394 r2395 => ?_)
  obtain ⟨first_2397, hfirst_2397⟩ : ∃ z, z = ([((0 : Int), (1 : Int))] ++ bounds_here_b) := ⟨_, rfl⟩
  replace r2395 := Rp.cong r2395 hfirst_2397
  have hF : first_2397 = ([((0 : Int), (1 : Int))] ++ bounds_here_b) := hfirst_2397
  refine q_set (K := K) (er_len (er_var rfl (Rp.mono (SF.of e2394) r2390))) (fun v2400 _ e2398 r2399 => ?_)
  obtain ⟨size_2401, hsize_2401⟩ : ∃ z, z = ([((0 : Int), (1 : Int))] ++ bounds_here_b).length := ⟨_, rfl⟩
  replace r2399 := Rp.cong r2399 hsize_2401
  refine q_appNew (K := K) (erl_call2 (er_var rfl (Rp.mono ((SF.of e2394).trans (SF.of e2398)) r2390)) (er_op (er_call1 (er_var rfl (Rp.mono ((SF.of e2394).trans (SF.of e2398)) r2390)) (by exact hB)) er_int rr_ixP0) (by exact ⟨hB, Int.le_refl _, lows_highs hB⟩)) (by first | (rw [l_choice]; omega) | (have := l_widest hB; omega) | (rw [l_narrow]; omega) | (have := l_apart hB; omega) | (have := l_wsq hB; omega) | (have := l_near hB; omega) | (have := l_canbe hB; omega) | (have := l_sgreat hB; omega) | (have := l_spairs hB; omega) | (have := l_chain hB; omega) | (rw [l_cfor]; omega) | (rw [l_wpairs]; omega) | (rw [l_wsum]; omega) | (rw [l_wval]; omega) | (have := l_met (b := ([((0 : Int), (1 : Int))] ++ bounds_here_b)) (c := ([((0 : Int), (1 : Int))] ++ bounds_here_b)); omega) | (show (List.length (_ ++ _)) < _; simp only [List.length_append, List.length_singleton] at *; omega) | exact Nat.lt_of_le_of_lt (l_kno _) (by simp only [List.length_append, List.length_singleton] at *; omega)) (fun _ e2403 => er_int) (fun _ e2402 => ?_)
  refine q_appNew (K := K) (erl_call1 (er_var rfl (Rp.mono (((SF.of e2394).trans (SF.of e2398)).trans (SF.of e2402)) r2390)) (by exact hB)) (by first | (rw [l_choice]; omega) | (have := l_widest hB; omega) | (rw [l_narrow]; omega) | (have := l_apart hB; omega) | (have := l_wsq hB; omega) | (have := l_near hB; omega) | (have := l_canbe hB; omega) | (have := l_sgreat hB; omega) | (have := l_spairs hB; omega) | (have := l_chain hB; omega) | (rw [l_cfor]; omega) | (rw [l_wpairs]; omega) | (rw [l_wsum]; omega) | (rw [l_wval]; omega) | (have := l_met (b := ([((0 : Int), (1 : Int))] ++ bounds_here_b)) (c := ([((0 : Int), (1 : Int))] ++ bounds_here_b)); omega) | (show (List.length (_ ++ _)) < _; simp only [List.length_append, List.length_singleton] at *; omega) | exact Nat.lt_of_le_of_lt (l_kno _) (by simp only [List.length_append, List.length_singleton] at *; omega)) (fun _ e2405 => er_int) (fun _ e2404 => ?_)
  have r2406 := (Rp.mono ((((SF.of e2394).trans (SF.of e2398)).trans (SF.of e2402)).trans (SF.of e2404)) r2390)
  have dr2407 := (Dr.mono e2404 (Dr.mono e2402 (Dr.mono e2398 (Dr.mono e2394 dr2392))))
  refine q_appNew (K := K) (erl_call1 (er_var rfl r2406) (by exact hB)) (by first | (rw [l_choice]; omega) | (have := l_widest hB; omega) | (rw [l_narrow]; omega) | (have := l_apart hB; omega) | (have := l_wsq hB; omega) | (have := l_near hB; omega) | (have := l_canbe hB; omega) | (have := l_sgreat hB; omega) | (have := l_spairs hB; omega) | (have := l_chain hB; omega) | (rw [l_cfor]; omega) | (rw [l_wpairs]; omega) | (rw [l_wsum]; omega) | (rw [l_wval]; omega) | (have := l_met (b := ([((0 : Int), (1 : Int))] ++ bounds_here_b)) (c := ([((0 : Int), (1 : Int))] ++ bounds_here_b)); omega) | (show (List.length (_ ++ _)) < _; simp only [List.length_append, List.length_singleton] at *; omega) | exact Nat.lt_of_le_of_lt (l_kno _) (by simp only [List.length_append, List.length_singleton] at *; omega)) (fun _ e2409 => er_int) (fun _ e2408 => ?_)
  have r2410 := (Rp.mono ((((SF.of e2398).trans (SF.of e2402)).trans (SF.of e2404)).trans (SF.of e2408)) r2395)
  refine q_appNew (K := K) (erl_call1 (er_var rfl (Rp.mono (SF.of e2408) r2406)) (by exact hB)) (by first | (rw [l_choice]; omega) | (have := l_widest hB; omega) | (rw [l_narrow]; omega) | (have := l_apart hB; omega) | (have := l_wsq hB; omega) | (have := l_near hB; omega) | (have := l_canbe hB; omega) | (have := l_sgreat hB; omega) | (have := l_spairs hB; omega) | (have := l_chain hB; omega) | (rw [l_cfor]; omega) | (rw [l_wpairs]; omega) | (rw [l_wsum]; omega) | (rw [l_wval]; omega) | (have := l_met (b := ([((0 : Int), (1 : Int))] ++ bounds_here_b)) (c := ([((0 : Int), (1 : Int))] ++ bounds_here_b)); omega) | (show (List.length (_ ++ _)) < _; simp only [List.length_append, List.length_singleton] at *; omega) | exact Nat.lt_of_le_of_lt (l_kno _) (by simp only [List.length_append, List.length_singleton] at *; omega)) (fun _ e2412 => (er_pair er_int er_int)) (fun _ e2411 => ?_)
  have r2413 := (Rp.mono ((((SF.of e2402).trans (SF.of e2404)).trans (SF.of e2408)).trans (SF.of e2411)) r2399)
  refine q_appNew (K := K) (erl_unl (er_var rfl (Rp.mono ((SF.of e2408).trans (SF.of e2411)) r2406)) (by exact hB)) (by first | (rw [l_choice]; omega) | (have := l_widest hB; omega) | (rw [l_narrow]; omega) | (have := l_apart hB; omega) | (have := l_wsq hB; omega) | (have := l_near hB; omega) | (have := l_canbe hB; omega) | (have := l_sgreat hB; omega) | (have := l_spairs hB; omega) | (have := l_chain hB; omega) | (rw [l_cfor]; omega) | (rw [l_wpairs]; omega) | (rw [l_wsum]; omega) | (rw [l_wval]; omega) | (have := l_met (b := ([((0 : Int), (1 : Int))] ++ bounds_here_b)) (c := ([((0 : Int), (1 : Int))] ++ bounds_here_b)); omega) | (show (List.length (_ ++ _)) < _; simp only [List.length_append, List.length_singleton] at *; omega) | exact Nat.lt_of_le_of_lt (l_kno _) (by simp only [List.length_append, List.length_singleton] at *; omega)) (fun _ e2415 => er_int) (fun _ e2414 => ?_)
  refine q_appNew (K := K) (erl_call1 (er_var rfl (Rp.mono (((SF.of e2408).trans (SF.of e2411)).trans (SF.of e2414)) r2406)) (by exact hB)) (by first | (rw [l_choice]; omega) | (have := l_widest hB; omega) | (rw [l_narrow]; omega) | (have := l_apart hB; omega) | (have := l_wsq hB; omega) | (have := l_near hB; omega) | (have := l_canbe hB; omega) | (have := l_sgreat hB; omega) | (have := l_spairs hB; omega) | (have := l_chain hB; omega) | (rw [l_cfor]; omega) | (rw [l_wpairs]; omega) | (rw [l_wsum]; omega) | (rw [l_wval]; omega) | (have := l_met (b := ([((0 : Int), (1 : Int))] ++ bounds_here_b)) (c := ([((0 : Int), (1 : Int))] ++ bounds_here_b)); omega) | (show (List.length (_ ++ _)) < _; simp only [List.length_append, List.length_singleton] at *; omega) | exact Nat.lt_of_le_of_lt (l_kno _) (by simp only [List.length_append, List.length_singleton] at *; omega)) (fun _ e2417 => (er_pair er_int er_int)) (fun _ e2416 => ?_)
  have r2418 := (Rp.mono ((((SF.of e2408).trans (SF.of e2411)).trans (SF.of e2414)).trans (SF.of e2416)) r2406)
  have dr2419 := (Dr.mono e2416 (Dr.mono e2414 (Dr.mono e2411 (Dr.mono e2408 dr2407))))
  refine q_appNew (K := K) (erl_call1 (er_var rfl r2418) (by exact hB)) (by first | (rw [l_choice]; omega) | (have := l_widest hB; omega) | (rw [l_narrow]; omega) | (have := l_apart hB; omega) | (have := l_wsq hB; omega) | (have := l_near hB; omega) | (have := l_canbe hB; omega) | (have := l_sgreat hB; omega) | (have := l_spairs hB; omega) | (have := l_chain hB; omega) | (rw [l_cfor]; omega) | (rw [l_wpairs]; omega) | (rw [l_wsum]; omega) | (rw [l_wval]; omega) | (have := l_met (b := ([((0 : Int), (1 : Int))] ++ bounds_here_b)) (c := ([((0 : Int), (1 : Int))] ++ bounds_here_b)); omega) | (show (List.length (_ ++ _)) < _; simp only [List.length_append, List.length_singleton] at *; omega) | exact Nat.lt_of_le_of_lt (l_kno _) (by simp only [List.length_append, List.length_singleton] at *; omega)) (fun _ e2421 => (er_c (x := (0 : Nat)) fun _ => rfl)) (fun _ e2420 => ?_)
  have r2422 := (Rp.mono ((((SF.of e2411).trans (SF.of e2414)).trans (SF.of e2416)).trans (SF.of e2420)) r2410)
  refine q_appNew (K := K) (erl_call1 (er_var rfl (Rp.mono (SF.of e2420) r2418)) (by exact hB)) (by first | (rw [l_choice]; omega) | (have := l_widest hB; omega) | (rw [l_narrow]; omega) | (have := l_apart hB; omega) | (have := l_wsq hB; omega) | (have := l_near hB; omega) | (have := l_canbe hB; omega) | (have := l_sgreat hB; omega) | (have := l_spairs hB; omega) | (have := l_chain hB; omega) | (rw [l_cfor]; omega) | (rw [l_wpairs]; omega) | (rw [l_wsum]; omega) | (rw [l_wval]; omega) | (have := l_met (b := ([((0 : Int), (1 : Int))] ++ bounds_here_b)) (c := ([((0 : Int), (1 : Int))] ++ bounds_here_b)); omega) | (show (List.length (_ ++ _)) < _; simp only [List.length_append, List.length_singleton] at *; omega) | exact Nat.lt_of_le_of_lt (l_kno _) (by simp only [List.length_append, List.length_singleton] at *; omega)) (fun _ e2424 => (er_c (x := (0 : Nat)) fun _ => rfl)) (fun _ e2423 => ?_)
  have r2425 := (Rp.mono ((((SF.of e2414).trans (SF.of e2416)).trans (SF.of e2420)).trans (SF.of e2423)) r2413)
  refine q_appNew (K := K) (erl_call1 (er_var rfl (Rp.mono ((SF.of e2420).trans (SF.of e2423)) r2418)) (by exact hB)) (by first | (rw [l_choice]; omega) | (have := l_widest hB; omega) | (rw [l_narrow]; omega) | (have := l_apart hB; omega) | (have := l_wsq hB; omega) | (have := l_near hB; omega) | (have := l_canbe hB; omega) | (have := l_sgreat hB; omega) | (have := l_spairs hB; omega) | (have := l_chain hB; omega) | (rw [l_cfor]; omega) | (rw [l_wpairs]; omega) | (rw [l_wsum]; omega) | (rw [l_wval]; omega) | (have := l_met (b := ([((0 : Int), (1 : Int))] ++ bounds_here_b)) (c := ([((0 : Int), (1 : Int))] ++ bounds_here_b)); omega) | (show (List.length (_ ++ _)) < _; simp only [List.length_append, List.length_singleton] at *; omega) | exact Nat.lt_of_le_of_lt (l_kno _) (by simp only [List.length_append, List.length_singleton] at *; omega)) (fun _ e2427 => (er_pair er_int er_int)) (fun _ e2426 => ?_)
  refine q_appNew (K := K) (erl_call1 (er_var rfl (Rp.mono (((SF.of e2420).trans (SF.of e2423)).trans (SF.of e2426)) r2418)) (by exact hB)) (by first | (rw [l_choice]; omega) | (have := l_widest hB; omega) | (rw [l_narrow]; omega) | (have := l_apart hB; omega) | (have := l_wsq hB; omega) | (have := l_near hB; omega) | (have := l_canbe hB; omega) | (have := l_sgreat hB; omega) | (have := l_spairs hB; omega) | (have := l_chain hB; omega) | (rw [l_cfor]; omega) | (rw [l_wpairs]; omega) | (rw [l_wsum]; omega) | (rw [l_wval]; omega) | (have := l_met (b := ([((0 : Int), (1 : Int))] ++ bounds_here_b)) (c := ([((0 : Int), (1 : Int))] ++ bounds_here_b)); omega) | (show (List.length (_ ++ _)) < _; simp only [List.length_append, List.length_singleton] at *; omega) | exact Nat.lt_of_le_of_lt (l_kno _) (by simp only [List.length_append, List.length_singleton] at *; omega)) (fun _ e2429 => er_int) (fun _ e2428 => ?_)
  have r2430 := (Rp.mono ((((SF.of e2420).trans (SF.of e2423)).trans (SF.of e2426)).trans (SF.of e2428)) r2418)
  have dr2431 := (Dr.mono e2428 (Dr.mono e2426 (Dr.mono e2423 (Dr.mono e2420 dr2419))))
  refine q_set (K := K) (er_exC (er_var rfl r2430) er_int (by exact hB) (by exact o_ok hB)) (fun v2434 _ e2432 r2433 => ?_)
  obtain ⟨order_2435, horder_2435⟩ : ∃ z, z = (OA ([((0 : Int), (1 : Int))] ++ bounds_here_b) ([((0 : Int), (1 : Int))] ++ bounds_here_b).length [] (0 : Int)) := ⟨_, rfl⟩
  replace r2433 := Rp.cong r2433 horder_2435
  have hO : order_2435 = ord0 ([((0 : Int), (1 : Int))] ++ bounds_here_b) := horder_2435
  have hpo : BOk ([((0 : Int), (1 : Int))] ++ bounds_here_b) ∧ order_2435.length = (([((0 : Int), (1 : Int))] ++ bounds_here_b)).length ∧ (∀ y ∈ order_2435, 0 ≤ y ∧ y < ((([((0 : Int), (1 : Int))] ++ bounds_here_b)).length : Int)) ∧ order_2435.Nodup := by rw [hO]; exact o_po hB
  have hposs : m_is_possible ([((0 : Int), (1 : Int))] ++ bounds_here_b) order_2435 = true := by rw [hO]; exact o_poss hB
  have r2436 := (Rp.mono ((((SF.of e2423).trans (SF.of e2426)).trans (SF.of e2428)).trans (SF.of e2432)) r2422)
  refine q_set (K := K) (er_frz (erl_list (er_var rfl r2433))) (fun v2439 _ e2437 r2438 => ?_)
  have r2440 := (Rp.mono ((((SF.of e2426).trans (SF.of e2428)).trans (SF.of e2432)).trans (SF.of e2437)) r2425)
  refine q_appNew (K := K) (erl_call2 (er_var rfl (Rp.mono ((SF.of e2432).trans (SF.of e2437)) r2430)) (er_var rfl (Rp.mono (SF.of e2437) r2433)) (by exact ⟨hpo, hposs⟩)) (by first | (rw [l_choice]; omega) | (have := l_widest hB; omega) | (rw [l_narrow]; omega) | (have := l_apart hB; omega) | (have := l_wsq hB; omega) | (have := l_near hB; omega) | (have := l_canbe hB; omega) | (have := l_sgreat hB; omega) | (have := l_spairs hB; omega) | (have := l_chain hB; omega) | (rw [l_cfor]; omega) | (rw [l_wpairs]; omega) | (rw [l_wsum]; omega) | (rw [l_wval]; omega) | (have := l_met (b := ([((0 : Int), (1 : Int))] ++ bounds_here_b)) (c := ([((0 : Int), (1 : Int))] ++ bounds_here_b)); omega) | (show (List.length (_ ++ _)) < _; simp only [List.length_append, List.length_singleton] at *; omega) | exact Nat.lt_of_le_of_lt (l_kno _) (by simp only [List.length_append, List.length_singleton] at *; omega)) (fun _ e2442 => er_int) (fun _ e2441 => ?_)
  refine q_drop (K := K) (er_exC (er_var rfl (Rp.mono (((SF.of e2432).trans (SF.of e2437)).trans (SF.of e2441)) r2430)) (er_var rfl (Rp.mono ((SF.of e2437).trans (SF.of e2441)) r2433)) (by exact hpo) (by rw [hO]; exact o_rank hB)) (fun _ e2443 => ?_)
  have r2444 := (Rp.mono ((((SF.of e2432).trans (SF.of e2437)).trans (SF.of e2441)).trans (SF.of e2443)) r2430)
  have dr2445 := (Dr.mono e2443 (Dr.mono e2441 (Dr.mono e2437 (Dr.mono e2432 dr2431))))
  refine q_drop (K := K) (er_call2 (er_var rfl r2444) (er_var rfl (Rp.mono (((SF.of e2437).trans (SF.of e2441)).trans (SF.of e2443)) r2433)) (by exact hpo)) (fun _ e2446 => ?_)
  have r2447 := (Rp.mono ((((SF.of e2437).trans (SF.of e2441)).trans (SF.of e2443)).trans (SF.of e2446)) r2436)
  have r2448 := (Rp.mono ((((SF.of e2437).trans (SF.of e2441)).trans (SF.of e2443)).trans (SF.of e2446)) r2433)
  refine q_set (K := K) (er_frz (erl_lst (ea_cons (er_pair (er_op (er_var rfl (Rp.mono (((SF.of e2441).trans (SF.of e2443)).trans (SF.of e2446)) r2438)) er_int (rr_ixI (x := ((order_2435).getD ((0 : Int)).toNat 0)) (n := ((0 : Int)).toNat) (by first | rfl | decide) (by exact getD_at (by rw [hpo.2.1]; first | exact n2.1 | exact n2.2)))) (er_op (er_var rfl (Rp.mono (((SF.of e2441).trans (SF.of e2443)).trans (SF.of e2446)) r2438)) er_int (rr_ixI (x := ((order_2435).getD ((1 : Int)).toNat 0)) (n := ((1 : Int)).toNat) (by first | rfl | decide) (by exact getD_at (by rw [hpo.2.1]; first | exact n2.1 | exact n2.2))))) ea_nil))) (fun v2451 _ e2449 r2450 => ?_)
  obtain ⟨pairs_2452, hpairs_2452⟩ : ∃ z, z = [(((order_2435).getD ((0 : Int)).toNat 0), ((order_2435).getD ((1 : Int)).toNat 0))] := ⟨_, rfl⟩
  replace r2450 := Rp.cong r2450 hpairs_2452
  have hP : pairs_2452 = pair0 ([((0 : Int), (1 : Int))] ++ bounds_here_b) := by rw [hpairs_2452, hO]
  have r2453 := (Rp.mono ((((SF.of e2441).trans (SF.of e2443)).trans (SF.of e2446)).trans (SF.of e2449)) r2440)
  have r2454 := (Rp.mono ((((SF.of e2441).trans (SF.of e2443)).trans (SF.of e2446)).trans (SF.of e2449)) r2438)
  refine q_set (K := K) (er_frz (erl_list (er_var rfl r2450))) (fun v2457 _ e2455 r2456 => ?_)
  refine q_appNew (K := K) (erl_call2 (er_var rfl (Rp.mono (((SF.of e2446).trans (SF.of e2449)).trans (SF.of e2455)) r2444)) (er_var rfl (Rp.mono (SF.of e2455) r2450)) (by rw [hP]; exact ⟨p_ok hB h2, p_nar hB h2⟩)) (by first | (rw [l_choice]; omega) | (have := l_widest hB; omega) | (rw [l_narrow]; omega) | (have := l_apart hB; omega) | (have := l_wsq hB; omega) | (have := l_near hB; omega) | (have := l_canbe hB; omega) | (have := l_sgreat hB; omega) | (have := l_spairs hB; omega) | (have := l_chain hB; omega) | (rw [l_cfor]; omega) | (rw [l_wpairs]; omega) | (rw [l_wsum]; omega) | (rw [l_wval]; omega) | (have := l_met (b := ([((0 : Int), (1 : Int))] ++ bounds_here_b)) (c := ([((0 : Int), (1 : Int))] ++ bounds_here_b)); omega) | (show (List.length (_ ++ _)) < _; simp only [List.length_append, List.length_singleton] at *; omega) | exact Nat.lt_of_le_of_lt (l_kno _) (by simp only [List.length_append, List.length_singleton] at *; omega)) (fun _ e2459 => (er_pair er_int er_int)) (fun _ e2458 => ?_)
  have r2460 := (Rp.mono ((((SF.of e2446).trans (SF.of e2449)).trans (SF.of e2455)).trans (SF.of e2458)) r2444)
  have dr2461 := (Dr.mono e2458 (Dr.mono e2455 (Dr.mono e2449 (Dr.mono e2446 dr2445))))
  refine q_drop (K := K) (er_call2 (er_var rfl r2460) (er_var rfl (Rp.mono ((SF.of e2455).trans (SF.of e2458)) r2450)) (by rw [hP]; exact p_ok hB h2)) (fun _ e2462 => ?_)
  have r2463 := (Rp.mono ((((SF.of e2449).trans (SF.of e2455)).trans (SF.of e2458)).trans (SF.of e2462)) r2447)
  have r2464 := (Rp.mono ((((SF.of e2449).trans (SF.of e2455)).trans (SF.of e2458)).trans (SF.of e2462)) r2448)
  refine q_appNew (K := K) (erl_call3 (er_var rfl (Rp.mono (SF.of e2462) r2460)) (er_op er_int er_int rr_sub) er_int (by exact ⟨hB, by decide, ws15 hB⟩)) (by first | (rw [l_choice]; omega) | (have := l_widest hB; omega) | (rw [l_narrow]; omega) | (have := l_apart hB; omega) | (have := l_wsq hB; omega) | (have := l_near hB; omega) | (have := l_canbe hB; omega) | (have := l_sgreat hB; omega) | (have := l_spairs hB; omega) | (have := l_chain hB; omega) | (rw [l_cfor]; omega) | (rw [l_wpairs]; omega) | (rw [l_wsum]; omega) | (rw [l_wval]; omega) | (have := l_met (b := ([((0 : Int), (1 : Int))] ++ bounds_here_b)) (c := ([((0 : Int), (1 : Int))] ++ bounds_here_b)); omega) | (show (List.length (_ ++ _)) < _; simp only [List.length_append, List.length_singleton] at *; omega) | exact Nat.lt_of_le_of_lt (l_kno _) (by simp only [List.length_append, List.length_singleton] at *; omega)) (fun _ e2466 => (er_pair er_int er_int)) (fun _ e2465 => ?_)
  have r2467 := (Rp.mono ((((SF.of e2455).trans (SF.of e2458)).trans (SF.of e2462)).trans (SF.of e2465)) r2453)
  have r2468 := (Rp.mono ((((SF.of e2455).trans (SF.of e2458)).trans (SF.of e2462)).trans (SF.of e2465)) r2454)
  have r2469 := (Rp.mono ((((SF.of e2455).trans (SF.of e2458)).trans (SF.of e2462)).trans (SF.of e2465)) r2450)
  refine q_appNew (K := K) (erl_call4 (er_var rfl (Rp.mono ((SF.of e2462).trans (SF.of e2465)) r2460)) er_int er_int er_int (by exact ⟨hB, ⟨by decide, by omega⟩, by decide, (show max (0 : Int) 0 ≤ min 1 1 by decide)⟩)) (by first | (rw [l_choice]; omega) | (have := l_widest hB; omega) | (rw [l_narrow]; omega) | (have := l_apart hB; omega) | (have := l_wsq hB; omega) | (have := l_near hB; omega) | (have := l_canbe hB; omega) | (have := l_sgreat hB; omega) | (have := l_spairs hB; omega) | (have := l_chain hB; omega) | (rw [l_cfor]; omega) | (rw [l_wpairs]; omega) | (rw [l_wsum]; omega) | (rw [l_wval]; omega) | (have := l_met (b := ([((0 : Int), (1 : Int))] ++ bounds_here_b)) (c := ([((0 : Int), (1 : Int))] ++ bounds_here_b)); omega) | (show (List.length (_ ++ _)) < _; simp only [List.length_append, List.length_singleton] at *; omega) | exact Nat.lt_of_le_of_lt (l_kno _) (by simp only [List.length_append, List.length_singleton] at *; omega)) (fun _ e2471 => (er_pair er_int er_int)) (fun _ e2470 => ?_)
  have r2472 := (Rp.mono ((((SF.of e2458).trans (SF.of e2462)).trans (SF.of e2465)).trans (SF.of e2470)) r2456)
  refine q_appNew (K := K) (erl_call2 (er_var rfl (Rp.mono (((SF.of e2462).trans (SF.of e2465)).trans (SF.of e2470)) r2460)) (er_var rfl (Rp.mono (((SF.of e2462).trans (SF.of e2465)).trans (SF.of e2470)) r2460)) (by exact ⟨hB, hB, rfl, met15 hB⟩)) (by first | (rw [l_choice]; omega) | (have := l_widest hB; omega) | (rw [l_narrow]; omega) | (have := l_apart hB; omega) | (have := l_wsq hB; omega) | (have := l_near hB; omega) | (have := l_canbe hB; omega) | (have := l_sgreat hB; omega) | (have := l_spairs hB; omega) | (have := l_chain hB; omega) | (rw [l_cfor]; omega) | (rw [l_wpairs]; omega) | (rw [l_wsum]; omega) | (rw [l_wval]; omega) | (have := l_met (b := ([((0 : Int), (1 : Int))] ++ bounds_here_b)) (c := ([((0 : Int), (1 : Int))] ++ bounds_here_b)); omega) | (show (List.length (_ ++ _)) < _; simp only [List.length_append, List.length_singleton] at *; omega) | exact Nat.lt_of_le_of_lt (l_kno _) (by simp only [List.length_append, List.length_singleton] at *; omega)) (fun _ e2474 => (er_pair er_int er_int)) (fun _ e2473 => ?_)
  have r2475 := (Rp.mono ((((SF.of e2462).trans (SF.of e2465)).trans (SF.of e2470)).trans (SF.of e2473)) r2460)
  have dr2476 := (Dr.mono e2473 (Dr.mono e2470 (Dr.mono e2465 (Dr.mono e2462 dr2461))))
  -- 1: _law_bounds_here != _law_first or _law_order != _law_kept or _law_pairs != _law_own or (len(_law_more(_law_bounds_here)) < 1) or (_law_bound
  refine q_not (K := K) (et_or (et_test (er_op (er_var rfl r2475) (er_var rfl (Rp.mono (((SF.of e2465).trans (SF.of e2470)).trans (SF.of e2473)) r2463)) rr_neT)) (fun hsc => (et_or (et_test (er_op (er_var rfl (Rp.mono (((SF.of e2465).trans (SF.of e2470)).trans (SF.of e2473)) r2464)) (er_var rfl (Rp.mono ((SF.of e2470).trans (SF.of e2473)) r2468)) rr_neT)) (fun hsc => (et_or (et_test (er_op (er_var rfl (Rp.mono ((SF.of e2470).trans (SF.of e2473)) r2469)) (er_var rfl (Rp.mono (SF.of e2473) r2472)) rr_neT)) (fun hsc => (et_or (et_test (er_op (er_up (er_lenS (er_call1 (er_var rfl r2475) (by exact ⟨hB, h2, h5⟩)) (by exact (more15 hB).2))) er_int rr_lt)) (fun hsc => (et_test (er_op (er_var rfl r2475) (er_var rfl (Rp.mono (((SF.of e2465).trans (SF.of e2470)).trans (SF.of e2473)) r2463)) rr_neT)))))))))) (by rw [hF]; exact dead15 (more15 hB).1) (fun _ e2477 => ?_)
  have r2478 := (Rp.mono ((((SF.of e2465).trans (SF.of e2470)).trans (SF.of e2473)).trans (SF.of e2477)) r2463)
  have r2479 := (Rp.mono ((((SF.of e2465).trans (SF.of e2470)).trans (SF.of e2473)).trans (SF.of e2477)) r2464)
  refine q_mkT (K := K) (er_var rfl (Rp.mono (SF.of e2477) r2475)) (by exact hB) (fun p2480 _ fp2481 e2482 hf2483 t2484 => ?_)
  have n2485 : pd ∉ fp2481 := fun c_ => Dr.pd_ne (Dr.mono e2477 dr2476) (hf2483 pd c_) rfl
  have n2486 : pn ∉ fp2481 := fun c_ => Dr.pn_ne (Dr.mono e2477 dr2476) (hf2483 pn c_) rfl
  have r2487 := (Rp.mono ((((SF.of e2470).trans (SF.of e2473)).trans (SF.of e2477)).trans (SF.of e2482)) r2467)
  have r2488 := (Rp.mono ((((SF.of e2470).trans (SF.of e2473)).trans (SF.of e2477)).trans (SF.of e2482)) r2468)
  have r2489 := (Rp.mono ((((SF.of e2470).trans (SF.of e2473)).trans (SF.of e2477)).trans (SF.of e2482)) r2469)
  refine q_dropTell (K := K) rfl t2484 (by first | exact sm15 h5 (Nat.zero_le _) | exact sm15 (by simpa using h5) (Nat.le_refl _)) er_int er_int er_int (show tellX (Ts.mk ([((0 : Int), (1 : Int))] ++ bounds_here_b) []) (0 : Int) (1 : Int) (1 : Int) = .ok (((1 : Int), (1 : Int)), (Ts.mk ([((1 : Int), (1 : Int))] ++ bounds_here_b) [([((0 : Int), (1 : Int))] ++ bounds_here_b)])) from by exact tell15 _) (fun _ _ fp2490 m2491 g2492 t2493 _ => ?_)
  have n2494 := g2492.out (Dr.pd_some (Dr.mono e2482 (Dr.mono e2477 dr2476))) n2485
  have n2495 := g2492.out (Dr.pn_some (Dr.mono e2482 (Dr.mono e2477 dr2476))) n2486
  have r2496 := (Rp.mono ((((SF.of e2473).trans (SF.of e2477)).trans (SF.of e2482)).trans m2491.sf) r2472)
  refine q_appNew (K := K) (erl_tl (f := Ts.now) rfl t2493 (by first | exact sm15 h5 (Nat.zero_le _) | exact sm15 (by simpa using h5) (Nat.le_refl _))) (by first | (rw [l_choice]; omega) | (have := l_widest hB; omega) | (rw [l_narrow]; omega) | (have := l_apart hB; omega) | (have := l_wsq hB; omega) | (have := l_near hB; omega) | (have := l_canbe hB; omega) | (have := l_sgreat hB; omega) | (have := l_spairs hB; omega) | (have := l_chain hB; omega) | (rw [l_cfor]; omega) | (rw [l_wpairs]; omega) | (rw [l_wsum]; omega) | (rw [l_wval]; omega) | (have := l_met (b := ([((0 : Int), (1 : Int))] ++ bounds_here_b)) (c := ([((0 : Int), (1 : Int))] ++ bounds_here_b)); omega) | (show (List.length (_ ++ _)) < _; simp only [List.length_append, List.length_singleton] at *; omega) | exact Nat.lt_of_le_of_lt (l_kno _) (by simp only [List.length_append, List.length_singleton] at *; omega)) (fun _ e2498 => (er_pair er_int er_int)) (fun _ e2497 => ?_)
  have r2499 := (Rp.mono ((((SF.of e2477).trans (SF.of e2482)).trans m2491.sf).trans (SF.of e2497)) r2475)
  have dr2500 := (Dr.mono e2497 (Dr.mus' m2491 (Dr.mono e2482 (Dr.mono e2477 dr2476)) n2485 n2486))
  refine q_appNew (K := K) (erl_tl (f := m_kno) rfl (TA.mono e2497 t2493) (by first | exact sm15 h5 (Nat.zero_le _) | exact sm15 (by simpa using h5) (Nat.le_refl _))) (by first | (rw [l_choice]; omega) | (have := l_widest hB; omega) | (rw [l_narrow]; omega) | (have := l_apart hB; omega) | (have := l_wsq hB; omega) | (have := l_near hB; omega) | (have := l_canbe hB; omega) | (have := l_sgreat hB; omega) | (have := l_spairs hB; omega) | (have := l_chain hB; omega) | (rw [l_cfor]; omega) | (rw [l_wpairs]; omega) | (rw [l_wsum]; omega) | (rw [l_wval]; omega) | (have := l_met (b := ([((0 : Int), (1 : Int))] ++ bounds_here_b)) (c := ([((0 : Int), (1 : Int))] ++ bounds_here_b)); omega) | (show (List.length (_ ++ _)) < _; simp only [List.length_append, List.length_singleton] at *; omega) | exact Nat.lt_of_le_of_lt (l_kno _) (by simp only [List.length_append, List.length_singleton] at *; omega)) (fun _ e2502 => (er_c (x := (9 : Nat)) fun _ => rfl)) (fun _ e2501 => ?_)
  have r2503 := (Rp.mono ((((SF.of e2482).trans m2491.sf).trans (SF.of e2497)).trans (SF.of e2501)) r2478)
  have r2504 := (Rp.mono ((((SF.of e2482).trans m2491.sf).trans (SF.of e2497)).trans (SF.of e2501)) r2479)
  -- 2: _law_bounds_here != _law_first or _law_shown.bounds() != [(1, 1)] + _law_first[1:]
  refine q_not (K := K) (et_or (et_test (er_op (er_var rfl (Rp.mono (SF.of e2501) r2499)) (er_var rfl r2503) rr_neT)) (fun hsc => (et_test (er_op (er_frz (erl_tl (f := Ts.now) rfl (TA.mono e2501 (TA.mono e2497 t2493)) (by first | exact sm15 h5 (Nat.zero_le _) | exact sm15 (by simpa using h5) (Nat.le_refl _)))) (er_frz (erl_cat (er_frz (erl_lst (α := (Int × Int)) (ea_cons (er_pair er_int er_int) ea_nil))) (er_frz (erl_sl (er_var rfl r2503) (eo_some er_int) eo_none)) (by first | omega | decide | (rw [hF, rest15]; simp only [List.length_append, List.length_singleton] at h5; simp only [List.length_singleton]; omega)))) rr_neT)))) (by rw [hF, rest15]; simp) (fun _ e2505 => ?_)
  have r2506 := (Rp.mono (((m2491.sf.trans (SF.of e2497)).trans (SF.of e2501)).trans (SF.of e2505)) r2487)
  have r2507 := (Rp.mono (((m2491.sf.trans (SF.of e2497)).trans (SF.of e2501)).trans (SF.of e2505)) r2488)
  have r2508 := (Rp.mono (((m2491.sf.trans (SF.of e2497)).trans (SF.of e2501)).trans (SF.of e2505)) r2489)
  refine tr_and (K := K) (c := true) (r := rEqD K) (x := ([((0 : Int), (1 : Int))] ++ bounds_here_b)) (y := ([((0 : Int), (1 : Int))] ++ bounds_here_b)) (P := fun H1 => (∃ fp', TA K H1 p2480 fp' (Ts.mk ([((0 : Int), (1 : Int))] ++ bounds_here_b) [])) ∧ Rp.rep K H1 v2396 ([((0 : Int), (1 : Int))] ++ bounds_here_b)) (fun Q qq => ev_undoC (K := K) rfl (TA.mono e2505 (TA.mono e2501 (TA.mono e2497 t2493))) (sm15 (by simpa using h5) (Nat.le_refl _)) undo15 (fun a us H1 fp' m g t' hn hf h1 r => ⟨a, us, rfl, h1, fun od => ?_⟩)) (fun H1 hP => er_var rfl hP.2) rr_eqT (decide_eq_true rfl) (fun H1 H2 hP e => ?_)
  · exact qq (.ref a) _ ⟨⟨fp', t'.mus (Mus.mu (mu_upd (Same.refl _) h1) (List.mem_singleton.mpr rfl)) (fun x hx hc => hf (by simp at hc; subst hc; exact hx))⟩, Rp.cong (Rp.mono (m.sf.trans (mu_upd (Same.refl _) h1).sf) (Rp.mono (SF.of e2505) r2503)) hF.symm⟩ ⟨a, us, rfl, ⟨od, upd_same⟩, r.mono (mu_upd (Same.refl _) h1).sf⟩
  · obtain ⟨⟨fp', t'⟩, _⟩ := hP
    exact ⟨_, er_op (K := K) (er_up (er_tlen (f := m_len) rfl (t'.mono e) (sm15 h5 (Nat.zero_le _)) (by show 0 < 1000000; decide))) er_int rr_eqI, rfl, fun H' => q H'⟩
end
end BL

set_option Elab.async false
set_option linter.all false
set_option maxRecDepth 100000
set_option maxHeartbeats 0
namespace BL
open PySem PySem.Spec PyProof.Rows L2
def dd_is_int : He.DefD := ⟨("is_int", none), "is_int", "is_int", defArgs s_is_int, defBody s_is_int, defScope s_is_int, [], []⟩
def dd_is_bound : He.DefD := ⟨("is_bound", none), "is_bound", "is_bound", defArgs s_is_bound, defBody s_is_bound, defScope s_is_bound, [], []⟩
def dd_is_bounds : He.DefD := ⟨("is_bounds", none), "is_bounds", "is_bounds", defArgs s_is_bounds, defBody s_is_bounds, defScope s_is_bounds, [], []⟩
def dd_check_bounds : He.DefD := ⟨("check_bounds", none), "check_bounds", "check_bounds", defArgs s_check_bounds, defBody s_check_bounds, defScope s_check_bounds, [], []⟩
def dd_check_place : He.DefD := ⟨("check_place", none), "check_place", "check_place", defArgs s_check_place, defBody s_check_place, defScope s_check_place, [], []⟩
def dd_check_pairs : He.DefD := ⟨("check_pairs", none), "check_pairs", "check_pairs", defArgs s_check_pairs, defBody s_check_pairs, defScope s_check_pairs, [], []⟩
def dd_common_divisor : He.DefD := ⟨("common_divisor", none), "common_divisor", "common_divisor", defArgs s_common_divisor, defBody s_common_divisor, defScope s_common_divisor, [], []⟩
def dd_lowest : He.DefD := ⟨("lowest", none), "lowest", "lowest", defArgs s_lowest, defBody s_lowest, defScope s_lowest, [], []⟩
def dd_plus : He.DefD := ⟨("plus", none), "plus", "plus", defArgs s_plus, defBody s_plus, defScope s_plus, [], []⟩
def dd_minus : He.DefD := ⟨("minus", none), "minus", "minus", defArgs s_minus, defBody s_minus, defScope s_minus, [], []⟩
def dd_times : He.DefD := ⟨("times", none), "times", "times", defArgs s_times, defBody s_times, defScope s_times, [], []⟩
def dd_less : He.DefD := ⟨("less", none), "less", "less", defArgs s_less, defBody s_less, defScope s_less, [], []⟩
def dd_total : He.DefD := ⟨("total", none), "total", "total", defArgs s_total, defBody s_total, defScope s_total, [], []⟩
def dd_squares_about_mean : He.DefD := ⟨("squares_about_mean", none), "squares_about_mean", "squares_about_mean", defArgs s_squares_about_mean, defBody s_squares_about_mean, defScope s_squares_about_mean, [], []⟩
def dd_lows : He.DefD := ⟨("lows", none), "lows", "lows", defArgs s_lows, defBody s_lows, defScope s_lows, [], []⟩
def dd_highs : He.DefD := ⟨("highs", none), "highs", "highs", defArgs s_highs, defBody s_highs, defScope s_highs, [], []⟩
def dd_sum_range : He.DefD := ⟨("sum_range", none), "sum_range", "sum_range", defArgs s_sum_range, defBody s_sum_range, defScope s_sum_range, [], []⟩
def dd_mean_range : He.DefD := ⟨("mean_range", none), "mean_range", "mean_range", defArgs s_mean_range, defBody s_mean_range, defScope s_mean_range, [], []⟩
def dd_middle : He.DefD := ⟨("middle", none), "middle", "middle", defArgs s_middle, defBody s_middle, defScope s_middle, [], []⟩
def dd_median_range : He.DefD := ⟨("median_range", none), "median_range", "median_range", defArgs s_median_range, defBody s_median_range, defScope s_median_range, [], []⟩
def dd_least_range : He.DefD := ⟨("least_range", none), "least_range", "least_range", defArgs s_least_range, defBody s_least_range, defScope s_least_range, [], []⟩
def dd_greatest_range : He.DefD := ⟨("greatest_range", none), "greatest_range", "greatest_range", defArgs s_greatest_range, defBody s_greatest_range, defScope s_greatest_range, [], []⟩
def dd_choice_with_sum : He.DefD := ⟨("choice_with_sum", none), "choice_with_sum", "choice_with_sum", defArgs s_choice_with_sum, defBody s_choice_with_sum, defScope s_choice_with_sum, [], []⟩
def dd_pair_gap : He.DefD := ⟨("pair_gap", none), "pair_gap", "pair_gap", defArgs s_pair_gap, defBody s_pair_gap, defScope s_pair_gap, [], []⟩
def dd_widest_choice : He.DefD := ⟨("widest_choice", none), "widest_choice", "widest_choice", defArgs s_widest_choice, defBody s_widest_choice, defScope s_widest_choice, [], []⟩
def dd_narrowest_choice : He.DefD := ⟨("narrowest_choice", none), "narrowest_choice", "narrowest_choice", defArgs s_narrowest_choice, defBody s_narrowest_choice, defScope s_narrowest_choice, [], []⟩
def dd_surely_apart : He.DefD := ⟨("surely_apart", none), "surely_apart", "surely_apart", defArgs s_surely_apart, defBody s_surely_apart, defScope s_surely_apart, [], []⟩
def dd_corner_choices : He.DefD := ⟨("corner_choices", none), "corner_choices", "corner_choices", defArgs s_corner_choices, defBody s_corner_choices, defScope s_corner_choices, [], []⟩
def dd_widest : He.DefD := ⟨("widest", none), "widest", "widest", defArgs s_widest, defBody s_widest, defScope s_widest, [], []⟩
def dd_widest_squares_choice : He.DefD := ⟨("widest_squares_choice", none), "widest_squares_choice", "widest_squares_choice", defArgs s_widest_squares_choice, defBody s_widest_squares_choice, defScope s_widest_squares_choice, [], []⟩
def dd_clipped : He.DefD := ⟨("clipped", none), "clipped", "clipped", defArgs s_clipped, defBody s_clipped, defScope s_clipped, [], []⟩
def dd_centre_of : He.DefD := ⟨("centre_of", none), "centre_of", "centre_of", defArgs s_centre_of, defBody s_centre_of, defScope s_centre_of, [], []⟩
def dd_nearest_choice : He.DefD := ⟨("nearest_choice", none), "nearest_choice", "nearest_choice", defArgs s_nearest_choice, defBody s_nearest_choice, defScope s_nearest_choice, [], []⟩
def dd_ranks_of : He.DefD := ⟨("ranks_of", none), "ranks_of", "ranks_of", defArgs s_ranks_of, defBody s_ranks_of, defScope s_ranks_of, [], []⟩
def dd_can_be_greatest : He.DefD := ⟨("can_be_greatest", none), "can_be_greatest", "can_be_greatest", defArgs s_can_be_greatest, defBody s_can_be_greatest, defScope s_can_be_greatest, [], []⟩
def dd_surely_greatest : He.DefD := ⟨("surely_greatest", none), "surely_greatest", "surely_greatest", defArgs s_surely_greatest, defBody s_surely_greatest, defScope s_surely_greatest, [], []⟩
def dd_sure_pairs : He.DefD := ⟨("sure_pairs", none), "sure_pairs", "sure_pairs", defArgs s_sure_pairs, defBody s_sure_pairs, defScope s_sure_pairs, [], []⟩
def dd_longest_chain : He.DefD := ⟨("longest_chain", none), "longest_chain", "longest_chain", defArgs s_longest_chain, defBody s_longest_chain, defScope s_longest_chain, [], []⟩
def dd_rank_table : He.DefD := ⟨("rank_table", none), "rank_table", "rank_table", defArgs s_rank_table, defBody s_rank_table, defScope s_rank_table, [], []⟩
def dd_check_order : He.DefD := ⟨("check_order", none), "check_order", "check_order", defArgs s_check_order, defBody s_check_order, defScope s_check_order, [], []⟩
def dd_is_possible : He.DefD := ⟨("is_possible", none), "is_possible", "is_possible", defArgs s_is_possible, defBody s_is_possible, defScope s_is_possible, [], []⟩
def dd_can_be_order : He.DefD := ⟨("can_be_order", none), "can_be_order", "can_be_order", defArgs s_can_be_order, defBody s_can_be_order, defScope s_can_be_order, [], []⟩
def dd_choice_for : He.DefD := ⟨("choice_for", none), "choice_for", "choice_for", defArgs s_choice_for, defBody s_choice_for, defScope s_choice_for, [], []⟩
def dd_next_places : He.DefD := ⟨("next_places", none), "next_places", "next_places", defArgs s_next_places, defBody s_next_places, defScope s_next_places, [], []⟩
def dd_ways_from : He.DefD := ⟨("ways_from", none), "ways_from", "ways_from", defArgs s_ways_from, defBody s_ways_from, defScope s_ways_from, [], []⟩
def dd_order_at : He.DefD := ⟨("order_at", none), "order_at", "order_at", defArgs s_order_at, defBody s_order_at, defScope s_order_at, [], []⟩
def dd_rank_of_order : He.DefD := ⟨("rank_of_order", none), "rank_of_order", "rank_of_order", defArgs s_rank_of_order, defBody s_rank_of_order, defScope s_rank_of_order, [], []⟩
def dd_checked_facts : He.DefD := ⟨("checked_facts", none), "checked", "checked", defArgs s_checked_facts, defBody s_checked_facts, defScope s_checked_facts, [], []⟩
def dd_with_sum : He.DefD := ⟨("with_sum", none), "with_sum", "with_sum", defArgs s_with_sum, defBody s_with_sum, defScope s_with_sum, [], []⟩
def dd_narrowed : He.DefD := ⟨("narrowed", none), "narrowed", "narrowed", defArgs s_narrowed, defBody s_narrowed, defScope s_narrowed, [], []⟩
def dd_with_pairs : He.DefD := ⟨("with_pairs", none), "with_pairs", "with_pairs", defArgs s_with_pairs, defBody s_with_pairs, defScope s_with_pairs, [], []⟩
def dd_can_be_pairs : He.DefD := ⟨("can_be_pairs", none), "can_be_pairs", "can_be_pairs", defArgs s_can_be_pairs, defBody s_can_be_pairs, defScope s_can_be_pairs, [], []⟩
def dd_with_value : He.DefD := ⟨("with_value", none), "with_value", "with_value", defArgs s_with_value, defBody s_with_value, defScope s_with_value, [], []⟩
def dd_met : He.DefD := ⟨("met", none), "met", "met", defArgs s_met, defBody s_met, defScope s_met, [], []⟩
def dd_as_fractions : He.DefD := ⟨("as_fractions", none), "as_fractions", "as_fractions", defArgs s_as_fractions, defBody s_as_fractions, defScope s_as_fractions, [], []⟩
def dd_figure_range : He.DefD := ⟨("figure_range", none), "figure_range", "figure_range", defArgs s_figure_range, defBody s_figure_range, defScope s_figure_range, [], []⟩
def dd_check_figure : He.DefD := ⟨("check_figure", none), "check_figure", "check_figure", defArgs s_check_figure, defBody s_check_figure, defScope s_check_figure, [], []⟩
def dd_best_figures : He.DefD := ⟨("best_figures", none), "best_figures", "best_figures", defArgs s_best_figures, defBody s_best_figures, defScope s_best_figures, [], []⟩
def dd_checked_changing : He.DefD := ⟨("checked_changing", none), "checked", "checked", defArgs s_checked_changing, defBody s_checked_changing, defScope s_checked_changing, [], []⟩
def dd_moved : He.DefD := ⟨("moved", none), "moved", "moved", defArgs s_moved, defBody s_moved, defScope s_moved, [], []⟩
def dd_scaled : He.DefD := ⟨("scaled", none), "scaled", "scaled", defArgs s_scaled, defBody s_scaled, defScope s_scaled, [], []⟩
def dd_widened : He.DefD := ⟨("widened", none), "widened", "widened", defArgs s_widened, defBody s_widened, defScope s_widened, [], []⟩
def dd_added : He.DefD := ⟨("added", none), "added", "added", defArgs s_added, defBody s_added, defScope s_added, [], []⟩
def dd_with_bound : He.DefD := ⟨("with_bound", none), "with_bound", "with_bound", defArgs s_with_bound, defBody s_with_bound, defScope s_with_bound, [], []⟩
def dd_without_value : He.DefD := ⟨("without_value", none), "without_value", "without_value", defArgs s_without_value, defBody s_without_value, defScope s_without_value, [], []⟩
def dd_renamed : He.DefD := ⟨("renamed", none), "renamed", "renamed", defArgs s_renamed, defBody s_renamed, defScope s_renamed, [], []⟩
def dd_format_bounds : He.DefD := ⟨("format_bounds", none), "format_bounds", "format_bounds", defArgs s_format_bounds, defBody s_format_bounds, defScope s_format_bounds, [], []⟩
def dd__law_start : He.DefD := ⟨("_law_start", none), "_law_start", "_law_start", defArgs s__law_start, defBody s__law_start, defScope s__law_start, [], []⟩
def dd__law_draw : He.DefD := ⟨("_law_draw", none), "_law_draw", "_law_draw", defArgs s__law_draw, defBody s__law_draw, defScope s__law_draw, [], []⟩
def dd__law_pick : He.DefD := ⟨("_law_pick", none), "_law_pick", "_law_pick", defArgs s__law_pick, defBody s__law_pick, defScope s__law_pick, [], []⟩
def dd__law_bounds : He.DefD := ⟨("_law_bounds", none), "_law_bounds", "_law_bounds", defArgs s__law_bounds, defBody s__law_bounds, defScope s__law_bounds, [], []⟩
def dd__law_more : He.DefD := ⟨("_law_more", none), "_law_more", "_law_more", defArgs s__law_more, defBody s__law_more, defScope s__law_more, [], []⟩
def dd_law : He.DefD := ⟨("law", none), "law", "law", defArgs s_law, defBody s_law, defScope s_law, [], []⟩
def dd_Teller___init__ : He.DefD := ⟨("Teller", some "__init__"), "__init__", "Teller.__init__", defArgs s_Teller___init__, defBody s_Teller___init__, defScope s_Teller___init__, [], []⟩
def dd_Teller_tell : He.DefD := ⟨("Teller", some "tell"), "tell", "Teller.tell", defArgs s_Teller_tell, defBody s_Teller_tell, defScope s_Teller_tell, [], []⟩
def dd_Teller_bounds : He.DefD := ⟨("Teller", some "bounds"), "bounds", "Teller.bounds", defArgs s_Teller_bounds, defBody s_Teller_bounds, defScope s_Teller_bounds, [], []⟩
def dd_Teller_known : He.DefD := ⟨("Teller", some "known"), "known", "Teller.known", defArgs s_Teller_known, defBody s_Teller_known, defScope s_Teller_known, [], []⟩
def dd_Teller_undo : He.DefD := ⟨("Teller", some "undo"), "undo", "Teller.undo", defArgs s_Teller_undo, defBody s_Teller_undo, defScope s_Teller_undo, [], []⟩
def dd_Teller___len__ : He.DefD := ⟨("Teller", some "__len__"), "__len__", "Teller.__len__", defArgs s_Teller___len__, defBody s_Teller___len__, defScope s_Teller___len__, [], []⟩
def fnD : List He.DefD := [dd_is_int, dd_is_bound, dd_is_bounds, dd_check_bounds, dd_check_place, dd_check_pairs, dd_common_divisor, dd_lowest, dd_plus, dd_minus, dd_times, dd_less, dd_total, dd_squares_about_mean, dd_lows, dd_highs, dd_sum_range, dd_mean_range, dd_middle, dd_median_range, dd_least_range, dd_greatest_range, dd_choice_with_sum, dd_pair_gap, dd_widest_choice, dd_narrowest_choice, dd_surely_apart, dd_corner_choices, dd_widest, dd_widest_squares_choice, dd_clipped, dd_centre_of, dd_nearest_choice, dd_ranks_of, dd_can_be_greatest, dd_surely_greatest, dd_sure_pairs, dd_longest_chain, dd_rank_table, dd_check_order, dd_is_possible, dd_can_be_order, dd_choice_for, dd_next_places, dd_ways_from, dd_order_at, dd_rank_of_order, dd_checked_facts, dd_with_sum, dd_narrowed, dd_with_pairs, dd_can_be_pairs, dd_with_value, dd_met, dd_as_fractions, dd_figure_range, dd_check_figure, dd_best_figures, dd_checked_changing, dd_moved, dd_scaled, dd_widened, dd_added, dd_with_bound, dd_without_value, dd_renamed, dd_format_bounds, dd__law_start, dd__law_draw, dd__law_pick, dd__law_bounds, dd__law_more, dd_law, dd_Teller___init__, dd_Teller_tell, dd_Teller_bounds, dd_Teller_known, dd_Teller_undo, dd_Teller___len__]
def faD : List He.Fa := [.glo "is_int", .glo "is_bound", .glo "is_bounds", .glo "check_bounds", .glo "check_place", .glo "check_pairs", .glo "common_divisor", .glo "lowest", .glo "plus", .glo "minus", .glo "times", .glo "less", .glo "total", .glo "squares_about_mean", .glo "lows", .glo "highs", .glo "sum_range", .glo "mean_range", .glo "middle", .glo "median_range", .glo "least_range", .glo "greatest_range", .glo "choice_with_sum", .glo "pair_gap", .glo "widest_choice", .glo "narrowest_choice", .glo "surely_apart", .glo "corner_choices", .glo "widest", .glo "widest_squares_choice", .glo "clipped", .glo "centre_of", .glo "nearest_choice", .glo "ranks_of", .glo "can_be_greatest", .glo "surely_greatest", .glo "sure_pairs", .glo "longest_chain", .glo "rank_table", .glo "check_order", .glo "is_possible", .glo "can_be_order", .glo "choice_for", .glo "next_places", .glo "ways_from", .glo "order_at", .glo "rank_of_order", .glo "checked_facts", .glo "with_sum", .glo "narrowed", .glo "with_pairs", .glo "can_be_pairs", .glo "with_value", .glo "met", .glo "as_fractions", .glo "figure_range", .glo "check_figure", .glo "best_figures", .glo "checked_changing", .glo "moved", .glo "scaled", .glo "widened", .glo "added", .glo "with_bound", .glo "without_value", .glo "renamed", .glo "format_bounds", .glo "_law_start", .glo "_law_draw", .glo "_law_pick", .glo "_law_bounds", .glo "_law_more", .glo "law", .free "abs", .free "all", .free "any", .free "bool", .free "enumerate", .free "int", .free "isinstance", .free "len", .free "list", .free "max", .free "min", .free "range", .free "sorted", .free "str", .free "sum", .free "tuple", .free "zip", .glo "FIGURES", .int "MOST_BOUND" 50, .int "MOST_VALUES" 7, .glo "BadBounds", .glo "BadNumber", .glo "BadOrder", .glo "NotFound", .glo "BoundError", .glo "Teller", .cls "Teller", .noat "Teller" "now", .noat "Teller" "past", .mkr "Teller", .meth "Teller" "__init__", .meth "Teller" "tell", .meth "Teller" "bounds", .meth "Teller" "known", .meth "Teller" "undo", .meth "Teller" "__len__"]
abbrev rowR : PySem.W.OpenRow := PySem.W.OpenLaw.row PySem.Challenge.rw_boundstats_k15_whole_unchanged
def exD (K : Fg) : Bool := ((["BadBounds", "BadNumber", "BadOrder", "NotFound"] : List Str).all fun c => errQB K c) && He.tupB K "FIGURES" ((["sum", "mean", "median", "least", "greatest"] : List Str).map He.Dv.str)
abbrev hkD : PySem.W.Hook := hookB 5 faD fnD exD
def obD (s : PySem.W.SharedT) : He.AlD × Bool := (He.obsDG 5 faD fnD (HandSHeadRun.getT s), exD (He.frG (HandSHeadRun.getT s) (He.asD (HandSHeadRun.getT s) 5)))
theorem obD_eq (s : PySem.W.SharedT) : obD s = hkD.obs s.abs := hookB_eq (HandSHeadRun.getT_eq s)
def looseD0 : List Str := ["_wall", "BoundError", "BadBounds", "BadNumber", "BadOrder", "NotFound", "MOST_VALUES", "MOST_BOUND", "is_int", "is_bound", "is_bounds", "check_bounds", "check_place", "check_pairs", "Teller", "common_divisor", "lowest", "plus", "minus", "times"]
def looseD1 : List Str := ["less", "total", "squares_about_mean", "lows", "highs", "sum_range", "mean_range", "middle", "median_range", "least_range", "greatest_range", "choice_with_sum", "pair_gap", "widest_choice", "narrowest_choice", "surely_apart", "corner_choices", "widest", "widest_squares_choice", "clipped"]
def looseD2 : List Str := ["centre_of", "nearest_choice", "ranks_of", "can_be_greatest", "surely_greatest", "sure_pairs", "longest_chain", "rank_table", "check_order", "is_possible", "can_be_order", "choice_for", "next_places", "ways_from", "order_at", "rank_of_order", "checked", "checked_facts", "with_sum", "narrowed"]
def looseD3 : List Str := ["with_pairs", "can_be_pairs", "with_value", "met", "FIGURES", "as_fractions", "figure_range", "check_figure", "best_figures", "checked_changing", "moved", "scaled", "widened", "added", "with_bound", "without_value", "renamed", "format_bounds", "_law_start", "_law_draw"]
def looseD4 : List Str := ["_law_pick", "_law_bounds", "_law_more"]
def looseD : List Str := looseD0 ++ looseD1 ++ looseD2 ++ looseD3 ++ looseD4
theorem runD (w : World) : HandSHeadRun.RunEq rowR (PySem.W.view rowR.prog [97]) hkD obD 3000 looseD w := by
  intro os
  kernel_rfl
theorem txt_of {K : Fg} {h : Heap} {mg : Str → Option Value} (X : K.In h) (G : h.Ns mainGlobals mg) (c : He.SaysD faD fnD K) (cx : exD K = true) : Txt K mg where
  d_is_int := by
    obtain ⟨fd, F⟩ := c.def_ 0 (d := dd_is_int) rfl
    exact ⟨_, fd, F, He.glo_ok X G (c.fact 0 (f := .glo "is_int") rfl)⟩
  d_is_bound := by
    obtain ⟨fd, F⟩ := c.def_ 1 (d := dd_is_bound) rfl
    exact ⟨_, fd, F, He.glo_ok X G (c.fact 1 (f := .glo "is_bound") rfl)⟩
  d_is_bounds := by
    obtain ⟨fd, F⟩ := c.def_ 2 (d := dd_is_bounds) rfl
    exact ⟨_, fd, F, He.glo_ok X G (c.fact 2 (f := .glo "is_bounds") rfl)⟩
  d_check_bounds := by
    obtain ⟨fd, F⟩ := c.def_ 3 (d := dd_check_bounds) rfl
    exact ⟨_, fd, F, He.glo_ok X G (c.fact 3 (f := .glo "check_bounds") rfl)⟩
  d_check_place := by
    obtain ⟨fd, F⟩ := c.def_ 4 (d := dd_check_place) rfl
    exact ⟨_, fd, F, He.glo_ok X G (c.fact 4 (f := .glo "check_place") rfl)⟩
  d_check_pairs := by
    obtain ⟨fd, F⟩ := c.def_ 5 (d := dd_check_pairs) rfl
    exact ⟨_, fd, F, He.glo_ok X G (c.fact 5 (f := .glo "check_pairs") rfl)⟩
  d_common_divisor := by
    obtain ⟨fd, F⟩ := c.def_ 6 (d := dd_common_divisor) rfl
    exact ⟨_, fd, F, He.glo_ok X G (c.fact 6 (f := .glo "common_divisor") rfl)⟩
  d_lowest := by
    obtain ⟨fd, F⟩ := c.def_ 7 (d := dd_lowest) rfl
    exact ⟨_, fd, F, He.glo_ok X G (c.fact 7 (f := .glo "lowest") rfl)⟩
  d_plus := by
    obtain ⟨fd, F⟩ := c.def_ 8 (d := dd_plus) rfl
    exact ⟨_, fd, F, He.glo_ok X G (c.fact 8 (f := .glo "plus") rfl)⟩
  d_minus := by
    obtain ⟨fd, F⟩ := c.def_ 9 (d := dd_minus) rfl
    exact ⟨_, fd, F, He.glo_ok X G (c.fact 9 (f := .glo "minus") rfl)⟩
  d_times := by
    obtain ⟨fd, F⟩ := c.def_ 10 (d := dd_times) rfl
    exact ⟨_, fd, F, He.glo_ok X G (c.fact 10 (f := .glo "times") rfl)⟩
  d_less := by
    obtain ⟨fd, F⟩ := c.def_ 11 (d := dd_less) rfl
    exact ⟨_, fd, F, He.glo_ok X G (c.fact 11 (f := .glo "less") rfl)⟩
  d_total := by
    obtain ⟨fd, F⟩ := c.def_ 12 (d := dd_total) rfl
    exact ⟨_, fd, F, He.glo_ok X G (c.fact 12 (f := .glo "total") rfl)⟩
  d_squares_about_mean := by
    obtain ⟨fd, F⟩ := c.def_ 13 (d := dd_squares_about_mean) rfl
    exact ⟨_, fd, F, He.glo_ok X G (c.fact 13 (f := .glo "squares_about_mean") rfl)⟩
  d_lows := by
    obtain ⟨fd, F⟩ := c.def_ 14 (d := dd_lows) rfl
    exact ⟨_, fd, F, He.glo_ok X G (c.fact 14 (f := .glo "lows") rfl)⟩
  d_highs := by
    obtain ⟨fd, F⟩ := c.def_ 15 (d := dd_highs) rfl
    exact ⟨_, fd, F, He.glo_ok X G (c.fact 15 (f := .glo "highs") rfl)⟩
  d_sum_range := by
    obtain ⟨fd, F⟩ := c.def_ 16 (d := dd_sum_range) rfl
    exact ⟨_, fd, F, He.glo_ok X G (c.fact 16 (f := .glo "sum_range") rfl)⟩
  d_mean_range := by
    obtain ⟨fd, F⟩ := c.def_ 17 (d := dd_mean_range) rfl
    exact ⟨_, fd, F, He.glo_ok X G (c.fact 17 (f := .glo "mean_range") rfl)⟩
  d_middle := by
    obtain ⟨fd, F⟩ := c.def_ 18 (d := dd_middle) rfl
    exact ⟨_, fd, F, He.glo_ok X G (c.fact 18 (f := .glo "middle") rfl)⟩
  d_median_range := by
    obtain ⟨fd, F⟩ := c.def_ 19 (d := dd_median_range) rfl
    exact ⟨_, fd, F, He.glo_ok X G (c.fact 19 (f := .glo "median_range") rfl)⟩
  d_least_range := by
    obtain ⟨fd, F⟩ := c.def_ 20 (d := dd_least_range) rfl
    exact ⟨_, fd, F, He.glo_ok X G (c.fact 20 (f := .glo "least_range") rfl)⟩
  d_greatest_range := by
    obtain ⟨fd, F⟩ := c.def_ 21 (d := dd_greatest_range) rfl
    exact ⟨_, fd, F, He.glo_ok X G (c.fact 21 (f := .glo "greatest_range") rfl)⟩
  d_choice_with_sum := by
    obtain ⟨fd, F⟩ := c.def_ 22 (d := dd_choice_with_sum) rfl
    exact ⟨_, fd, F, He.glo_ok X G (c.fact 22 (f := .glo "choice_with_sum") rfl)⟩
  d_pair_gap := by
    obtain ⟨fd, F⟩ := c.def_ 23 (d := dd_pair_gap) rfl
    exact ⟨_, fd, F, He.glo_ok X G (c.fact 23 (f := .glo "pair_gap") rfl)⟩
  d_widest_choice := by
    obtain ⟨fd, F⟩ := c.def_ 24 (d := dd_widest_choice) rfl
    exact ⟨_, fd, F, He.glo_ok X G (c.fact 24 (f := .glo "widest_choice") rfl)⟩
  d_narrowest_choice := by
    obtain ⟨fd, F⟩ := c.def_ 25 (d := dd_narrowest_choice) rfl
    exact ⟨_, fd, F, He.glo_ok X G (c.fact 25 (f := .glo "narrowest_choice") rfl)⟩
  d_surely_apart := by
    obtain ⟨fd, F⟩ := c.def_ 26 (d := dd_surely_apart) rfl
    exact ⟨_, fd, F, He.glo_ok X G (c.fact 26 (f := .glo "surely_apart") rfl)⟩
  d_corner_choices := by
    obtain ⟨fd, F⟩ := c.def_ 27 (d := dd_corner_choices) rfl
    exact ⟨_, fd, F, He.glo_ok X G (c.fact 27 (f := .glo "corner_choices") rfl)⟩
  d_widest := by
    obtain ⟨fd, F⟩ := c.def_ 28 (d := dd_widest) rfl
    exact ⟨_, fd, F, He.glo_ok X G (c.fact 28 (f := .glo "widest") rfl)⟩
  d_widest_squares_choice := by
    obtain ⟨fd, F⟩ := c.def_ 29 (d := dd_widest_squares_choice) rfl
    exact ⟨_, fd, F, He.glo_ok X G (c.fact 29 (f := .glo "widest_squares_choice") rfl)⟩
  d_clipped := by
    obtain ⟨fd, F⟩ := c.def_ 30 (d := dd_clipped) rfl
    exact ⟨_, fd, F, He.glo_ok X G (c.fact 30 (f := .glo "clipped") rfl)⟩
  d_centre_of := by
    obtain ⟨fd, F⟩ := c.def_ 31 (d := dd_centre_of) rfl
    exact ⟨_, fd, F, He.glo_ok X G (c.fact 31 (f := .glo "centre_of") rfl)⟩
  d_nearest_choice := by
    obtain ⟨fd, F⟩ := c.def_ 32 (d := dd_nearest_choice) rfl
    exact ⟨_, fd, F, He.glo_ok X G (c.fact 32 (f := .glo "nearest_choice") rfl)⟩
  d_ranks_of := by
    obtain ⟨fd, F⟩ := c.def_ 33 (d := dd_ranks_of) rfl
    exact ⟨_, fd, F, He.glo_ok X G (c.fact 33 (f := .glo "ranks_of") rfl)⟩
  d_can_be_greatest := by
    obtain ⟨fd, F⟩ := c.def_ 34 (d := dd_can_be_greatest) rfl
    exact ⟨_, fd, F, He.glo_ok X G (c.fact 34 (f := .glo "can_be_greatest") rfl)⟩
  d_surely_greatest := by
    obtain ⟨fd, F⟩ := c.def_ 35 (d := dd_surely_greatest) rfl
    exact ⟨_, fd, F, He.glo_ok X G (c.fact 35 (f := .glo "surely_greatest") rfl)⟩
  d_sure_pairs := by
    obtain ⟨fd, F⟩ := c.def_ 36 (d := dd_sure_pairs) rfl
    exact ⟨_, fd, F, He.glo_ok X G (c.fact 36 (f := .glo "sure_pairs") rfl)⟩
  d_longest_chain := by
    obtain ⟨fd, F⟩ := c.def_ 37 (d := dd_longest_chain) rfl
    exact ⟨_, fd, F, He.glo_ok X G (c.fact 37 (f := .glo "longest_chain") rfl)⟩
  d_rank_table := by
    obtain ⟨fd, F⟩ := c.def_ 38 (d := dd_rank_table) rfl
    exact ⟨_, fd, F, He.glo_ok X G (c.fact 38 (f := .glo "rank_table") rfl)⟩
  d_check_order := by
    obtain ⟨fd, F⟩ := c.def_ 39 (d := dd_check_order) rfl
    exact ⟨_, fd, F, He.glo_ok X G (c.fact 39 (f := .glo "check_order") rfl)⟩
  d_is_possible := by
    obtain ⟨fd, F⟩ := c.def_ 40 (d := dd_is_possible) rfl
    exact ⟨_, fd, F, He.glo_ok X G (c.fact 40 (f := .glo "is_possible") rfl)⟩
  d_can_be_order := by
    obtain ⟨fd, F⟩ := c.def_ 41 (d := dd_can_be_order) rfl
    exact ⟨_, fd, F, He.glo_ok X G (c.fact 41 (f := .glo "can_be_order") rfl)⟩
  d_choice_for := by
    obtain ⟨fd, F⟩ := c.def_ 42 (d := dd_choice_for) rfl
    exact ⟨_, fd, F, He.glo_ok X G (c.fact 42 (f := .glo "choice_for") rfl)⟩
  d_next_places := by
    obtain ⟨fd, F⟩ := c.def_ 43 (d := dd_next_places) rfl
    exact ⟨_, fd, F, He.glo_ok X G (c.fact 43 (f := .glo "next_places") rfl)⟩
  d_ways_from := by
    obtain ⟨fd, F⟩ := c.def_ 44 (d := dd_ways_from) rfl
    exact ⟨_, fd, F, He.glo_ok X G (c.fact 44 (f := .glo "ways_from") rfl)⟩
  d_order_at := by
    obtain ⟨fd, F⟩ := c.def_ 45 (d := dd_order_at) rfl
    exact ⟨_, fd, F, He.glo_ok X G (c.fact 45 (f := .glo "order_at") rfl)⟩
  d_rank_of_order := by
    obtain ⟨fd, F⟩ := c.def_ 46 (d := dd_rank_of_order) rfl
    exact ⟨_, fd, F, He.glo_ok X G (c.fact 46 (f := .glo "rank_of_order") rfl)⟩
  d_checked_facts := by
    obtain ⟨fd, F⟩ := c.def_ 47 (d := dd_checked_facts) rfl
    exact ⟨_, fd, F, He.glo_ok X G (c.fact 47 (f := .glo "checked_facts") rfl)⟩
  d_with_sum := by
    obtain ⟨fd, F⟩ := c.def_ 48 (d := dd_with_sum) rfl
    exact ⟨_, fd, F, He.glo_ok X G (c.fact 48 (f := .glo "with_sum") rfl)⟩
  d_narrowed := by
    obtain ⟨fd, F⟩ := c.def_ 49 (d := dd_narrowed) rfl
    exact ⟨_, fd, F, He.glo_ok X G (c.fact 49 (f := .glo "narrowed") rfl)⟩
  d_with_pairs := by
    obtain ⟨fd, F⟩ := c.def_ 50 (d := dd_with_pairs) rfl
    exact ⟨_, fd, F, He.glo_ok X G (c.fact 50 (f := .glo "with_pairs") rfl)⟩
  d_can_be_pairs := by
    obtain ⟨fd, F⟩ := c.def_ 51 (d := dd_can_be_pairs) rfl
    exact ⟨_, fd, F, He.glo_ok X G (c.fact 51 (f := .glo "can_be_pairs") rfl)⟩
  d_with_value := by
    obtain ⟨fd, F⟩ := c.def_ 52 (d := dd_with_value) rfl
    exact ⟨_, fd, F, He.glo_ok X G (c.fact 52 (f := .glo "with_value") rfl)⟩
  d_met := by
    obtain ⟨fd, F⟩ := c.def_ 53 (d := dd_met) rfl
    exact ⟨_, fd, F, He.glo_ok X G (c.fact 53 (f := .glo "met") rfl)⟩
  d_as_fractions := by
    obtain ⟨fd, F⟩ := c.def_ 54 (d := dd_as_fractions) rfl
    exact ⟨_, fd, F, He.glo_ok X G (c.fact 54 (f := .glo "as_fractions") rfl)⟩
  d_figure_range := by
    obtain ⟨fd, F⟩ := c.def_ 55 (d := dd_figure_range) rfl
    exact ⟨_, fd, F, He.glo_ok X G (c.fact 55 (f := .glo "figure_range") rfl)⟩
  d_check_figure := by
    obtain ⟨fd, F⟩ := c.def_ 56 (d := dd_check_figure) rfl
    exact ⟨_, fd, F, He.glo_ok X G (c.fact 56 (f := .glo "check_figure") rfl)⟩
  d_best_figures := by
    obtain ⟨fd, F⟩ := c.def_ 57 (d := dd_best_figures) rfl
    exact ⟨_, fd, F, He.glo_ok X G (c.fact 57 (f := .glo "best_figures") rfl)⟩
  d_checked_changing := by
    obtain ⟨fd, F⟩ := c.def_ 58 (d := dd_checked_changing) rfl
    exact ⟨_, fd, F, He.glo_ok X G (c.fact 58 (f := .glo "checked_changing") rfl)⟩
  d_moved := by
    obtain ⟨fd, F⟩ := c.def_ 59 (d := dd_moved) rfl
    exact ⟨_, fd, F, He.glo_ok X G (c.fact 59 (f := .glo "moved") rfl)⟩
  d_scaled := by
    obtain ⟨fd, F⟩ := c.def_ 60 (d := dd_scaled) rfl
    exact ⟨_, fd, F, He.glo_ok X G (c.fact 60 (f := .glo "scaled") rfl)⟩
  d_widened := by
    obtain ⟨fd, F⟩ := c.def_ 61 (d := dd_widened) rfl
    exact ⟨_, fd, F, He.glo_ok X G (c.fact 61 (f := .glo "widened") rfl)⟩
  d_added := by
    obtain ⟨fd, F⟩ := c.def_ 62 (d := dd_added) rfl
    exact ⟨_, fd, F, He.glo_ok X G (c.fact 62 (f := .glo "added") rfl)⟩
  d_with_bound := by
    obtain ⟨fd, F⟩ := c.def_ 63 (d := dd_with_bound) rfl
    exact ⟨_, fd, F, He.glo_ok X G (c.fact 63 (f := .glo "with_bound") rfl)⟩
  d_without_value := by
    obtain ⟨fd, F⟩ := c.def_ 64 (d := dd_without_value) rfl
    exact ⟨_, fd, F, He.glo_ok X G (c.fact 64 (f := .glo "without_value") rfl)⟩
  d_renamed := by
    obtain ⟨fd, F⟩ := c.def_ 65 (d := dd_renamed) rfl
    exact ⟨_, fd, F, He.glo_ok X G (c.fact 65 (f := .glo "renamed") rfl)⟩
  d_format_bounds := by
    obtain ⟨fd, F⟩ := c.def_ 66 (d := dd_format_bounds) rfl
    exact ⟨_, fd, F, He.glo_ok X G (c.fact 66 (f := .glo "format_bounds") rfl)⟩
  d__law_start := by
    obtain ⟨fd, F⟩ := c.def_ 67 (d := dd__law_start) rfl
    exact ⟨_, fd, F, He.glo_ok X G (c.fact 67 (f := .glo "_law_start") rfl)⟩
  d__law_draw := by
    obtain ⟨fd, F⟩ := c.def_ 68 (d := dd__law_draw) rfl
    exact ⟨_, fd, F, He.glo_ok X G (c.fact 68 (f := .glo "_law_draw") rfl)⟩
  d__law_pick := by
    obtain ⟨fd, F⟩ := c.def_ 69 (d := dd__law_pick) rfl
    exact ⟨_, fd, F, He.glo_ok X G (c.fact 69 (f := .glo "_law_pick") rfl)⟩
  d__law_bounds := by
    obtain ⟨fd, F⟩ := c.def_ 70 (d := dd__law_bounds) rfl
    exact ⟨_, fd, F, He.glo_ok X G (c.fact 70 (f := .glo "_law_bounds") rfl)⟩
  d__law_more := by
    obtain ⟨fd, F⟩ := c.def_ 71 (d := dd__law_more) rfl
    exact ⟨_, fd, F, He.glo_ok X G (c.fact 71 (f := .glo "_law_more") rfl)⟩
  d_law := by
    obtain ⟨fd, F⟩ := c.def_ 72 (d := dd_law) rfl
    exact ⟨_, fd, F, He.glo_ok X G (c.fact 72 (f := .glo "law") rfl)⟩
  n_abs := He.free_ok X G (c.fact 73 (f := .free "abs") rfl)
  n_all := He.free_ok X G (c.fact 74 (f := .free "all") rfl)
  n_any := He.free_ok X G (c.fact 75 (f := .free "any") rfl)
  n_bool := He.free_ok X G (c.fact 76 (f := .free "bool") rfl)
  n_enumerate := He.free_ok X G (c.fact 77 (f := .free "enumerate") rfl)
  n_int := He.free_ok X G (c.fact 78 (f := .free "int") rfl)
  n_isinstance := He.free_ok X G (c.fact 79 (f := .free "isinstance") rfl)
  n_len := He.free_ok X G (c.fact 80 (f := .free "len") rfl)
  n_list := He.free_ok X G (c.fact 81 (f := .free "list") rfl)
  n_max := He.free_ok X G (c.fact 82 (f := .free "max") rfl)
  n_min := He.free_ok X G (c.fact 83 (f := .free "min") rfl)
  n_range := He.free_ok X G (c.fact 84 (f := .free "range") rfl)
  n_sorted := He.free_ok X G (c.fact 85 (f := .free "sorted") rfl)
  n_str := He.free_ok X G (c.fact 86 (f := .free "str") rfl)
  n_sum := He.free_ok X G (c.fact 87 (f := .free "sum") rfl)
  n_tuple := He.free_ok X G (c.fact 88 (f := .free "tuple") rfl)
  n_zip := He.free_ok X G (c.fact 89 (f := .free "zip") rfl)
  c_FIGURES := ⟨_, He.glo_ok X G (c.fact 90 (f := .glo "FIGURES") rfl), fun H => tup_of (by first | exact cx | exact (Bool.and_eq_true_iff.mp cx).1 | exact (Bool.and_eq_true_iff.mp cx).2 | exact (Bool.and_eq_true_iff.mp (Bool.and_eq_true_iff.mp cx).1).2) H⟩
  c_MOST_BOUND := He.int_ok X G (c.fact 91 (f := .int "MOST_BOUND" 50) rfl)
  c_MOST_VALUES := He.int_ok X G (c.fact 92 (f := .int "MOST_VALUES" 7) rfl)
  d_Teller___init__ := by
    obtain ⟨fd, F⟩ := c.def_ 73 (d := dd_Teller___init__) rfl
    exact ⟨_, fd, F, He.meth_ok (c.fact 103 (f := .meth "Teller" "__init__") rfl)⟩
  d_Teller_tell := by
    obtain ⟨fd, F⟩ := c.def_ 74 (d := dd_Teller_tell) rfl
    exact ⟨_, fd, F, He.meth_ok (c.fact 104 (f := .meth "Teller" "tell") rfl)⟩
  d_Teller_bounds := by
    obtain ⟨fd, F⟩ := c.def_ 75 (d := dd_Teller_bounds) rfl
    exact ⟨_, fd, F, He.meth_ok (c.fact 105 (f := .meth "Teller" "bounds") rfl)⟩
  d_Teller_known := by
    obtain ⟨fd, F⟩ := c.def_ 76 (d := dd_Teller_known) rfl
    exact ⟨_, fd, F, He.meth_ok (c.fact 106 (f := .meth "Teller" "known") rfl)⟩
  d_Teller_undo := by
    obtain ⟨fd, F⟩ := c.def_ 77 (d := dd_Teller_undo) rfl
    exact ⟨_, fd, F, He.meth_ok (c.fact 107 (f := .meth "Teller" "undo") rfl)⟩
  d_Teller___len__ := by
    obtain ⟨fd, F⟩ := c.def_ 78 (d := dd_Teller___len__) rfl
    exact ⟨_, fd, F, He.meth_ok (c.fact 108 (f := .meth "Teller" "__len__") rfl)⟩
  k_Teller := ⟨He.cls_ok (c.fact 99 (f := .cls "Teller") rfl), fun f hf => by
    simp only [List.mem_cons, List.mem_nil_iff, or_false] at hf
    rcases hf with rfl | rfl
    · exact He.noat_ok (c.fact 100 (f := .noat "Teller" "now") rfl)
    · exact He.noat_ok (c.fact 101 (f := .noat "Teller" "past") rfl), He.glo_ok X G (c.fact 98 (f := .glo "Teller") rfl)⟩
  m_Teller := He.mkr_ok (c.fact 102 (f := .mkr "Teller") rfl)
  x := by
    have hx : ((["BadBounds", "BadNumber", "BadOrder", "NotFound"] : List Str).all fun c => errQB K c) = true := by first | exact cx | exact (Bool.and_eq_true_iff.mp cx).1 | exact (Bool.and_eq_true_iff.mp (Bool.and_eq_true_iff.mp cx).1).1
    refine ⟨fun d hd => errQB_ok ?_ (List.all_eq_true.mp hx d hd)⟩
    simp only [List.mem_cons, List.mem_nil_iff, or_false] at hd
    rcases hd with rfl | rfl | rfl | rfl
    · exact He.glo_ok X G (c.fact 93 (f := .glo "BadBounds") rfl)
    · exact He.glo_ok X G (c.fact 94 (f := .glo "BadNumber") rfl)
    · exact He.glo_ok X G (c.fact 95 (f := .glo "BadOrder") rfl)
    · exact He.glo_ok X G (c.fact 96 (f := .glo "NotFound") rfl)
theorem endD {P : Program} {w : World} {K : Fg} {h : Heap} {mg : Str → Option Value} {f : Addr} (X : K.In h) (G : h.Ns mainGlobals mg) (hfa : mg ("law" : Str) = some (.ref f)) (c : He.SaysD faD fnD K) (cx : exD K = true) :
    ∃ fd : FuncData, (∀ (s : Shared) (v : Value), BindsTo s fd ⟨[v], []⟩ [("_law_script", v)]) ∧ ∀ base : Heap, K.In base → base.Ns mainGlobals mg → FnOk P w K mg base CX0 12 f fd ["_law_script"] (spLaw K) := by
  have T := txt_of X G c cx
  obtain ⟨fd, F⟩ := c.def_ 72 (d := dd_law) rfl
  have e := hfa.symm.trans (He.glo_ok X G (c.fact 72 (f := .glo "law") rfl))
  cases e
  have b := FunD.bindsA (ps := ["_law_script"]) F fun _ _ _ _ _ _ us hl => match us, hl with | [_], _ => rfl
  exact ⟨fd, fun s v => b s [v] rfl, fun base _ _ => ok_law T F⟩
end BL
open PySem PySem.W PySem.Calls PyProof.Rows
set_option maxRecDepth 100000 in
set_option maxHeartbeats 0 in
theorem PySem.Challenge.cw_boundstats_k15_whole_unchanged_holds : PySem.Challenge.rw_boundstats_k15_whole_unchanged.Holds := by
  w_on; o_law
  refine HandSHeadRun.head_any (r := OpenLaw.row PySem.Challenge.rw_boundstats_k15_whole_unchanged) (q := view (OpenLaw.row PySem.Challenge.rw_boundstats_k15_whole_unchanged).prog [97]) (H := BL.hkD) (ob := BL.obD) (M := 3000) (loose := BL.looseD) (d := HandSHeadRun.topDef (OpenLaw.row PySem.Challenge.rw_boundstats_k15_whole_unchanged).prog 97) (kwd := []) BL.obD_eq
    (by kernel_rfl) (fun s => by kernel_rfl) BL.runD (by kernel_rfl) (by kernel_rfl) (by kernel_rfl) (by rfl) (by first | assumption | decide +kernel) (by decide +kernel) ⟨rfl, rfl, rfl, rfl, rfl, by decide +kernel⟩ ?hw ?hc
  case hw => w_witness2
  case hc =>
    refine L2.walk_ofE (l := PySem.Challenge.rw_boundstats_k15_whole_unchanged) (n := 63) (k := 12) (x := "_law_script") (CX := L2.CX0) rfl (by decide) (by kernel_rfl) ⟨rfl, by decide, by decide⟩ ?F (fun _ _ _ _ z => z)
    intro w mg fa h Y G hmg0
    obtain ⟨K, KX, c, cx⟩ := Y
    have hmg : mg ("law" : PySem.Str) = some (.ref fa) := by
      have e : (HandSHeadRun.topDef (OpenLaw.row PySem.Challenge.rw_boundstats_k15_whole_unchanged).prog 97).name = ("law" : PySem.Str) := by kernel_rfl
      rw [← e]
      exact hmg0
    obtain ⟨fd, hb, hF⟩ := BL.endD (P := (PySem.Challenge.rw_boundstats_k15_whole_unchanged).prog) (w := w) KX G hmg c cx
    exact ⟨K, fd, BL.spLaw K, KX, hb, fun H a ns hl _ hS => ⟨a, ns, rfl, hS, hl, fun _ => rfl⟩, hF⟩
#print axioms PySem.Challenge.cw_boundstats_k15_whole_unchanged_holds
