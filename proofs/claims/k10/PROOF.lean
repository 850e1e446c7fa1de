import PyProof.Rows.All
import Wide.All
import OpenK.AllK
import Wide.FinOn
import HandS.ForMost
import HandS.Exc
import HandS.ExcOwn
import HandS.WordsExc
import HandS.TupAny
import HandS.TupMul
import HandS.Wide
import HandS.Flow
import HandS.Deep
import HandS.IsInst
import KE.SortData
import HandS.Conv
import HandS.Text
import HandS.Zip
import HandS.Style
import HandS.SetFor
import HandS.Remove
import HandS.Defaults
import HandS.SortInts
import HandS.Set
import HandS.Strs
import KE.GoesMore
import HandS.TupSets
import KE.KStateDown
import HandS.More
import HandS.Head0
import HandS.Head1
import HandS.Head2
import HandS.HeadEnd
import HandS.HeadHook1
import HandS.HeadHook2
import HandS.HeadHook3
import HandS.HeadHook4
import HandS.HeadWalk
import PySem.Challenge.RW_hatnames_k10_whole_least_bars
set_option Elab.async false
set_option linter.all false
set_option maxRecDepth 100000
set_option maxHeartbeats 0
namespace DL
open PySem PySem.Spec PyProof.Rows L2
/-! ### data -/
/-- a value as data; arg: a list that is only read (the script); ptr: a thing of the store (one that changes); raw: a def, a class -/
inductive D where
  | non | bl (b : Bool) | int (i : Int) | str (s : Str)
  | tup (xs : List D) | lst (xs : List D) | arg (xs : List D) | ptr (n : Nat) | raw (v : V)
mutual
def D.beq : D → D → Bool
  | .non, .non => true
  | .bl a, .bl b => a == b
  | .int a, .int b => a == b
  | .str a, .str b => decide (a = b)
  | .tup a, .tup b => D.beqL a b
  | .lst a, .lst b => D.beqL a b
  | .arg a, .arg b => D.beqL a b
  | .ptr a, .ptr b => a == b
  | .raw a, .raw b => decide (a = b)
  | _, _ => false
def D.beqL : List D → List D → Bool
  | [], [] => true
  | x :: xs, y :: ys => D.beq x y && D.beqL xs ys
  | _, _ => false
end
mutual
theorem D.beq_eq : ∀ (a b : D), D.beq a b = true ↔ a = b
  | .non, b => by cases b <;> simp [D.beq]
  | .bl _, b => by cases b <;> simp [D.beq]
  | .int _, b => by cases b <;> simp [D.beq]
  | .str _, b => by cases b <;> simp [D.beq]
  | .tup xs, b => by cases b <;> simp [D.beq, D.beqL_eq xs]
  | .lst xs, b => by cases b <;> simp [D.beq, D.beqL_eq xs]
  | .arg xs, b => by cases b <;> simp [D.beq, D.beqL_eq xs]
  | .ptr _, b => by cases b <;> simp [D.beq]
  | .raw _, b => by cases b <;> simp [D.beq]
theorem D.beqL_eq : ∀ (a b : List D), D.beqL a b = true ↔ a = b
  | [], b => by cases b <;> simp [D.beqL]
  | x :: xs, b => by cases b <;> simp [D.beqL, D.beq_eq x, D.beqL_eq xs]
end
instance : DecidableEq D := fun a b => decidable_of_iff _ (D.beq_eq a b)
instance : Inhabited D := ⟨.non⟩
abbrev Env := List (Option D)
/-- a thing that changes -/
inductive Ob where
  | lst (xs : List D)
  | ins (C : Addr) (fs : List (Str × D))
  deriving DecidableEq
abbrev Store := List Ob
/-- an error of the program's own: its class's name, its fields -/
structure Ex where
  c : Str
  fs : List (Str × D) := []
inductive Res (α : Type) where
  | ok (a : α) (μ : Store)
  | ex (e : Ex) (μ : Store)
  | bad
def M (α : Type) := Store → Res α
def Mret {α : Type} (a : α) : M α := fun μ => .ok a μ
def Mbind {α β : Type} (x : M α) (f : α → M β) : M β := fun μ => match x μ with
  | .ok a μ' => f a μ'
  | .ex e μ' => .ex e μ'
  | .bad => .bad
def Mbad {α : Type} : M α := fun _ => .bad
def Mraise {α : Type} (e : Ex) : M α := fun μ => .ex e μ
instance : Monad M where
  pure := Mret
  bind := Mbind
theorem pure_at {α : Type} (a : α) (μ : Store) : (pure a : M α) μ = .ok a μ := rfl
theorem bind_at {α β : Type} (x : M α) (f : α → M β) (μ : Store) : (x >>= f) μ = match x μ with
  | .ok a μ' => f a μ'
  | .ex e μ' => .ex e μ'
  | .bad => .bad := rfl
/-! ### how data lies in the heap -/
mutual
inductive Rep (K : PySem.W.Frag) (F : Hp) (θ : List Addr) : V → D → Prop where
  | non : Rep K F θ .non .non
  | bl (b : Bool) : Rep K F θ (.bl b) (.bl b)
  | int (i : Int) : Rep K F θ (.int i) (.int i)
  | str (x : Str) : Rep K F θ (.str x) (.str x)
  | tup {a : Addr} {vs : List V} {ds : List D} : SqT K F a vs → RepL K F θ vs ds → Rep K F θ (.ref a) (.tup ds)
  | lst {a : Addr} {vs : List V} {ds : List D} : F a = some (.lst vs) → RepL K F θ vs ds → Rep K F θ (.ref a) (.lst ds)
  | arg {a : Addr} {vs : List V} {ds : List D} : SqL K F a vs → RepL K F θ vs ds → Rep K F θ (.ref a) (.arg ds)
  | ptr {a : Addr} {n : Nat} : θ[n]? = some a → Rep K F θ (.ref a) (.ptr n)
  | raw (v : V) : Rep K F θ v (.raw v)
inductive RepL (K : PySem.W.Frag) (F : Hp) (θ : List Addr) : List V → List D → Prop where
  | nil : RepL K F θ [] []
  | cons {v : V} {vs : List V} {d : D} {ds : List D} : Rep K F θ v d → RepL K F θ vs ds → RepL K F θ (v :: vs) (d :: ds)
end
section
variable {K : PySem.W.Frag} {F F' : Hp} {θ θ' : List Addr}
theorem same_rd {H H' : Hp} {a : Addr} {u : HO} (e : Same H H') (h : Rd H a u) : Rd H' a u := by
  rcases h with h | ⟨o, h⟩
  · exact .inl (e _ _ h)
  · exact .inr ⟨o, e _ _ h⟩
theorem same_sqt {H H' : Hp} {a : Addr} {xs : List V} (e : Same H H') (h : SqT K H a xs) : SqT K H' a xs := by
  rcases h with h | h
  · exact .inl (same_rd e h)
  · exact .inr h
mutual
theorem Rep.mono (e : Same F F') (p : θ <+: θ') : ∀ {v : V} (d : D), Rep K F θ v d → Rep K F' θ' v d
  | _, .non, h => by cases h; exact .non
  | _, .bl _, h => by cases h; exact .bl _
  | _, .int _, h => by cases h; exact .int _
  | _, .str _, h => by cases h; exact .str _
  | _, .tup ds, h => by
    cases h with
    | tup h1 h2 => exact .tup (same_sqt e h1) (RepL.mono e p ds h2)
  | _, .lst ds, h => by
    cases h with
    | lst h1 h2 => exact .lst (e _ _ h1) (RepL.mono e p ds h2)
  | _, .arg ds, h => by
    cases h with
    | arg h1 h2 => exact .arg (Same.seq e h1) (RepL.mono e p ds h2)
  | _, .ptr n, h => by
    cases h with
    | ptr h1 =>
      refine .ptr ?_
      obtain ⟨r, rfl⟩ := p
      rw [List.getElem?_append_left (List.getElem?_eq_some_iff.mp h1).1]
      exact h1
  | _, .raw _, h => by cases h; exact .raw _
theorem RepL.mono (e : Same F F') (p : θ <+: θ') : ∀ {vs : List V} (ds : List D), RepL K F θ vs ds → RepL K F' θ' vs ds
  | _, [], h => by cases h; exact .nil
  | _, d :: ds, h => by
    cases h with
    | cons h1 h2 => exact .cons (Rep.mono e p d h1) (RepL.mono e p ds h2)
end
theorem RepL.length : ∀ {vs : List V} {ds : List D}, RepL K F θ vs ds → vs.length = ds.length
  | _, [], h => by cases h; rfl
  | _, d :: ds, h => by
    cases h with
    | cons h1 h2 => simp [RepL.length h2]
theorem RepL.append : ∀ {vs ws : List V} {ds es : List D}, RepL K F θ vs ds → RepL K F θ ws es → RepL K F θ (vs ++ ws) (ds ++ es)
  | _, _, [], _, h, h' => by cases h; exact h'
  | _, _, d :: ds, _, h, h' => by
    cases h with
    | cons h1 h2 => exact .cons h1 (RepL.append h2 h')
theorem RepL.at : ∀ {vs : List V} {ds : List D} {i : Nat} {d : D}, RepL K F θ vs ds → ds[i]? = some d → ∃ v, vs[i]? = some v ∧ Rep K F θ v d
  | _, [], i, d, h, e => by simp at e
  | _, x :: ds, 0, d, h, e => by
    cases h with
    | cons h1 h2 => simp at e; subst e; exact ⟨_, rfl, h1⟩
  | _, x :: ds, i + 1, d, h, e => by
    cases h with
    | cons h1 h2 =>
      obtain ⟨v, h3, h4⟩ := RepL.at (i := i) h2 (by simpa using e)
      exact ⟨v, by simpa using h3, h4⟩
theorem RepL.take : ∀ {vs : List V} {ds : List D} (n : Nat), RepL K F θ vs ds → RepL K F θ (vs.take n) (ds.take n)
  | _, ds, 0, h => by simp; exact .nil
  | _, [], n + 1, h => by cases h; exact .nil
  | _, d :: ds, n + 1, h => by
    cases h with
    | cons h1 h2 => exact .cons h1 (RepL.take n h2)
theorem RepL.drop : ∀ {vs : List V} {ds : List D} (n : Nat), RepL K F θ vs ds → RepL K F θ (vs.drop n) (ds.drop n)
  | _, ds, 0, h => by simpa using h
  | _, [], n + 1, h => by cases h; exact .nil
  | _, d :: ds, n + 1, h => by
    cases h with
    | cons h1 h2 => exact RepL.drop n h2
theorem RepL.set {v : V} {d : D} (r : Rep K F θ v d) : ∀ {vs : List V} {ds : List D} (i : Nat), RepL K F θ vs ds → RepL K F θ (vs.set i v) (ds.set i d)
  | _, [], i, h => by cases h; exact .nil
  | _, x :: ds, 0, h => by
    cases h with
    | cons h1 h2 => exact .cons r h2
  | _, x :: ds, i + 1, h => by
    cases h with
    | cons h1 h2 => exact .cons h1 (RepL.set r i h2)
theorem RepL.rev : ∀ {vs : List V} {ds : List D}, RepL K F θ vs ds → RepL K F θ vs.reverse ds.reverse
  | _, [], h => by cases h; exact .nil
  | _, d :: ds, h => by
    cases h with
    | cons h1 h2 => simp only [List.reverse_cons]; exact (RepL.rev h2).append (.cons h1 .nil)
end
/-! ### the world: what is frozen, the store -/
structure Wd where
  F : Hp
  θ : List Addr
  μ : Store
def ObR (K : PySem.W.Frag) (w : Wd) (H : Hp) (a : Addr) : Ob → Prop
  | .lst xs => ∃ vs, H a = some (.lst vs) ∧ RepL K w.F w.θ vs xs
  | .ins C fs => ∃ dx gs, H a = some (.ins C dx gs) ∧ gs.map (·.1) = fs.map (·.1) ∧ RepL K w.F w.θ (gs.map (·.2)) (fs.map (·.2))
structure Wf (K : PySem.W.Frag) (H : Hp) (w : Wd) : Prop where
  same : Same w.F H
  len : w.θ.length = w.μ.length
  nd : w.θ.Nodup
  out : ∀ (i : Nat) (a : Addr), w.θ[i]? = some a → w.F a = none
  ob : ∀ (i : Nat) (a : Addr) (o : Ob), w.θ[i]? = some a → w.μ[i]? = some o → ObR K w H a o
structure Ext (H : Hp) (w : Wd) (H' : Hp) (w' : Wd) : Prop where
  frz : Same w.F w'.F
  ids : w.θ <+: w'.θ
  old : ∀ a, H a ≠ none → w'.F a = w.F a
  keep : ∀ a o, H a = some o → a ∉ w.θ → H' a = some o
  live : ∀ a, H a ≠ none → H' a ≠ none
  new : ∀ a, a ∈ w'.θ → a ∉ w.θ → H a = none
section
variable {K : PySem.W.Frag} {H H' H'' : Hp} {w w' w'' : Wd}
theorem Ext.refl (H : Hp) (w : Wd) : Ext H w H w := ⟨Same.refl _, List.prefix_refl _, fun _ _ => rfl, fun _ _ h _ => h, fun _ h => h, fun _ h h' => absurd h h'⟩
theorem Ext.trans (a : Ext H w H' w') (b : Ext H' w' H'' w'') : Ext H w H'' w'' := by
  refine ⟨a.frz.trans b.frz, a.ids.trans b.ids, fun c h => (b.old c (a.live c h)).trans (a.old c h), fun c o h hc => ?_, fun c h => b.live c (a.live c h), fun c h hc => ?_⟩
  · refine b.keep c o (a.keep c o h hc) fun hm => ?_
    have := a.new c hm hc
    rw [h] at this
    cases this
  · by_cases h' : c ∈ w'.θ
    · exact a.new c h' hc
    · have := b.new c h h'
      by_cases q : H c = none
      · exact q
      · exact absurd this (a.live c q)
theorem Ext.rep {v : V} {d : D} (e : Ext H w H' w') (r : Rep K w.F w.θ v d) : Rep K w'.F w'.θ v d := r.mono e.frz e.ids
theorem Ext.repL {vs : List V} {ds : List D} (e : Ext H w H' w') (r : RepL K w.F w.θ vs ds) : RepL K w'.F w'.θ vs ds := r.mono e.frz e.ids
theorem Wf.some_of (wf : Wf K H w) {i : Nat} {a : Addr} (h : w.θ[i]? = some a) : ∃ o, w.μ[i]? = some o ∧ ObR K w H a o := by
  have hi := (List.getElem?_eq_some_iff.mp h).1
  rw [wf.len] at hi
  exact ⟨w.μ[i], List.getElem?_eq_getElem hi, wf.ob i a _ h (List.getElem?_eq_getElem hi)⟩
theorem ObR.there {a : Addr} : ∀ {o : Ob}, ObR K w H a o → H a ≠ none
  | .lst xs, ⟨vs, h, _⟩ => by rw [h]; simp
  | .ins C fs, ⟨dx, gs, h, _⟩ => by rw [h]; simp
theorem Wf.live (wf : Wf K H w) {a : Addr} (h : a ∈ w.θ) : H a ≠ none := by
  obtain ⟨i, hi⟩ := List.mem_iff_getElem?.mp h
  obtain ⟨o, _, q⟩ := wf.some_of hi
  exact q.there
/-- a new frozen object -/
def Wd.frz (w : Wd) (p : Addr) (o : HO) : Wd := { w with F := upd w.F p o }
theorem same_upd {F H : Hp} {p : Addr} {o : HO} (s : Same F H) : Same (upd F p o) (upd H p o) := by
  intro a u h
  by_cases e : a = p
  · subst e; rw [upd_same] at h ⊢; exact h
  · rw [upd_ne e] at h ⊢; exact s _ _ h
theorem same_upd_new {H : Hp} {p : Addr} {o : HO} (hp : H p = none) : Same H (upd H p o) := by
  intro a u h
  rw [upd_ne (ne_of_none h hp)]
  exact h
theorem Wf.frz_new (wf : Wf K H w) {p : Addr} (hp : H p = none) : w.F p = none := Same.free wf.same hp
theorem Ext.frz_ (wf : Wf K H w) {p : Addr} {o : HO} (hp : H p = none) : Ext H w (upd H p o) (w.frz p o) := by
  refine ⟨same_upd_new (wf.frz_new hp), List.prefix_refl _, fun a h => ?_, fun a u h _ => same_upd_new hp a u h, fun a h => ?_, fun _ h h' => absurd h h'⟩
  · exact upd_ne (fun e => h (by rw [e]; exact hp))
  · rw [upd_ne (fun e => h (by rw [e]; exact hp))]; exact h
theorem ObR.mono {a : Addr} (h1 : Same w.F w'.F) (h2 : w.θ <+: w'.θ) (h3 : H' a = H a) : ∀ {o : Ob}, ObR K w H a o → ObR K w' H' a o
  | .lst xs, ⟨vs, h, r⟩ => ⟨vs, h3.trans h, r.mono h1 h2⟩
  | .ins C fs, ⟨dx, gs, h, e, r⟩ => ⟨dx, gs, h3.trans h, e, r.mono h1 h2⟩
theorem Wf.frz (wf : Wf K H w) {p : Addr} {o : HO} (hp : H p = none) : Wf K (upd H p o) (w.frz p o) := by
  have ne : ∀ a, a ∈ w.θ → a ≠ p := fun a h e => wf.live h (e ▸ hp)
  refine ⟨same_upd wf.same, wf.len, wf.nd, fun i a h => ?_, fun i a u h h' => ?_⟩
  · show upd w.F p o a = none
    rw [upd_ne (ne a (List.mem_of_getElem? h))]; exact wf.out i a h
  · exact (wf.ob i a u h h').mono (w' := w.frz p o) (same_upd_new (wf.frz_new hp)) (List.prefix_refl _) (upd_ne (ne a (List.mem_of_getElem? h)))
/-- a new thing of the store -/
def Wd.mk_ (w : Wd) (p : Addr) (o : Ob) : Wd := { w with θ := w.θ ++ [p], μ := w.μ ++ [o] }
theorem Ext.mk_ (wf : Wf K H w) {p : Addr} {o : HO} {u : Ob} (hp : H p = none) : Ext H w (upd H p o) (w.mk_ p u) := by
  refine ⟨Same.refl _, List.prefix_append _ _, fun a h => rfl, fun a u h _ => same_upd_new hp a u h, fun a h => ?_, fun a h h' => ?_⟩
  · rw [upd_ne (fun e => h (by rw [e]; exact hp))]; exact h
  · rcases List.mem_append.mp h with h | h
    · exact absurd h h'
    · rw [List.mem_singleton.mp h]; exact hp
theorem Wf.mk_lst (wf : Wf K H w) {p : Addr} {vs : List V} {xs : List D} (hp : H p = none) (r : RepL K w.F w.θ vs xs) : Wf K (upd H p (.lst vs)) (w.mk_ p (.lst xs)) := by
  have ne : ∀ a, a ∈ w.θ → a ≠ p := fun a h e => wf.live h (e ▸ hp)
  have Fp := wf.frz_new hp
  refine ⟨fun a u h => ?_, ?_, ?_, fun i a h => ?_, fun i a u h h' => ?_⟩
  · have q := wf.same a u h
    rw [upd_ne (ne_of_none q hp)]; exact q
  · show (w.θ ++ [p]).length = (w.μ ++ [_]).length
    simp [wf.len]
  · show (w.θ ++ [p]).Nodup
    exact List.nodup_append.mpr ⟨wf.nd, by simp, fun a ha b hb e => ne a ha (e.trans (List.mem_singleton.mp hb))⟩
  · have h1 : (w.θ ++ [p])[i]? = some a := h
    rcases Nat.lt_or_ge i w.θ.length with hi | hi
    · rw [List.getElem?_append_left hi] at h1
      exact wf.out i a h1
    · rw [List.getElem?_append_right hi] at h1
      have : a = p := by
        have := List.mem_of_getElem? h1
        simpa using this
      rw [this]; exact Fp
  · have h1 : (w.θ ++ [p])[i]? = some a := h
    have h2 : (w.μ ++ [Ob.lst xs])[i]? = some u := h'
    rcases Nat.lt_or_ge i w.θ.length with hi | hi
    · rw [List.getElem?_append_left hi] at h1
      rw [List.getElem?_append_left (by rw [← wf.len]; exact hi)] at h2
      exact (wf.ob i a u h1 h2).mono (w := w) (w' := w.mk_ p (.lst xs)) (Same.refl _) (List.prefix_append _ _) (upd_ne (ne a (List.mem_of_getElem? h1)))
    · rw [List.getElem?_append_right hi] at h1
      rw [List.getElem?_append_right (by rw [← wf.len]; exact hi)] at h2
      have e1 : a = p := by
        have := List.mem_of_getElem? h1
        simpa using this
      have e2 : u = Ob.lst xs := by
        have := List.mem_of_getElem? h2
        simpa using this
      subst e1 e2
      exact ⟨vs, upd_same, r.mono (Same.refl _) (List.prefix_append _ _)⟩
/-- a list of the store is changed -/
theorem Wf.set_lst (wf : Wf K H w) {n : Nat} {a : Addr} {vs : List V} {xs : List D} (hn : w.θ[n]? = some a) (r : RepL K w.F w.θ vs xs) : Wf K (upd H a (.lst vs)) { w with μ := w.μ.set n (.lst xs) } := by
  refine ⟨fun b u h => ?_, ?_, wf.nd, wf.out, fun i b u h h' => ?_⟩
  · have q := wf.same b u h
    have : b ≠ a := fun e => by
      have := wf.out n a hn
      subst e
      rw [show w.F b = none from this] at h
      cases h
    rw [upd_ne this]; exact q
  · show w.θ.length = (w.μ.set n _).length
    rw [List.length_set]; exact wf.len
  · have h1 : w.θ[i]? = some b := h
    have h2 : (w.μ.set n (Ob.lst xs))[i]? = some u := h'
    by_cases e : i = n
    · subst e
      have hb : b = a := by rw [hn] at h1; exact (Option.some.inj h1).symm
      subst hb
      have hi : i < w.μ.length := by rw [← wf.len]; exact (List.getElem?_eq_some_iff.mp hn).1
      rw [List.getElem?_set_self hi] at h2
      cases h2
      exact ⟨vs, upd_same, r⟩
    · rw [List.getElem?_set_ne (Ne.symm e)] at h2
      have hb : b ≠ a := fun q => by
        subst q
        have h3 := List.getElem?_eq_some_iff.mp h1
        have h4 := List.getElem?_eq_some_iff.mp hn
        exact e ((List.getElem_inj wf.nd).mp (h3.2.trans h4.2.symm))
      exact (wf.ob i b u h1 h2).mono (Same.refl _) (List.prefix_refl _) (upd_ne hb)
theorem Ext.set_lst (wf : Wf K H w) {n : Nat} {a : Addr} {o : HO} {u : Ob} (hn : w.θ[n]? = some a) : Ext H w (upd H a o) { w with μ := w.μ.set n u } := by
  refine ⟨Same.refl _, List.prefix_refl _, fun _ _ => rfl, fun b u h hb => ?_, fun b h => ?_, fun _ h h' => absurd h h'⟩
  · rw [upd_ne (fun e => hb (by rw [e]; exact List.mem_of_getElem? hn))]; exact h
  · by_cases e : b = a
    · subst e; rw [upd_same]; simp
    · rw [upd_ne e]; exact h
end
/-! ### what is wanted behind a piece -/
def Post {α : Type} (K : PySem.W.Frag) (H : Hp) (w : Wd) (r : Res α) (Q : α → Hp → Wd → Prop) (E : Ex → Hp → Wd → Prop) : Prop :=
  match r with
  | .ok a μ' => ∀ H' w', w'.μ = μ' → Ext H w H' w' → Wf K H' w' → Q a H' w'
  | .ex e μ' => ∀ H' w', w'.μ = μ' → Ext H w H' w' → Wf K H' w' → E e H' w'
  | .bad => False
section
variable {α β : Type} {K : PySem.W.Frag} {H H' : Hp} {w w' : Wd} {r : Res α} {Q Q' : α → Hp → Wd → Prop} {E E' : Ex → Hp → Wd → Prop}
theorem Post.imp (h : Post K H w r Q E) (hq : ∀ a H' w', Ext H w H' w' → Wf K H' w' → Q a H' w' → Q' a H' w') (he : ∀ e H' w', Ext H w H' w' → Wf K H' w' → E e H' w' → E' e H' w') : Post K H w r Q' E' := by
  cases r with
  | ok a μ' => exact fun H' w' e x wf => hq a H' w' x wf (h H' w' e x wf)
  | ex a μ' => exact fun H' w' e x wf => he a H' w' x wf (h H' w' e x wf)
  | bad => exact h
theorem Post.ext (h : Post K H w r Q E) (x : Ext H w H' w') : Post K H' w' r Q E := by
  cases r with
  | ok a μ' => exact fun H2 w2 e x2 wf => h H2 w2 e (x.trans x2) wf
  | ex a μ' => exact fun H2 w2 e x2 wf => h H2 w2 e (x.trans x2) wf
  | bad => exact h
theorem Post.bind {m : M α} {f : α → M β} {μ : Store} {Q : β → Hp → Wd → Prop} (h : Post K H w ((m >>= f) μ) Q E) : Post K H w (m μ) (fun a H1 w1 => Post K H1 w1 (f a w1.μ) Q E) E := by
  rw [bind_at] at h
  cases e : m μ with
  | ok a μ' =>
    rw [e] at h
    exact fun H1 w1 e1 x wf => by
      show Post K H1 w1 (f a w1.μ) Q E
      rw [e1]; exact h.ext x
  | ex a μ' =>
    rw [e] at h
    exact h
  | bad => rw [e] at h; exact h
theorem Post.pure {a : α} {μ : Store} (h : Post K H w ((pure a : M α) μ) Q E) (e : w.μ = μ) (wf : Wf K H w) : Q a H w := h H w e (Ext.refl _ _) wf
end
/-! ### the state -/
structure SR (K : PySem.W.Frag) (σ : L2.St) (H : Hp) (ρ : Env) (w : Wd) : Prop where
  wf : Wf K H w
  len : ρ.length = σ.length
  val : ∀ (i : Nat) (d : D), ρ[i]? = some (some d) → ∃ v, σ[i]? = some (some v) ∧ Rep K w.F w.θ v d
section
variable {K : PySem.W.Frag} {σ : L2.St} {H H' : Hp} {ρ : Env} {w w' : Wd}
theorem SR.ext (s : SR K σ H ρ w) (x : Ext H w H' w') (wf : Wf K H' w') : SR K σ H' ρ w' := ⟨wf, s.len, fun i d h => let ⟨v, h1, h2⟩ := s.val i d h; ⟨v, h1, x.rep h2⟩⟩
theorem SR.set (s : SR K σ H ρ w) {i : Nat} {v : V} {d : D} (r : Rep K w.F w.θ v d) : SR K (σ.set i (some v)) H (ρ.set i (some d)) w := by
  refine ⟨s.wf, by simp [s.len], fun j e h => ?_⟩
  by_cases hj : j = i
  · subst hj
    by_cases hl : j < ρ.length
    · rw [List.getElem?_set_self hl] at h
      cases h
      exact ⟨v, List.getElem?_set_self (by rw [← s.len]; exact hl), r⟩
    · rw [List.getElem?_eq_none (by simpa using hl)] at h; cases h
  · rw [List.getElem?_set_ne (Ne.symm hj)] at h
    obtain ⟨u, h1, h2⟩ := s.val j e h
    exact ⟨u, by rw [List.getElem?_set_ne (Ne.symm hj)]; exact h1, h2⟩
end
/-! ### errors -/
/-- an error lies so: its class, its own dict (where it has fields) -/
def ExR (K : PySem.W.Frag) (mg : Str → Option Value) (H : Hp) (w : Wd) (e : Ex) (c : Value) (dd : Option Addr) : Prop :=
  mg e.c = some c ∧ (match e.fs with
    | [] => dd = none
    | fs => ∃ d gs, dd = some d ∧ H d = some (.xd gs) ∧ gs.map (·.1) = fs.map (·.1) ∧ RepL K w.F w.θ (gs.map (·.2)) (fs.map (·.2)))
/-! ### expressions -/
def tE (K : PySem.W.Frag) (mg : Str → Option Value) (W : WX) (f : Env → M D) : TE := fun σ H Q => ∃ ρ w, SR K σ H ρ w ∧
  Post K H w (f ρ w.μ) (fun d H' w' => ∀ v, Rep K w'.F w'.θ v d → Q v H') (fun e H' w' => ∀ c dd, ExR K mg H' w' e c dd → W c dd σ H')
def tT (K : PySem.W.Frag) (mg : Str → Option Value) (W : WX) (f : Env → M Bool) : TT := fun σ H Q => ∃ ρ w, SR K σ H ρ w ∧
  Post K H w (f ρ w.μ) (fun b H' w' => Q b H') (fun e H' w' => ∀ c dd, ExR K mg H' w' e c dd → W c dd σ H')
def tA (K : PySem.W.Frag) (mg : Str → Option Value) (W : WX) (f : Env → M (List D)) : TA := fun σ H Q => ∃ ρ w, SR K σ H ρ w ∧
  Post K H w (f ρ w.μ) (fun ds H' w' => ∀ vs, RepL K w'.F w'.θ vs ds → Q vs H') (fun e H' w' => ∀ c dd, ExR K mg H' w' e c dd → W c dd σ H')
abbrev ED (X : Cx) (W : WX) (e : Expr) (f : Env → M D) : Prop := PE X e (tE X.K X.mg W f)
abbrev TD (X : Cx) (W : WX) (e : Expr) (f : Env → M Bool) : Prop := PT X e (tT X.K X.mg W f)
abbrev AD (X : Cx) (W : WX) (es : List Expr) (f : Env → M (List D)) : Prop := PA X es (tA X.K X.mg W f)
theorem PE_imp {X : Cx} {e : Expr} {t t' : TE} (h : PE X e t) (hi : ∀ σ H Q, t' σ H Q → t σ H Q) : PE X e t' := ⟨fun pins s σ H Q I q => h.run pins s σ H Q I (hi _ _ _ q)⟩
theorem PT_imp {X : Cx} {e : Expr} {t t' : TT} (h : PT X e t) (hi : ∀ σ H Q, t' σ H Q → t σ H Q) : PT X e t' := ⟨fun pins s σ H Q I q => h.run pins s σ H Q I (hi _ _ _ q)⟩
theorem PA_imp {X : Cx} {e : List Expr} {t t' : TA} (h : PA X e t) (hi : ∀ σ H Q, t' σ H Q → t σ H Q) : PA X e t' := ⟨fun pos pins s σ H Q I q => h.run pos pins s σ H Q I (hi _ _ _ q)⟩
end DL
namespace DL
open PySem PySem.Spec PyProof.Rows L2
/-! ### reading through the store -/
def asLst (μ : Store) : D → Option (List D)
  | .lst xs => some xs
  | .ptr n => match μ[n]? with
    | some (.lst xs) => some xs
    | _ => none
  | _ => none
def asTup : D → Option (List D)
  | .tup xs => some xs
  | _ => none
section
variable {K : PySem.W.Frag} {H : Hp} {w : Wd} {x : V} {d : D}
theorem asLst_ok (wf : Wf K H w) (r : Rep K w.F w.θ x d) {xs : List D} (h : asLst w.μ d = some xs) : ∃ a vs, x = .ref a ∧ H a = some (.lst vs) ∧ RepL K w.F w.θ vs xs := by
  cases r with
  | lst h1 h2 => cases h; exact ⟨_, _, rfl, wf.same _ _ h1, h2⟩
  | @ptr a n h1 =>
    obtain ⟨o, h3, h4⟩ := wf.some_of h1
    simp only [asLst, h3] at h
    cases o with
    | lst ys =>
      cases h
      obtain ⟨vs, h5, h6⟩ := h4
      exact ⟨a, vs, rfl, h5, h6⟩
    | ins C fs => cases h
  | _ => cases h
theorem asTup_ok (wf : Wf K H w) (r : Rep K w.F w.θ x d) {xs : List D} (h : asTup d = some xs) : ∃ a vs, x = .ref a ∧ SqT K H a vs ∧ RepL K w.F w.θ vs xs := by
  cases r with
  | tup h1 h2 => cases h; exact ⟨_, _, rfl, same_sqt wf.same h1, h2⟩
  | _ => cases h
end
/-! ### results -/
section
variable {K : PySem.W.Frag} {H : Hp} {w : Wd} {Q : VK} {E : Ex → Hp → Wd → Prop}
abbrev QV (K : PySem.W.Frag) (Q : VK) : D → Hp → Wd → Prop := fun z H' w' => ∀ v, Rep K w'.F w'.θ v z → Q v H'
theorem post_here {z : D} (h : Post K H w (.ok z w.μ) (QV K Q) E) (wf : Wf K H w) {v : V} (r : Rep K w.F w.θ v z) : Q v H := h H w rfl (Ext.refl _ _) wf v r
theorem post_new {z : D} {o : HO} (h : Post K H w (.ok z w.μ) (QV K Q) E) (wf : Wf K H w) {p : Addr} (hp : H p = none) (r : Rep K (upd w.F p o) w.θ (.ref p) z) : Q (.ref p) (upd H p o) :=
  h (upd H p o) (w.frz p o) rfl (Ext.frz_ wf hp) (wf.frz hp) (.ref p) r
theorem post_lst {zs : List D} {vs : List V} (h : Post K H w (.ok (.lst zs) w.μ) (QV K Q) E) (wf : Wf K H w) {p : Addr} (hp : H p = none) (r : RepL K w.F w.θ vs zs) : Q (.ref p) (upd H p (.lst vs)) :=
  post_new h wf hp (.lst upd_same (r.mono (same_upd_new (wf.frz_new hp)) (List.prefix_refl _)))
theorem post_tup {zs : List D} {vs : List V} (h : Post K H w (.ok (.tup zs) w.μ) (QV K Q) E) (wf : Wf K H w) {p : Addr} (hp : H p = none) (r : RepL K w.F w.θ vs zs) : Q (.ref p) (upd H p (.tup vs)) :=
  post_new h wf hp (.tup (SqT.of upd_same) (r.mono (same_upd_new (wf.frz_new hp)) (List.prefix_refl _)))
/-- a new list that may change -/
theorem post_mut {zs : List D} {vs : List V} (h : Post K H w (.ok (.ptr w.μ.length) (w.μ ++ [.lst zs])) (QV K Q) E) (wf : Wf K H w) {p : Addr} (hp : H p = none) (r : RepL K w.F w.θ vs zs) : Q (.ref p) (upd H p (.lst vs)) := by
  refine h (upd H p (.lst vs)) (w.mk_ p (.lst zs)) rfl (Ext.mk_ wf hp) (wf.mk_lst hp r) (.ref p) (.ptr ?_)
  show (w.θ ++ [p])[w.μ.length]? = some p
  rw [← wf.len]; simp
end
/-- an operation on two values does what g says -/
def VOp (K : PySem.W.Frag) (r : R2) (g : D → D → M D) : Prop := ∀ (H : Hp) (w : Wd) (x y : V) (d e : D) (Q : VK) (E : Ex → Hp → Wd → Prop), Wf K H w → Rep K w.F w.θ x d → Rep K w.F w.θ y e →
  Post K H w (g d e w.μ) (QV K Q) E → r x y H Q
def VUn (K : PySem.W.Frag) (r : V → Hp → VK → Prop) (g : D → M D) : Prop := ∀ (H : Hp) (w : Wd) (x : V) (d : D) (Q : VK) (E : Ex → Hp → Wd → Prop), Wf K H w → Rep K w.F w.θ x d →
  Post K H w (g d w.μ) (QV K Q) E → r x H Q
def VCall (K : PySem.W.Frag) (r : List V → Hp → VK → Prop) (g : List D → M D) : Prop := ∀ (H : Hp) (w : Wd) (xs : List V) (ds : List D) (Q : VK) (E : Ex → Hp → Wd → Prop), Wf K H w → RepL K w.F w.θ xs ds →
  Post K H w (g ds w.μ) (QV K Q) E → r xs H Q
/-! ### + - * // % -/
def bool2 : Bool → Int
  | true => 1
  | false => 0
/-- where m says whether the list is to change -/
def retL (mu : Bool) (xs : List D) : M D := fun μ => if mu = true then .ok (.ptr μ.length) (μ ++ [.lst xs]) else .ok (.lst xs) μ
def gAdd (mu : Bool) : D → D → M D := fun x y μ => match x, y with
  | .int i, .int j => .ok (.int (i + j)) μ
  | .str i, .str j => if i.length + j.length ≤ sizeLine then .ok (.str (i ++ j)) μ else .bad
  | .tup xs, .tup ys => if xs.length + ys.length ≤ sizeLine then .ok (.tup (xs ++ ys)) μ else .bad
  | x, y => match asLst μ x, asLst μ y with
    | some xs, some ys => if xs.length + ys.length ≤ sizeLine then retL mu (xs ++ ys) μ else .bad
    | _, _ => .bad
def rAddD (K : PySem.W.Frag) : R2 := fun x y H Q => rI0 (fun i j => .int (i + j)) x y H Q ∨
  (∃ i j, x = .str i ∧ y = .str j ∧ i.length + j.length ≤ sizeLine ∧ Q (.str (i ++ j)) H) ∨ rCatA K x y H Q ∨ rCat x y H Q
theorem op_addD {X : Cx} : OpR X (binaryOp .Add) (rAddD X.K) := op_add.or (op_add_str.or (op_catA.or op_cat))
theorem v_add (K : PySem.W.Frag) (mu : Bool) : VOp K (rAddD K) (gAdd mu) := by
  intro H w x y d e Q E wf rx ry h
  have lists : (match asLst w.μ d, asLst w.μ e with
      | some xs, some ys => if xs.length + ys.length ≤ sizeLine then retL mu (xs ++ ys) w.μ else .bad
      | _, _ => .bad) = gAdd mu d e w.μ → rAddD K x y H Q := fun he => by
    rw [← he] at h
    cases h1 : asLst w.μ d with
    | none => rw [h1] at h; exact h.elim
    | some xs =>
      cases h2 : asLst w.μ e with
      | none => rw [h1, h2] at h; exact h.elim
      | some ys =>
        rw [h1, h2] at h
        simp only at h
        obtain ⟨a, vs, rfl, ha, ra⟩ := asLst_ok wf rx h1
        obtain ⟨b, us, rfl, hb, rb⟩ := asLst_ok wf ry h2
        split at h
        · rename_i hz
          refine .inr (.inr (.inr ⟨a, b, vs, us, rfl, rfl, ha, hb, by rw [ra.length, rb.length]; exact hz, fun p hp => ?_⟩))
          unfold retL at h
          cases mu with
          | true => exact post_mut h wf hp (ra.append rb)
          | false => exact post_lst h wf hp (ra.append rb)
        · exact h.elim
  cases d with
  | int i =>
    cases e with
    | int j => cases rx; cases ry; exact .inl ⟨i, j, rfl, rfl, post_here h wf (.int _)⟩
    | _ => exact lists rfl
  | str i =>
    cases e with
    | str j =>
      cases rx; cases ry
      simp only [gAdd] at h
      split at h
      · rename_i hz
        exact .inr (.inl ⟨i, j, rfl, rfl, hz, post_here h wf (.str _)⟩)
      · exact h.elim
    | _ => exact lists rfl
  | tup xs =>
    cases e with
    | tup ys =>
      simp only [gAdd] at h
      split at h
      · rename_i hz
        obtain ⟨a, vs, rfl, ha, ra⟩ := asTup_ok wf rx rfl
        obtain ⟨b, us, rfl, hb, rb⟩ := asTup_ok wf ry rfl
        refine .inr (.inr (.inl ⟨a, b, vs, us, rfl, rfl, ha, hb, by rw [ra.length, rb.length]; exact hz, fun e0 => ?_, fun _ e0 => ?_, fun _ _ p hp => post_tup h wf hp (ra.append rb)⟩))
        · subst e0
          cases ra
          exact post_here h wf (by simpa using ry)
        · subst e0
          cases rb
          exact post_here h wf (by simpa using rx)
      · exact h.elim
    | _ => exact lists rfl
  | _ => exact lists rfl
def gInt2 (c : Int → Int → Bool) (f : Int → Int → Int) : D → D → M D := fun x y μ => match x, y with
  | .int i, .int j => if c i j = true then .ok (.int (f i j)) μ else .bad
  | _, _ => .bad
theorem v_int2 {K : PySem.W.Frag} {C : Int → Int → Prop} {c : Int → Int → Bool} {f : Int → Int → Int} (hc : ∀ i j, c i j = true → C i j) : VOp K (rI C fun i j => .int (f i j)) (gInt2 c f) := by
  intro H w x y d e Q E wf rx ry h
  cases d with
  | int i =>
    cases e with
    | int j =>
      simp only [gInt2] at h
      split at h
      · rename_i hz
        cases rx; cases ry
        exact ⟨i, j, rfl, rfl, hc _ _ hz, post_here h wf (.int _)⟩
      · exact h.elim
    | _ => exact h.elim
  | _ => exact h.elim
def gSub : D → D → M D := gInt2 (fun _ _ => true) fun i j => i - j
theorem op_subD {X : Cx} : OpR X (binaryOp .Sub) (rI (fun _ _ => True) fun i j => .int (i - j)) := opI fun _ _ _ _ _ _ _ _ q => sub_int q
theorem v_sub (K : PySem.W.Frag) : VOp K (rI (fun _ _ => True) fun i j => .int (i - j)) gSub := v_int2 fun _ _ _ => trivial
/-- below 2 ^ 400000 -/
def wideI (i : Int) : Bool := Nat.blt i.natAbs.log2 400000
def gMulI : D → D → M D := gInt2 (fun i j => wideI i && wideI j) fun i j => i * j
theorem wide_of {i : Int} (h : wideI i = true) : i.natAbs < 2 ^ 400000 := by
  have h1 : i.natAbs.log2 < 400000 := by simpa [wideI, Nat.blt_eq] using h
  exact Nat.lt_of_lt_of_le (Nat.lt_log2_self) (Nat.pow_le_pow_right (by decide) h1)
theorem v_mulI (K : PySem.W.Frag) : VOp K (rI CMulW fun i j => .int (i * j)) gMulI := v_int2 fun i j h => by
  simp only [Bool.and_eq_true] at h
  exact wide_mul (wide_of h.1) (wide_of h.2) (by decide) (by decide) (by decide)
def gMod : D → D → M D := gInt2 (fun _ j => j != 0) fun i j => i.fmod j
theorem v_mod (K : PySem.W.Frag) : VOp K (rI (fun _ j => j ≠ 0) fun i j => .int (i.fmod j)) gMod := v_int2 fun i j h => by simpa using h
/-- // by a small divisor, or by a positive one below 2 ^ 9000 -/
def smallI (j : Int) : Bool := (j != 0 && Nat.blt j.natAbs 1073741824) || (decide (0 < j) && Nat.blt j.natAbs.log2 8000)
def gDiv : D → D → M D := gInt2 (fun _ j => smallI j) fun i j => i.fdiv j
def rDivD : R2 := fun x y H Q => rI CDivN (fun i j => .int (i.fdiv j)) x y H Q ∨ rI CDivW (fun i j => .int (i / j)) x y H Q
theorem op_divD {X : Cx} : OpR X (binaryOp .FloorDiv) rDivD := op_fdivN.or op_fdivW
theorem v_div (K : PySem.W.Frag) : VOp K rDivD gDiv := by
  intro H w x y d e Q E wf rx ry h
  cases d with
  | int i =>
    cases e with
    | int j =>
      simp only [gDiv, gInt2] at h
      split at h
      · rename_i hz
        cases rx; cases ry
        have q := post_here h wf (.int _)
        simp only [smallI, Bool.or_eq_true, Bool.and_eq_true, bne_iff_ne, ne_eq, decide_eq_true_eq, Nat.blt_eq] at hz
        rcases hz with hz | hz
        · exact .inl ⟨i, j, rfl, rfl, ⟨hz.1, hz.2⟩, q⟩
        · refine .inr ⟨i, j, rfl, rfl, ⟨hz.1, by omega⟩, ?_⟩
          show Q (.int (i / j)) H
          rw [← show i.fdiv j = i / j from Int.fdiv_eq_ediv_of_nonneg i (Int.le_of_lt hz.1)]
          exact q
      · exact h.elim
    | _ => exact h.elim
  | _ => exact h.elim
def gPow : D → D → M D := gInt2 (fun i j => decide (0 ≤ j) && decide (j ≤ 1000000) && Nat.blt i.natAbs (2 ^ 64)) fun i j => i ^ j.toNat
theorem v_pow (K : PySem.W.Frag) : VOp K (rI CPow fun i j => .int (i ^ j.toNat)) gPow := v_int2 fun i j h => by
  simp only [Bool.and_eq_true, decide_eq_true_eq, Nat.blt_eq] at h
  exact ⟨h.1.1, h.1.2, h.2⟩
end DL
namespace DL
open PySem PySem.Spec PyProof.Rows L2
/-! ### data as the library's data -/
mutual
def toPy : D → Option PyData
  | .non => some .none
  | .bl b => some (.bool b)
  | .int i => some (.int i)
  | .str s => some (.str s)
  | .tup xs => (toPyL xs).map .tuple
  | .lst xs => (toPyL xs).map .list
  | .arg xs => (toPyL xs).map .list
  | .ptr _ => none
  | .raw _ => none
def toPyL : List D → Option (List PyData)
  | [] => some []
  | x :: xs => match toPy x, toPyL xs with
    | some p, some ps => some (p :: ps)
    | _, _ => none
end
def view (μ : Store) : D → D
  | .ptr n => match μ[n]? with
    | some (.lst xs) => .lst xs
    | _ => .ptr n
  | d => d
def pyV (μ : Store) (d : D) : Option PyData := toPy (view μ d)
section
variable {K : PySem.W.Frag} {F F' H : Hp} {θ : List Addr} {w : Wd}
mutual
theorem rep_dp (e : Same F H) : ∀ {v : V} (d : D) {p : PyData}, Rep K F θ v d → toPy d = some p → Dp K H v p
  | _, .non, _, h, q => by cases h; cases q; exact .non
  | _, .bl _, _, h, q => by cases h; cases q; exact .bl _
  | _, .int _, _, h, q => by cases h; cases q; exact .int _
  | _, .str _, _, h, q => by cases h; cases q; exact .str _
  | _, .tup ds, _, h, q => by
    cases h with
    | tup h1 h2 =>
      simp only [toPy, Option.map_eq_some_iff] at q
      obtain ⟨ps, q1, rfl⟩ := q
      exact .tup (same_sqt e h1) (rep_dpL e ds h2 q1)
  | _, .lst ds, _, h, q => by
    cases h with
    | lst h1 h2 =>
      simp only [toPy, Option.map_eq_some_iff] at q
      obtain ⟨ps, q1, rfl⟩ := q
      exact .lst (SqL.of (e _ _ h1)) (rep_dpL e ds h2 q1)
  | _, .arg ds, _, h, q => by
    cases h with
    | arg h1 h2 =>
      simp only [toPy, Option.map_eq_some_iff] at q
      obtain ⟨ps, q1, rfl⟩ := q
      exact .lst (Same.seq e h1) (rep_dpL e ds h2 q1)
  | _, .ptr _, _, h, q => by cases q
  | _, .raw _, _, h, q => by cases q
theorem rep_dpL (e : Same F H) : ∀ {vs : List V} (ds : List D) {ps : List PyData}, RepL K F θ vs ds → toPyL ds = some ps → DpAll K H vs ps
  | _, [], _, h, q => by cases h; cases q; exact .nil
  | _, d :: ds, _, h, q => by
    cases h with
    | cons h1 h2 =>
      simp only [toPyL] at q
      cases e1 : toPy d with
      | none => rw [e1] at q; cases q
      | some p =>
        cases e2 : toPyL ds with
        | none => rw [e1, e2] at q; cases q
        | some ps =>
          rw [e1, e2] at q
          cases q
          exact .cons (rep_dp e d h1 e1) (rep_dpL e ds h2 e2)
end
theorem pyV_dp (wf : Wf K H w) {x : V} {d : D} (r : Rep K w.F w.θ x d) {p : PyData} (q : pyV w.μ d = some p) : Dp K H x p := by
  cases r with
  | @ptr a n h1 =>
    obtain ⟨o, h3, h4⟩ := wf.some_of h1
    cases o with
    | lst ys =>
      simp only [pyV, view, h3] at q
      obtain ⟨vs, h5, h6⟩ := h4
      simp only [toPy, Option.map_eq_some_iff] at q
      obtain ⟨ps, q1, rfl⟩ := q
      exact .lst (SqL.of h5) (rep_dpL wf.same ys h6 q1)
    | ins C fs =>
      simp only [pyV, view, h3] at q
      cases q
  | non => exact rep_dp (θ := w.θ) wf.same .non .non q
  | bl b => exact rep_dp (θ := w.θ) wf.same (.bl b) (.bl b) q
  | int b => exact rep_dp (θ := w.θ) wf.same (.int b) (.int b) q
  | str b => exact rep_dp (θ := w.θ) wf.same (.str b) (.str b) q
  | tup h1 h2 => exact rep_dp wf.same (.tup _) (.tup h1 h2) q
  | lst h1 h2 => exact rep_dp wf.same (.lst _) (.lst h1 h2) q
  | arg h1 h2 => exact rep_dp wf.same (.arg _) (.arg h1 h2) q
  | raw => exact rep_dp (θ := w.θ) wf.same (.raw _) (.raw _) q
end
/-! ### == != in < -/
def eqB (μ : Store) (x y : D) : Option Bool := match pyV μ x, pyV μ y with
  | some p, some q => if SeqAt.shaped p && SeqAt.shaped q then some (PyData.eqv p q) else none
  | _, _ => none
def gEq (neg : Bool) : D → D → M D := fun x y μ => match eqB μ x y with
  | some b => .ok (.bl (if neg then !b else b)) μ
  | none => .bad
theorem v_eq (K : PySem.W.Frag) : VOp K (rEqD K) (gEq false) := by
  intro H w x y d e Q E wf rx ry h
  simp only [gEq, eqB] at h
  cases e1 : pyV w.μ d with
  | none => rw [e1] at h; exact h.elim
  | some p =>
    cases e2 : pyV w.μ e with
    | none => rw [e1, e2] at h; exact h.elim
    | some q =>
      rw [e1, e2] at h
      simp only at h
      by_cases hs : (SeqAt.shaped p && SeqAt.shaped q) = true
      · rw [if_pos hs] at h
        rw [Bool.and_eq_true] at hs
        exact ⟨p, q, pyV_dp wf rx e1, pyV_dp wf ry e2, hs.1, hs.2, post_here h wf (.bl _)⟩
      · rw [if_neg hs] at h; exact h.elim
theorem v_ne (K : PySem.W.Frag) : VOp K (rNeD K) (gEq true) := by
  intro H w x y d e Q E wf rx ry h
  simp only [gEq, eqB] at h
  cases e1 : pyV w.μ d with
  | none => rw [e1] at h; exact h.elim
  | some p =>
    cases e2 : pyV w.μ e with
    | none => rw [e1, e2] at h; exact h.elim
    | some q =>
      rw [e1, e2] at h
      simp only at h
      by_cases hs : (SeqAt.shaped p && SeqAt.shaped q) = true
      · rw [if_pos hs] at h
        rw [Bool.and_eq_true] at hs
        exact ⟨p, q, pyV_dp wf rx e1, pyV_dp wf ry e2, hs.1, hs.2, post_here h wf (.bl _)⟩
      · rw [if_neg hs] at h; exact h.elim
/-- x in a list, a tuple; in a text -/
def inB (μ : Store) (x y : D) : Option Bool := match y with
  | .str j => match x with
    | .str i => some (!(Builtin.Str.occurrences j i 0 j.length 1).isEmpty)
    | _ => none
  | y => match pyV μ x, pyV μ y with
    | some p, some (.list qs) => if SeqAt.shaped p && SeqAt.shaped (.list qs) then some (qs.any fun z => PyData.eqv z p) else none
    | some p, some (.tuple qs) => if SeqAt.shaped p && SeqAt.shaped (.tuple qs) then some (qs.any fun z => PyData.eqv z p) else none
    | _, _ => none
def gIn (neg : Bool) : D → D → M D := fun x y μ => match inB μ x y with
  | some b => .ok (.bl (if neg then !b else b)) μ
  | none => .bad
def rInT (K : PySem.W.Frag) (neg : Bool) : R2 := fun x y H Q => ∃ d ds, Dp K H x d ∧ Dp K H y (.tuple ds) ∧ SeqAt.shaped d = true ∧ SeqAt.shaped (.tuple ds) = true ∧ Q (.bl (if neg then !(ds.any fun z => PyData.eqv z d) else ds.any fun z => PyData.eqv z d)) H
theorem room_in_tup {A : Around} {d : PyData} {ds : List PyData} (h : SeqAt.shaped d = true) (hu : A.units + 65 < cLine) : A.units + 1 + min (PyData.depthAll ds) d.depth < cLine := by
  have h1 := SeqAt.depth_of_shaped h
  have h2 : min (PyData.depthAll ds) d.depth ≤ d.depth := Nat.min_le_right _ _
  omega
theorem op_inT {X : Cx} (hu : X.A.units + 65 < cLine) : OpR X (compareOp .In) (rInT X.K false) := by
  intro pins s σ H x y v u Q I rx ry h
  obtain ⟨d, ds, hd, he, sd, se, q⟩ := h
  obtain ⟨as, r1⟩ := Dp.reads I d x v hd rx
  obtain ⟨bs, r2⟩ := Dp.reads I (.tuple ds) y u he ry
  exact SeqAt.in_tuple_reads r2 r1 (SeqAt.canLay_of_shaped se) (SeqAt.canLay_of_shaped sd) (room_in_tup sd hu) ⟨.bl _, H, I, rfl, q⟩
theorem op_notInT {X : Cx} (hu : X.A.units + 65 < cLine) : OpR X (compareOp .NotIn) (rInT X.K true) := by
  intro pins s σ H x y v u Q I rx ry h
  obtain ⟨d, ds, hd, he, sd, se, q⟩ := h
  obtain ⟨as, r1⟩ := Dp.reads I d x v hd rx
  obtain ⟨bs, r2⟩ := Dp.reads I (.tuple ds) y u he ry
  exact SeqAt.notIn_tuple_reads r2 r1 (SeqAt.canLay_of_shaped se) (SeqAt.canLay_of_shaped sd) (room_in_tup sd hu) ⟨.bl _, H, I, rfl, q⟩
def rInA (K : PySem.W.Frag) : R2 := fun x y H Q => (∃ i j, x = .str i ∧ y = .str j ∧ Q (.bl (!(Builtin.Str.occurrences j i 0 j.length 1).isEmpty)) H) ∨ rInD K x y H Q ∨ rInT K false x y H Q
def rNotInA (K : PySem.W.Frag) : R2 := fun x y H Q => (∃ i j, x = .str i ∧ y = .str j ∧ Q (.bl (!(!(Builtin.Str.occurrences j i 0 j.length 1).isEmpty))) H) ∨ rNotInD K x y H Q ∨ rInT K true x y H Q
theorem op_inA {X : Cx} (hu : X.A.units + 65 < cLine) : OpR X (compareOp .In) (rInA X.K) := op_in_str.or ((op_inD hu).or (op_inT hu))
theorem op_notInA {X : Cx} (hu : X.A.units + 65 < cLine) : OpR X (compareOp .NotIn) (rNotInA X.K) := op_notIn_str.or ((op_notInD hu).or (op_notInT hu))
theorem inB_seq {K : PySem.W.Frag} {H : Hp} {w : Wd} {x y : V} {d e : D} {b : Bool} (wf : Wf K H w) (rx : Rep K w.F w.θ x d) (ry : Rep K w.F w.θ y e) (h : inB w.μ d e = some b) :
    (∃ i j, x = .str i ∧ y = .str j ∧ b = (!(Builtin.Str.occurrences j i 0 j.length 1).isEmpty)) ∨ (∃ p qs, Dp K H x p ∧ Dp K H y (.list qs) ∧ SeqAt.shaped p = true ∧ SeqAt.shaped (.list qs) = true ∧ b = qs.any fun z => PyData.eqv z p) ∨
      ∃ p qs, Dp K H x p ∧ Dp K H y (.tuple qs) ∧ SeqAt.shaped p = true ∧ SeqAt.shaped (.tuple qs) = true ∧ b = qs.any fun z => PyData.eqv z p := by
  have main : (match pyV w.μ d, pyV w.μ e with
    | some p, some (.list qs) => if SeqAt.shaped p && SeqAt.shaped (.list qs) then some (qs.any fun z => PyData.eqv z p) else none
    | some p, some (.tuple qs) => if SeqAt.shaped p && SeqAt.shaped (.tuple qs) then some (qs.any fun z => PyData.eqv z p) else none
    | _, _ => none) = some b → (∃ p qs, Dp K H x p ∧ Dp K H y (.list qs) ∧ SeqAt.shaped p = true ∧ SeqAt.shaped (.list qs) = true ∧ b = qs.any fun z => PyData.eqv z p) ∨
      ∃ p qs, Dp K H x p ∧ Dp K H y (.tuple qs) ∧ SeqAt.shaped p = true ∧ SeqAt.shaped (.tuple qs) = true ∧ b = qs.any fun z => PyData.eqv z p := fun q => by
    split at q
    · rename_i p qs e1 e2
      by_cases hs : (SeqAt.shaped p && SeqAt.shaped (.list qs)) = true
      · rw [if_pos hs] at q
        rw [Bool.and_eq_true] at hs
        exact .inl ⟨p, qs, pyV_dp wf rx e1, pyV_dp wf ry e2, hs.1, hs.2, (Option.some.inj q).symm⟩
      · rw [if_neg hs] at q; cases q
    · rename_i p qs e1 e2
      by_cases hs : (SeqAt.shaped p && SeqAt.shaped (.tuple qs)) = true
      · rw [if_pos hs] at q
        rw [Bool.and_eq_true] at hs
        exact .inr ⟨p, qs, pyV_dp wf rx e1, pyV_dp wf ry e2, hs.1, hs.2, (Option.some.inj q).symm⟩
      · rw [if_neg hs] at q; cases q
    · cases q
  cases e with
  | str j =>
    cases d with
    | str i =>
      cases rx; cases ry
      exact .inl ⟨i, j, rfl, rfl, (Option.some.inj h).symm⟩
    | _ => cases h
  | _ => exact .inr (main h)
theorem v_in (K : PySem.W.Frag) : VOp K (rInA K) (gIn false) := by
  intro H w x y d e Q E wf rx ry h
  simp only [gIn] at h
  cases e1 : inB w.μ d e with
  | none => rw [e1] at h; exact h.elim
  | some b =>
    rw [e1] at h
    have q := post_here h wf (.bl _)
    rcases inB_seq wf rx ry e1 with ⟨i, j, h1, h2, rfl⟩ | ⟨p, qs, h1, h2, h3, h4, rfl⟩ | ⟨p, qs, h1, h2, h3, h4, rfl⟩
    · exact .inl ⟨i, j, h1, h2, q⟩
    · exact .inr (.inl ⟨p, qs, h1, h2, h3, h4, q⟩)
    · exact .inr (.inr ⟨p, qs, h1, h2, h3, h4, q⟩)
theorem v_notIn (K : PySem.W.Frag) : VOp K (rNotInA K) (gIn true) := by
  intro H w x y d e Q E wf rx ry h
  simp only [gIn] at h
  cases e1 : inB w.μ d e with
  | none => rw [e1] at h; exact h.elim
  | some b =>
    rw [e1] at h
    have q := post_here h wf (.bl _)
    rcases inB_seq wf rx ry e1 with ⟨i, j, h1, h2, rfl⟩ | ⟨p, qs, h1, h2, h3, h4, rfl⟩ | ⟨p, qs, h1, h2, h3, h4, rfl⟩
    · exact .inl ⟨i, j, h1, h2, q⟩
    · exact .inr (.inl ⟨p, qs, h1, h2, h3, h4, q⟩)
    · exact .inr (.inr ⟨p, qs, h1, h2, h3, h4, q⟩)
def notNone : PyData → Bool
  | .none => false
  | _ => true
/-- < of ints; of alike data -/
def ltB (μ : Store) (x y : D) : Option Bool := match x, y with
  | .int i, .int j => some (decide (i < j))
  | x, y => match pyV μ x, pyV μ y with
    | some p, some q => if SeqAt.shaped p && SeqAt.shaped q && PySem.W.alike p q && notNone p then some (PySem.W.dataLt p q) else none
    | _, _ => none
def gLt : D → D → M D := fun x y μ => match ltB μ x y with
  | some b => .ok (.bl b) μ
  | none => .bad
def rLtD (K : PySem.W.Frag) : R2 := fun x y H Q => rI0 (fun i j => .bl (decide (i < j))) x y H Q ∨ ∃ p q, Dp K H x p ∧ Dp K H y q ∧ SeqAt.shaped p = true ∧ PySem.W.alike p q = true ∧ p ≠ .none ∧ Q (.bl (PySem.W.dataLt p q)) H
theorem op_ltD {X : Cx} (hu : X.A.units + 64 < cLine) : OpR X (compareOp .Lt) (rLtD X.K) := by
  intro pins s σ H x y v u Q I rx ry h
  rcases h with h | ⟨p, q, hd, he, sp, al, ne, q0⟩
  · exact op_lt pins s σ H x y v u Q I rx ry h
  · obtain ⟨as, r1⟩ := Dp.reads I p x v hd rx
    obtain ⟨bs, r2⟩ := Dp.reads I q y u he ry
    exact PySem.W.rcLt_alike p q X.A s v u as bs r1 r2 al ne (SeqAt.room_of_shaped sp hu) _ _ _ _ ⟨.bl _, H, I, rfl, q0⟩
def gCmpI (f : Int → Int → Bool) : D → D → M D := fun x y μ => match x, y with
  | .int i, .int j => .ok (.bl (f i j)) μ
  | _, _ => .bad
theorem v_cmpI {K : PySem.W.Frag} {f : Int → Int → Bool} : VOp K (rI0 fun i j => .bl (f i j)) (gCmpI f) := by
  intro H w x y d e Q E wf rx ry h
  cases d with
  | int i =>
    cases e with
    | int j => cases rx; cases ry; exact ⟨i, j, rfl, rfl, post_here h wf (.bl _)⟩
    | _ => exact h.elim
  | _ => exact h.elim
def gLe : D → D → M D := gCmpI fun i j => decide (i ≤ j)
def gGt : D → D → M D := gCmpI fun i j => decide (j < i)
def gGe : D → D → M D := gCmpI fun i j => decide (j ≤ i)
theorem v_lt (K : PySem.W.Frag) : VOp K (rLtD K) gLt := by
  intro H w x y d e Q E wf rx ry h
  simp only [gLt] at h
  cases e1 : ltB w.μ d e with
  | none => rw [e1] at h; exact h.elim
  | some b =>
    rw [e1] at h
    have q := post_here h wf (.bl _)
    have main : (match pyV w.μ d, pyV w.μ e with
      | some p, some q => if SeqAt.shaped p && SeqAt.shaped q && PySem.W.alike p q && notNone p then some (PySem.W.dataLt p q) else none
      | _, _ => none) = some b → rLtD K x y H Q := fun z => by
      split at z
      · rename_i p p' e2 e3
        by_cases hs : (SeqAt.shaped p && SeqAt.shaped p' && PySem.W.alike p p' && notNone p) = true
        · rw [if_pos hs] at z
          simp only [Bool.and_eq_true] at hs
          cases z
          refine .inr ⟨p, p', pyV_dp wf rx e2, pyV_dp wf ry e3, hs.1.1.1, hs.1.2, fun e0 => ?_, q⟩
          subst e0
          exact Bool.noConfusion hs.2
        · rw [if_neg hs] at z; cases z
      · cases z
    cases d with
    | int i =>
      cases e with
      | int j =>
        cases rx; cases ry
        cases e1
        exact .inl ⟨i, j, rfl, rfl, q⟩
      | _ => exact main e1
    | _ => exact main e1
/-- is None -/
def isNon : D → Option Bool
  | .non => some true
  | .raw _ => none
  | _ => some false
def gIsN (neg : Bool) : D → D → M D := fun x y μ => match y, isNon x with
  | .non, some b => .ok (.bl (if neg then !b else b)) μ
  | _, _ => .bad
theorem isNon_ok {K : PySem.W.Frag} {F : Hp} {θ : List Addr} {x : V} {d : D} {b : Bool} (r : Rep K F θ x d) (h : isNon d = some b) : decide (x = .non) = b := by
  cases r <;> first | (cases h; rfl) | cases h
theorem v_isN (K : PySem.W.Frag) : VOp K (fun x y H Q => y = .non ∧ Q (.bl (decide (x = .non))) H) (gIsN false) := by
  intro H w x y d e Q E wf rx ry h
  cases e with
  | non =>
    cases ry
    cases e1 : isNon d with
    | none => simp only [gIsN, e1] at h; exact h.elim
    | some b =>
      simp only [gIsN, e1] at h
      refine ⟨rfl, ?_⟩
      rw [isNon_ok rx e1]
      exact post_here h wf (.bl _)
  | _ => exact h.elim
theorem v_notN (K : PySem.W.Frag) : VOp K (fun x y H Q => y = .non ∧ Q (.bl (!decide (x = .non))) H) (gIsN true) := by
  intro H w x y d e Q E wf rx ry h
  cases e with
  | non =>
    cases ry
    cases e1 : isNon d with
    | none => simp only [gIsN, e1] at h; exact h.elim
    | some b =>
      simp only [gIsN, e1] at h
      refine ⟨rfl, ?_⟩
      rw [isNon_ok rx e1]
      exact post_here h wf (.bl _)
  | _ => exact h.elim
end DL
namespace DL
open PySem PySem.Spec PyProof.Rows L2
/-! ### items, slices, lengths -/
def asSeq (μ : Store) : D → Option (List D)
  | .tup xs => some xs
  | .arg xs => some xs
  | d => asLst μ d
theorem asSeq_ok {K : PySem.W.Frag} {H : Hp} {w : Wd} {x : V} {d : D} (wf : Wf K H w) (r : Rep K w.F w.θ x d) {xs : List D} (h : asSeq w.μ d = some xs) :
    ∃ a vs, x = .ref a ∧ (SqL K H a vs ∨ SqT K H a vs) ∧ RepL K w.F w.θ vs xs := by
  have main : asLst w.μ d = some xs → ∃ a vs, x = .ref a ∧ (SqL K H a vs ∨ SqT K H a vs) ∧ RepL K w.F w.θ vs xs := fun q => by
    obtain ⟨a, vs, h1, h2, h3⟩ := asLst_ok wf r q
    exact ⟨a, vs, h1, .inl (SqL.of h2), h3⟩
  cases d with
  | tup ys =>
    cases h
    obtain ⟨a, vs, h1, h2, h3⟩ := asTup_ok wf r rfl
    exact ⟨a, vs, h1, .inr h2, h3⟩
  | arg ys =>
    cases h
    cases r with
    | arg h1 h2 => exact ⟨_, _, rfl, .inl (Same.seq wf.same h1), h2⟩
  | _ => exact main h
def gIx : D → D → M D := fun x y μ => match asSeq μ x, y with
  | some xs, .int i => match atI xs i with
    | some d => .ok d μ
    | none => .bad
  | _, _ => .bad
theorem atI_rep {K : PySem.W.Frag} {F : Hp} {θ : List Addr} {vs : List V} {xs : List D} {i : Int} {d : D} (r : RepL K F θ vs xs) (h : atI xs i = some d) : ∃ v, atI vs i = some v ∧ Rep K F θ v d := by
  unfold atI at h ⊢
  rw [r.length]
  cases e : ixN xs.length i with
  | none => rw [e] at h; cases h
  | some j =>
    rw [e] at h
    exact r.at h
theorem v_ix (K : PySem.W.Frag) : VOp K (rIx K) gIx := by
  intro H w x y d e Q E wf rx ry h
  simp only [gIx] at h
  cases e1 : asSeq w.μ d with
  | none => rw [e1] at h; exact h.elim
  | some xs =>
    rw [e1] at h
    cases e with
    | int i =>
      simp only at h
      cases e2 : atI xs i with
      | none => rw [e2] at h; exact h.elim
      | some z =>
        rw [e2] at h
        obtain ⟨a, vs, rfl, hs, r⟩ := asSeq_ok wf rx e1
        obtain ⟨v, h2, h3⟩ := atI_rep r e2
        cases ry
        have q := post_here h wf h3
        rcases hs with hs | hs
        · exact .inl ⟨a, vs, i, v, rfl, rfl, hs, h2, q⟩
        · exact .inr (.inl ⟨a, vs, i, v, rfl, rfl, hs, h2, q⟩)
    | _ => exact h.elim
/-- x[lo:hi] -/
def cutD (xs : List D) (lo hi : Option Int) : List D := (xs.drop (HT.sIx xs.length 0 lo)).take (HT.sIx xs.length xs.length hi - HT.sIx xs.length 0 lo)
def gSl (x : D) (lo hi : Option Int) : M D := fun μ => match x with
  | .tup xs => .ok (.tup (cutD xs lo hi)) μ
  | .str z => if z.length ≤ sizeLine then .ok (.str (cutS z lo hi)) μ else .bad
  | x => match asSeq μ x with
    | some xs => .ok (.lst (cutD xs lo hi)) μ
    | none => .bad
def rSlD (K : PySem.W.Frag) : V → Option Int → Option Int → Hp → VK → Prop := fun x lo hi H Q => rSlA K x lo hi H Q ∨ rSlL K x lo hi H Q ∨ rSlS x lo hi H Q
theorem sl_D {X : Cx} : SlR X (rSlD X.K) := sl_tupA.or (sl_list.or sl_str)
theorem cut_rep {K : PySem.W.Frag} {F : Hp} {θ : List Addr} {vs : List V} {xs : List D} {lo hi : Option Int} (r : RepL K F θ vs xs) : RepL K F θ (cutV vs lo hi) (cutD xs lo hi) := by
  unfold cutV cutD
  rw [r.length]
  exact (r.drop _).take _
theorem v_sl (K : PySem.W.Frag) {H : Hp} {w : Wd} {x : V} {d : D} {lo hi : Option Int} {Q : VK} {E : Ex → Hp → Wd → Prop} (wf : Wf K H w) (rx : Rep K w.F w.θ x d) (h : Post K H w (gSl d lo hi w.μ) (QV K Q) E) : rSlD K x lo hi H Q := by
  have lists : (match asSeq w.μ d with
    | some xs => Res.ok (.lst (cutD xs lo hi)) w.μ
    | none => .bad) = gSl d lo hi w.μ → (∀ xs, d ≠ .tup xs) → rSlD K x lo hi H Q := fun he hn => by
    rw [← he] at h
    cases e1 : asSeq w.μ d with
    | none => rw [e1] at h; exact h.elim
    | some xs =>
      rw [e1] at h
      have e2 : ∃ a vs, x = .ref a ∧ SqL K H a vs ∧ RepL K w.F w.θ vs xs := by
        cases d with
        | tup ys => exact absurd rfl (hn ys)
        | arg ys =>
          cases e1
          cases rx with
          | arg h1 h2 => exact ⟨_, _, rfl, Same.seq wf.same h1, h2⟩
        | lst ys =>
          obtain ⟨a, vs, h1, h2, h3⟩ := asLst_ok wf rx e1
          exact ⟨a, vs, h1, SqL.of h2, h3⟩
        | ptr n =>
          obtain ⟨a, vs, h1, h2, h3⟩ := asLst_ok wf rx e1
          exact ⟨a, vs, h1, SqL.of h2, h3⟩
        | _ => cases e1
      obtain ⟨a, vs, rfl, hs, r⟩ := e2
      exact .inr (.inl ⟨a, vs, rfl, hs, fun p hp => post_lst h wf hp (cut_rep r)⟩)
  cases d with
  | tup xs =>
    obtain ⟨a, vs, rfl, ha, ra⟩ := asTup_ok wf rx rfl
    refine .inl ⟨a, vs, rfl, ha, fun hw => ?_, fun _ p hp => post_tup h wf hp (cut_rep ra)⟩
    have e : cutD xs lo hi = xs := by
      unfold cutD
      rw [ra.length] at hw
      rw [hw.1, hw.2]; simp
    simp only [gSl, e] at h
    exact post_here h wf rx
  | str z =>
    cases rx
    simp only [gSl] at h
    split at h
    · rename_i hz
      exact .inr (.inr ⟨z, rfl, hz, post_here h wf (.str _)⟩)
    · exact h.elim
  | _ => exact lists rfl fun _ => nofun
def gLen : List D → M D := fun ds μ => match ds with
  | [.str z] => if z.length ≤ sizeLine then .ok (.int z.length) μ else .bad
  | [x] => match asSeq μ x with
    | some xs => .ok (.int xs.length) μ
    | none => .bad
  | _ => .bad
def rLenD (K : PySem.W.Frag) : List V → Hp → VK → Prop := fun xs H Q => ∃ x n, xs = [x] ∧ LenV K x H n ∧ Q (.int n) H
theorem v_len (K : PySem.W.Frag) : VCall K (rLenD K) gLen := by
  intro H w xs ds Q E wf r h
  cases r with
  | nil => exact h.elim
  | cons r1 r2 =>
    rename_i v vs d ds
    cases r2 with
    | cons _ _ => cases d <;> exact h.elim
    | nil =>
      have main : (match asSeq w.μ d with
        | some xs => Res.ok (D.int xs.length) w.μ
        | none => .bad) = gLen [d] w.μ → rLenD K [v] H Q := fun he => by
        rw [← he] at h
        cases e1 : asSeq w.μ d with
        | none => rw [e1] at h; exact h.elim
        | some xs =>
          rw [e1] at h
          obtain ⟨a, us, rfl, hs, rr⟩ := asSeq_ok wf r1 e1
          have q := post_here h wf (.int _)
          rw [← rr.length] at q
          rcases hs with hs | hs
          · exact ⟨_, _, rfl, .inl ⟨us, hs, rfl⟩, q⟩
          · exact ⟨_, _, rfl, .inr ⟨us, hs, rfl⟩, q⟩
      cases d with
      | str z =>
        cases r1
        simp only [gLen] at h
        split at h
        · rename_i hz
          exact ⟨_, _, rfl, ⟨hz, rfl⟩, post_here h wf (.int _)⟩
        · exact h.elim
      | _ => exact main rfl
/-! ### list(x), tuple(x), int(x), abs, max, min, str of an int -/
def gList (mu : Bool) : List D → M D := fun ds μ => match ds with
  | [x] => match asSeq μ x with
    | some xs => retL mu xs μ
    | none => .bad
  | _ => .bad
def rListD (K : PySem.W.Frag) : List V → Hp → VK → Prop := fun xs H Q => ∃ p ys, xs = [.ref p] ∧ (SqL K H p ys ∨ SqT K H p ys) ∧ ∀ l, H l = none → Q (.ref l) (upd H l (.lst ys))
theorem v_list (K : PySem.W.Frag) (mu : Bool) : VCall K (rListD K) (gList mu) := by
  intro H w xs ds Q E wf r h
  cases r with
  | nil => exact h.elim
  | cons r1 r2 =>
    rename_i v vs d ds
    cases r2 with
    | cons _ _ => exact h.elim
    | nil =>
      simp only [gList] at h
      cases e1 : asSeq w.μ d with
      | none => rw [e1] at h; exact h.elim
      | some xs =>
        rw [e1] at h
        obtain ⟨a, us, rfl, hs, rr⟩ := asSeq_ok wf r1 e1
        refine ⟨a, us, rfl, hs, fun p hp => ?_⟩
        simp only [retL] at h
        cases mu with
        | true => exact post_mut h wf hp rr
        | false => exact post_lst h wf hp rr
def gTuple : List D → M D := fun ds μ => match ds with
  | [x] => match asSeq μ x with
    | some xs => .ok (.tup xs) μ
    | none => .bad
  | _ => .bad
def rTupleD (K : PySem.W.Frag) : List V → Hp → VK → Prop := fun xs H Q => ∃ p ys, xs = [.ref p] ∧ ((SqL K H p ys ∧ ∀ l, H l = none → Q (.ref l) (upd H l (.tup ys))) ∨ (SqT K H p ys ∧ Q (.ref p) H))
theorem v_tuple (K : PySem.W.Frag) : VCall K (rTupleD K) gTuple := by
  intro H w xs ds Q E wf r h
  cases r with
  | nil => exact h.elim
  | cons r1 r2 =>
    rename_i v vs d ds
    cases r2 with
    | cons _ _ => exact h.elim
    | nil =>
      simp only [gTuple] at h
      cases e1 : asSeq w.μ d with
      | none => rw [e1] at h; exact h.elim
      | some xs =>
        rw [e1] at h
        by_cases ht : ∃ ys, d = .tup ys
        · obtain ⟨ys, rfl⟩ := ht
          cases e1
          obtain ⟨a, us, rfl, hs, rr⟩ := asTup_ok wf r1 rfl
          exact ⟨a, us, rfl, .inr ⟨hs, post_here h wf r1⟩⟩
        · have e2 : ∃ a vs, v = .ref a ∧ SqL K H a vs ∧ RepL K w.F w.θ vs xs := by
            cases d with
            | tup ys => exact absurd ⟨ys, rfl⟩ ht
            | arg ys =>
              cases e1
              cases r1 with
              | arg h1 h2 => exact ⟨_, _, rfl, Same.seq wf.same h1, h2⟩
            | lst ys =>
              obtain ⟨a, vs, h1, h2, h3⟩ := asLst_ok wf r1 e1
              exact ⟨a, vs, h1, SqL.of h2, h3⟩
            | ptr n =>
              obtain ⟨a, vs, h1, h2, h3⟩ := asLst_ok wf r1 e1
              exact ⟨a, vs, h1, SqL.of h2, h3⟩
            | _ => cases e1
          obtain ⟨a, us, rfl, hs, rr⟩ := e2
          exact ⟨a, us, rfl, .inl ⟨hs, fun p hp => post_tup h wf hp rr⟩⟩
def gInt1 : List D → M D := fun ds μ => match ds with
  | [.int i] => .ok (.int i) μ
  | [.bl b] => .ok (.int (if b then 1 else 0)) μ
  | _ => .bad
theorem v_int1 (K : PySem.W.Frag) : VCall K (fun xs H Q => (∃ i, xs = [.int i] ∧ Q (.int i) H) ∨ ∃ k, xs = [.bl k] ∧ Q (.int (if k then 1 else 0)) H) gInt1 := by
  intro H w xs ds Q E wf r h
  cases r with
  | nil => exact h.elim
  | cons r1 r2 =>
    rename_i v vs d ds
    cases r2 with
    | cons _ _ => cases d <;> exact h.elim
    | nil =>
      cases d with
      | int i => cases r1; exact .inl ⟨i, rfl, post_here h wf (.int _)⟩
      | bl b => cases r1; exact .inr ⟨b, rfl, post_here h wf (.int _)⟩
      | _ => exact h.elim
def gFun1 (c : Int → Bool) (f : Int → D) : List D → M D := fun ds μ => match ds with
  | [.int i] => if c i = true then .ok (f i) μ else .bad
  | _ => .bad
def gAbs : List D → M D := gFun1 (fun _ => true) fun i => .int (if i < 0 then -i else i)
theorem v_abs (K : PySem.W.Frag) : VCall K (fun xs H Q => ∃ i, xs = [.int i] ∧ Q (.int (if i < 0 then -i else i)) H) gAbs := by
  intro H w xs ds Q E wf r h
  cases r with
  | nil => exact h.elim
  | cons r1 r2 =>
    rename_i v vs d ds
    cases r2 with
    | cons _ _ => cases d <;> exact h.elim
    | nil =>
      cases d with
      | int i => cases r1; exact ⟨i, rfl, post_here h wf (.int _)⟩
      | _ => exact h.elim
def gStrI : List D → M D := gFun1 (fun i => Nat.blt i.natAbs.log2 1920) fun i => .str (toString i)
theorem v_strI (K : PySem.W.Frag) : VCall K (fun xs H Q => ∃ i, xs = [.int i] ∧ i.natAbs.log2 < 1920 ∧ Q (.str (toString i)) H) gStrI := by
  intro H w xs ds Q E wf r h
  cases r with
  | nil => exact h.elim
  | cons r1 r2 =>
    rename_i v vs d ds
    cases r2 with
    | cons _ _ => cases d <;> exact h.elim
    | nil =>
      cases d with
      | int i =>
        cases r1
        simp only [gStrI, gFun1] at h
        split at h
        · rename_i hz
          exact ⟨i, rfl, by simpa [Nat.blt_eq] using hz, post_here h wf (.str _)⟩
        · exact h.elim
      | _ => exact h.elim
def gFun2 (f : Int → Int → Int) : List D → M D := fun ds μ => match ds with
  | [.int i, .int j] => .ok (.int (f i j)) μ
  | _ => .bad
theorem v_fun2 {K : PySem.W.Frag} {f : Int → Int → Int} : VCall K (fun xs H Q => ∃ i j, xs = [.int i, .int j] ∧ Q (.int (f i j)) H) (gFun2 f) := by
  intro H w xs ds Q E wf r h
  cases r with
  | nil => exact h.elim
  | cons r1 r2 =>
    rename_i v vs d ds
    cases r2 with
    | nil => cases d <;> exact h.elim
    | cons r2 r3 =>
      rename_i v2 vs2 d2 ds2
      cases r3 with
      | cons _ _ => cases d <;> cases d2 <;> exact h.elim
      | nil =>
        cases d with
        | int i =>
          cases d2 with
          | int j => cases r1; cases r2; exact ⟨i, j, rfl, post_here h wf (.int _)⟩
          | _ => exact h.elim
        | _ => cases d2 <;> exact h.elim
def gMax2 : List D → M D := gFun2 fun i j => if j > i then j else i
def gMin2 : List D → M D := gFun2 fun i j => if j < i then j else i
/-! ### all, any, sum -/
def blsOf : List D → Option (List Bool)
  | [] => some []
  | .bl b :: r => (blsOf r).map (b :: ·)
  | _ => none
def intsOf : List D → Option (List Int)
  | [] => some []
  | .int b :: r => (intsOf r).map (b :: ·)
  | _ => none
theorem blsOf_rep {K : PySem.W.Frag} {F : Hp} {θ : List Addr} : ∀ {vs : List V} {xs : List D} {bs : List Bool}, RepL K F θ vs xs → blsOf xs = some bs → vs = bs.map V.bl
  | _, [], _, r, h => by cases r; cases h; rfl
  | _, d :: ds, _, r, h => by
    cases r with
    | cons r1 r2 =>
      cases d with
      | bl b =>
        simp only [blsOf, Option.map_eq_some_iff] at h
        obtain ⟨bs, h1, rfl⟩ := h
        cases r1
        rw [blsOf_rep r2 h1]; rfl
      | _ => cases h
theorem intsOf_rep {K : PySem.W.Frag} {F : Hp} {θ : List Addr} : ∀ {vs : List V} {xs : List D} {bs : List Int}, RepL K F θ vs xs → intsOf xs = some bs → vs = bs.map V.int
  | _, [], _, r, h => by cases r; cases h; rfl
  | _, d :: ds, _, r, h => by
    cases r with
    | cons r1 r2 =>
      cases d with
      | int b =>
        simp only [intsOf, Option.map_eq_some_iff] at h
        obtain ⟨bs, h1, rfl⟩ := h
        cases r1
        rw [intsOf_rep r2 h1]; rfl
      | _ => cases h
def gBls (f : List Bool → Bool) : List D → M D := fun ds μ => match ds with
  | [x] => match (asLst μ x).bind blsOf with
    | some bs => .ok (.bl (f bs)) μ
    | none => .bad
  | _ => .bad
theorem v_bls {K : PySem.W.Frag} {f : List Bool → Bool} : VCall K (fun vs H Q => ∃ (a : Addr) (bs : List Bool), vs = [V.ref a] ∧ SqL K H a (bs.map V.bl) ∧ Q (.bl (f bs)) H) (gBls f) := by
  intro H w xs ds Q E wf r h
  cases r with
  | nil => exact h.elim
  | cons r1 r2 =>
    rename_i v vs d ds
    cases r2 with
    | cons _ _ => exact h.elim
    | nil =>
      simp only [gBls] at h
      cases e1 : (asLst w.μ d).bind blsOf with
      | none => rw [e1] at h; exact h.elim
      | some bs =>
        rw [e1] at h
        obtain ⟨ys, h1, h2⟩ := Option.bind_eq_some_iff.mp e1
        obtain ⟨a, us, rfl, hs, rr⟩ := asLst_ok wf r1 h1
        have e := blsOf_rep rr h2
        subst e
        exact ⟨a, bs, rfl, SqL.of hs, post_here h wf (.bl _)⟩
def gAll : List D → M D := gBls fun bs => bs.all id
def gAny : List D → M D := gBls fun bs => bs.any id
def gSum : List D → M D := fun ds μ => match ds with
  | [x] => match (asLst μ x).bind intsOf with
    | some bs => .ok (.int bs.sum) μ
    | none => .bad
  | _ => .bad
theorem v_sum (K : PySem.W.Frag) : VCall K (rSum K) gSum := by
  intro H w xs ds Q E wf r h
  cases r with
  | nil => exact h.elim
  | cons r1 r2 =>
    rename_i v vs d ds
    cases r2 with
    | cons _ _ => exact h.elim
    | nil =>
      simp only [gSum] at h
      cases e1 : (asLst w.μ d).bind intsOf with
      | none => rw [e1] at h; exact h.elim
      | some bs =>
        rw [e1] at h
        obtain ⟨ys, h1, h2⟩ := Option.bind_eq_some_iff.mp e1
        obtain ⟨a, us, rfl, hs, rr⟩ := asLst_ok wf r1 h1
        have e := intsOf_rep rr h2
        subst e
        exact ⟨a, bs, rfl, SqL.of hs, post_here h wf (.int _)⟩
/-! ### isinstance -/
def tyName (μ : Store) : D → Option String
  | .non => some "NoneType"
  | .bl _ => some "bool"
  | .int _ => some "int"
  | .str _ => some "str"
  | .tup _ => some "tuple"
  | .lst _ => some "list"
  | .arg _ => some "list"
  | .ptr n => match μ[n]? with
    | some (.lst _) => some "list"
    | _ => none
  | .raw _ => none
theorem tyName_ok {K : PySem.W.Frag} {H : Hp} {w : Wd} {x : V} {d : D} {t : String} (wf : Wf K H w) (r : Rep K w.F w.θ x d) (h : tyName w.μ d = some t) : TyX K H x (.type t) := by
  cases r with
  | non => cases h; exact .base .non
  | bl b => cases h; exact .base (.bl _)
  | int b => cases h; exact .base (.int _)
  | str b => cases h; exact .base (.str _)
  | tup h1 h2 =>
    cases h
    rcases same_sqt wf.same h1 with (h1 | ⟨o, h1⟩) | ⟨o, its, n, h1, h3, _⟩
    · exact .base (.tup h1)
    · exact .fTuple h1
    · exact .kTuple h1 h3
  | lst h1 h2 => cases h; exact .base (.lst (wf.same _ _ h1))
  | arg h1 h2 =>
    cases h
    rcases Same.seq wf.same h1 with (h1 | ⟨o, h1⟩) | ⟨o, its, n, h1, h3, _⟩
    · exact .base (.lst h1)
    · exact .base (.frz h1)
    · exact .kList h1 h3
  | @ptr a n h1 =>
    obtain ⟨o, h3, h4⟩ := wf.some_of h1
    simp only [tyName, h3] at h
    cases o with
    | lst ys =>
      cases h
      obtain ⟨vs, h5, _⟩ := h4
      exact .base (.lst h5)
    | ins C fs => cases h
  | raw => cases h
/-- isinstance(x, T), T a built-in class -/
def gIsi : List D → M D := fun ds μ => match ds with
  | [x, .raw (.ty n)] => match tyName μ x with
    | some t => match kitB t n with
      | some b => .ok (.bl b) μ
      | none => .bad
    | none => .bad
  | _ => .bad
theorem v_isi (K : PySem.W.Frag) : VCall K (rIsi K) gIsi := by
  intro H w xs ds Q E wf r h
  cases r with
  | nil => exact h.elim
  | cons r1 r2 =>
    rename_i v vs d ds
    cases r2 with
    | nil => cases d <;> exact h.elim
    | cons r2 r3 =>
      rename_i v2 vs2 d2 ds2
      cases r3 with
      | cons _ _ => cases d2 <;> (try rename_i u; cases u) <;> exact h.elim
      | nil =>
        cases d2 with
        | raw u =>
          cases u with
          | ty n =>
            simp only [gIsi] at h
            cases e1 : tyName w.μ d with
            | none => rw [e1] at h; exact h.elim
            | some t =>
              rw [e1] at h
              simp only at h
              cases e2 : kitB t n with
              | none => rw [e2] at h; exact h.elim
              | some b =>
                rw [e2] at h
                cases r2
                exact ⟨v, _, .type t, .type n, b, rfl, .ty n, tyName_ok wf r1 e1, kit_ty e2, post_here h wf (.bl _)⟩
          | _ => exact h.elim
        | _ => exact h.elim
end DL
namespace DL
open PySem PySem.Spec PyProof.Rows L2
/-! ### the words of the mirror: expressions -/
def eVar (i : Nat) : Env → M D := fun ρ => match ρ[i]? with
  | some (some d) => Mret d
  | _ => Mbad
def eC (d : D) : Env → M D := fun _ => Mret d
def eBin (g : D → D → M D) (f h : Env → M D) : Env → M D := fun ρ => Mbind (f ρ) fun x => Mbind (h ρ) fun y => g x y
def eUn (g : D → M D) (f : Env → M D) : Env → M D := fun ρ => Mbind (f ρ) g
def aNil : Env → M (List D) := fun _ => Mret []
def aCons (f : Env → M D) (h : Env → M (List D)) : Env → M (List D) := fun ρ => Mbind (f ρ) fun x => Mbind (h ρ) fun xs => Mret (x :: xs)
def eCall (g : List D → M D) (h : Env → M (List D)) : Env → M D := fun ρ => Mbind (h ρ) g
def eTup (h : Env → M (List D)) : Env → M D := fun ρ => Mbind (h ρ) fun xs => if xs.length ≤ sizeLine then Mret (.tup xs) else Mbad
def eLst (mu : Bool) (h : Env → M (List D)) : Env → M D := fun ρ => Mbind (h ρ) fun xs => if xs.length ≤ sizeLine then retL mu xs else Mbad
def eIf (c : Env → M Bool) (f h : Env → M D) : Env → M D := fun ρ => Mbind (c ρ) fun b => if b = true then f ρ else h ρ
def asB : D → M Bool
  | .bl b => Mret b
  | _ => Mbad
/-- and, or, not as values: all but the last one True or False -/
def eAnd (f h : Env → M D) : Env → M D := fun ρ => Mbind (f ρ) fun x => Mbind (asB x) fun b => if b = true then h ρ else Mret (.bl false)
def eOr (f h : Env → M D) : Env → M D := fun ρ => Mbind (f ρ) fun x => Mbind (asB x) fun b => if b = true then Mret (.bl true) else h ρ
def eNot (f : Env → M D) : Env → M D := fun ρ => Mbind (f ρ) fun x => Mbind (asB x) fun b => Mret (.bl (!b))
/-- a < b < c -/
def eChain (g g' : D → D → M D) (f h k : Env → M D) : Env → M D := fun ρ => Mbind (f ρ) fun x => Mbind (h ρ) fun y => Mbind (g x y) fun z => Mbind (asB z) fun b =>
  if b = true then Mbind (k ρ) fun u => g' y u else Mret (.bl false)
def asI : D → M Int
  | .int i => Mret i
  | _ => Mbad
def oNone : Env → M (Option Int) := fun _ => Mret none
def oSome (f : Env → M D) : Env → M (Option Int) := fun ρ => Mbind (f ρ) fun x => Mbind (asI x) fun i => Mret (some i)
def eSl (f : Env → M D) (lo hi : Env → M (Option Int)) : Env → M D := fun ρ => Mbind (f ρ) fun x => Mbind (lo ρ) fun l => Mbind (hi ρ) fun u => gSl x l u
/-! tests -/
def tOf (f : Env → M D) : Env → M Bool := fun ρ => Mbind (f ρ) asB
def tAndM (c d : Env → M Bool) : Env → M Bool := fun ρ => Mbind (c ρ) fun b => if b = true then d ρ else Mret false
def tOrM (c d : Env → M Bool) : Env → M Bool := fun ρ => Mbind (c ρ) fun b => if b = true then Mret true else d ρ
def tNotM (c : Env → M Bool) : Env → M Bool := fun ρ => Mbind (c ρ) fun b => Mret (!b)
/-- truth of a value -/
def truD (μ : Store) : D → Option Bool
  | .non => some false
  | .bl b => some b
  | .int i => some (i != 0)
  | .str y => if y.length ≤ sizeLine then some ((y.length : Int) != 0) else none
  | d => (asSeq μ d).map fun xs => !xs.isEmpty
def gTru (d : D) : M Bool := fun μ => match truD μ d with
  | some b => .ok b μ
  | none => .bad
def tTru (f : Env → M D) : Env → M Bool := fun ρ => Mbind (f ρ) gTru
section
variable {K : PySem.W.Frag} {mg : Str → Option Value} {W : WX} {σ : L2.St} {H : Hp} {w : Wd} {α β : Type}
abbrev EW (K : PySem.W.Frag) (mg : Str → Option Value) (W : WX) (σ : L2.St) : Ex → Hp → Wd → Prop := fun e H' w' => ∀ c dd, ExR K mg H' w' e c dd → W c dd σ H'
theorem post_bind {m : M α} {f : α → M β} {μ : Store} {Q : β → Hp → Wd → Prop} {E : Ex → Hp → Wd → Prop} (h : Post K H w (Mbind m f μ) Q E) : Post K H w (m μ) (fun a H1 w1 => Post K H1 w1 (f a w1.μ) Q E) E := Post.bind h
theorem post_ret {a : α} {Q : α → Hp → Wd → Prop} {E : Ex → Hp → Wd → Prop} (h : Post K H w (Mret a w.μ) Q E) (wf : Wf K H w) : Q a H w := h H w rfl (Ext.refl _ _) wf
/-- a piece, then what follows -/
theorem tE_bind {f : Env → M D} {k : D → M α} {Q : α → Hp → Wd → Prop} {Q' : VK} {ρ : Env} (S : SR K σ H ρ w) (h : Post K H w (Mbind (f ρ) k w.μ) Q (EW K mg W σ))
    (hk : ∀ d v H1 w1, Ext H w H1 w1 → SR K σ H1 ρ w1 → Rep K w1.F w1.θ v d → Post K H1 w1 (k d w1.μ) Q (EW K mg W σ) → Q' v H1) : tE K mg W f σ H Q' :=
  ⟨ρ, w, S, (post_bind h).imp (fun d H1 w1 x wf q v r => hk d v H1 w1 x (S.ext x wf) r q) fun _ _ _ _ _ q => q⟩
theorem tA_bind {f : Env → M (List D)} {k : List D → M α} {Q : α → Hp → Wd → Prop} {Q' : List V → Hp → Prop} {ρ : Env} (S : SR K σ H ρ w) (h : Post K H w (Mbind (f ρ) k w.μ) Q (EW K mg W σ))
    (hk : ∀ d v H1 w1, Ext H w H1 w1 → SR K σ H1 ρ w1 → RepL K w1.F w1.θ v d → Post K H1 w1 (k d w1.μ) Q (EW K mg W σ) → Q' v H1) : tA K mg W f σ H Q' :=
  ⟨ρ, w, S, (post_bind h).imp (fun d H1 w1 x wf q v r => hk d v H1 w1 x (S.ext x wf) r q) fun _ _ _ _ _ q => q⟩
theorem tT_bind {f : Env → M Bool} {k : Bool → M α} {Q : α → Hp → Wd → Prop} {Q' : Bool → Hp → Prop} {ρ : Env} (S : SR K σ H ρ w) (h : Post K H w (Mbind (f ρ) k w.μ) Q (EW K mg W σ))
    (hk : ∀ b H1 w1, Ext H w H1 w1 → SR K σ H1 ρ w1 → Post K H1 w1 (k b w1.μ) Q (EW K mg W σ) → Q' b H1) : tT K mg W f σ H Q' :=
  ⟨ρ, w, S, (post_bind h).imp (fun d H1 w1 x wf q => hk d H1 w1 x (S.ext x wf) q) fun _ _ _ _ _ q => q⟩
/-- the last piece -/
theorem tE_last {f : Env → M D} {Q : VK} {ρ : Env} (S : SR K σ H ρ w) (h : Post K H w (f ρ w.μ) (QV K Q) (EW K mg W σ)) : tE K mg W f σ H Q := ⟨ρ, w, S, h⟩
end
section
variable {X : Cx} {W : WX} {a b c : Expr} {es : List Expr} {f h k : Env → M D} {pos : Pos}
theorem ed_var {i : Nat} {x : Str} (hN : X.N[i]? = some x) (hv : Vis X.env.scope x) (hd : (x == ("__debug__" : Str)) = false := by decide) (hcd : (x == ("__classdict__" : Str)) = false := by decide) : ED X W (.Name x pos) (eVar i) :=
  PE_imp (pe_var hN hv hd hcd) fun σ H Q ⟨ρ, w, S, P⟩ => by
    unfold eVar at P
    cases hi : ρ[i]? with
    | none => rw [hi] at P; exact P.elim
    | some o =>
      rw [hi] at P
      cases o with
      | none => exact P.elim
      | some d =>
        obtain ⟨v, h1, h2⟩ := S.val i d hi
        exact ⟨v, h1, post_ret P S.wf v h2⟩
theorem ed_c {e : Expr} {v : V} {d : D} (h : PE X e (tC v)) (r : ∀ F θ, Rep X.K F θ v d) : ED X W e (eC d) :=
  PE_imp h fun σ H Q ⟨ρ, w, S, P⟩ => post_ret P S.wf v (r _ _)
theorem ed_int {i : Int} {j} : ED X W (.Constant (.int i) j pos) (eC (.int i)) := ed_c pe_int fun _ _ => .int _
theorem ed_bl {i : Bool} {j} : ED X W (.Constant (.bool i) j pos) (eC (.bl i)) := ed_c pe_bl fun _ _ => .bl _
theorem ed_non {j} : ED X W (.Constant .none j pos) (eC .non) := ed_c pe_non fun _ _ => .non
theorem ed_str {x : Str} {j} : ED X W (.Constant (.str x) j pos) (eC (.str x)) := ed_c pe_str fun _ _ => .str _
/-- a constant of the module; a def or class of it as a value -/
theorem ed_glob {x : Str} {v : V} {u : Value} {d : D} (hg : Gl X x) (hm : X.mg x = some u) (r : RelV v u) (rd : ∀ F θ, Rep X.K F θ v d) (hd : (x == ("__debug__" : Str)) = false := by decide) : ED X W (.Name x pos) (eC d) := ed_c (pe_glob hg hm r hd) rd
/-- the name of a built-in type -/
theorem ed_ty {x : Str} {n : String} (hg : Gl X x) (hm : X.mg x = none) (hv : bootBuiltins x = some (.type n)) (hn : x ≠ "__name__" := by decide) (hd : (x == ("__debug__" : Str)) = false := by decide) : ED X W (.Name x pos) (eC (.raw (.ty n))) :=
  ed_c (pe_bltn (v := .ty n) hg hm hv rfl hn hd) fun _ _ => .raw _
theorem ed_bin {op : Operator} {r : R2} {g : D → D → M D} (ho : OpR X (binaryOp op) r) (hv : VOp X.K r g) (ha : ED X W a f) (hb : ED X W b h) : ED X W (.BinOp a op b pos) (eBin g f h) :=
  PE_imp (pe_op ho ha hb) fun σ H Q ⟨ρ, w, S, P⟩ => tE_bind S P fun d v H1 w1 _ S1 r1 P1 => tE_bind S1 P1 fun e u H2 w2 x2 S2 r2 P2 => hv H2 w2 v u d e Q _ S2.wf (x2.rep r1) r2 P2
theorem ed_cmp {op : CmpOp} {r : R2} {g : D → D → M D} (ho : OpR X (compareOp op) r) (hv : VOp X.K r g) (ha : ED X W a f) (hb : ED X W b h) (hm : behindInMarks op b = false) : ED X W (.Compare a [op] [b] pos) (eBin g f h) :=
  PE_imp (pe_cmpR ho ha hb hm) fun σ H Q ⟨ρ, w, S, P⟩ => tE_bind S P fun d v H1 w1 _ S1 r1 P1 => tE_bind S1 P1 fun e u H2 w2 x2 S2 r2 P2 => hv H2 w2 v u d e Q _ S2.wf (x2.rep r1) r2 P2
theorem td_cmp {op : CmpOp} {r : R2} {g : D → D → M D} (ho : OpR X (compareOp op) r) (hv : VOp X.K r g) (ha : ED X W a f) (hb : ED X W b h) (hm : behindInMarks op b = false) : TD X W (.Compare a [op] [b] pos) (tOf (eBin g f h)) :=
  PT_imp (pt_cmpR ho ha hb hm) fun σ H Q ⟨ρ, w, S, P⟩ => by
    have P0 : Post X.K H w (Mbind (f ρ) (fun x => Mbind (h ρ) fun y => Mbind (g x y) asB) w.μ) (fun b H' w' => Q b H') (EW X.K X.mg W σ) := by
      have e : Mbind (f ρ) (fun x => Mbind (h ρ) fun y => Mbind (g x y) asB) w.μ = tOf (eBin g f h) ρ w.μ := by
        simp only [tOf, eBin, Mbind]
        cases f ρ w.μ with
        | ok a μ1 => simp only; cases h ρ μ1 with
          | ok b μ2 => simp only
          | _ => simp only
        | _ => simp only
      rw [e]; exact P
    refine tE_bind S P0 fun d v H1 w1 _ S1 r1 P1 => tE_bind S1 P1 fun e u H2 w2 x2 S2 r2 P2 => ?_
    refine hv H2 w2 v u d e _ (EW X.K X.mg W σ) S2.wf (x2.rep r1) r2 ((post_bind P2).imp (fun z H3 w3 _ wf3 q y ry => ?_) fun _ _ _ _ _ q => q)
    cases z with
    | bl bb => cases ry; exact ⟨bb, rfl, post_ret q wf3⟩
    | _ => exact q.elim
theorem mbind_assoc {α β γ : Type} (m : M α) (f : α → M β) (g : β → M γ) : Mbind (Mbind m f) g = Mbind m fun a => Mbind (f a) g := by
  funext μ
  simp only [Mbind]
  cases m μ <;> rfl
theorem mbind_ret {α β : Type} (a : α) (f : α → M β) : Mbind (Mret a) f = f a := rfl
theorem ed_not (ha : ED X W a f) : ED X W (.UnaryOp .Not a pos) (eNot f) :=
  PE_imp (pe_not ha) fun σ H Q ⟨ρ, w, S, P⟩ => tE_bind S P fun d v H1 w1 _ S1 r1 P1 => by
    cases d with
    | bl bb => cases r1; exact ⟨bb, rfl, post_ret P1 S1.wf _ (.bl _)⟩
    | _ => exact P1.elim
theorem ed_and {rest : List Expr} (ha : ED X W a f) (hb : ED X W (.BoolOp .And (b :: rest) pos) h) : ED X W (.BoolOp .And (a :: b :: rest) pos) (eAnd f h) :=
  PE_imp (pe_and ha hb) fun σ H Q ⟨ρ, w, S, P⟩ => tE_bind S P fun d v H1 w1 _ S1 r1 P1 => by
    cases d with
    | bl bb =>
      cases r1
      refine ⟨bb, rfl, ?_⟩
      cases bb with
      | true => exact tE_last S1 P1
      | false => exact post_ret P1 S1.wf _ (.bl _)
    | _ => exact P1.elim
theorem ed_or {rest : List Expr} (ha : ED X W a f) (hb : ED X W (.BoolOp .Or (b :: rest) pos) h) : ED X W (.BoolOp .Or (a :: b :: rest) pos) (eOr f h) :=
  PE_imp (pe_or ha hb) fun σ H Q ⟨ρ, w, S, P⟩ => tE_bind S P fun d v H1 w1 _ S1 r1 P1 => by
    cases d with
    | bl bb =>
      cases r1
      refine ⟨bb, rfl, ?_⟩
      cases bb with
      | false => exact tE_last S1 P1
      | true => exact post_ret P1 S1.wf _ (.bl _)
    | _ => exact P1.elim
theorem ed_one {op : BoolOp} (ha : ED X W a f) : ED X W (.BoolOp op [a] pos) f := pe_one ha
theorem ed_if {t : Env → M Bool} (hc : TD X W c t) (ha : ED X W a f) (hb : ED X W b h) : ED X W (.IfExp c a b pos) (eIf t f h) :=
  PE_imp (pe_ifExp hc ha hb) fun σ H Q ⟨ρ, w, S, P⟩ => tT_bind S P fun bb H1 w1 _ S1 P1 => by
    cases bb with
    | true => exact tE_last S1 P1
    | false => exact tE_last S1 P1
theorem ad_nil : AD X W [] aNil := PA_imp pa_nil fun σ H Q ⟨ρ, w, S, P⟩ => post_ret P S.wf [] .nil
theorem ad_cons {t : Env → M (List D)} (ha : ED X W a f) (hr : AD X W es t) (hs : starEach (a :: es) X.env = (false, eval a X.env) :: starEach es X.env := by rfl) : AD X W (a :: es) (aCons f t) :=
  PA_imp (pa_cons ha hr hs) fun σ H Q ⟨ρ, w, S, P⟩ => tE_bind S P fun d v H1 w1 _ S1 r1 P1 => tA_bind S1 P1 fun ds vs H2 w2 x2 S2 r2 P2 => post_ret P2 S2.wf _ (.cons (x2.rep r1) r2)
theorem ed_tup {t : Env → M (List D)} {x1} (ha : AD X W es t) : ED X W (.Tuple es x1 pos) (eTup t) :=
  PE_imp (pe_tup ha) fun σ H Q ⟨ρ, w, S, P⟩ => tA_bind S P fun ds vs H1 w1 x1 S1 r1 P1 => by
    split at P1
    · rename_i hz
      exact ⟨by rw [r1.length]; exact hz, fun p hp => post_tup P1 S1.wf hp r1⟩
    · exact P1.elim
theorem ed_lst {t : Env → M (List D)} (mu : Bool) (ha : AD X W es t) : ED X W (.List es pos) (eLst mu t) :=
  PE_imp (pe_lst ha) fun σ H Q ⟨ρ, w, S, P⟩ => tA_bind S P fun ds vs H1 w1 x1 S1 r1 P1 => by
    split at P1
    · rename_i hz
      refine ⟨by rw [r1.length]; exact hz, fun p hp => ?_⟩
      simp only [retL] at P1
      cases mu with
      | true => exact post_mut P1 S1.wf hp r1
      | false => exact post_lst P1 S1.wf hp r1
    · exact P1.elim
theorem ed_ix (ha : ED X W a f) (hb : ED X W b h) (hs : PlainIx b) : ED X W (.Subscript a b pos) (eBin gIx f h) :=
  PE_imp (pe_ix ix_seq ha hb hs) fun σ H Q ⟨ρ, w, S, P⟩ => tE_bind S P fun d v H1 w1 _ S1 r1 P1 => tE_bind S1 P1 fun e u H2 w2 x2 S2 r2 P2 => v_ix X.K H2 w2 v u d e Q _ S2.wf (x2.rep r1) r2 P2
/-- an optional part of a slice -/
def tO (K : PySem.W.Frag) (mg : Str → Option Value) (W : WX) (f : Env → M (Option Int)) : TO := fun σ H Q => ∃ ρ w, SR K σ H ρ w ∧ Post K H w (f ρ w.μ) (fun o H' w' => Q o H') (EW K mg W σ)
abbrev OD (X : Cx) (W : WX) (o : Option Expr) (f : Env → M (Option Int)) : Prop := PO X o (tO X.K X.mg W f)
theorem PO_imp {X : Cx} {e : Option Expr} {t t' : TO} (h : PO X e t) (hi : ∀ σ H Q, t' σ H Q → t σ H Q) : PO X e t' := ⟨fun pins s σ H Q I q => h.run pins s σ H Q I (hi _ _ _ q)⟩
theorem od_none : OD X W none oNone := PO_imp po_none fun σ H Q ⟨ρ, w, S, P⟩ => post_ret P S.wf
theorem od_some (ha : ED X W a f) : OD X W (some a) (oSome f) := PO_imp (po_some ha) fun σ H Q ⟨ρ, w, S, P⟩ => tE_bind S P fun d v H1 w1 _ S1 r1 P1 => by
  cases d with
  | int i => cases r1; exact ⟨i, rfl, post_ret P1 S1.wf⟩
  | _ => exact P1.elim
theorem ed_sl {lo hi : Option Expr} {l u : Env → M (Option Int)} {p2 : Pos} (ha : ED X W a f) (hl : OD X W lo l) (hu : OD X W hi u) : ED X W (.Subscript a (.Slice lo hi none p2) pos) (eSl f l u) :=
  PE_imp (pe_slice sl_D ha hl hu) fun σ H Q ⟨ρ, w, S, P⟩ => tE_bind S P fun d v H1 w1 _ S1 r1 P1 =>
    ⟨ρ, w1, S1, (post_bind P1).imp (fun o H2 w2 x2 wf2 P2 => ⟨ρ, w2, S1.ext x2 wf2, (post_bind P2).imp (fun o2 H3 w3 x3 wf3 P3 => v_sl X.K wf3 (x3.rep (x2.rep r1)) P3) fun _ _ _ _ _ q => q⟩) fun _ _ _ _ _ q => q⟩
theorem ed_chain {op op' : CmpOp} {r r' : R2} {g g' : D → D → M D} (ho : OpR X (compareOp op) r) (ho' : OpR X (compareOp op') r') (hv : VOp X.K r g) (hv' : VOp X.K r' g') (ha : ED X W a f) (hb : ED X W b h) (hc : ED X W c k)
    (hm : lastMarks [op, op'] [b, c] = false := by rfl) : ED X W (.Compare a [op, op'] [b, c] pos) (eChain g g' f h k) :=
  PE_imp (pe_chain ho ho' ha hb hc hm) fun σ H Q ⟨ρ, w, S, P⟩ => tE_bind S P fun d v H1 w1 _ S1 r1 P1 => tE_bind S1 P1 fun e u H2 w2 x2 S2 r2 P2 => by
    refine hv H2 w2 v u d e _ (EW X.K X.mg W σ) S2.wf (x2.rep r1) r2 ((post_bind P2).imp (fun z H3 w3 x3 wf3 q y ry => ?_) fun _ _ _ _ _ q => q)
    cases z with
    | bl bb =>
      cases ry
      refine ⟨bb, rfl, ?_⟩
      cases bb with
      | true =>
        have S3 := S2.ext x3 wf3
        exact tE_bind S3 (show Post X.K H3 w3 (Mbind (k ρ) (fun u => g' e u) w3.μ) _ _ from q) fun e3 u3 H4 w4 x4 S4 r4 P4 => hv' H4 w4 u u3 e e3 Q _ S4.wf (x4.rep (x3.rep r2)) r4 P4
      | false => exact post_ret q wf3 _ (.bl _)
    | _ => exact q.elim
/-! tests -/
theorem td_val {t : Expr} (ht : ED X W t f) (he : ∀ whole, isTrue t X.env whole = (do let v ← whole; standAt t.pos; holding [v] (truthy v)) := by intro _; rfl) : TD X W t (tOf f) :=
  PT_imp (pt_val ht he) fun σ H Q ⟨ρ, w, S, P⟩ => tE_bind S P fun d v H1 w1 _ S1 r1 P1 => by
    cases d with
    | bl bb => cases r1; exact ⟨bb, rfl, post_ret P1 S1.wf⟩
    | _ => exact P1.elim
theorem td_chain {op op' : CmpOp} {r r' : R2} {g g' : D → D → M D} (ho : OpR X (compareOp op) r) (ho' : OpR X (compareOp op') r') (hv : VOp X.K r g) (hv' : VOp X.K r' g') (ha : ED X W a f) (hb : ED X W b h) (hc : ED X W c k)
    (hm : lastMarks [op, op'] [b, c] = false := by rfl) : TD X W (.Compare a [op, op'] [b, c] pos) (tOf (eChain g g' f h k)) :=
  PT_imp (pt_chain ho ho' ha hb hc hm) fun σ H Q ⟨ρ, w, S, P⟩ => by
    have P0 : Post X.K H w (Mbind (f ρ) (fun x => Mbind (h ρ) fun y => Mbind (g x y) fun z => Mbind (asB z) fun b => if b = true then Mbind (k ρ) fun u => Mbind (g' y u) asB else Mret false) w.μ) (fun b H' w' => Q b H') (EW X.K X.mg W σ) := by
      have e : (Mbind (f ρ) fun x => Mbind (h ρ) fun y => Mbind (g x y) fun z => Mbind (asB z) fun b => if b = true then Mbind (k ρ) fun u => Mbind (g' y u) asB else Mret false) = tOf (eChain g g' f h k) ρ := by
        simp only [tOf, eChain, mbind_assoc]
        congr 1; funext x; congr 1; funext y; congr 1; funext z; congr 1; funext b
        cases b
        · rfl
        · simp only [if_true, mbind_assoc]
      rw [e]; exact P
    refine tE_bind S P0 fun d v H1 w1 _ S1 r1 P1 => tE_bind S1 P1 fun e u H2 w2 x2 S2 r2 P2 => ?_
    refine hv H2 w2 v u d e _ (EW X.K X.mg W σ) S2.wf (x2.rep r1) r2 ((post_bind P2).imp (fun z H3 w3 x3 wf3 q y ry => ?_) fun _ _ _ _ _ q => q)
    cases z with
    | bl bb =>
      cases ry
      refine ⟨bb, rfl, ?_⟩
      cases bb with
      | true =>
        have S3 := S2.ext x3 wf3
        refine tE_bind S3 (show Post X.K H3 w3 (Mbind (k ρ) (fun u => Mbind (g' e u) asB) w3.μ) _ _ from q) fun e3 u3 H4 w4 x4 S4 r4 P4 => ?_
        refine hv' H4 w4 u u3 e e3 _ (EW X.K X.mg W σ) S4.wf (x4.rep (x3.rep r2)) r4 ((post_bind P4).imp (fun z H5 w5 x5 wf5 q5 y ry => ?_) fun _ _ _ _ _ q => q)
        cases z with
        | bl b2 => cases ry; exact ⟨b2, rfl, post_ret q5 wf5⟩
        | _ => exact q5.elim
      | false => exact ⟨false, rfl, post_ret q wf3⟩
    | _ => exact q.elim
theorem td_not {t : Env → M Bool} (ha : TD X W a t) : TD X W (.UnaryOp .Not a pos) (tNotM t) :=
  PT_imp (pt_not ha) fun σ H Q ⟨ρ, w, S, P⟩ => tT_bind S P fun bb H1 w1 _ S1 P1 => post_ret P1 S1.wf
/-- and, or as tests -/
structure WD (X : Cx) (W : WX) (e : Expr) (t : Env → M Bool) : Prop where
  pw : PW X e (tT X.K X.mg W t)
theorem PW_imp {X : Cx} {e : Expr} {t t' : TT} (h : PW X e t) (hi : ∀ σ H Q, t' σ H Q → t σ H Q) : PW X e t' := ⟨fun wh pins s σ H Q I q => h.run wh pins s σ H Q I (hi _ _ _ q)⟩
theorem wd_and1 {t : Env → M Bool} (ha : TD X W a t) : WD X W (.BoolOp .And [a] pos) t := ⟨pw_and1 ha⟩
theorem wd_or1 {t : Env → M Bool} (ha : TD X W a t) : WD X W (.BoolOp .Or [a] pos) t := ⟨pw_or1 ha⟩
theorem wd_and {t u : Env → M Bool} {rest : List Expr} (ha : TD X W a t) (hb : WD X W (.BoolOp .And (b :: rest) pos) u) : WD X W (.BoolOp .And (a :: b :: rest) pos) (tAndM t u) :=
  ⟨PW_imp (pw_and ha hb.pw) fun σ H Q ⟨ρ, w, S, P⟩ => tT_bind S P fun bb H1 w1 _ S1 P1 => by
    cases bb with
    | true => exact ⟨ρ, w1, S1, P1⟩
    | false => exact post_ret P1 S1.wf⟩
theorem wd_or {t u : Env → M Bool} {rest : List Expr} (ha : TD X W a t) (hb : WD X W (.BoolOp .Or (b :: rest) pos) u) : WD X W (.BoolOp .Or (a :: b :: rest) pos) (tOrM t u) :=
  ⟨PW_imp (pw_or ha hb.pw) fun σ H Q ⟨ρ, w, S, P⟩ => tT_bind S P fun bb H1 w1 _ S1 P1 => by
    cases bb with
    | false => exact ⟨ρ, w1, S1, P1⟩
    | true => exact post_ret P1 S1.wf⟩
theorem td_bool {t : Env → M Bool} {e : Expr} (h : WD X W e t) : TD X W e t := h.pw.pt
theorem truD_ok {K : PySem.W.Frag} {H : Hp} {w : Wd} {x : V} {d : D} {bb : Bool} (wf : Wf K H w) (r : Rep K w.F w.θ x d) (e : truD w.μ d = some bb) : TruV K x H bb := by
  have seqs : (asSeq w.μ d).map (fun xs => !xs.isEmpty) = some bb → TruV K x H bb := fun q => by
    obtain ⟨xs, h1, h2⟩ := Option.map_eq_some_iff.mp q
    obtain ⟨p, vs, rfl, hs, rr⟩ := asSeq_ok wf r h1
    have e3 : (!vs.isEmpty) = bb := by
      rw [← h2]
      cases rr <;> rfl
    rcases hs with hs | hs
    · exact .inl ⟨vs, hs, e3.symm⟩
    · exact .inr (.inl ⟨vs, hs, e3.symm⟩)
  cases d with
  | non => cases r; cases e; rfl
  | bl b => cases r; cases e; rfl
  | int i => cases r; cases e; rfl
  | str y =>
    cases r
    simp only [truD] at e
    split at e
    · rename_i hz; cases e; exact ⟨hz, rfl⟩
    · cases e
  | _ => exact seqs e
theorem td_tru {t : Expr} (ht : ED X W t f) (he : ∀ whole, isTrue t X.env whole = (do let v ← whole; standAt t.pos; holding [v] (truthy v)) := by intro _; rfl) : TD X W t (tTru f) :=
  PT_imp (pt_truth ht he) fun σ H Q ⟨ρ, w, S, P⟩ => tE_bind S P fun d v H1 w1 _ S1 r1 P1 => by
    simp only [gTru] at P1
    cases e : truD w1.μ d with
    | none => rw [e] at P1; exact P1.elim
    | some bb =>
      rw [e] at P1
      exact ⟨bb, truD_ok S1.wf r1 e, P1 H1 w1 rfl (Ext.refl _ _) S1.wf⟩
/-! calls of built-ins -/
theorem ed_blt {x : Str} {id : String} {r : List V → Hp → VK → Prop} {g : List D → M D} {t : Env → M (List D)} {p : Pos} (hc : CallR X (.builtin id) r) (hv : VCall X.K r g) (hg : Gl X x) (hm : X.mg x = none) (hb : bootBuiltins x = some (.builtin id)) (ha : AD X W (a :: es) t)
    (hn : x ≠ "__name__" := by decide) (hdb : (x == ("__debug__" : Str)) = false := by decide) (he : starEach (a :: es) X.env = (false, eval a X.env) :: starEach es X.env := by rfl) (hpl : (backTo pos (starEach es X.env)).any (·.1) = false := by rfl) :
    ED X W (.Call (.Name x p) (a :: es) [] pos) (eCall g t) :=
  PE_imp (pe_callB hc hg hm hb ha hn hdb he hpl) fun σ H Q ⟨ρ, w, S, P⟩ => tA_bind S P fun ds vs H1 w1 x1 S1 r1 P1 => hv H1 w1 vs ds Q _ S1.wf r1 P1
theorem ed_bty {x : Str} {T : String} {r : List V → Hp → VK → Prop} {g : List D → M D} {t : Env → M (List D)} {p : Pos} (hc : CallR X (.type T) r) (hv : VCall X.K r g) (hg : Gl X x) (hm : X.mg x = none) (hb : bootBuiltins x = some (.type T)) (ha : AD X W (a :: es) t)
    (hn : x ≠ "__name__" := by decide) (hdb : (x == ("__debug__" : Str)) = false := by decide) (he : starEach (a :: es) X.env = (false, eval a X.env) :: starEach es X.env := by rfl) (hpl : (backTo pos (starEach es X.env)).any (·.1) = false := by rfl) :
    ED X W (.Call (.Name x p) (a :: es) [] pos) (eCall g t) :=
  PE_imp (pe_callTy hc hg hm hb ha hn hdb he hpl) fun σ H Q ⟨ρ, w, S, P⟩ => tA_bind S P fun ds vs H1 w1 x1 S1 r1 P1 => hv H1 w1 vs ds Q _ S1.wf r1 P1
end
end DL
namespace DL
open PySem PySem.Spec PyProof.Rows L2
/-! ### the words of the mirror: statements -/
inductive Fl where
  | nx (ρ : Env) | ret (d : D) | bk (ρ : Env) | ct (ρ : Env)
abbrev SM := Env → M Fl
def sNil : SM := fun ρ => Mret (.nx ρ)
def sSeq (s t : SM) : SM := fun ρ => Mbind (s ρ) fun f => match f with
  | .nx ρ' => t ρ'
  | f => Mret f
def sRet (f : Env → M D) : SM := fun ρ => Mbind (f ρ) fun d => Mret (.ret d)
def sSet (i : Nat) (f : Env → M D) : SM := fun ρ => Mbind (f ρ) fun d => Mret (.nx (ρ.set i (some d)))
def sExp (f : Env → M D) : SM := fun ρ => Mbind (f ρ) fun _ => Mret (.nx ρ)
def sIf (c : Env → M Bool) (s t : SM) : SM := fun ρ => Mbind (c ρ) fun b => if b = true then s ρ else t ρ
/-- a target takes a value -/
abbrev GM := D → Env → M Env
def gVar (i : Nat) : GM := fun d ρ => Mret (ρ.set i (some d))
def gsNil : List D → Env → M Env := fun ds ρ => match ds with
  | [] => Mret ρ
  | _ => Mbad
def gsCons (g : GM) (h : List D → Env → M Env) : List D → Env → M Env := fun ds ρ => match ds with
  | [] => Mbad
  | d :: ds => Mbind (g d ρ) fun ρ' => h ds ρ'
def gTupl (n : Nat) (h : List D → Env → M Env) : GM := fun d ρ => match asTup d with
  | some xs => if xs.length = n then h xs ρ else Mbad
  | none => Mbad
def sAsg (g : GM) (f : Env → M D) : SM := fun ρ => Mbind (f ρ) fun d => Mbind (g d ρ) fun ρ' => Mret (.nx ρ')
def sPar (i j : Nat) (f h : Env → M D) : SM := fun ρ => Mbind (f ρ) fun x => Mbind (h ρ) fun y => Mret (.nx ((ρ.set i (some x)).set j (some y)))
/-- x[k] = e, x a list that may change -/
def putL (x k d : D) : M Unit := fun μ => match x, k with
  | .ptr n, .int i => match μ[n]? with
    | some (.lst xs) => match ixN xs.length i with
      | some j => .ok () (μ.set n (.lst (xs.set j d)))
      | none => .bad
    | _ => .bad
  | _, _ => .bad
def sPut (o k f : Env → M D) : SM := fun ρ => Mbind (f ρ) fun d => Mbind (o ρ) fun x => Mbind (k ρ) fun y => Mbind (putL x y d) fun _ => Mret (.nx ρ)
/-- what is walked: the items; what must stay true of the store meanwhile -/
abbrev IM := Env → M (List D × (Store → Bool))
def forL (c : Store → Bool) (g : GM) (body : SM) : List D → SM
  | [], ρ => fun μ => if c μ = true then .ok (.nx ρ) μ else .bad
  | d :: ds, ρ => fun μ => if c μ = true then Mbind (g d ρ) (fun ρ1 => Mbind (body ρ1) fun fl => match fl with
    | .nx ρ2 => forL c g body ds ρ2
    | .ct ρ2 => forL c g body ds ρ2
    | .bk ρ2 => Mret (.nx ρ2)
    | .ret d => Mret (.ret d)) μ else .bad
def sFor (it : IM) (g : GM) (body : SM) : SM := fun ρ => Mbind (it ρ) fun p => forL p.2 g body p.1 ρ
def whileF (c : Env → M Bool) (body : SM) : Nat → SM
  | 0, _ => Mbad
  | n + 1, ρ => Mbind (c ρ) fun b => if b = true then Mbind (body ρ) (fun fl => match fl with
    | .nx ρ2 => whileF c body n ρ2
    | .ct ρ2 => whileF c body n ρ2
    | .bk ρ2 => Mret (.nx ρ2)
    | .ret d => Mret (.ret d)) else Mret (.nx ρ)
def sWhile (fuel : Env → Store → Nat) (c : Env → M Bool) (body : SM) : SM := fun ρ μ => whileF c body (fuel ρ μ) ρ μ
def sRaise (e : Env → M Ex) : SM := fun ρ => Mbind (e ρ) fun e => Mraise e
def xOwn (c : Str) : Env → M Ex := fun _ => Mret ⟨c, []⟩
abbrev EWs (K : PySem.W.Frag) (mg : Str → Option Value) (W : WX) : Ex → Hp → Wd → Prop := fun e H' w' => ∀ σ c dd, ExR K mg H' w' e c dd → W c dd σ H'
def FlR (K : PySem.W.Frag) (D : Ends) : Fl → Hp → Wd → Prop
  | .nx ρ, H, w => ∀ σ, SR K σ H ρ w → D.nx σ H
  | .bk ρ, H, w => ∀ σ, SR K σ H ρ w → D.bk σ H
  | .ct ρ, H, w => ∀ σ, SR K σ H ρ w → D.ct σ H
  | .ret d, H, w => ∀ v, Rep K w.F w.θ v d → D.rt v H
def tS (K : PySem.W.Frag) (mg : Str → Option Value) (W : WX) (g : SM) : TS := fun D σ H => ∃ ρ w, SR K σ H ρ w ∧ Post K H w (g ρ w.μ) (FlR K D) (EWs K mg W)
abbrev SD (X : Cx) (W : WX) (st : Stmt) (g : SM) : Prop := PS X st (tS X.K X.mg W g)
abbrev SDs (X : Cx) (W : WX) (st : List Stmt) (g : SM) : Prop := PSs X st (tS X.K X.mg W g)
theorem PS_imp {X : Cx} {e : Stmt} {t t' : TS} (h : PS X e t) (hi : ∀ D σ H, t' D σ H → t D σ H) : PS X e t' := ⟨fun pins s σ H D I q => h.run pins s σ H D I (hi _ _ _ q)⟩
theorem PSs_imp {X : Cx} {e : List Stmt} {t t' : TS} (h : PSs X e t) (hi : ∀ D σ H, t' D σ H → t D σ H) : PSs X e t' := ⟨fun pins s σ H D I q => h.run pins s σ H D I (hi _ _ _ q)⟩
section
variable {K : PySem.W.Frag} {mg : Str → Option Value} {W : WX} {σ : L2.St} {H : Hp} {w : Wd} {α : Type}
theorem tE_bindS {f : Env → M D} {k : D → M α} {Q : α → Hp → Wd → Prop} {Q' : VK} {ρ : Env} (S : SR K σ H ρ w) (h : Post K H w (Mbind (f ρ) k w.μ) Q (EWs K mg W))
    (hk : ∀ d v H1 w1, Ext H w H1 w1 → SR K σ H1 ρ w1 → Rep K w1.F w1.θ v d → Post K H1 w1 (k d w1.μ) Q (EWs K mg W) → Q' v H1) : tE K mg W f σ H Q' :=
  ⟨ρ, w, S, (post_bind h).imp (fun d H1 w1 x wf q v r => hk d v H1 w1 x (S.ext x wf) r q) fun _ _ _ _ _ q => q σ⟩
theorem tA_bindS {f : Env → M (List D)} {k : List D → M α} {Q : α → Hp → Wd → Prop} {Q' : List V → Hp → Prop} {ρ : Env} (S : SR K σ H ρ w) (h : Post K H w (Mbind (f ρ) k w.μ) Q (EWs K mg W))
    (hk : ∀ d v H1 w1, Ext H w H1 w1 → SR K σ H1 ρ w1 → RepL K w1.F w1.θ v d → Post K H1 w1 (k d w1.μ) Q (EWs K mg W) → Q' v H1) : tA K mg W f σ H Q' :=
  ⟨ρ, w, S, (post_bind h).imp (fun d H1 w1 x wf q v r => hk d v H1 w1 x (S.ext x wf) r q) fun _ _ _ _ _ q => q σ⟩
theorem tT_bindS {f : Env → M Bool} {k : Bool → M α} {Q : α → Hp → Wd → Prop} {Q' : Bool → Hp → Prop} {ρ : Env} (S : SR K σ H ρ w) (h : Post K H w (Mbind (f ρ) k w.μ) Q (EWs K mg W))
    (hk : ∀ b H1 w1, Ext H w H1 w1 → SR K σ H1 ρ w1 → Post K H1 w1 (k b w1.μ) Q (EWs K mg W) → Q' b H1) : tT K mg W f σ H Q' :=
  ⟨ρ, w, S, (post_bind h).imp (fun d H1 w1 x wf q => hk d H1 w1 x (S.ext x wf) q) fun _ _ _ _ _ q => q σ⟩
/-- nothing but the places in ix changed -/
def Ag (ix : List Nat) (σ σ' : L2.St) : Prop := σ'.length = σ.length ∧ ∀ j : Nat, j ∉ ix → σ'[j]? = σ[j]?
theorem Ag.refl (ix : List Nat) (σ : L2.St) : Ag ix σ σ := ⟨rfl, fun _ _ => rfl⟩
theorem Ag.trans {ix : List Nat} {σ σ' σ'' : L2.St} (a : Ag ix σ σ') (b : Ag ix σ' σ'') : Ag ix σ σ'' := ⟨b.1.trans a.1, fun j h => (b.2 j h).trans (a.2 j h)⟩
theorem Ag.set {ix : List Nat} {i : Nat} (h : i ∈ ix) (σ : L2.St) (v : Option V) : Ag ix σ (σ.set i v) := ⟨by simp, fun j hj => List.getElem?_set_ne (fun e => hj (by rw [← e]; exact h))⟩
def tG (K : PySem.W.Frag) (ix : List Nat) (g : GM) : TG := fun v σ H Q => ∃ d ρ w E, SR K σ H ρ w ∧ Rep K w.F w.θ v d ∧ Post K H w (g d ρ w.μ) (fun ρ' H' w' => ∀ σ', SR K σ' H' ρ' w' → Ag ix σ σ' → Q σ' H') E
def tGs (K : PySem.W.Frag) (ix : List Nat) (g : List D → Env → M Env) : TGs := fun vs σ H Q => ∃ ds ρ w E, SR K σ H ρ w ∧ RepL K w.F w.θ vs ds ∧ Post K H w (g ds ρ w.μ) (fun ρ' H' w' => ∀ σ', SR K σ' H' ρ' w' → Ag ix σ σ' → Q σ' H') E
end
abbrev GD (X : Cx) (ix : List Nat) (tg : Expr) (g : GM) : Prop := PG X tg (tG X.K ix g)
abbrev GDs (X : Cx) (ix : List Nat) (tg : List Expr) (g : List D → Env → M Env) : Prop := PGs X tg (tGs X.K ix g)
theorem PG_imp {X : Cx} {e : Expr} {t t' : TG} (h : PG X e t) (hi : ∀ v σ H Q, t' v σ H Q → t v σ H Q) : PG X e t' := ⟨fun pins s σ H v u Q I r q => h.run pins s σ H v u Q I r (hi _ _ _ _ q)⟩
theorem PGs_imp {X : Cx} {e : List Expr} {t t' : TGs} (h : PGs X e t) (hi : ∀ v σ H Q, t' v σ H Q → t v σ H Q) : PGs X e t' := ⟨fun pins s σ H v u Q I r q => h.run pins s σ H v u Q I r (hi _ _ _ _ q)⟩
section
variable {X : Cx} {W : WX} {a b c e : Expr} {es : List Expr} {f h k : Env → M D} {pos : Pos} {st : Stmt} {sts : List Stmt} {s t : SM}
theorem sd_nil : SDs X W [] sNil := PSs_imp pss_nil fun D σ H ⟨ρ, w, S, P⟩ => post_ret P S.wf σ S
theorem seq_ok {D : Ends} {σ : L2.St} {H : Hp} (q : tS X.K X.mg W (sSeq s t) D σ H) : tSeq (tS X.K X.mg W s) (tS X.K X.mg W t) D σ H := by
  obtain ⟨ρ, w, S, P⟩ := q
  refine ⟨ρ, w, S, (post_bind P).imp (fun fl H1 w1 x1 wf1 q => ?_) fun _ _ _ _ _ q => q⟩
  cases fl with
  | nx ρ' => exact fun σ' S' => ⟨ρ', w1, S', q⟩
  | ret d =>
    have q' : Post X.K H1 w1 (Mret (Fl.ret d) w1.μ) (FlR X.K D) (EWs X.K X.mg W) := q
    exact fun v r => post_ret q' wf1 v r
  | bk ρ' =>
    have q' : Post X.K H1 w1 (Mret (Fl.bk ρ') w1.μ) (FlR X.K D) (EWs X.K X.mg W) := q
    exact fun v r => post_ret q' wf1 v r
  | ct ρ' =>
    have q' : Post X.K H1 w1 (Mret (Fl.ct ρ') w1.μ) (FlR X.K D) (EWs X.K X.mg W) := q
    exact fun v r => post_ret q' wf1 v r
theorem sd_cons (h1 : SD X W st s) (h2 : SDs X W sts t) : SDs X W (st :: sts) (sSeq s t) := PSs_imp (pss_cons h1 h2) fun D σ H q => seq_ok q
theorem sd_one (h1 : SD X W st s) : SDs X W [st] s := pss_one h1
theorem sd_ret (ha : ED X W a f) : SD X W (.Return (some a) pos) (sRet f) :=
  PS_imp (ps_ret ha) fun D σ H ⟨ρ, w, S, P⟩ => tE_bindS S P fun d v H1 w1 _ S1 r1 P1 => post_ret P1 S1.wf v r1
theorem sd_retN : SD X W (.Return none pos) (fun _ => Mret (.ret .non)) := PS_imp ps_retN fun D σ H ⟨ρ, w, S, P⟩ => post_ret P S.wf _ .non
theorem sd_set {i : Nat} {x : Str} {pos' : Pos} (hN : X.N.Nodup) (hi : X.N[i]? = some x) (hx : Loc X.env.scope x) (ha : ED X W a f) (hs : swapsWith a (some (.Name x pos')) pos.line X.env = pure false := by rfl)
    (hf : X.fn x = true ∨ X.env.scope.names.lookup x = some .local := by first | exact .inl rfl | exact .inr rfl | assumption) : SD X W (.Assign [.Name x pos'] a pos) (sSet i f) :=
  PS_imp (ps_set hN hi hx ha hs hf) fun D σ H ⟨ρ, w, S, P⟩ => tE_bindS S P fun d v H1 w1 _ S1 r1 P1 => post_ret P1 S1.wf _ (S1.set r1)
theorem sd_exp (ha : ED X W a f) (hs : swapsWith a none pos.line X.env = pure false := by rfl) : SD X W (.Expr a pos) (sExp f) :=
  PS_imp (ps_expr ha hs) fun D σ H ⟨ρ, w, S, P⟩ => tE_bindS S P fun d v H1 w1 _ S1 r1 P1 => post_ret P1 S1.wf _ S1
theorem sd_if {c : Expr} {p q : List Stmt} {t1 : Env → M Bool} (hc : TD X W c t1) (ha : SDs X W p s) (hb : SDs X W q t) : SD X W (.If c p q pos) (sIf t1 s t) :=
  PS_imp (ps_if hc ha hb) fun D σ H ⟨ρ, w, S, P⟩ => tT_bindS S P fun bb H1 w1 _ S1 P1 => by
    cases bb with
    | true => exact ⟨ρ, w1, S1, P1⟩
    | false => exact ⟨ρ, w1, S1, P1⟩
theorem sd_doc {x j pos pos'} : SD X W (.Expr (.Constant (.str x) j pos) pos') sNil := PS_imp ps_doc fun D σ H ⟨ρ, w, S, P⟩ => post_ret P S.wf σ S
theorem sd_pass : SD X W (.Pass pos) sNil := PS_imp ps_pass fun D σ H ⟨ρ, w, S, P⟩ => post_ret P S.wf σ S
/-! targets -/
theorem gd_var {ix : List Nat} {i : Nat} {x : Str} (hm : i ∈ ix) (hN : X.N.Nodup) (hi : X.N[i]? = some x) (hx : Loc X.env.scope x) (hf : X.fn x = true ∨ X.env.scope.names.lookup x = some .local := by first | exact .inl rfl | exact .inr rfl | assumption) :
    GD X ix (.Name x pos) (gVar i) := PG_imp (pg_name hN hi hx hf) fun v σ H Q ⟨d, ρ, w, E, S, r, P⟩ => post_ret P S.wf _ (S.set r) (Ag.set hm _ _)
theorem gds_nil {ix : List Nat} : GDs X ix [] gsNil := PGs_imp pgs_nil fun vs σ H Q ⟨ds, ρ, w, E, S, r, P⟩ => by
  cases r with
  | nil => exact ⟨rfl, post_ret P S.wf σ S (Ag.refl _ _)⟩
  | cons _ _ => exact P.elim
theorem gds_cons {ix : List Nat} {g : GM} {h : List D → Env → M Env} (h1 : GD X ix e g) (h2 : GDs X ix es h) (hs : (assignEach (e :: es) X.env).map (·.2) = assign e X.env :: (assignEach es X.env).map (·.2) := by rfl) : GDs X ix (e :: es) (gsCons g h) :=
  PGs_imp (pgs_cons h1 h2 hs) fun vs σ H Q ⟨ds, ρ, w, E, S, r, P⟩ => by
    cases r with
    | nil => exact P.elim
    | cons r1 r2 =>
      refine ⟨_, _, rfl, _, ρ, w, E, S, r1, (post_bind P).imp (fun ρ' H1 w1 x1 wf1 q σ' S' ag => ⟨_, ρ', w1, E, S', x1.repL r2, q.imp (fun ρ2 H2 w2 x2 wf2 q2 σ2 S2 ag2 => q2 σ2 S2 (ag.trans ag2)) fun _ _ _ _ _ q => q⟩) fun _ _ _ _ _ q => q⟩
theorem gd_tup {ix : List Nat} {kk n : Nat} {h : List D → Env → M Env} (hc : X.calm = true) (h1 : GDs X ix es h) (hn : (assignEach es X.env).length = n := by rfl) (hst : (assignEach es X.env).findIdx? (·.1) = none := by rfl) : GD X ix (.Tuple es kk pos) (gTupl n h) :=
  PG_imp (pg_tup hc h1 hn hst) fun v σ H Q ⟨d, ρ, w, E, S, r, P⟩ => by
    simp only [gTupl] at P
    cases e1 : asTup d with
    | none => rw [e1] at P; exact P.elim
    | some xs =>
      rw [e1] at P
      simp only at P
      obtain ⟨p, vs, rfl, hs, rr⟩ := asTup_ok S.wf r e1
      split at P
      · rename_i hl
        exact ⟨p, vs, rfl, hs, by rw [rr.length]; exact hl, xs, ρ, w, E, S, rr, P⟩
      · exact P.elim
theorem sd_asg {tg : Expr} {ix : List Nat} {g : GM} (ha : ED X W a f) (hg : GD X ix tg g) (hs : swapsWithSole [tg] a pos.line X.env = pure false := by rfl) (hw : swappedStores [tg] a X.env = pure none := by rfl)
    (h1 : (assignEach [tg] X.env).map (·.2) = [assign tg X.env] := by rfl) : SD X W (.Assign [tg] a pos) (sAsg g f) :=
  PS_imp (ps_asg ha hg hs hw h1) fun D σ H ⟨ρ, w, S, P⟩ => tE_bindS S P fun d v H1 w1 _ S1 r1 P1 => ⟨d, ρ, w1, _, S1, r1, (post_bind P1).imp (fun ρ' H2 w2 x2 wf2 q σ' S' _ => post_ret q wf2 σ' S') fun _ _ _ _ _ q => q⟩
end
end DL
namespace DL
open PySem PySem.Spec PyProof.Rows L2
section
variable {K : PySem.W.Frag} {H : Hp} {w : Wd} {Q : VK} {E : Ex → Hp → Wd → Prop}
/-- a list of the store was changed -/
theorem post_set {α : Type} {z : α} {n : Nat} {a : Addr} {vs : List V} {ys : List D} {Q : α → Hp → Wd → Prop} (h : Post K H w (.ok z (w.μ.set n (.lst ys))) Q E) (wf : Wf K H w) (hn : w.θ[n]? = some a) (r : RepL K w.F w.θ vs ys) :
    Q z (upd H a (.lst vs)) { w with μ := w.μ.set n (.lst ys) } := h _ _ rfl (Ext.set_lst wf hn) (wf.set_lst hn r)
theorem ptr_ok (wf : Wf K H w) {x : V} {n : Nat} {xs : List D} (r : Rep K w.F w.θ x (.ptr n)) (h : w.μ[n]? = some (.lst xs)) : ∃ a vs, x = .ref a ∧ w.θ[n]? = some a ∧ H a = some (.lst vs) ∧ RepL K w.F w.θ vs xs := by
  cases r with
  | ptr h1 =>
    obtain ⟨o, h3, h4⟩ := wf.some_of h1
    rw [h] at h3
    cases h3
    obtain ⟨vs, h5, h6⟩ := h4
    exact ⟨_, vs, rfl, h1, h5, h6⟩
end
/-! ### methods of a list that may change -/
def chkL (x : D) : M Unit := fun μ => match asLst μ x with
  | some _ => .ok () μ
  | none => .bad
def eMth (g : D → List D → M D) (f : Env → M D) (t : Env → M (List D)) : Env → M D := fun ρ => Mbind (f ρ) fun x => Mbind (chkL x) fun _ => Mbind (t ρ) fun ds => g x ds
/-- g changes the list at n from xs to h xs ds -/
def gMut (h : List D → List D → Option (List D)) : D → List D → M D := fun x ds μ => match x with
  | .ptr n => match μ[n]? with
    | some (.lst xs) => match h xs ds with
      | some ys => .ok .non (μ.set n (.lst ys))
      | none => .bad
    | _ => .bad
  | _ => .bad
def hAppend : List D → List D → Option (List D) := fun xs ds => match ds with
  | [d] => if xs.length < sizeLine then some (xs ++ [d]) else none
  | _ => none
def hRemove : List D → List D → Option (List D) := fun xs ds => match ds with
  | [.int k] => match intsOf xs with
    | some ns => if k ∈ ns then some ((ns.erase k).map .int) else none
    | none => none
  | _ => none
def hReverse : List D → List D → Option (List D) := fun xs ds => match ds with
  | [] => some xs.reverse
  | _ => none
def VMt (K : PySem.W.Frag) (r : V → List V → Hp → VK → Prop) (g : D → List D → M D) : Prop := ∀ (H : Hp) (w : Wd) (x : V) (d : D) (xs : List V) (ds : List D) (Q : VK) (E : Ex → Hp → Wd → Prop), Wf K H w → Rep K w.F w.θ x d → RepL K w.F w.θ xs ds →
  Post K H w (g d ds w.μ) (QV K Q) E → r x xs H Q
theorem gMut_ok {K : PySem.W.Frag} {H : Hp} {w : Wd} {x : V} {d : D} {ds : List D} {Q : VK} {E : Ex → Hp → Wd → Prop} {h : List D → List D → Option (List D)} (wf : Wf K H w) (r : Rep K w.F w.θ x d) (P : Post K H w (gMut h d ds w.μ) (QV K Q) E) :
    ∃ a vs xs ys, x = .ref a ∧ H a = some (.lst vs) ∧ RepL K w.F w.θ vs xs ∧ h xs ds = some ys ∧ ∀ us, RepL K w.F w.θ us ys → Q .non (upd H a (.lst us)) := by
  cases d with
  | ptr n =>
    simp only [gMut] at P
    cases e1 : w.μ[n]? with
    | none => rw [e1] at P; exact P.elim
    | some o =>
      rw [e1] at P
      cases o with
      | ins C fs => exact P.elim
      | lst xs =>
        simp only at P
        cases e2 : h xs ds with
        | none => rw [e2] at P; exact P.elim
        | some ys =>
          rw [e2] at P
          obtain ⟨a, vs, rfl, h1, h2, h3⟩ := ptr_ok wf r e1
          exact ⟨a, vs, xs, ys, rfl, h2, h3, e2, fun us ru => post_set P wf h1 ru _ .non⟩
  | _ => exact P.elim
theorem v_append (K : PySem.W.Frag) : VMt K rAppend (gMut hAppend) := by
  intro H w x d xs ds Q E wf r rs P
  obtain ⟨a, vs, ys, zs, rfl, ha, ra, he, q⟩ := gMut_ok wf r P
  cases rs with
  | nil => cases he
  | cons r1 r2 =>
    cases r2 with
    | cons _ _ => cases he
    | nil =>
      simp only [hAppend] at he
      split at he
      · rename_i hz
        cases he
        exact ⟨a, vs, _, rfl, rfl, ha, by rw [ra.length]; exact hz, q _ (ra.append (.cons r1 .nil))⟩
      · cases he
theorem repL_ints {K : PySem.W.Frag} {F : Hp} {θ : List Addr} : ∀ ns : List Int, RepL K F θ (ns.map V.int) (ns.map D.int)
  | [] => .nil
  | n :: ns => .cons (.int n) (repL_ints ns)
theorem v_remove (K : PySem.W.Frag) : VMt K rRemI (gMut hRemove) := by
  intro H w x d xs ds Q E wf r rs P
  obtain ⟨a, vs, ys, zs, rfl, ha, ra, he, q⟩ := gMut_ok wf r P
  cases rs with
  | nil => cases he
  | cons r1 r2 =>
    cases r2 with
    | cons _ _ => cases r1 <;> cases he
    | nil =>
      rename_i e
      revert he
      cases r1 with
      | int k =>
        simp only [hRemove]
        cases e1 : intsOf ys with
        | none => intro he; cases he
        | some ns =>
          simp only
          split
          · rename_i hk
            intro he
            cases he
            have ev := intsOf_rep ra e1
            subst ev
            obtain ⟨j, hj, h1, h2, h3⟩ := L2.first_at hk
            refine ⟨a, ns, k, j, rfl, rfl, ha, h1, h2, ?_⟩
            rw [h3]
            exact q _ (repL_ints _)
          · intro he; cases he
      | _ => intro he; cases he
theorem v_reverse (K : PySem.W.Frag) : VMt K rReverse (gMut hReverse) := by
  intro H w x d xs ds Q E wf r rs P
  obtain ⟨a, vs, ys, zs, rfl, ha, ra, he, q⟩ := gMut_ok wf r P
  cases rs with
  | cons _ _ => cases he
  | nil =>
    cases he
    exact ⟨a, vs, rfl, rfl, ha, q _ ra.rev⟩
theorem chkL_ty {K : PySem.W.Frag} {H : Hp} {w : Wd} {x : V} {d : D} {xs : List D} (wf : Wf K H w) (r : Rep K w.F w.θ x d) (e : asLst w.μ d = some xs) : tyV K "list" x H := by
  obtain ⟨a, vs, rfl, ha, _⟩ := asLst_ok wf r e
  exact .inl ⟨rfl, _, SqL.of ha⟩
section
variable {X : Cx} {W : WX} {a b c e o : Expr} {es : List Expr} {f h k : Env → M D} {pos : Pos} {st : Stmt} {sts : List Stmt} {s t : SM}
theorem chkL_post {K : PySem.W.Frag} {H : Hp} {w : Wd} {d : D} {α : Type} {m : M α} {Q : α → Hp → Wd → Prop} {E : Ex → Hp → Wd → Prop} (P : Post K H w (Mbind (chkL d) (fun _ => m) w.μ) Q E) : ∃ xs, asLst w.μ d = some xs ∧ Post K H w (m w.μ) Q E := by
  simp only [Mbind, chkL] at P
  cases e1 : asLst w.μ d with
  | none => rw [e1] at P; exact P.elim
  | some xs => rw [e1] at P; exact ⟨xs, rfl, P⟩
theorem ed_mth {g : D → List D → M D} {r : V → List V → Hp → VK → Prop} {t : Env → M (List D)} {name : Str} {id : String} {apos : Pos} (slot : Slot "list" name id) (hty : typeOf (.builtin id) = pure (.type "method_descriptor")) (hm : MtR X id r) (hv : VMt X.K r g)
    (ho : ED X W o f) (ha : AD X W (e :: es) t) (hbase : attributeBase o name X.env (eval o X.env) = eval o X.env := by rfl)
    (hfew : ((backTo pos (starEach (e :: es) X.env)).all (fun x => !x.1) && (backToKw pos (keywordEach [] X.env)).all (fun x => x.1.isSome)
      && decide ((e :: es).length + ([] : List Keyword).length + (if ([] : List Keyword).isEmpty then 0 else 1) < 30)) = true := by rfl)
    (hline : (apos.endLine == pos.line) = true := by rfl) (hs : starEach (e :: es) X.env = (false, eval e X.env) :: starEach es X.env := by rfl) (hplain : (backTo pos (starEach es X.env)).any (·.1) = false := by rfl) :
    ED X W (.Call (.Attribute o name apos) (e :: es) [] pos) (eMth g f t) :=
  PE_imp (pe_bm PySem.F.plainAttrs_list slot hty hm ho ha hbase hfew hline hs hplain) fun σ H Q ⟨ρ, w, S, P⟩ => tE_bind S P fun d v H1 w1 _ S1 r1 P1 => by
    obtain ⟨xs, e1, P2⟩ := chkL_post P1
    exact ⟨chkL_ty S1.wf r1 e1, tA_bind S1 P2 fun ds vs H2 w2 x2 S2 r2 P3 => hv H2 w2 v d vs ds Q _ S2.wf (x2.rep r1) r2 P3⟩
theorem ed_mth0 {g : D → List D → M D} {r : V → List V → Hp → VK → Prop} {name : Str} {id : String} {apos : Pos} (slot : Slot "list" name id) (hty : typeOf (.builtin id) = pure (.type "method_descriptor")) (hm : MtR X id r) (hv : VMt X.K r g)
    (ho : ED X W o f) (hbase : attributeBase o name X.env (eval o X.env) = eval o X.env := by rfl) (hline : (apos.endLine == pos.line) = true := by rfl) :
    ED X W (.Call (.Attribute o name apos) [] [] pos) (eMth g f aNil) :=
  PE_imp (pe_bm0 PySem.F.plainAttrs_list slot hty hm ho hbase hline) fun σ H Q ⟨ρ, w, S, P⟩ => tE_bind S P fun d v H1 w1 _ S1 r1 P1 => by
    obtain ⟨xs, e1, P2⟩ := chkL_post P1
    exact ⟨chkL_ty S1.wf r1 e1, hv H1 w1 v d [] [] Q _ S1.wf r1 .nil P2⟩
theorem ed_append {t : Env → M (List D)} {apos : Pos} (ho : ED X W o f) (ha : AD X W (e :: es) t) (hbase : attributeBase o "append" X.env (eval o X.env) = eval o X.env := by rfl)
    (hfew : ((backTo pos (starEach (e :: es) X.env)).all (fun x => !x.1) && (backToKw pos (keywordEach [] X.env)).all (fun x => x.1.isSome)
      && decide ((e :: es).length + ([] : List Keyword).length + (if ([] : List Keyword).isEmpty then 0 else 1) < 30)) = true := by rfl)
    (hline : (apos.endLine == pos.line) = true := by rfl) (hs : starEach (e :: es) X.env = (false, eval e X.env) :: starEach es X.env := by rfl) (hplain : (backTo pos (starEach es X.env)).any (·.1) = false := by rfl) :
    ED X W (.Call (.Attribute o "append" apos) (e :: es) [] pos) (eMth (gMut hAppend) f t) :=
  ed_mth PySem.F.slot_list_append PySem.F.type_list_append mt_append (v_append _) ho ha hbase hfew hline hs hplain
theorem ed_remove {t : Env → M (List D)} {apos : Pos} (ho : ED X W o f) (ha : AD X W (e :: es) t) (hbase : attributeBase o "remove" X.env (eval o X.env) = eval o X.env := by rfl)
    (hfew : ((backTo pos (starEach (e :: es) X.env)).all (fun x => !x.1) && (backToKw pos (keywordEach [] X.env)).all (fun x => x.1.isSome)
      && decide ((e :: es).length + ([] : List Keyword).length + (if ([] : List Keyword).isEmpty then 0 else 1) < 30)) = true := by rfl)
    (hline : (apos.endLine == pos.line) = true := by rfl) (hs : starEach (e :: es) X.env = (false, eval e X.env) :: starEach es X.env := by rfl) (hplain : (backTo pos (starEach es X.env)).any (·.1) = false := by rfl) :
    ED X W (.Call (.Attribute o "remove" apos) (e :: es) [] pos) (eMth (gMut hRemove) f t) :=
  ed_mth PySem.F.slot_list_remove PySem.F.type_list_remove mt_remove (v_remove _) ho ha hbase hfew hline hs hplain
theorem ed_reverse {apos : Pos} (ho : ED X W o f) (hbase : attributeBase o "reverse" X.env (eval o X.env) = eval o X.env := by rfl) (hline : (apos.endLine == pos.line) = true := by rfl) :
    ED X W (.Call (.Attribute o "reverse" apos) [] [] pos) (eMth (gMut hReverse) f aNil) :=
  ed_mth0 PySem.F.slot_list_reverse PySem.F.type_list_reverse mt_reverse (v_reverse _) ho hbase hline
/-! ### a, b = x, y;  x[k] = e -/
theorem sd_par {i j : Nat} {x y : Str} {px py pt : Pos} {kt k2 pt2} (hc : X.calm = true) (hN : X.N.Nodup) (hi : X.N[i]? = some x) (hj : X.N[j]? = some y) (hij : i ≠ j) (hx : X.env.scope.names.lookup x = some .local) (hy : X.env.scope.names.lookup y = some .local)
    (ha : AD X W [a, b] (aCons f (aCons h aNil))) (hw : swappedStores [.Tuple [.Name x px, .Name y py] kt pt] (.Tuple [a, b] k2 pt2) X.env = pure (some [x, y]))
    (hs : swapsWithSole [.Tuple [.Name x px, .Name y py] kt pt] (.Tuple [a, b] k2 pt2) pos.line X.env = pure false := by rfl) :
    SD X W (.Assign [.Tuple [.Name x px, .Name y py] kt pt] (.Tuple [a, b] k2 pt2) pos) (sPar i j f h) :=
  PS_imp (ps_par hc hN hi hj hij hx hy ha hw hs) fun D σ H ⟨ρ, w, S, P⟩ => by
    have e : sPar i j f h ρ = Mbind (aCons f (aCons h aNil) ρ) fun ds => match ds with
      | [x, y] => Mret (.nx ((ρ.set i (some x)).set j (some y)))
      | _ => Mbad := by
      simp only [sPar, aCons, aNil, mbind_assoc, mbind_ret]
    rw [e] at P
    refine tA_bindS S P fun ds vs H1 w1 x1 S1 r1 P1 => ?_
    cases r1 with
    | nil => exact P1.elim
    | cons r1 r2 =>
      cases r2 with
      | nil => exact P1.elim
      | cons r2 r3 =>
        cases r3 with
        | cons _ _ => exact P1.elim
        | nil => exact ⟨_, _, rfl, post_ret P1 S1.wf _ ((S1.set r1).set r2)⟩
def sPar3 (i j l : Nat) (f h k : Env → M D) : SM := fun ρ => Mbind (f ρ) fun x => Mbind (h ρ) fun y => Mbind (k ρ) fun z => Mret (.nx (((ρ.set i (some x)).set j (some y)).set l (some z)))
theorem sd_par3 {i j l : Nat} {x y z : Str} {px py pz pt : Pos} {kt k2 pt2} (hc : X.calm = true) (hN : X.N.Nodup) (hi : X.N[i]? = some x) (hj : X.N[j]? = some y) (hl : X.N[l]? = some z) (hij : i ≠ j) (hil : i ≠ l) (hjl : j ≠ l)
    (hx : X.env.scope.names.lookup x = some .local) (hy : X.env.scope.names.lookup y = some .local) (hz : X.env.scope.names.lookup z = some .local)
    (ha : AD X W [a, b, c] (aCons f (aCons h (aCons k aNil)))) (hw : swappedStores [.Tuple [.Name x px, .Name y py, .Name z pz] kt pt] (.Tuple [a, b, c] k2 pt2) X.env = pure (some [x, y, z]))
    (hs : swapsWithSole [.Tuple [.Name x px, .Name y py, .Name z pz] kt pt] (.Tuple [a, b, c] k2 pt2) pos.line X.env = pure false := by rfl) :
    SD X W (.Assign [.Tuple [.Name x px, .Name y py, .Name z pz] kt pt] (.Tuple [a, b, c] k2 pt2) pos) (sPar3 i j l f h k) :=
  PS_imp (ps_par3 hc hN hi hj hl hij hil hjl hx hy hz ha hw hs) fun D σ H ⟨ρ, w, S, P⟩ => by
    have e : sPar3 i j l f h k ρ = Mbind (aCons f (aCons h (aCons k aNil)) ρ) fun ds => match ds with
      | [x, y, z] => Mret (.nx (((ρ.set i (some x)).set j (some y)).set l (some z)))
      | _ => Mbad := by
      simp only [sPar3, aCons, aNil, mbind_assoc, mbind_ret]
    rw [e] at P
    refine tA_bindS S P fun ds vs H1 w1 x1 S1 r1 P1 => ?_
    cases r1 with
    | nil => exact P1.elim
    | cons r1 r2 =>
      cases r2 with
      | nil => exact P1.elim
      | cons r2 r3 =>
        cases r3 with
        | nil => exact P1.elim
        | cons r3 r4 =>
          cases r4 with
          | cons _ _ => exact P1.elim
          | nil => exact ⟨_, _, _, rfl, post_ret P1 S1.wf _ (((S1.set r1).set r2).set r3)⟩
theorem sd_put {i : Expr} {p2 : Pos} (hv : ED X W a f) (ho : ED X W o h) (hi : ED X W i k)
    (ha : ∀ v, assign (.Subscript o i p2) X.env v = (do
      let ov ← holding [v] (eval o X.env)
      let iv ← holding [v, ov] (eval i X.env)
      standAt p2
      holding [v, ov, iv] (setItem ov iv v)
      release [v, ov, iv] []) := by intro _; rfl) (hs : swapsWithSole [.Subscript o i p2] a pos.line X.env = pure false := by rfl) (hw : swappedStores [.Subscript o i p2] a X.env = pure none := by rfl)
    (h1 : (assignEach [.Subscript o i p2] X.env).map (·.2) = [assign (.Subscript o i p2) X.env] := by rfl) : SD X W (.Assign [.Subscript o i p2] a pos) (sPut h k f) :=
  PS_imp (ps_asg hv (pg_sub ho hi set_list ha) hs hw h1) fun D σ H ⟨ρ, w, S, P⟩ => tE_bindS S P fun d v H1 w1 x1 S1 r1 P1 => tE_bindS S1 P1 fun d2 v2 H2 w2 x2 S2 r2 P2 => tE_bindS S2 P2 fun d3 v3 H3 w3 x3 S3 r3 P3 => by
    have r1' := x3.rep (x2.rep r1)
    have r2' := x3.rep r2
    have P4 := post_bind P3
    simp only [putL] at P4
    cases d2 with
    | ptr n =>
      cases d3 with
      | int j =>
        simp only at P4
        cases e1 : w3.μ[n]? with
        | none => rw [e1] at P4; exact P4.elim
        | some ob =>
          rw [e1] at P4
          cases ob with
          | ins C fs => exact P4.elim
          | lst xs =>
            simp only at P4
            cases e2 : ixN xs.length j with
            | none => rw [e2] at P4; exact P4.elim
            | some q =>
              rw [e2] at P4
              obtain ⟨l, vs, rfl, h1, h2, h3⟩ := ptr_ok S3.wf r2' e1
              cases r3
              have rr := h3.set r1' q
              have P5 := post_set P4 S3.wf h1 rr
              refine ⟨l, vs, j, q, rfl, rfl, h2, by rw [h3.length]; exact e2, ?_⟩
              exact post_ret P5 (S3.wf.set_lst h1 rr) _ (S3.ext (Ext.set_lst S3.wf h1) (S3.wf.set_lst h1 rr))
      | _ => exact P4.elim
    | _ => exact P4.elim
end
end DL
namespace DL
open PySem PySem.Spec PyProof.Rows L2
/-! ### what is walked -/
/-- J, begun at the world w, gives the items ds as long as c holds of the store -/
structure Walk (K : PySem.W.Frag) (w : Wd) (J : It) (ds : List D) (c : Store → Bool) : Prop where
  go : ∀ (i : Nat) (d : D) (H : Hp) (w' : Wd), Same w.F w'.F → w.θ <+: w'.θ → Wf K H w' → c w'.μ = true → ds[i]? = some d →
    J.go i H ∧ ∀ x H', J.yld i H x H' → ∃ w'', w''.μ = w'.μ ∧ Ext H w' H' w'' ∧ Wf K H' w'' ∧ Rep K w''.F w''.θ x d
  stop : ∀ (H : Hp) (w' : Wd), Same w.F w'.F → w.θ <+: w'.θ → Wf K H w' → c w'.μ = true → J.stop ds.length H
def tI (K : PySem.W.Frag) (mg : Str → Option Value) (W : WX) (f : IM) : TI := fun σ H R => ∃ ρ w, SR K σ H ρ w ∧
  Post K H w (f ρ w.μ) (fun p H' w' => ∀ J, Walk K w' J p.1 p.2 → R J H') (EW K mg W σ)
abbrev ID (X : Cx) (W : WX) (tg e : Expr) (f : IM) : Prop := PI X tg e (tI X.K X.mg W f)
theorem PI_imp {X : Cx} {tg e : Expr} {t t' : TI} (h : PI X tg e t) (hi : ∀ σ H R, t' σ H R → t σ H R) : PI X tg e t' := ⟨fun pins s σ H R I q => h.run pins s σ H R I (hi _ _ _ q)⟩
def always : Store → Bool := fun _ => true
/-- the list at n of the store still holds xs -/
def holds (n : Nat) (xs : List D) : Store → Bool := fun μ => decide (μ[n]? = some (.lst xs))
/-- a list or tuple as it stands -/
def gSeq (d : D) : M (List D × (Store → Bool)) := fun μ => match d with
  | .tup xs => .ok (xs, always) μ
  | .lst xs => .ok (xs, always) μ
  | .arg xs => .ok (xs, always) μ
  | .ptr n => match μ[n]? with
    | some (.lst xs) => .ok (xs, holds n xs) μ
    | _ => .bad
  | _ => .bad
def iSeq (f : Env → M D) : IM := fun ρ => Mbind (f ρ) gSeq
section
variable {X : Cx} {W : WX} {tg a b : Expr} {f h : Env → M D} {pos : Pos}
/-- a list or a tuple, by what comes -/
def wSeq (K : PySem.W.Frag) (tl : TE) : TI := fun σ H R => tl σ H fun x H1 => ∃ p, x = .ref p ∧ (((∃ xs, SqL K H1 p xs) ∧ R (Itl K p) H1) ∨ ((∃ xs, SqT K H1 p xs) ∧ R (Itt K p) H1))
theorem pi_seq {tl : TE} (hl : PE X a tl) : PI X tg a (wSeq X.K tl) := by
  constructor
  intro pins s σ H R I q0
  refine thn (hl.run pins s σ H _ I q0) fun v s1 ⟨x, H1, I1, r1, p, e, q1⟩ => ?_
  subst e
  cases r1
  have nw : ∀ b ∈ [s1.heap.objs.size], FpOk X pins H1 b := fun b hb => by
    rw [List.mem_singleton.mp hb]
    exact I1.fpOk (Nat.le_refl _) (I1.hok.fresh (Nat.le_refl _))
  rcases q1 with ⟨⟨xs, hq⟩, q⟩ | ⟨⟨xs, hq⟩, q⟩
  · obtain ⟨its, rv, pl, hz⟩ := I1.list hq
    exact wpAny_pyIter_list pl.isList ⟨_, [s1.heap.objs.size], _, _, H1, rfl, I1.kept (t' := s1.toks) fun b o e => Heap.get?_push_of_some _ e, turn_list p _, ⟨_, Heap.get?_push_size _ rfl, rfl, rfl⟩, nw, q⟩
  · obtain ⟨its, rv, pl, hz⟩ := I1.tuple hq
    exact wpAny_pyIter_tuple (show s1.heap.IsTuple p its.toArray from pl) ⟨_, [s1.heap.objs.size], _, _, H1, rfl, I1.kept (t' := s1.toks) fun b o e => Heap.get?_push_of_some _ e, turn_tuple p _, ⟨_, Heap.get?_push_size _ rfl, rfl, rfl⟩, nw, q⟩
theorem walk_lst {K : PySem.W.Frag} {w : Wd} {p : Addr} {xs : List D} {c : Store → Bool} (h : ∀ (H : Hp) (w' : Wd), Same w.F w'.F → w.θ <+: w'.θ → Wf K H w' → c w'.μ = true → ∃ vs, SqL K H p vs ∧ RepL K w'.F w'.θ vs xs) : Walk K w (Itl K p) xs c where
  go := fun i d H w' h1 h2 wf hc hd => by
    obtain ⟨vs, hs, r⟩ := h H w' h1 h2 wf hc
    obtain ⟨v, hv, rv⟩ := r.at hd
    refine ⟨⟨vs, v, hs, hv⟩, fun x H' ⟨e, y⟩ => ⟨w', rfl, by rw [e]; exact Ext.refl _ _, by rw [e]; exact wf, ?_⟩⟩
    have := y vs hs
    rw [hv] at this
    cases this
    exact rv
  stop := fun H w' h1 h2 wf hc => by
    obtain ⟨vs, hs, r⟩ := h H w' h1 h2 wf hc
    exact ⟨vs, hs, by rw [r.length]; exact Nat.le_refl _⟩
theorem walk_tup {K : PySem.W.Frag} {w : Wd} {p : Addr} {vs : List V} {xs : List D} {c : Store → Bool} (hs : SqT K w.F p vs) (r : RepL K w.F w.θ vs xs) : Walk K w (Itt K p) xs c where
  go := fun i d H w' h1 h2 wf hc hd => by
    have r' := r.mono h1 h2
    have hs' := same_sqt wf.same (same_sqt h1 hs)
    obtain ⟨v, hv, rv⟩ := r'.at hd
    refine ⟨⟨vs, v, hs', hv⟩, fun x H' ⟨e, y⟩ => ⟨w', rfl, by rw [e]; exact Ext.refl _ _, by rw [e]; exact wf, ?_⟩⟩
    have := y vs hs'
    rw [hv] at this
    cases this
    exact rv
  stop := fun H w' h1 h2 wf hc => ⟨vs, same_sqt wf.same (same_sqt h1 hs), by rw [r.length]; exact Nat.le_refl _⟩
/-- for x in e, e a list or a tuple -/
theorem id_seq (ha : ED X W a f) : ID X W tg a (iSeq f) :=
  PI_imp (pi_seq ha) fun σ H R ⟨ρ, w, S, P⟩ => tE_bind S P fun d v H1 w1 _ S1 r1 P1 => by
    cases d with
    | tup xs =>
      cases r1 with
      | tup h1 h2 => exact ⟨_, rfl, .inr ⟨⟨_, same_sqt S1.wf.same h1⟩, post_ret (show Post X.K H1 w1 (Mret (xs, always) w1.μ) _ _ from P1) S1.wf _ (walk_tup h1 h2)⟩⟩
    | lst xs =>
      cases r1 with
      | lst h1 h2 => exact ⟨_, rfl, .inl ⟨⟨_, SqL.of (S1.wf.same _ _ h1)⟩, post_ret (show Post X.K H1 w1 (Mret (xs, always) w1.μ) _ _ from P1) S1.wf _ (walk_lst fun H w' h3 h4 wf _ => ⟨_, SqL.of (wf.same _ _ (h3 _ _ h1)), h2.mono h3 h4⟩)⟩⟩
    | arg xs =>
      cases r1 with
      | arg h1 h2 => exact ⟨_, rfl, .inl ⟨⟨_, Same.seq S1.wf.same h1⟩, post_ret (show Post X.K H1 w1 (Mret (xs, always) w1.μ) _ _ from P1) S1.wf _ (walk_lst fun H w' h3 h4 wf _ => ⟨_, Same.seq wf.same (Same.seq h3 h1), h2.mono h3 h4⟩)⟩⟩
    | ptr n =>
      simp only [gSeq] at P1
      cases e1 : w1.μ[n]? with
      | none => rw [e1] at P1; exact P1.elim
      | some o =>
        rw [e1] at P1
        cases o with
        | ins C fs => exact P1.elim
        | lst xs =>
          obtain ⟨p, vs, rfl, h1, h2, h3⟩ := ptr_ok S1.wf r1 e1
          refine ⟨_, rfl, .inl ⟨⟨_, SqL.of h2⟩, post_ret (show Post X.K H1 w1 (Mret (xs, holds n xs) w1.μ) _ _ from P1) S1.wf _ (walk_lst fun H w' h4 h5 wf hc => ?_)⟩⟩
          have e2 : w'.μ[n]? = some (.lst xs) := of_decide_eq_true hc
          have e3 : w'.θ[n]? = some p := by
            obtain ⟨r, hr⟩ := h5
            rw [← hr, List.getElem?_append_left (List.getElem?_eq_some_iff.mp h1).1]
            exact h1
          obtain ⟨vs', h6, h7⟩ := wf.ob n p _ e3 e2
          exact ⟨vs', SqL.of h6, h7⟩
    | _ => exact P1.elim
/-! ### range -/
def rngD (lo : Int) (n : Nat) : List D := (List.range n).map fun i => .int (lo + (i : Nat))
def okR (i : Int) : Bool := decide (-(2 ^ 62) ≤ i) && decide (i < 2 ^ 62)
theorem okR_ok {i : Int} (h : okR i = true) : -(2 ^ 62) ≤ i ∧ i < 2 ^ 62 := by simpa [okR] using h
def kR1 : D → M (List D × (Store → Bool))
  | .int j => if okR j = true then Mret (rngD 0 j.toNat, always) else Mbad
  | _ => Mbad
def kR2 : D → D → M (List D × (Store → Bool))
  | .int i, .int j => if (okR i && okR j) = true then Mret (rngD i (j - i).toNat, always) else Mbad
  | _, _ => Mbad
def iRange1 (f : Env → M D) : IM := fun ρ => Mbind (f ρ) kR1
def iRange2 (f h : Env → M D) : IM := fun ρ => Mbind (f ρ) fun x => Mbind (h ρ) fun y => kR2 x y
theorem walk_range {K : PySem.W.Frag} {w : Wd} {lo : Int} {n : Nat} {c : Store → Bool} : Walk K w (Itr lo n) (rngD lo n) c where
  go := fun i d H w' h1 h2 wf hc hd => by
    simp only [rngD, List.getElem?_map, Option.map_eq_some_iff] at hd
    obtain ⟨j, hj, rfl⟩ := hd
    have hl : i < n := by
      have := (List.getElem?_eq_some_iff.mp hj).1
      simpa using this
    have e : j = i := by
      have := (List.getElem?_eq_some_iff.mp hj).2
      simpa using this.symm
    subst e
    refine ⟨hl, fun x H' ⟨e1, e2⟩ => ⟨w', rfl, by rw [e1]; exact Ext.refl _ _, by rw [e1]; exact wf, ?_⟩⟩
    subst e2
    exact .int _
  stop := fun H w' h1 h2 wf hc => by
    show n ≤ (rngD lo n).length
    simp [rngD]
theorem id_range1 {p : Pos} (hg : Gl X "range") (hm : X.mg "range" = none) (ha : ED X W a f) (hs : starEach [a] X.env = (false, eval a X.env) :: starEach [] X.env := by rfl) : ID X W tg (.Call (.Name "range" p) [a] [] pos) (iRange1 f) :=
  PI_imp (pi_range1 hg hm (ad_cons ha ad_nil hs) hs) fun σ H R ⟨ρ, w, S, P⟩ => by
    have e : iRange1 f ρ = Mbind (aCons f aNil ρ) fun ds => match ds with
      | [d] => kR1 d
      | _ => Mbad := by simp only [iRange1, aCons, aNil, mbind_assoc, mbind_ret]
    rw [e] at P
    refine tA_bind S P fun ds vs H1 w1 x1 S1 r1 P1 => ?_
    cases r1 with
    | nil => exact P1.elim
    | cons r1 r2 =>
      cases r2 with
      | cons r2 r3 => exact P1.elim
      | nil =>
        cases r1 with
        | int j =>
          simp only [kR1] at P1
          split at P1
          · rename_i hz
            exact ⟨j, rfl, (okR_ok hz).1, (okR_ok hz).2, post_ret P1 S1.wf _ walk_range⟩
          · exact P1.elim
        | _ => exact P1.elim
theorem id_range2 {p : Pos} (hg : Gl X "range") (hm : X.mg "range" = none) (ha : ED X W a f) (hb : ED X W b h) (hs : starEach [a, b] X.env = (false, eval a X.env) :: starEach [b] X.env := by rfl) (hs2 : starEach [b] X.env = (false, eval b X.env) :: starEach [] X.env := by rfl) :
    ID X W tg (.Call (.Name "range" p) [a, b] [] pos) (iRange2 f h) :=
  PI_imp (pi_range2 hg hm (ad_cons ha (ad_cons hb ad_nil hs2) hs) (by rw [hs, hs2]; rfl) hs2) fun σ H R ⟨ρ, w, S, P⟩ => by
    have e : iRange2 f h ρ = Mbind (aCons f (aCons h aNil) ρ) fun ds => match ds with
      | [d, d2] => kR2 d d2
      | _ => Mbad := by simp only [iRange2, aCons, aNil, mbind_assoc, mbind_ret]
    rw [e] at P
    refine tA_bind S P fun ds vs H1 w1 x1 S1 r1 P1 => ?_
    cases r1 with
    | nil => exact P1.elim
    | cons r1 r2 =>
      cases r2 with
      | nil => exact P1.elim
      | cons r2 r3 =>
        cases r3 with
        | cons r2 r3 => exact P1.elim
        | nil =>
          cases r1 with
          | int i =>
            cases r2 with
            | int j =>
              simp only [kR2] at P1
              split at P1
              · rename_i hz
                rw [Bool.and_eq_true] at hz
                exact ⟨i, j, rfl, ⟨(okR_ok hz.1).1, (okR_ok hz.1).2, (okR_ok hz.2).1, (okR_ok hz.2).2⟩, post_ret P1 S1.wf _ walk_range⟩
              · exact P1.elim
            | _ => exact P1.elim
          | _ => exact P1.elim
/-! ### for, while -/
theorem for_ok {K : PySem.W.Frag} {mg : Str → Option Value} {c : Store → Bool} {g : GM} {body : SM} {ix : List Nat} {De : Ends} {σ : L2.St} {H : Hp} {w : Wd} {J : It} {ds : List D} {ρ : Env} (wk : Walk K w J ds c) (S : SR K σ H ρ w)
    (P : Post K H w (forL c g body ds ρ w.μ) (FlR K De) (EWs K mg W)) :
    ∃ V : Nat → Nat → L2.St → Hp → Prop, (∃ m, V 0 m σ H) ∧ ∀ i m σ H, V i m σ H →
      (J.stop i H ∧ De.nx σ H) ∨ (J.go i H ∧ ∃ N : L2.St → Hp → Prop, (∀ σ' H', N σ' H' → ∃ m', m' < m ∧ V (i + 1) m' σ' H') ∧ ∀ x H', J.yld i H x H' → tG K ix g x σ H' fun σ2 H2 => tS K mg W body { De with nx := N, ct := N, bk := De.nx } σ2 H2) := by
  refine ⟨fun i m σ' H' => m = ds.length - i ∧ i ≤ ds.length ∧ ∃ ρ' w', SR K σ' H' ρ' w' ∧ Ext H w H' w' ∧ Post K H' w' (forL c g body (ds.drop i) ρ' w'.μ) (FlR K De) (EWs K mg W), ⟨ds.length, by simp, Nat.zero_le _, ρ, w, S, Ext.refl _ _, P⟩, ?_⟩
  rintro i m σ' H' ⟨rfl, hi, ρ', w', S', x', P'⟩
  by_cases hlt : i < ds.length
  · have e1 : ds.drop i = ds[i] :: ds.drop (i + 1) := List.drop_eq_getElem_cons hlt
    rw [e1] at P'
    simp only [forL] at P'
    by_cases hc : c w'.μ = true
    · rw [if_pos hc] at P'
      obtain ⟨h1, h2⟩ := wk.go i ds[i] H' w' x'.frz x'.ids S'.wf hc (List.getElem?_eq_getElem hlt)
      refine .inr ⟨h1, fun σ2 H2 => ∃ ρ2 w2, SR K σ2 H2 ρ2 w2 ∧ Ext H w H2 w2 ∧ Post K H2 w2 (forL c g body (ds.drop (i + 1)) ρ2 w2.μ) (FlR K De) (EWs K mg W), fun σ2 H2 ⟨ρ2, w2, S2, x2, P2⟩ => ⟨ds.length - (i + 1), by omega, rfl, by omega, ρ2, w2, S2, x2, P2⟩, fun x H2 hy => ?_⟩
      obtain ⟨w2, em, x2, wf2, r2⟩ := h2 x H2 hy
      have P2 := P'.ext x2
      rw [← em] at P2
      refine ⟨ds[i], ρ', w2, _, S'.ext x2 wf2, r2, (post_bind P2).imp (fun ρ3 H3 w3 x3 wf3 q σ3 S3 _ => ?_) fun _ _ _ _ _ q => q⟩
      refine ⟨ρ3, w3, S3, (post_bind q).imp (fun fl H4 w4 x4 wf4 q4 => ?_) fun _ _ _ _ _ q => q⟩
      have xx : Ext H w H4 w4 := ((x'.trans x2).trans x3).trans x4
      cases fl with
      | nx ρ4 => exact fun σ4 S4 => ⟨ρ4, w4, S4, xx, q4⟩
      | ct ρ4 => exact fun σ4 S4 => ⟨ρ4, w4, S4, xx, q4⟩
      | bk ρ4 => exact fun σ4 S4 => post_ret (show Post K H4 w4 (Mret (Fl.nx ρ4) w4.μ) (FlR K De) (EWs K mg W) from q4) wf4 σ4 S4
      | ret d => exact fun v r => post_ret (show Post K H4 w4 (Mret (Fl.ret d) w4.μ) (FlR K De) (EWs K mg W) from q4) wf4 v r
    · rw [if_neg hc] at P'
      exact P'.elim
  · have e : i = ds.length := by omega
    subst e
    rw [List.drop_length] at P'
    simp only [forL] at P'
    by_cases hc : c w'.μ = true
    · rw [if_pos hc] at P'
      exact .inl ⟨wk.stop H' w' x'.frz x'.ids S'.wf hc, P' H' w' rfl (Ext.refl _ _) S'.wf σ' S'⟩
    · rw [if_neg hc] at P'
      exact P'.elim
theorem sd_for {it : IM} {ix : List Nat} {g : GM} {body : SM} {bs : List Stmt} (hp : PassesOwn (model X.prog X.w) X.A X.env X.xe) (hc : X.calm = true) (hi : ID X W tg a it) (hg : GD X ix tg g) (hb : SDs X W bs body)
    (hs : ∀ x, foldedSetIterable a X.env x = pure x := by intro _; rfl) : SD X W (.For tg a bs [] pos) (sFor it g body) :=
  PS_imp (ps_for hp hc hi hg hb hs) fun D σ H ⟨ρ, w, S, P⟩ => ⟨ρ, w, S, (post_bind P).imp (fun p H1 w1 x1 wf1 q J wk => for_ok wk (S.ext x1 wf1) q) fun _ _ _ _ _ q => q σ⟩
theorem while_ok {K : PySem.W.Frag} {mg : Str → Option Value} {c : Env → M Bool} {body : SM} {D : Ends} : ∀ (n : Nat) {σ : L2.St} {H : Hp} {w : Wd} {ρ : Env} (S : SR K σ H ρ w)
    (P : Post K H w (whileF c body n ρ w.μ) (FlR K D) (EWs K mg W)), tWhile (tT K mg W c) (tS K mg W body) D σ H := fun n {σ H w ρ} S P => by
  refine ⟨fun m σ H => ∃ ρ w, SR K σ H ρ w ∧ Post K H w (whileF c body m ρ w.μ) (FlR K D) (EWs K mg W), ⟨n, ρ, w, S, P⟩, ?_⟩
  rintro m σ H ⟨ρ, w, S, P⟩
  cases m with
  | zero => exact P.elim
  | succ m =>
    refine tT_bindS S P fun bb H1 w1 x1 S1 P1 => ?_
    cases bb with
    | true =>
      refine ⟨fun σ2 H2 => ∃ ρ w, SR K σ2 H2 ρ w ∧ Post K H2 w (whileF c body m ρ w.μ) (FlR K D) (EWs K mg W), fun σ2 H2 h => ⟨m, Nat.lt_succ_self _, h⟩, ρ, w1, S1, (post_bind P1).imp (fun fl H4 w4 x4 wf4 q4 => ?_) fun _ _ _ _ _ q => q⟩
      cases fl with
      | nx ρ4 => exact fun σ4 S4 => ⟨ρ4, w4, S4, q4⟩
      | ct ρ4 => exact fun σ4 S4 => ⟨ρ4, w4, S4, q4⟩
      | bk ρ4 => exact fun σ4 S4 => post_ret (show Post K H4 w4 (Mret (Fl.nx ρ4) w4.μ) (FlR K D) (EWs K mg W) from q4) wf4 σ4 S4
      | ret d => exact fun v r => post_ret (show Post K H4 w4 (Mret (Fl.ret d) w4.μ) (FlR K D) (EWs K mg W) from q4) wf4 v r
    | false => exact post_ret P1 S1.wf σ S1
theorem sd_while {c : Env → M Bool} {e : Expr} {body : SM} {bs : List Stmt} (fuel : Env → Store → Nat) (hp : PassesOwn (model X.prog X.w) X.A X.env X.xe) (hc : TD X W e c) (hb : SDs X W bs body) : SD X W (.While e bs [] pos) (sWhile fuel c body) :=
  PS_imp (ps_while hp hc hb) fun D σ H ⟨ρ, w, S, P⟩ => while_ok _ S P
end
end DL
namespace DL
open PySem PySem.Spec PyProof.Rows L2
/-! ### comprehensions: nothing that is raised leaves them -/
def Mno {α : Type} (m : M α) : M α := fun μ => match m μ with
  | .ex _ _ => .bad
  | r => r
def compL (c : Store → Bool) (g : GM) (t : Env → M Bool) (f : Env → M D) (ρ : Env) : List D → List D → M (List D)
  | [], acc => fun μ => if c μ = true then .ok acc μ else .bad
  | d :: ds, acc => fun μ => if c μ = true then Mbind (Mno (g d ρ)) (fun ρ1 => Mbind (Mno (t ρ1)) fun b => if b = true then
      Mbind (Mno (f ρ1)) fun y => if acc.length < sizeLine then compL c g t f ρ ds (acc ++ [y]) else Mbad
    else compL c g t f ρ ds acc) μ else .bad
def wipeE (ρ : Env) : List Nat → Env
  | [] => ρ
  | v :: vs => (wipeE ρ vs).set v none
def eLc (mu : Bool) (it : IM) (g : GM) (t : Env → M Bool) (f : Env → M D) (vs : List Nat) : Env → M D := fun ρ => Mbind (it ρ) fun p => Mbind (compL p.2 g t f (wipeE ρ vs) p.1 []) (retL mu)
def tYesM : Env → M Bool := fun _ => Mret true
abbrev W0 : WX := fun _ _ _ _ => False
/-! ### a heap but for one thing -/
def del (H : Hp) (a : Addr) : Hp := fun b => if b = a then none else H b
theorem del_self {H : Hp} {a : Addr} : del H a a = none := by simp [del]
theorem del_ne {H : Hp} {a b : Addr} (h : b ≠ a) : del H a b = H b := by simp [del, h]
theorem upd_del {H : Hp} {a : Addr} {o : HO} (h : H a = some o) : upd (del H a) a o = H := by
  funext b
  by_cases e : b = a
  · subst e; rw [upd_same]; exact h.symm
  · rw [upd_ne e, del_ne e]
theorem del_upd {H : Hp} {a : Addr} {o : HO} (h : H a = none) : del (upd H a o) a = H := by
  funext b
  by_cases e : b = a
  · subst e; rw [del_self]; exact h.symm
  · rw [del_ne e, upd_ne e]
section
variable {K : PySem.W.Frag} {H H' : Hp} {w w' : Wd} {a : Addr} {o : HO} {α : Type}
theorem Ext.del (x : Ext H w H' w') : Ext (del H a) w (del H' a) w' := by
  refine ⟨x.frz, x.ids, fun b h => x.old b fun e => h ?_, fun b u h hb => ?_, fun b h => ?_, fun b h hb => ?_⟩
  · by_cases q : b = a
    · subst q; exact del_self
    · rw [del_ne q]; exact e
  · by_cases q : b = a
    · subst q; rw [del_self] at h; cases h
    · rw [del_ne q] at h ⊢; exact x.keep b u h hb
  · by_cases q : b = a
    · subst q; exact absurd del_self h
    · rw [del_ne q] at h ⊢; exact x.live b h
  · by_cases q : b = a
    · subst q; exact del_self
    · rw [del_ne q]; exact x.new b h hb
theorem Wf.del (wf : Wf K H w) (h1 : w.F a = none) (h2 : a ∉ w.θ) : Wf K (del H a) w := by
  refine ⟨fun b u h => ?_, wf.len, wf.nd, wf.out, fun i b u h h' => ?_⟩
  · have : b ≠ a := fun e => by subst e; rw [h1] at h; cases h
    rw [del_ne this]; exact wf.same b u h
  · have : b ≠ a := fun e => h2 (by rw [← e]; exact List.mem_of_getElem? h)
    exact (wf.ob i b u h h').mono (Same.refl _) (List.prefix_refl _) (del_ne this)
/-- beside a thing that nobody knows -/
theorem Wf.beside (wf : Wf K H w) (ha : H a = none) : Wf K (upd H a o) w := by
  refine ⟨fun b u h => ?_, wf.len, wf.nd, wf.out, fun i b u h h' => ?_⟩
  · exact same_upd_new ha b u (wf.same b u h)
  · have : b ≠ a := fun e => wf.live (List.mem_of_getElem? h) (by rw [e]; exact ha)
    exact (wf.ob i b u h h').mono (Same.refl _) (List.prefix_refl _) (upd_ne this)
/-- beside the thing at a -/
structure Bes (H : Hp) (w : Wd) (a : Addr) (o : HO) : Prop where
  h : H a = some o
  f : w.F a = none
  t : a ∉ w.θ
theorem Bes.ext (b : Bes H w a o) (x : Ext H w H' w') : Bes H' w' a o :=
  ⟨x.keep a o b.h b.t, by rw [x.old a (by rw [b.h]; simp)]; exact b.f, fun hm => by
    have := x.new a hm b.t
    rw [b.h] at this; cases this⟩
theorem Wf.bes (wf : Wf K H w) (ha : H a = none) : Bes (upd H a o) w a o := ⟨upd_same, wf.frz_new ha, fun h => wf.live h ha⟩
theorem post_under {r : Res α} {Q : α → Hp → Wd → Prop} {E E' : Ex → Hp → Wd → Prop} {m : M α} {μ : Store} (b : Bes H w a o) (P : Post K (del H a) w (Mno m μ) Q E) :
    Post K H w (m μ) (fun z H' w' => Q z (DL.del H' a) w') E' := by
  simp only [Mno] at P
  cases e : m μ with
  | ok z μ' =>
    rw [e] at P
    intro H' w' e1 x wf
    have b' := b.ext x
    exact P _ w' e1 x.del (wf.del b'.f b'.t)
  | ex e μ' => rw [e] at P; exact P.elim
  | bad => rw [e] at P; exact P.elim
end
theorem wipeE_length (ρ : Env) : ∀ vs : List Nat, (wipeE ρ vs).length = ρ.length
  | [] => rfl
  | v :: vs => by unfold wipeE; rw [List.length_set, wipeE_length ρ vs]
theorem SR.wipe {K : PySem.W.Frag} {σ : L2.St} {H : Hp} {ρ : Env} {w : Wd} (S : SR K σ H ρ w) : ∀ vs : List Nat, SR K (L2.wipe σ vs) H (wipeE ρ vs) w
  | [] => S
  | v :: vs => by
    have S' := S.wipe vs
    refine ⟨S'.wf, ?_, fun j e h => ?_⟩
    · unfold wipeE L2.wipe
      rw [List.length_set, List.length_set]; exact S'.len
    · unfold wipeE at h
      unfold L2.wipe
      by_cases hj : v = j
      · subst hj
        by_cases hl : v < (wipeE ρ vs).length
        · rw [List.getElem?_set_self hl] at h; cases h
        · rw [List.getElem?_eq_none (by simpa using hl)] at h; cases h
      · rw [List.getElem?_set_ne hj] at h ⊢
        exact S'.val j e h
theorem wipe_ag {σ σ' : L2.St} : ∀ {vs : List Nat}, Ag vs σ σ' → L2.wipe σ' vs = L2.wipe σ vs := fun {vs} a => by
  have main : ∀ (vs us : List Nat), (∀ v ∈ us, v ∈ vs) → Ag vs σ σ' → ∀ j : Nat, (j ∈ us ∨ j ∉ vs) → (L2.wipe σ' us)[j]? = (L2.wipe σ us)[j]? := by
    intro vs us
    induction us with
    | nil =>
      intro _ a j hj
      rcases hj with hj | hj
      · cases hj
      · exact a.2 j hj
    | cons u us ih =>
      intro hs a j hj
      unfold L2.wipe
      by_cases e : u = j
      · subst e
        by_cases hl : u < (L2.wipe σ us).length
        · have hl' : u < (L2.wipe σ' us).length := by rw [wipe_length] at hl ⊢; rw [a.1]; exact hl
          rw [List.getElem?_set_self hl, List.getElem?_set_self hl']
        · have hl' : ¬ u < (L2.wipe σ' us).length := by rw [wipe_length] at hl ⊢; rw [a.1]; exact hl
          rw [List.getElem?_eq_none (by simpa using hl'), List.getElem?_eq_none (by simpa using hl)]
      · rw [List.getElem?_set_ne e, List.getElem?_set_ne e]
        refine ih (fun v hv => hs v (List.mem_cons_of_mem _ hv)) a j ?_
        rcases hj with hj | hj
        · rcases List.mem_cons.mp hj with q | q
          · exact absurd q.symm e
          · exact .inl q
        · exact .inr hj
  apply List.ext_getElem?
  intro j
  by_cases h : j ∈ vs
  · exact main vs vs (fun _ h => h) a j (.inl h)
  · exact main vs vs (fun _ h => h) a j (.inr h)
theorem ag_wipe (σ : L2.St) (vs : List Nat) : ∀ us : List Nat, (∀ v ∈ us, v ∈ vs) → Ag vs σ (L2.wipe σ us)
  | [], _ => Ag.refl _ _
  | u :: us, h => by
    have a := ag_wipe σ vs us fun v hv => h v (List.mem_cons_of_mem _ hv)
    exact a.trans (Ag.set (h u List.mem_cons_self) _ _)
theorem lc_ok {K : PySem.W.Frag} {mg : Str → Option Value} {W : WX} {mu : Bool} {it : IM} {g : GM} {t : Env → M Bool} {f : Env → M D} {vs : List Nat} {σ : L2.St} {H : Hp} {Q : VK} (q : tE K mg W (eLc mu it g t f vs) σ H Q) :
    tLc (tI K mg W it) (tG K vs g) (tT K mg W0 t) (tE K mg W0 f) vs σ H Q := by
  obtain ⟨ρ, w, S, P⟩ := q
  refine ⟨ρ, w, S, (post_bind P).imp (fun p H1 w1 x1 wf1 q J wk a ha => ?_) fun _ _ _ _ _ q => q⟩
  have S1 := S.ext x1 wf1
  let Wv : Nat → Nat → Hp → Prop := fun i m Hc => m = p.1.length - i ∧ i ≤ p.1.length ∧ ∃ acc us Ho w', Hc = upd Ho a (.lst us) ∧ Ho a = none ∧ RepL K w'.F w'.θ us acc ∧ Wf K Ho w' ∧ Ext H1 w1 Ho w' ∧
    Post K Ho w' (compL p.2 g t f (wipeE ρ vs) (p.1.drop i) acc w'.μ) (fun ys H2 w2 => Post K H2 w2 (retL mu ys w2.μ) (QV K Q) (EW K mg W σ)) (EW K mg W σ)
  refine ⟨Wv, ⟨p.1.length, by simp, Nat.zero_le _, [], [], H1, w1, rfl, ha, .nil, wf1, Ext.refl _ _, post_bind q⟩, ?_⟩
  rintro i m Hc ⟨rfl, hi, acc, us, Ho, w', rfl, hoa, ra, wfo, xo, P'⟩
  have wfc : Wf K (upd Ho a (.lst us)) w' := wfo.beside hoa
  have bes : Bes (upd Ho a (.lst us)) w' a (.lst us) := wfo.bes hoa
  by_cases hlt : i < p.1.length
  · have e1 : p.1.drop i = p.1[i] :: p.1.drop (i + 1) := List.drop_eq_getElem_cons hlt
    rw [e1] at P'
    simp only [compL] at P'
    by_cases hc : p.2 w'.μ = true
    · rw [if_pos hc] at P'
      obtain ⟨h1, h2⟩ := wk.go i p.1[i] _ w' xo.frz xo.ids wfc hc (List.getElem?_eq_getElem hlt)
      refine .inr ⟨h1, fun Hn => ∃ m', m' < p.1.length - i ∧ Wv (i + 1) m' Hn, fun H' h => h, fun x H2 hy => ?_⟩
      obtain ⟨w2, em, x2, wf2, r2⟩ := h2 x H2 hy
      have bes2 := bes.ext x2
      have hx2 : Ext Ho w' (del H2 a) w2 := by
        have := x2.del (a := a)
        rw [del_upd hoa] at this
        exact this
      have P2 := P'.ext hx2
      rw [← em] at P2
      have Sw : SR K (L2.wipe σ vs) H2 (wipeE ρ vs) w2 := by
        have := (S1.wipe vs)
        refine ⟨wf2, this.len, fun j d h => ?_⟩
        obtain ⟨v, h3, h4⟩ := this.val j d h
        exact ⟨v, h3, (xo.trans hx2).rep h4⟩
      have next : ∀ {acc' : List D} {us' : List V} {H5 : Hp} {w5 : Wd}, Ext H2 w2 H5 w5 → Wf K H5 w5 → RepL K w5.F w5.θ us' acc' → Post K (del H5 a) w5 (compL p.2 g t f (wipeE ρ vs) (p.1.drop (i + 1)) acc' w5.μ) (fun ys H2 w2 => Post K H2 w2 (retL mu ys w2.μ) (QV K Q) (EW K mg W σ)) (EW K mg W σ) →
          ∃ m', m' < p.1.length - i ∧ Wv (i + 1) m' (upd H5 a (.lst us')) := fun {acc' us' H5 w5} x5 wf5 r5 P5 => by
        have b5 := bes2.ext x5
        refine ⟨p.1.length - (i + 1), by omega, rfl, by omega, acc', us', del H5 a, w5, ?_, del_self, r5, wf5.del b5.f b5.t, (xo.trans hx2).trans x5.del, P5⟩
        funext b
        by_cases e : b = a
        · subst e; rw [upd_same, upd_same]
        · rw [upd_ne e, upd_ne e, del_ne e]
      refine ⟨p.1[i], wipeE ρ vs, w2, (fun _ _ _ => False), Sw, r2, (post_under (r := .bad) (E' := fun _ _ _ => False) bes2 (post_bind P2)).imp (fun ρ3 H3 w3 x3 wf3 q3 σ3 S3 ag => ⟨wipe_ag ag |>.trans (wipe_ag (ag_wipe σ vs vs fun _ h => h)), ?_⟩) fun _ _ _ _ _ q => q⟩
      have bes3 := bes2.ext x3
      refine ⟨ρ3, w3, S3, (post_under (r := .bad) bes3 (post_bind q3)).imp (fun b H4 w4 x4 wf4 q4 => ?_) fun _ _ _ _ _ q => q⟩
      have bes4 := bes3.ext x4
      cases b with
      | false =>
        have := next (us' := us) (x3.trans x4) wf4 ((((x2.trans x3).trans x4)).repL ra) q4
        rw [show upd H4 a (.lst us) = H4 from by
          funext b
          by_cases e : b = a
          · subst e; rw [upd_same]; exact bes4.h.symm
          · rw [upd_ne e]] at this
        exact this
      | true =>
        refine ⟨ρ3, w4, S3.ext x4 wf4, (post_under (r := .bad) bes4 (post_bind q4)).imp (fun y H5 w5 x5 wf5 q5 v rv => ?_) fun _ _ _ _ _ q => q⟩
        have bes5 := bes4.ext x5
        by_cases hz : acc.length < sizeLine
        · rw [if_pos hz] at q5
          refine ⟨us, bes5.h, by rw [ra.length]; exact hz, ?_⟩
          exact next ((x3.trans x4).trans x5) wf5 (((((x2.trans x3).trans x4).trans x5).repL ra).append (.cons rv .nil)) q5
        · rw [if_neg hz] at q5; exact q5.elim
    · rw [if_neg hc] at P'; exact P'.elim
  · have e : i = p.1.length := by omega
    subst e
    rw [List.drop_length] at P'
    simp only [compL] at P'
    by_cases hc : p.2 w'.μ = true
    · rw [if_pos hc] at P'
      have P2 := P' Ho w' rfl (Ext.refl _ _) wfo
      refine .inl ⟨wk.stop _ w' xo.frz xo.ids wfc hc, ?_⟩
      simp only [retL] at P2
      cases mu with
      | true => exact post_mut P2 wfo hoa ra
      | false => exact post_lst P2 wfo hoa ra
    · rw [if_neg hc] at P'; exact P'.elim
end DL
namespace DL
open PySem PySem.Spec PyProof.Rows L2
section
variable {X : Cx} {W : WX} {tg iter elt : Expr} {ifs : List Expr} {scope : Scope} {own : List (Str × Nat)} {it : IM} {g : GM} {t : Env → M Bool} {f : Env → M D} {pos : Pos}
theorem ed_lc (mu : Bool) (hc : X.calm = true) (hN : X.N.Nodup) (hi : ID X W tg iter it) (ok : BlkOk X.N X.env.scope scope own)
    (hg : ∀ (s : Shared) (H : Hp) (C : Addr) (cl : List (Str × Addr)) (fp : List Addr), GD (X.blk s H scope (compEnvC scope cl C X.env) fp) (own.map (·.2)) tg g)
    (ht : ∀ (s : Shared) (H : Hp) (C : Addr) (cl : List (Str × Addr)) (fp : List Addr), PTs (X.blk s H scope (compEnvC scope cl C X.env) fp) ifs (tT X.K X.mg W0 t))
    (he : ∀ (s : Shared) (H : Hp) (C : Addr) (cl : List (Str × Addr)) (fp : List Addr), ED (X.blk s H scope (compEnvC scope cl C X.env) fp) W0 elt f)
    (hs : ∀ x, foldedSetIterable iter X.env x = pure x := by intro _; rfl) : ED X W (.ListComp elt [⟨tg, iter, ifs, 0⟩] scope pos) (eLc mu it g t f (own.map (·.2))) :=
  PE_imp (pe_lc hc hN hi ok hg ht he hs) fun σ H Q q => lc_ok q
theorem pts_nilD : PTs X [] (tT X.K X.mg W tYesM) := ⟨fun pins s σ H Q I ⟨ρ, w, S, P⟩ => pts_nil.run pins s σ H Q I (post_ret P S.wf)⟩
theorem pts_oneD {c : Expr} (h : TD X W c t) : PTs X [c] (tT X.K X.mg W t) := pts_one h
theorem sd_setLc {i : Nat} {y : Str} {py spos : Pos} (mu : Bool) (hc : X.calm = true) (hN : X.N.Nodup) (hy : X.N[i]? = some y) (hyl : X.env.scope.names.lookup y = some .local)
    (hsw : swapsWith (.ListComp elt [⟨tg, iter, ifs, 0⟩] scope pos) (some (.Name y py)) spos.line X.env = pure true) (hi : ID X W tg iter it) (ok : BlkOk X.N X.env.scope scope own)
    (hg : ∀ (s : Shared) (H : Hp) (C : Addr) (cl : List (Str × Addr)) (fp : List Addr), GD (X.blk s H scope (compEnvC scope cl C X.env) fp) (own.map (·.2)) tg g)
    (ht : ∀ (s : Shared) (H : Hp) (C : Addr) (cl : List (Str × Addr)) (fp : List Addr), PTs (X.blk s H scope (compEnvC scope cl C X.env) fp) ifs (tT X.K X.mg W0 t))
    (he : ∀ (s : Shared) (H : Hp) (C : Addr) (cl : List (Str × Addr)) (fp : List Addr), ED (X.blk s H scope (compEnvC scope cl C X.env) fp) W0 elt f)
    (hs : ∀ x, foldedSetIterable iter X.env x = pure x := by intro _; rfl) : SD X W (.Assign [.Name y py] (.ListComp elt [⟨tg, iter, ifs, 0⟩] scope pos) spos) (sSet i (eLc mu it g t f (own.map (·.2)))) :=
  PS_imp (ps_setLc hc hN hy hyl hsw hi ok hg ht he hs) fun De σ H ⟨ρ, w, S, P⟩ => lc_ok (W := W) (show tE X.K X.mg W _ σ H _ from tE_bindS S P fun d v H1 w1 x1 S1 r1 P1 => post_ret P1 S1.wf _ (S1.set r1))
end
/-! ### defs -/
def tag (n : Nat) (F : List D → M D) : Prop := ∀ ds μ, ds.length ≠ n → F ds μ = .bad
def spM (K : PySem.W.Frag) (mg : Str → Option Value) (F : List D → M D) : Sp := fun vs H Q E => ∃ ds w, Wf K H w ∧ RepL K w.F w.θ vs ds ∧
  Post K H w (F ds w.μ) (QV K Q) (fun e H' w' => ∀ c dd, ExR K mg H' w' e c dd → E c dd H')
/-- a def's mirror by its body's: n parameters, m names -/
def defM (n m : Nat) (body : SM) : List D → M D := fun ds => if ds.length = n then Mbind (body (ds.map some ++ List.replicate (m - n) none)) fun fl => match fl with
  | .ret d => Mret d
  | .nx _ => Mret .non
  | _ => Mbad
  else Mbad
theorem defM_tag (n m : Nat) (body : SM) : tag n (defM n m body) := fun ds μ h => by unfold defM; rw [if_neg h]; rfl
abbrev WE0 (E : XK) : WX := fun c d _ H => E c d H
section
variable {P : Program} {w : World} {K : PySem.W.Frag} {mg : Str → Option Value} {base : Heap} {x qual : Str} {params : Arguments} {body : List Stmt} {scope : Scope} {f : Addr} {fd : FuncData}
theorem repL_start {F : Hp} {θ : List Addr} {m : Nat} : ∀ {vs : List V} {ds : List D}, RepL K F θ vs ds → ∀ (i : Nat) (d : D), (ds.map some ++ List.replicate m none)[i]? = some (some d) → ∃ v, (vs.map some ++ List.replicate m none)[i]? = some (some v) ∧ Rep K F θ v d := by
  intro vs ds r i d h
  have hl := r.length
  rcases Nat.lt_or_ge i ds.length with hi | hi
  · rw [List.getElem?_append_left (by simpa using hi)] at h
    rw [List.getElem?_append_left (by simpa [hl] using hi)]
    rw [List.getElem?_map] at h
    cases e : ds[i]? with
    | none => rw [e] at h; cases h
    | some z =>
      rw [e] at h
      cases h
      obtain ⟨v, h1, h2⟩ := r.at e
      exact ⟨v, by rw [List.getElem?_map, h1]; rfl, h2⟩
  · rw [List.getElem?_append_right (by simpa using hi)] at h
    have := List.mem_of_getElem? h
    rw [List.mem_replicate] at this
    exact nomatch this.2
theorem fn_okD {N ps : List Str} {k : Nat} {s : SM} (F : FunD K x qual params body scope [] [] f fd) (S : FnScope N ps scope) (hn : ps.length ≤ N.length)
    (hb : ∀ (cdv : Value) (A : Around) (outer : List PySem.Env) (s0 : Shared) (H : Hp) (E : XK), Room k (A.deeper (envOfC qual scope s0.heap.objs.size f cdv)) →
      SDs (cxOf (L2.CX P w) P w K mg base N qual scope f cdv A outer s0 H E) (WE0 E) body s) : FnOk P w K mg base (L2.CX P w) (k + 1) f fd ps (spM K mg (defM ps.length N.length s)) := by
  refine F.ok S (fun vs H Q E ⟨ds, w, wf, r, P⟩ => ?_) fun cdv A outer s0 H vs Q E hr ⟨ds, w, wf, r, P⟩ => ⟨_, hb cdv A outer s0 H E hr, ?_⟩
  · rw [r.length]
    refine Decidable.byContradiction fun h => ?_
    rw [defM_tag _ _ _ ds w.μ h] at P
    exact P
  · have hl : ds.length = ps.length := Decidable.byContradiction fun h => by
      rw [defM_tag _ _ _ ds w.μ h] at P
      exact P
    have hv : vs.length = ps.length := r.length.trans hl
    unfold defM at P
    rw [if_pos hl] at P
    refine ⟨ds.map some ++ List.replicate (N.length - ps.length) none, w, ⟨wf, ?_, ?_⟩, (post_bind P).imp (fun fl H1 w1 x1 wf1 q => ?_) fun e H1 w1 x1 wf1 q σ c dd r => q c dd r⟩
    · unfold L2.start
      simp only [List.length_append, List.length_map, List.length_replicate, hl, hv]
    · unfold L2.start
      rw [hv]
      exact repL_start r
    · cases fl with
      | ret d => exact fun v r => post_ret (show Post K H1 w1 (Mret d w1.μ) (QV K Q) _ from q) wf1 v r
      | nx ρ => exact fun σ S => post_ret (show Post K H1 w1 (Mret D.non w1.μ) (QV K Q) _ from q) wf1 _ .non
      | bk ρ => exact q.elim
      | ct ρ => exact q.elim
end
section
variable {X : Cx} {W : WX} {e : Expr} {es : List Expr} {t : Env → M (List D)} {x : Str} {k : Nat} {f : Addr} {fd : FuncData} {ps : List Str} {p pos : Pos} {G : List D → M D}
theorem ed_call (F : FnOk X.prog X.w X.K X.mg X.base (L2.CX X.prog X.w) k f fd ps (spM X.K X.mg G)) (hr : Room k X.A) (hg : Gl X x) (hm : X.mg x = some (.ref f)) (hk : PySem.W.keepIn X.K (.ref f) = true) (hb : Binds X.K fd ps []) (tk : Takes X W)
    (ha : AD X W (e :: es) t) (hdb : (x == ("__debug__" : Str)) = false := by decide) (he : starEach (e :: es) X.env = (false, eval e X.env) :: starEach es X.env := by rfl) (hpl : (backTo pos (starEach es X.env)).any (·.1) = false := by rfl) :
    ED X W (.Call (.Name x p) (e :: es) [] pos) (eCall G t) :=
  PE_imp (pe_callS F hr hg hm hk hb (fun σ => passAt tk σ) ha hdb he hpl) fun σ H Q ⟨ρ, w, S, P⟩ => tA_bind S P fun ds vs H1 w1 x1 S1 r1 P1 => ⟨ds, w1, S1.wf, r1, P1⟩
end
/-! ### a def that shows nothing of its store -/
mutual
def noPtr : D → Bool
  | .tup xs => noPtrL xs
  | .lst xs => noPtrL xs
  | .arg xs => noPtrL xs
  | .ptr _ => false
  | _ => true
def noPtrL : List D → Bool
  | [] => true
  | x :: xs => noPtr x && noPtrL xs
end
mutual
theorem Rep.any {K : PySem.W.Frag} {F : Hp} {θ θ' : List Addr} : ∀ {v : V} (d : D), noPtr d = true → Rep K F θ v d → Rep K F θ' v d
  | _, .non, _, h => by cases h; exact .non
  | _, .bl _, _, h => by cases h; exact .bl _
  | _, .int _, _, h => by cases h; exact .int _
  | _, .str _, _, h => by cases h; exact .str _
  | _, .tup ds, e, h => by
    cases h with
    | tup h1 h2 => exact .tup h1 (RepL.any ds (by simpa [noPtr] using e) h2)
  | _, .lst ds, e, h => by
    cases h with
    | lst h1 h2 => exact .lst h1 (RepL.any ds (by simpa [noPtr] using e) h2)
  | _, .arg ds, e, h => by
    cases h with
    | arg h1 h2 => exact .arg h1 (RepL.any ds (by simpa [noPtr] using e) h2)
  | _, .ptr n, e, h => by cases e
  | _, .raw _, _, h => by cases h; exact .raw _
theorem RepL.any {K : PySem.W.Frag} {F : Hp} {θ θ' : List Addr} : ∀ {vs : List V} (ds : List D), noPtrL ds = true → RepL K F θ vs ds → RepL K F θ' vs ds
  | _, [], _, h => by cases h; exact .nil
  | _, d :: ds, e, h => by
    rw [noPtrL, Bool.and_eq_true] at e
    cases h with
    | cons h1 h2 => exact .cons (Rep.any d e.1 h1) (RepL.any ds e.2 h2)
end
/-- what is handed out: a list that was changed is handed out as it stands -/
def frzD (μ : Store) : D → Option D
  | .ptr n => match μ[n]? with
    | some (.lst xs) => if noPtrL xs = true then some (.lst xs) else none
    | _ => none
  | d => if noPtr d = true then some d else none
def pureM (F : List D → M D) : List D → M D := fun ds μ => if noPtrL ds = true then match F ds [] with
  | .ok d μ' => match frzD μ' d with
    | some d' => .ok d' μ
    | none => .bad
  | .ex e _ => if noPtrL (e.fs.map (·.2)) = true then .ex e μ else .bad
  | .bad => .bad
  else .bad
theorem pure_ok {K : PySem.W.Frag} {mg : Str → Option Value} {F : List D → M D} {vs : List V} {H : Hp} {Q : VK} {E : XK} (h : spM K mg (pureM F) vs H Q E) : spM K mg F vs H Q E := by
  obtain ⟨ds, w, wf, r, P⟩ := h
  unfold pureM at P
  by_cases hn : noPtrL ds = true
  · rw [if_pos hn] at P
    have back : ∀ {H' : Hp} {w' : Wd} (F2 : Hp), Ext H ⟨w.F, [], []⟩ H' w' → Same w'.F F2 → Same F2 H' → (∀ a, H a ≠ none → F2 a = w'.F a) → Ext H w H' ⟨F2, w.θ, w.μ⟩ ∧ Wf K H' ⟨F2, w.θ, w.μ⟩ := fun {H' w'} F2 x s1 s2 s3 => by
      have x1 : Same w.F w'.F := x.frz
      have x3 : ∀ a, H a ≠ none → w'.F a = w.F a := x.old
      have x4 : ∀ a o, H a = some o → H' a = some o := fun a o h => x.keep a o h (by simp)
      refine ⟨⟨x1.trans s1, List.prefix_refl _, fun a h => (s3 a h).trans (x3 a h), fun a o h _ => x4 a o h, x.live, fun a h h' => absurd h h'⟩, s2, wf.len, wf.nd, fun i a h => ?_, fun i a o h h' => ?_⟩
      · show F2 a = none
        rw [s3 a (wf.live (List.mem_of_getElem? h)), x3 a (wf.live (List.mem_of_getElem? h))]
        exact wf.out i a h
      · have q := wf.live (List.mem_of_getElem? h)
        refine (wf.ob i a o h h').mono (w' := ⟨F2, w.θ, w.μ⟩) (x1.trans s1) (List.prefix_refl _) ?_
        cases e : H a with
        | none => exact absurd e q
        | some u => exact x4 a u e
    refine ⟨ds, ⟨w.F, [], []⟩, ⟨wf.same, rfl, List.nodup_nil, fun i a h => by simp at h, fun i a o h => by simp at h⟩, r.any ds hn, ?_⟩
    cases e : F ds [] with
    | bad => rw [e] at P; exact P.elim
    | ex ex μ' =>
      rw [e] at P
      simp only at P
      split at P
      · rename_i hf
        intro H' w' e1 x wf' c dd hx
        obtain ⟨x2, wf2⟩ := back w'.F x (Same.refl _) wf'.same (fun _ _ => rfl)
        refine P H' ⟨w'.F, w.θ, w.μ⟩ rfl x2 wf2 c dd ⟨hx.1, ?_⟩
        have h2 := hx.2
        revert h2 hf
        cases ex.fs with
        | nil => exact fun _ h => h
        | cons q qs => exact fun hf ⟨d, gs, h1, h3, h4, h5⟩ => ⟨d, gs, h1, h3, h4, h5.any _ hf⟩
      · exact P.elim
    | ok d μ' =>
      rw [e] at P
      simp only at P
      cases e2 : frzD μ' d with
      | none => rw [e2] at P; exact P.elim
      | some d' =>
        rw [e2] at P
        intro H' w' e1 x wf' v rv
        have plain : ∀ {d0 : D}, (if noPtr d0 = true then some d0 else none) = some d' → d0 = d → Q v H' := fun {d0} h hd => by
          split at h
          · rename_i hp
            cases h
            subst hd
            obtain ⟨x2, wf2⟩ := back w'.F x (Same.refl _) wf'.same (fun _ _ => rfl)
            exact P H' ⟨w'.F, w.θ, w.μ⟩ rfl x2 wf2 v (rv.any _ hp)
          · cases h
        cases d with
        | ptr n =>
          simp only [frzD] at e2
          rw [← e1] at e2
          cases e3 : w'.μ[n]? with
          | none => rw [e3] at e2; cases e2
          | some o =>
            rw [e3] at e2
            cases o with
            | ins C fs => cases e2
            | lst xs =>
              simp only at e2
              split at e2
              · rename_i hp
                cases e2
                obtain ⟨a, us, rfl, h1, h2, h3⟩ := ptr_ok wf' rv e3
                have hFa : w'.F a = none := wf'.out n a h1
                have hHa : H a = none := x.new a (List.mem_of_getElem? h1) (by simp)
                have s1 : Same w'.F (upd w'.F a (.lst us)) := same_upd_new hFa
                obtain ⟨x2, wf2⟩ := back (upd w'.F a (.lst us)) x s1 (fun b u hb => by
                  by_cases q : b = a
                  · subst q; rw [upd_same] at hb; cases hb; exact h2
                  · rw [upd_ne q] at hb; exact wf'.same b u hb) (fun b hb => upd_ne fun q => hb (by rw [q]; exact hHa))
                exact P H' ⟨upd w'.F a (.lst us), w.θ, w.μ⟩ rfl x2 wf2 _ (.lst upd_same ((h3.mono s1 (List.prefix_refl _)).any _ hp))
              · cases e2
        | non => exact plain (d0 := .non) e2 rfl
        | bl y => exact plain (d0 := .bl y) e2 rfl
        | int y => exact plain (d0 := .int y) e2 rfl
        | str y => exact plain (d0 := .str y) e2 rfl
        | tup y => exact plain (d0 := .tup y) e2 rfl
        | lst y => exact plain (d0 := .lst y) e2 rfl
        | arg y => exact plain (d0 := .arg y) e2 rfl
        | raw y => exact plain (d0 := .raw y) e2 rfl
  · rw [if_neg hn] at P; exact P.elim
end DL
namespace DL
open PySem PySem.Spec PyProof.Rows L2
section
variable {X : Cx} {W : WX} {a b e tg : Expr} {es : List Expr} {f h : Env → M D} {pos : Pos}
/-! ### raise X('..') -/
theorem sd_raise {x m : Str} {j : Nat} {p p2 pos2 : Pos} {C : Addr} {B : String} {newId initId : String} {bmB : List Value} (F : ExcBaseFacts B newId initId bmB) (hc : X.calm = true) (q : PySem.W.excIn X.K C bmB newId = true) (gC : X.mg x = some (.ref C)) (kC : PySem.W.keepIn X.K (.ref C) = true)
    (r : Raises X (.ref C)) (hg : Gl X x) (tk : Takes X W) (hdb : (x == ("__debug__" : Str)) = false := by decide) : SD X W (.Raise (some (.Call (.Name x p) [.Constant (.str m) j p2] [] pos)) none pos2) (sRaise (xOwn x)) :=
  PS_imp (ps_raise hc tk (pmk_own F q gC kC r hg hdb)) fun De σ H ⟨ρ, w, S, P⟩ => P H w rfl (Ext.refl _ _) S.wf σ _ _ ⟨gC, rfl⟩
/-! ### list(range(..)), tuple(range(..)) -/
theorem rgV_rep {K : PySem.W.Frag} {F : Hp} {θ : List Addr} (i j : Int) : RepL K F θ (rgV i j) (rngD i (j - i).toNat) := by
  unfold rgV rngD
  generalize (j - i).toNat = n
  have main : ∀ l : List Nat, RepL K F θ (l.map fun k => V.int (i + (k : Nat))) (l.map fun k => D.int (i + (k : Nat))) := by
    intro l
    induction l with
    | nil => exact .nil
    | cons k l ih => exact .cons (.int _) ih
  exact main _
def kLR (mu : Bool) (i j : Int) : M D := if (okR i && okR j && Nat.ble (j - i).toNat 16777216) = true then retL mu (rngD i (j - i).toNat) else Mbad
theorem okL_ok {i j : Int} (h : (okR i && okR j && Nat.ble (j - i).toNat 16777216) = true) : RgOk i j := by
  simp only [Bool.and_eq_true, Nat.ble_eq] at h
  exact ⟨(okR_ok h.1.1).1, (okR_ok h.1.1).2, (okR_ok h.1.2).1, (okR_ok h.1.2).2, h.2⟩
def eLR1 (mu : Bool) (f : Env → M D) : Env → M D := fun ρ => Mbind (f ρ) fun x => Mbind (asI x) fun j => kLR mu 0 j
def eLR2 (mu : Bool) (f h : Env → M D) : Env → M D := fun ρ => Mbind (f ρ) fun x => Mbind (h ρ) fun y => Mbind (asI x) fun i => Mbind (asI y) fun j => kLR mu i j
theorem kLR_ok {K : PySem.W.Frag} {H : Hp} {w : Wd} {mu : Bool} {i j : Int} {Q : VK} {E : Ex → Hp → Wd → Prop} (P : Post K H w (kLR mu i j w.μ) (QV K Q) E) (wf : Wf K H w) : RgOk i j ∧ ∀ q, H q = none → Q (.ref q) (upd H q (.lst (rgV i j))) := by
  unfold kLR at P
  split at P
  · rename_i hz
    refine ⟨okL_ok hz, fun q hq => ?_⟩
    simp only [retL] at P
    cases mu with
    | true => exact post_mut P wf hq (rgV_rep i j)
    | false => exact post_lst P wf hq (rgV_rep i j)
  · exact P.elim
theorem ed_listR1 {p p2 pos2 : Pos} (mu : Bool) (hc : X.calm = true) (hg : Gl X "list") (hm : X.mg "list" = none) (hg2 : Gl X "range") (hm2 : X.mg "range" = none) (ha : ED X W a f) (na : starEach [a] X.env = (false, eval a X.env) :: starEach [] X.env := by rfl)
    (na2 : starEach [.Call (.Name "range" p) [a] [] pos] X.env = (false, eval (.Call (.Name "range" p) [a] [] pos) X.env) :: starEach [] X.env := by rfl) : ED X W (.Call (.Name "list" p2) [.Call (.Name "range" p) [a] [] pos] [] pos2) (eLR1 mu f) :=
  PE_imp (pe_listRg hc hg hm (prg_1 hg2 hm2 ha na) na2) fun σ H Q ⟨ρ, w, S, P⟩ => tE_bind S P fun d v H1 w1 _ S1 r1 P1 => by
    cases d with
    | int j => cases r1; exact ⟨j, rfl, kLR_ok (i := 0) P1 S1.wf⟩
    | _ => exact P1.elim
theorem ed_listR2 {p p2 pos2 : Pos} (mu : Bool) (hc : X.calm = true) (hg : Gl X "list") (hm : X.mg "list" = none) (hg2 : Gl X "range") (hm2 : X.mg "range" = none) (ha : ED X W a f) (hb : ED X W b h) (na : starEach [a, b] X.env = (false, eval a X.env) :: starEach [b] X.env := by rfl)
    (nb : starEach [b] X.env = (false, eval b X.env) :: starEach [] X.env := by rfl) (hp : (backTo pos (starEach [b] X.env)).any (·.1) = false := by rfl)
    (na2 : starEach [.Call (.Name "range" p) [a, b] [] pos] X.env = (false, eval (.Call (.Name "range" p) [a, b] [] pos) X.env) :: starEach [] X.env := by rfl) : ED X W (.Call (.Name "list" p2) [.Call (.Name "range" p) [a, b] [] pos] [] pos2) (eLR2 mu f h) :=
  PE_imp (pe_listRg hc hg hm (prg_2 hg2 hm2 ha hb na nb hp) na2) fun σ H Q ⟨ρ, w, S, P⟩ => tE_bind S P fun d v H1 w1 _ S1 r1 P1 => tE_bind S1 P1 fun d2 v2 H2 w2 x2 S2 r2 P2 => by
    have r1' := x2.rep r1
    cases d with
    | int i =>
      cases d2 with
      | int j => cases r1'; cases r2; exact ⟨i, j, rfl, rfl, kLR_ok P2 S2.wf⟩
      | _ => exact P2.elim
    | _ => exact P2.elim
def kTR (i j : Int) : M D := if (okR i && okR j && Nat.ble (j - i).toNat 16777216) = true then Mret (.tup (rngD i (j - i).toNat)) else Mbad
def eTR1 (f : Env → M D) : Env → M D := fun ρ => Mbind (f ρ) fun x => Mbind (asI x) fun j => kTR 0 j
theorem ed_tupR1 {p p2 pos2 : Pos} (hc : X.calm = true) (hg : Gl X "tuple") (hm : X.mg "tuple" = none) (hg2 : Gl X "range") (hm2 : X.mg "range" = none) (ha : ED X W a f) (na : starEach [a] X.env = (false, eval a X.env) :: starEach [] X.env := by rfl)
    (na2 : starEach [.Call (.Name "range" p) [a] [] pos] X.env = (false, eval (.Call (.Name "range" p) [a] [] pos) X.env) :: starEach [] X.env := by rfl) : ED X W (.Call (.Name "tuple" p2) [.Call (.Name "range" p) [a] [] pos] [] pos2) (eTR1 f) :=
  PE_imp (pe_tupRg hc hg hm (prg_1 hg2 hm2 ha na) na2) fun σ H Q ⟨ρ, w, S, P⟩ => tE_bind S P fun d v H1 w1 _ S1 r1 P1 => by
    cases d with
    | int j =>
      cases r1
      have P2 : Post X.K H1 w1 (kTR 0 j w1.μ) (QV X.K Q) (EW X.K X.mg W σ) := P1
      unfold kTR at P2
      split at P2
      · rename_i hz
        exact ⟨j, rfl, okL_ok hz, fun q hq => post_tup P2 S1.wf hq (rgV_rep 0 j)⟩
      · exact P2.elim
    | _ => exact P1.elim
/-! ### sorted, of alike data -/
def encD (d : D) : PyData := (toPy d).getD .none
def leD (a b : D) : Bool := PySem.W.dataLe false encD a b
def alikeB (xs : List D) : Bool := xs.all fun x => (toPy x).isSome && SeqAt.shaped (encD x) && Nat.ble (encD x).depth 50 && xs.all fun y => PySem.W.alike (encD x) (encD y)
def tupB1 : PyData → Bool
  | .tuple (_ :: _) => true
  | _ => false
def atomB1 : PyData → Bool
  | .none => false
  | .tuple _ => false
  | _ => true
def sortB (xs : List D) : Bool := alikeB xs && ((xs.all fun x => tupB1 (encD x)) || xs.all fun x => atomB1 (encD x))
def gSorted : List D → M D := fun ds μ => match ds with
  | [x] => match asLst μ x with
    | some xs => if sortB xs = true then .ok (.lst (xs.mergeSort leD)) μ else .bad
    | none => .bad
  | _ => .bad
def rSortD (K : PySem.W.Frag) : List V → Hp → VK → Prop := fun vs H Q => ∃ (a : Addr) (ps : List (V × D)), vs = [.ref a] ∧ SqL K H a (ps.map (·.1)) ∧ (∀ p ∈ ps, Dp K H p.1 (encD p.2)) ∧ sortB (ps.map (·.2)) = true ∧
  ∀ q, H q = none → Q (.ref q) (upd H q (.lst ((ps.mergeSort fun a b => leD a.2 b.2).map (·.1))))
theorem each_vals : ∀ {ps : List (V × D)} {us : List Value}, Vals (ps.map (·.1)) us → PySem.W.EachIs (fun u p => RelV p.1 u) us ps
  | [], us, r => by cases r; exact .nil
  | p :: ps, us, r => by
    cases r with
    | cons r1 r2 => exact .cons r1 (each_vals r2)
theorem vals_each : ∀ {ps : List (V × D)} {us : List Value}, PySem.W.EachIs (fun u (p : V × D) => RelV p.1 u) us ps → Vals (ps.map (·.1)) us
  | [], us, r => by cases r; exact .nil
  | p :: ps, us, r => by
    cases r with
    | cons r1 r2 => exact .cons r1 (vals_each r2)
theorem each_reads {pins : List (Addr × Obj)} {σ : L2.St} {H : Hp} {s : Shared} (I : Inv X pins σ H s) : ∀ {ps : List (V × D)} {us : List Value}, Vals (ps.map (·.1)) us → (∀ p ∈ ps, Dp X.K H p.1 (encD p.2)) → PySem.W.EachIs (fun u p => ∃ as, Reads s.heap u (encD p.2) as) us ps
  | [], us, r, _ => by cases r; exact .nil
  | p :: ps, us, r, hd => by
    cases r with
    | cons r1 r2 => exact .cons (Dp.reads I _ _ _ (hd p List.mem_cons_self) r1) (each_reads I r2 fun q hq => hd q (List.mem_cons_of_mem _ hq))
theorem sortB_ok {xs : List D} (h : sortB xs = true) : PySem.W.AllAlike (xs.map encD) ∧ PySem.W.Sortable (xs.map encD) ∧ ∀ d ∈ xs, (encD d).depth ≤ 50 := by
  unfold sortB alikeB at h
  simp only [Bool.and_eq_true, Bool.or_eq_true, List.all_eq_true, Nat.ble_eq] at h
  refine ⟨fun d hd d' hd' => ?_, ?_, fun d hd => (h.1 d hd).1.2⟩
  · obtain ⟨x, hx, rfl⟩ := List.mem_map.mp hd
    obtain ⟨y, hy, rfl⟩ := List.mem_map.mp hd'
    exact (h.1 x hx).2 y hy
  · rcases h.2 with h2 | h2
    · refine .inl fun d hd => ?_
      obtain ⟨x, hx, rfl⟩ := List.mem_map.mp hd
      have := h2 x hx
      revert this
      cases encD x with
      | tuple ys => cases ys with
        | nil => exact fun q => nomatch q
        | cons y ys => exact fun _ => ⟨y, ys, rfl⟩
      | _ => exact fun q => nomatch q
    · refine .inr fun d hd => ?_
      obtain ⟨x, hx, rfl⟩ := List.mem_map.mp hd
      have := h2 x hx
      revert this
      cases encD x with
      | tuple ys => exact fun q => nomatch q
      | none => exact fun q => nomatch q
      | _ => exact fun _ => ⟨fun q => (nomatch q), fun _ q => (nomatch q)⟩
theorem call_sortD (hu : X.A.units + 64 < cLine) : CallR X (.builtin "sorted") (rSortD X.K) := by
  intro pins s σ H vs us Q I r h
  obtain ⟨a, ps, rfl, hs, hd, hb, q⟩ := h
  obtain ⟨its, rv, pl, hz⟩ := I.list hs
  rw [Vals.ref1 r]
  obtain ⟨h1, h2, h3⟩ := sortB_ok hb
  have em : (ps.map (·.2)).map encD = ps.map fun p => encD p.2 := by rw [List.map_map]; rfl
  rw [em] at h1 h2
  refine PySem.W.sorted_data (R := fun u (p : V × D) => RelV p.1 u) (enc := fun p : V × D => encD p.2) pl.isList (each_vals rv) (each_reads I rv hd) h1 h2 (by simpa using hz) (fun p hp => ?_) fun out ho he => ?_
  · have := h3 p.2 (List.mem_map.mpr ⟨p, hp, rfl⟩)
    omega
  · obtain ⟨ep, he'⟩ := PyProof.Rows.sortedAll_at s.heap its out.toArray
    have rv2 := vals_each he
    have e1 : (ps.mergeSort (PySem.W.dataLe false fun p : V × D => encD p.2)) = ps.mergeSort fun a b => leD a.2 b.2 := rfl
    rw [e1] at rv2
    refine ⟨.ref _, upd H (s.heap.objs.size + 1) (.lst ((ps.mergeSort fun a b => leD a.2 b.2).map (·.1))), I.laid (t' := s.toks) (fun _ _ => PyProof.Rows.sortedAll_old) (Nat.le_succ _) ⟨?_, out, ep, rv2, he'⟩, rfl, q _ (I.hok.fresh (Nat.le_succ _))⟩
    rw [List.length_map, List.length_mergeSort]
    simpa using hz
theorem repL_zip {K : PySem.W.Frag} {F : Hp} {θ : List Addr} : ∀ {vs : List V} {xs : List D}, RepL K F θ vs xs → ∃ ps : List (V × D), ps.map (·.1) = vs ∧ ps.map (·.2) = xs ∧ ∀ p ∈ ps, Rep K F θ p.1 p.2
  | _, [], r => by cases r; exact ⟨[], rfl, rfl, fun _ h => nomatch h⟩
  | _, x :: xs, r => by
    cases r with
    | @cons v vs _ _ r1 r2 =>
      obtain ⟨ps, h1, h2, h3⟩ := repL_zip r2
      refine ⟨(v, x) :: ps, by simp [h1], by simp [h2], fun p hp => ?_⟩
      rcases List.mem_cons.mp hp with e | hp
      · rw [e]; exact r1
      · exact h3 p hp
theorem repL_of {K : PySem.W.Frag} {F : Hp} {θ : List Addr} : ∀ {ps : List (V × D)}, (∀ p ∈ ps, Rep K F θ p.1 p.2) → RepL K F θ (ps.map (·.1)) (ps.map (·.2))
  | [], _ => .nil
  | p :: ps, h => .cons (h p List.mem_cons_self) (repL_of fun q hq => h q (List.mem_cons_of_mem _ hq))
theorem sort_snd (ps : List (V × D)) : (ps.mergeSort fun a b => leD a.2 b.2).map (·.2) = (ps.map (·.2)).mergeSort leD :=
  (List.map_mergeSort (r := fun a b : V × D => leD a.2 b.2) (s := leD) (f := fun p : V × D => p.2) (fun _ _ _ _ => rfl))
theorem v_sorted (K : PySem.W.Frag) : VCall K (rSortD K) gSorted := by
  intro H w xs ds Q E wf r P
  cases r with
  | nil => exact P.elim
  | cons r1 r2 =>
    cases r2 with
    | cons _ _ => exact P.elim
    | nil =>
      rename_i d
      simp only [gSorted] at P
      cases e1 : asLst w.μ d with
      | none => rw [e1] at P; exact P.elim
      | some ys =>
        rw [e1] at P
        simp only at P
        split at P
        · rename_i hb
          obtain ⟨a, us, rfl, hs, rr⟩ := asLst_ok wf r1 e1
          obtain ⟨ps, h1, h2, h3⟩ := repL_zip rr
          subst h1 h2
          refine ⟨a, ps, rfl, SqL.of hs, fun p hp => ?_, hb, fun q hq => ?_⟩
          · have : (toPy p.2).isSome = true := by
              unfold sortB alikeB at hb
              simp only [Bool.and_eq_true, List.all_eq_true] at hb
              exact (hb.1 p.2 (List.mem_map.mpr ⟨p, hp, rfl⟩)).1.1.1
            obtain ⟨z, hz⟩ := Option.isSome_iff_exists.mp this
            have : encD p.2 = z := by unfold encD; rw [hz]; rfl
            rw [this]
            exact rep_dp wf.same _ (h3 p hp) hz
          · refine post_lst (zs := (ps.map (·.2)).mergeSort leD) P wf hq ?_
            rw [← sort_snd]
            exact repL_of fun p hp => h3 p (by simpa using hp)
        · exact P.elim
end
end DL
/-! ### enumerate(t), t a tuple: how it begins -/
namespace PySem
open Sem (wp)
open AutoSeq1 (wpAny_loadPart')
theorem dl_enum_newT (l : Addr) (items : Array Value) (n : Nat) (dct : Option Addr) (sl : Array (Option Value)) :
    Meets (Builtin.«enumerate.__new__» ⟨[.type "enumerate", .ref l], []⟩) (fun _ R s => s.heap.get? l = some { cls := .type "tuple", dict := dct, data := .seq items n, slots := sl } ∧
      R (.ok (.ret (.ref (s.heap.push { cls := .type "tuple_iterator", data := .fields #[.ref l, .int 0 0] }).objs.size)))
        { s with heap := (s.heap.push { cls := .type "tuple_iterator", data := .fields #[.ref l, .int 0 0] }).push { cls := .type "enumerate", data := .fields #[.none, .bool false, .ref s.heap.objs.size, rawInt 0, .none, .none] } }) := by
  apply Meets.of_wp
  rintro prog w A R ⟨hp, g, d, tk, os⟩ ⟨hl, h⟩
  have hsub := sub_enumerate
  have hT : Heap.IsTuple (Shared.heap ⟨hp, g, d, tk, os⟩) l items := ⟨_, hl, rfl, n, rfl⟩
  wp_walk using wpAny_loadPart' hl
  refine wpAny_stack_any fun st => wpAny_pure ?_
  split
  · rename_i c _ _ _ _ _
    cases (c == Value.type "enumerate") <;> (wp_walk using wpAny_loadPart' hl, wpAny_pyIter_tuple hT; exact ⟨_, rfl, h⟩)
  · wp_walk using wpAny_loadPart' hl, wpAny_pyIter_tuple hT
    exact ⟨_, rfl, h⟩
section
variable {prog : Program} {w : World} {A : Around} {E : Value → Shared → Prop} {s : Shared}
theorem dl_call_enumT {l : Addr} {items : Array Value} {Q : Value → Shared → Prop} (hL : s.heap.IsTuple l items)
    (h : ∀ h', IsEnum h' (s.heap.objs.size + 1) s.heap.objs.size 0 .none → h'.IsTupleIter s.heap.objs.size l 0 → (∀ b o, s.heap.get? b = some o → h'.get? b = some o) → Q (.ref (s.heap.objs.size + 1)) { s with heap := h' }) :
    wpAny (model prog w) A (call (.type "enumerate") [.ref l]) Q E s := by
  obtain ⟨⟨c, dct, dt, sl⟩, hl, rfl, n, rfl⟩ := hL
  refine callType_new F.called_enumerate (by decide) (F.typeCall_enumerate_1 _) (F.newCall_enumerate_1 _) (fun obj => F.args_object_init_2 obj _) F.entry_enumerate_new (dl_enum_newT l items n dct sl) ⟨hl, ?_⟩
  have hz : (s.heap.push { cls := .type "tuple_iterator", data := .fields #[.ref l, .int 0 0] }).objs.size = s.heap.objs.size + 1 := Heap.size_push ..
  show _ ∧ _
  rw [hz]
  have he : IsEnum ((s.heap.push { cls := .type "tuple_iterator", data := .fields #[.ref l, .int 0 0] }).push { cls := .type "enumerate", data := .fields #[.none, .bool false, .ref s.heap.objs.size, rawInt 0, .none, .none] }) (s.heap.objs.size + 1) s.heap.objs.size 0 .none := by
    have q := Heap.get?_push_size (s.heap.push { cls := .type "tuple_iterator", data := .fields #[.ref l, .int 0 0] }) (o := { cls := .type "enumerate", data := .fields #[.none, .bool false, .ref s.heap.objs.size, rawInt 0, .none, .none] }) rfl
    rw [hz] at q
    exact q
  exact ⟨⟨_, he, rfl⟩, h _ he ⟨_, Heap.get?_push_of_some _ (Heap.get?_push_size _ rfl), rfl, rfl⟩ fun b o x => Heap.get?_push_of_some _ (Heap.get?_push_of_some _ x)⟩
end
end PySem
namespace DL
open PySem PySem.Spec PyProof.Rows L2
def ItEt (K : PySem.W.Frag) (a : Addr) : It :=
  ⟨fun i H => ∃ (xs : List V) (x : V), SqT K H a xs ∧ xs[i]? = some x, fun i H v H' => ∃ T x, v = .ref T ∧ H T = none ∧ H' = upd H T (.tup [.int (i : Nat), x]) ∧ ∀ xs, SqT K H a xs → xs[i]? = some x, fun i H => ∃ xs : List V, SqT K H a xs ∧ xs.length ≤ i⟩
theorem turn_enumT {P : Program} {w : World} {K : PySem.W.Frag} {elts : List Expr} {kk : Nat} {tpos : Pos} (a e it : Addr) (hae : a ≠ e) (hai : a ≠ it) :
    Turn P w K (.Tuple elts kk tpos) (ItEt K a) [e, it] e (fun i h => (∃ old, IsEnum h e it ((i : Nat) : Int) old) ∧ h.IsTupleIter it a i ∧ e ≠ it) where
  mem := by simp
  obj := fun i h st b hb => by
    obtain ⟨⟨old, he⟩, ⟨o, ho, hc, hd⟩, _⟩ := st
    rcases List.mem_cons.mp hb with z | z
    · rw [z]; exact ⟨_, he, fun v q => nomatch q⟩
    · rw [List.mem_singleton.mp z]; exact ⟨o, ho, fun v q => by rw [hd] at q; cases q⟩
  keep := fun i h h' ⟨⟨old, he⟩, hi, hne⟩ k => ⟨⟨old, k e (by simp) _ he⟩, hi.at fun o q => k it (by simp) o q, hne⟩
  item := by
    intro X hP hw hK hc i pins s σ H E I hf st hg
    subst hP hw hK
    obtain ⟨⟨old, he⟩, hit, hne⟩ := st
    obtain ⟨xs, x, hq, hx⟩ := hg
    obtain ⟨its, rv, p, hz⟩ := I.tuple hq
    obtain ⟨u, hu, ru⟩ := rv.get hx
    have hil : i < its.toArray.size := by
      have := (List.getElem?_eq_some_iff.mp hu).1
      simpa using this
    have hel : e < s.heap.objs.size := Heap.lt_size he
    have hitl : it < s.heap.objs.size := by obtain ⟨_, q, _⟩ := hit; exact Heap.lt_size q
    have D := Draws.tuple (prog := X.prog) (w := X.w) (A := X.A.in1) (show X.A.in1.handled = none from I.ok.hd hc) it a hai its.toArray
    refine wpAny_pyNext_enum_itemD D he (i := i) ⟨hit, show s.heap.IsTuple a its.toArray from p⟩ hil hne (by simp [Ne.symm hae, hne]) fun y h' tk hy ho hst hT hsz hk => ?_
    have ey : y = u := by
      have : its.toArray[i]? = some u := by simpa using hu
      rw [this] at hy
      exact (Option.some.inj hy).symm
    subst ey
    refine ⟨_, rfl, wpAny_letOwnedTupleGo_enum (s := { s with heap := h', toks := tk + 1 }) ho fun h'' he' sb => ?_⟩
    have hT2 : h''.get? s.heap.objs.size = some { cls := .type "tuple", data := .seq #[.int i tk, y] } := (sb.2 _ (Nat.ne_of_gt hel)).trans hT
    have new : ObjOk X.prog X.w (upd H s.heap.objs.size (.tup [.int (i : Nat), x])) h'' s.heap.objs.size (.tup [.int (i : Nat), x]) :=
      ⟨by show 2 ≤ sizeLine; decide, [.int i tk, y], .cons ⟨_, rfl⟩ (.cons ru .nil), ⟨_, hT2, rfl, _, rfl⟩⟩
    have I1 : Inv X pins σ (upd H s.heap.objs.size (.tup [.int (i : Nat), x])) { s with heap := h'', toks := tk + 1 } :=
      I.turnedNew (ch := [e, it]) (fun b ob hb q => (sb.2 b (fun z => hb (by simp [z]))).trans (hk b ob (fun z => hb (by simp [z])) (fun z => hb (by simp [z])) q)) hf (Nat.le_refl _) new
    refine ⟨.ref s.heap.objs.size, _, I1, rfl, ⟨_, x, rfl, I.hok.fresh (Nat.le_refl _), rfl, fun ys hy => by rw [I.tuple_inj hy hq]; exact hx⟩, ⟨⟨y, by
      have e1 : ((i + 1 : Nat) : Int) = (i : Int) + 1 := by omega
      rw [e1]; exact he'⟩, hst.1.at fun o q => (sb.2 it (Ne.symm hne)).trans q, hne⟩, fun b hb => ?_⟩
    have hb' : b < s.heap.objs.size := by
      rcases List.mem_cons.mp hb with z | z
      · rw [z]; exact hel
      · rw [List.mem_singleton.mp z]; exact hitl
    rw [upd_ne (Nat.ne_of_lt hb')]
    exact (hf b hb).1
  done := by
    intro X hP hw hK hc i pins s σ H E I hf st hg
    subst hP hw hK
    obtain ⟨⟨old, he⟩, hit, hne⟩ := st
    obtain ⟨xs, hq, hx⟩ := hg
    obtain ⟨its, rv, p, hz⟩ := I.tuple hq
    obtain ⟨f0, f1, f2, f3, f4, f5⟩ := hf it (by simp)
    have hl := rv.length
    have hT : s.TypeIs (.ref e) "enumerate" := ⟨_, he, rfl⟩
    unfold pyNext
    refine wpAny_bind (wpAny_attempt (wpAny_callSpecial?_slot (name := Str.ofString "__next__") hT F.slot_enumerate_next (wpAny_call_entry F.slot_enumerate_next hT F.entry_enumerate_next ?_ (F.args_enumerate_next_1 _))))
    show wpAny _ _ (field (.ref e) 2 >>= _) _ _ _
    refine wpAny_bind (wpAny_field he rfl (x := .ref it) rfl ?_)
    refine wpAny_bind (wpAny_nextOf_tuple_end (show X.A.in1.handled = none from I.ok.hd hc) hit (show s.heap.IsTuple a its.toArray from p) (by simp; omega) fun h' y he' hx' => ?_)
    obtain ⟨o, ho, hc'⟩ := hx'
    refine wpAny_bind (wpAny_isInstance (T := "StopIteration") (b := true) ⟨o, ho, hc'⟩ isSubtype_stop ?_)
    exact wpAny_pure ⟨rfl, I.turned (t' := s.toks) (fun b o hb q => he' b o hb q) f0 f1 f3 f4 f5⟩
  self := fun A i s Q E ⟨⟨_, he⟩, _⟩ h => wpAny_pyIter_enum he h
section
variable {X : Cx} {W : WX} {a b e tg : Expr} {es elts : List Expr} {f h : Env → M D} {p pos tpos : Pos} {kk : Nat}
def wEnum (K : PySem.W.Frag) (ta : TE) : TI := fun σ H R => ta σ H fun x H1 => ∃ q xs, x = .ref q ∧ ((SqL K H1 q xs ∧ R (Ite K q) H1) ∨ (SqT K H1 q xs ∧ R (ItEt K q) H1))
theorem pi_enumA {ta : TE} (hg : Gl X "enumerate") (hm : X.mg "enumerate" = none) (ha : PE X e ta) (hs : starEach [e] X.env = (false, eval e X.env) :: starEach [] X.env := by rfl) : PI X (.Tuple elts kk tpos) (.Call (.Name "enumerate" p) [e] [] pos) (wEnum X.K ta) := by
  constructor
  intro pins s σ H R I q0
  refine Call_ (ld_blt I hg hm boot_enumerate (PyProof.Rows.callWith_type1 (PyProof.Rows.args_cons (thn (ha.run pins s σ H _ I q0) fun v s1 ⟨x, H1, I1, r1, q, xs, ex, q1⟩ => PyProof.Rows.args_nil ?_) hs) hs rfl))
  subst ex
  cases r1
  have nw : ∀ b ∈ [s1.heap.objs.size + 1, s1.heap.objs.size], FpOk X pins H1 b := fun b hb => by
    have hle : s1.heap.objs.size ≤ b := by
      rcases List.mem_cons.mp hb with z | z
      · rw [z]; exact Nat.le_add_right _ _
      · rw [List.mem_singleton.mp z]; exact Nat.le_refl _
    exact I1.fpOk hle (I1.hok.fresh hle)
  rcases q1 with ⟨hq, q1⟩ | ⟨hq, q1⟩
  · obtain ⟨its, rv, pl, hz⟩ := I1.list hq
    refine call_enumerate_list pl.isList fun h' he hit hsz hk => wpAny_pyIter_enum he ?_
    exact ⟨s1.heap.objs.size + 1, _, _, _, H1, rfl, I1.kept (t' := s1.toks) hk, turn_enum q (s1.heap.objs.size + 1) s1.heap.objs.size, ⟨⟨.none, he⟩, hit, Nat.succ_ne_self _⟩, nw, q1⟩
  · obtain ⟨its, rv, pl, hz⟩ := I1.tuple hq
    have hlt : q < s1.heap.objs.size := pl.lt
    refine dl_call_enumT (show s1.heap.IsTuple q its.toArray from pl) fun h' he hit hk => wpAny_pyIter_enum he ?_
    exact ⟨s1.heap.objs.size + 1, _, _, _, H1, rfl, I1.kept (t' := s1.toks) hk, turn_enumT q (s1.heap.objs.size + 1) s1.heap.objs.size (Nat.ne_of_lt (Nat.lt_succ_of_lt hlt)) (Nat.ne_of_lt hlt), ⟨⟨.none, he⟩, hit, Nat.succ_ne_self _⟩, nw, q1⟩
def enumD (xs : List D) : List D := (List.range xs.length).zipWith (fun i d => .tup [.int (i : Nat), d]) xs
def iEnum1 (f : Env → M D) : IM := fun ρ => Mbind (f ρ) fun d => Mbind (gSeq d) fun p => Mret (enumD p.1, p.2)
theorem enumD_at {xs : List D} {i : Nat} {d : D} (h : (enumD xs)[i]? = some d) : ∃ x, xs[i]? = some x ∧ d = .tup [.int (i : Nat), x] := by
  unfold enumD at h
  rw [List.getElem?_zipWith] at h
  cases e1 : (List.range xs.length)[i]? with
  | none => rw [e1] at h; cases xs[i]? <;> cases h
  | some j =>
    have ej : j = i := by
      have := List.getElem?_eq_some_iff.mp e1
      simpa using this.2.symm
    cases e2 : xs[i]? with
    | none => rw [e1, e2] at h; cases h
    | some x =>
      rw [e1, e2] at h
      cases h
      subst ej
      exact ⟨x, rfl, rfl⟩
theorem enumD_length (xs : List D) : (enumD xs).length = xs.length := by simp [enumD]
/-- a new pair -/
theorem pair_new {K : PySem.W.Frag} {H : Hp} {w : Wd} {T : Addr} {u v : V} {d e : D} (wf : Wf K H w) (hT : H T = none) (r1 : Rep K w.F w.θ u d) (r2 : Rep K w.F w.θ v e) :
    ∃ w', w'.μ = w.μ ∧ Ext H w (upd H T (.tup [u, v])) w' ∧ Wf K (upd H T (.tup [u, v])) w' ∧ Rep K w'.F w'.θ (.ref T) (.tup [d, e]) := by
  have s := same_upd_new (o := HO.tup [u, v]) (wf.frz_new hT)
  exact ⟨w.frz T (.tup [u, v]), rfl, Ext.frz_ wf hT, wf.frz hT, .tup (SqT.of upd_same) (.cons (r1.mono s (List.prefix_refl _)) (.cons (r2.mono s (List.prefix_refl _)) .nil))⟩
theorem walk_enumL {K : PySem.W.Frag} {w : Wd} {q : Addr} {xs : List D} {c : Store → Bool} (h : ∀ (H : Hp) (w' : Wd), Same w.F w'.F → w.θ <+: w'.θ → Wf K H w' → c w'.μ = true → ∃ vs, SqL K H q vs ∧ RepL K w'.F w'.θ vs xs) : Walk K w (Ite K q) (enumD xs) c where
  go := fun i d H w' h1 h2 wf hc hd => by
    obtain ⟨x, hx, rfl⟩ := enumD_at hd
    obtain ⟨vs, hs, r⟩ := h H w' h1 h2 wf hc
    obtain ⟨v, hv, rv⟩ := r.at hx
    refine ⟨⟨vs, v, hs, hv⟩, fun y H' ⟨T, z, e1, hT, e2, hz⟩ => ?_⟩
    have ez := hz vs hs
    rw [hv] at ez
    cases ez
    subst e1 e2
    exact pair_new wf hT (.int _) rv
  stop := fun H w' h1 h2 wf hc => by
    obtain ⟨vs, hs, r⟩ := h H w' h1 h2 wf hc
    exact ⟨vs, hs, by rw [r.length, enumD_length]; exact Nat.le_refl _⟩
theorem walk_enumT {K : PySem.W.Frag} {w : Wd} {q : Addr} {vs : List V} {xs : List D} {c : Store → Bool} (hs : SqT K w.F q vs) (r : RepL K w.F w.θ vs xs) : Walk K w (ItEt K q) (enumD xs) c where
  go := fun i d H w' h1 h2 wf hc hd => by
    obtain ⟨x, hx, rfl⟩ := enumD_at hd
    have hs' := same_sqt wf.same (same_sqt h1 hs)
    obtain ⟨v, hv, rv⟩ := (r.mono h1 h2).at hx
    refine ⟨⟨vs, v, hs', hv⟩, fun y H' ⟨T, z, e1, hT, e2, hz⟩ => ?_⟩
    have ez := hz vs hs'
    rw [hv] at ez
    cases ez
    subst e1 e2
    exact pair_new wf hT (.int _) rv
  stop := fun H w' h1 h2 wf hc => ⟨vs, same_sqt wf.same (same_sqt h1 hs), by rw [r.length, enumD_length]; exact Nat.le_refl _⟩
theorem id_enum (hg : Gl X "enumerate") (hm : X.mg "enumerate" = none) (ha : ED X W e f) (hs : starEach [e] X.env = (false, eval e X.env) :: starEach [] X.env := by rfl) : ID X W (.Tuple elts kk tpos) (.Call (.Name "enumerate" p) [e] [] pos) (iEnum1 f) :=
  PI_imp (pi_enumA hg hm ha hs) fun σ H R ⟨ρ, w, S, P⟩ => tE_bind S P fun d v H1 w1 _ S1 r1 P1 => by
    cases d with
    | tup xs =>
      cases r1 with
      | tup h1 h2 => exact ⟨_, _, rfl, .inr ⟨same_sqt S1.wf.same h1, post_ret (show Post X.K H1 w1 (Mret (enumD xs, always) w1.μ) _ _ from P1) S1.wf _ (walk_enumT h1 h2)⟩⟩
    | lst xs =>
      cases r1 with
      | lst h1 h2 => exact ⟨_, _, rfl, .inl ⟨SqL.of (S1.wf.same _ _ h1), post_ret (show Post X.K H1 w1 (Mret (enumD xs, always) w1.μ) _ _ from P1) S1.wf _ (walk_enumL fun H w' h3 h4 wf _ => ⟨_, SqL.of (wf.same _ _ (h3 _ _ h1)), h2.mono h3 h4⟩)⟩⟩
    | arg xs =>
      cases r1 with
      | arg h1 h2 => exact ⟨_, _, rfl, .inl ⟨Same.seq S1.wf.same h1, post_ret (show Post X.K H1 w1 (Mret (enumD xs, always) w1.μ) _ _ from P1) S1.wf _ (walk_enumL fun H w' h3 h4 wf _ => ⟨_, Same.seq wf.same (Same.seq h3 h1), h2.mono h3 h4⟩)⟩⟩
    | ptr n =>
      simp only [gSeq, Mbind] at P1
      cases e1 : w1.μ[n]? with
      | none => rw [e1] at P1; exact P1.elim
      | some o =>
        rw [e1] at P1
        cases o with
        | ins C fs => exact P1.elim
        | lst xs =>
          obtain ⟨q, vs, rfl, h1, h2, h3⟩ := ptr_ok S1.wf r1 e1
          refine ⟨_, _, rfl, .inl ⟨SqL.of h2, post_ret (show Post X.K H1 w1 (Mret (enumD xs, holds n xs) w1.μ) _ _ from P1) S1.wf _ (walk_enumL fun H w' h4 h5 wf hc => ?_)⟩⟩
          have e2 : w'.μ[n]? = some (.lst xs) := of_decide_eq_true hc
          have e3 : w'.θ[n]? = some q := by
            obtain ⟨r, hr⟩ := h5
            rw [← hr, List.getElem?_append_left (List.getElem?_eq_some_iff.mp h1).1]
            exact h1
          obtain ⟨vs', h6, h7⟩ := wf.ob n q _ e3 e2
          exact ⟨vs', SqL.of h6, h7⟩
    | _ => exact P1.elim
/-! ### zip of two lists, of two tuples (frozen ones) -/
def zipD (xs ys : List D) : List D := xs.zipWith (fun x y => .tup [x, y]) ys
def kZip : D → D → M (List D × (Store → Bool)) := fun x y => match x, y with
  | .tup xs, .tup ys => Mret (zipD xs ys, always)
  | .lst xs, .lst ys => Mret (zipD xs ys, always)
  | _, _ => Mbad
def iZip (f h : Env → M D) : IM := fun ρ => Mbind (f ρ) fun x => Mbind (h ρ) fun y => kZip x y
theorem zipD_at {xs ys : List D} {i : Nat} {d : D} (h : (zipD xs ys)[i]? = some d) : ∃ x y, xs[i]? = some x ∧ ys[i]? = some y ∧ d = .tup [x, y] := by
  unfold zipD at h
  rw [List.getElem?_zipWith] at h
  cases e1 : xs[i]? with
  | none => rw [e1] at h; cases ys[i]? <;> cases h
  | some x =>
    cases e2 : ys[i]? with
    | none => rw [e1, e2] at h; cases h
    | some y => rw [e1, e2] at h; cases h; exact ⟨x, y, rfl, rfl, rfl⟩
theorem id_zip (hg : Gl X "zip") (hm : X.mg "zip" = none) (ha : ED X W a f) (hb : ED X W b h) (hs : starEach [a, b] X.env = (false, eval a X.env) :: starEach [b] X.env := by rfl) (hs2 : starEach [b] X.env = (false, eval b X.env) :: starEach [] X.env := by rfl)
    (hpl : (backTo pos (starEach [b] X.env)).any (·.1) = false := by rfl) : ID X W (.Tuple elts kk tpos) (.Call (.Name "zip" p) [a, b] [] pos) (iZip f h) :=
  PI_imp (RZ.pi_zipA hg hm (ad_cons ha (ad_cons hb ad_nil hs2) hs) hs hpl) fun σ H R ⟨ρ, w, S, P⟩ => by
    have e : iZip f h ρ = Mbind (aCons f (aCons h aNil) ρ) fun ds => match ds with
      | [d, d2] => kZip d d2
      | _ => Mbad := by simp only [iZip, aCons, aNil, mbind_assoc, mbind_ret]
    rw [e] at P
    refine tA_bind S P fun ds vs H1 w1 x1 S1 r1 P1 => ?_
    cases r1 with
    | nil => exact P1.elim
    | cons r1 r2 =>
      cases r2 with
      | nil => exact P1.elim
      | cons r2 r3 =>
        cases r3 with
        | cons _ _ => exact P1.elim
        | nil =>
          cases r1 with
          | @tup a1 us xs h1 h2 =>
            cases r2 with
            | @tup a2 us2 ys h3 h4 =>
              refine ⟨_, _, _, _, rfl, .inr ⟨same_sqt S1.wf.same h1, same_sqt S1.wf.same h3, post_ret (show Post X.K H1 w1 (Mret (zipD xs ys, always) w1.μ) _ _ from P1) S1.wf _ ⟨fun i d Hc w' g1 g2 wf hc hd => ?_, fun Hc w' g1 g2 wf hc => ?_⟩⟩⟩
              · obtain ⟨x, y, hx, hy, rfl⟩ := zipD_at hd
                obtain ⟨v, hv, rv⟩ := (h2.mono g1 g2).at hx
                obtain ⟨v2, hv2, rv2⟩ := (h4.mono g1 g2).at hy
                have s1 := same_sqt wf.same (same_sqt g1 h1)
                have s2 := same_sqt wf.same (same_sqt g1 h3)
                refine ⟨⟨us, us2, v, v2, s1, s2, hv, hv2⟩, fun z H' ⟨T, z1, z2, q1, hT, q2, q3, q4⟩ => ?_⟩
                have m1 := q3 us s1
                have m2 := q4 us2 s2
                rw [hv] at m1
                rw [hv2] at m2
                cases m1; cases m2
                subst q1 q2
                exact pair_new wf hT rv rv2
              · refine ⟨us, us2, same_sqt wf.same (same_sqt g1 h1), same_sqt wf.same (same_sqt g1 h3), ?_⟩
                rw [h2.length, h4.length]
                simp only [zipD, List.length_zipWith]
                omega
            | _ => exact P1.elim
          | @lst a1 us xs h1 h2 =>
            cases r2 with
            | @lst a2 us2 ys h3 h4 =>
              refine ⟨_, _, _, _, rfl, .inl ⟨SqL.of (S1.wf.same _ _ h1), SqL.of (S1.wf.same _ _ h3), post_ret (show Post X.K H1 w1 (Mret (zipD xs ys, always) w1.μ) _ _ from P1) S1.wf _ ⟨fun i d Hc w' g1 g2 wf hc hd => ?_, fun Hc w' g1 g2 wf hc => ?_⟩⟩⟩
              · obtain ⟨x, y, hx, hy, rfl⟩ := zipD_at hd
                obtain ⟨v, hv, rv⟩ := (h2.mono g1 g2).at hx
                obtain ⟨v2, hv2, rv2⟩ := (h4.mono g1 g2).at hy
                have s1 : SqL X.K Hc a1 us := SqL.of (wf.same _ _ (g1 _ _ h1))
                have s2 : SqL X.K Hc a2 us2 := SqL.of (wf.same _ _ (g1 _ _ h3))
                refine ⟨⟨us, us2, v, v2, s1, s2, hv, hv2⟩, fun z H' ⟨T, z1, z2, q1, hT, q2, q3, q4⟩ => ?_⟩
                have m1 := q3 us s1
                have m2 := q4 us2 s2
                rw [hv] at m1
                rw [hv2] at m2
                cases m1; cases m2
                subst q1 q2
                exact pair_new wf hT rv rv2
              · refine ⟨us, us2, SqL.of (wf.same _ _ (g1 _ _ h1)), SqL.of (wf.same _ _ (g1 _ _ h3)), ?_⟩
                rw [h2.length, h4.length]
                simp only [zipD, List.length_zipWith]
                omega
            | _ => exact P1.elim
          | _ => exact P1.elim
end
end DL
namespace DL
open PySem PySem.Spec PyProof.Rows L2
def dd {α : Type} [DecidableEq α] : List α → List α
  | [] => []
  | x :: xs => if x ∈ xs then dd xs else x :: dd xs
theorem mem_dd {α : Type} [DecidableEq α] {a : α} : ∀ {l : List α}, a ∈ dd l ↔ a ∈ l
  | [] => by simp [dd]
  | x :: xs => by
    unfold dd
    split
    · rename_i h
      rw [mem_dd, List.mem_cons]
      exact ⟨.inr, fun q => q.elim (fun e => by rw [e]; exact h) id⟩
    · rw [List.mem_cons, List.mem_cons, mem_dd]
theorem dd_nodup {α : Type} [DecidableEq α] : ∀ (l : List α), (dd l).Nodup
  | [] => by simp [dd]
  | x :: xs => by
    unfold dd
    split
    · exact dd_nodup xs
    · rename_i h
      exact List.nodup_cons.mpr ⟨fun q => h (mem_dd.mp q), dd_nodup xs⟩
theorem dd_length {α : Type} [DecidableEq α] {l m : List α} (h : m.Nodup) (e : ∀ a, a ∈ m ↔ a ∈ l) : m.length = (dd l).length :=
  ((List.perm_ext_iff_of_nodup h (dd_nodup l)).mpr fun a => (e a).trans mem_dd.symm).length_eq
section
variable {X : Cx} {W : WX} {a : Expr} {f : Env → M D} {p p2 q pos : Pos}
def tLenSetT (K : PySem.W.Frag) (ta : TE) : TE := fun σ H Q => ta σ H fun x H1 => ∃ (l : Addr) (ns : List Int), x = .ref l ∧ SqT K H1 l (ns.map V.int) ∧ ns.length ≤ 4000 ∧ Q (.int ((dd ns).length : Nat)) H1
theorem pe_lenSetT {ta : TE} (hg : Gl X "len") (hm : X.mg "len" = none) (hg2 : Gl X "set") (hm2 : X.mg "set" = none) (ha : PE X a ta) (hc : X.calm = true)
    (na : starEach [a] X.env = (false, eval a X.env) :: starEach [] X.env) (na2 : starEach [.Call (.Name "set" p2) [a] [] q] X.env = (false, eval (.Call (.Name "set" p2) [a] [] q) X.env) :: starEach [] X.env := by rfl) :
    PE X (.Call (.Name "len" p) [.Call (.Name "set" p2) [a] [] q] [] pos) (tLenSetT X.K ta) := by
  constructor
  intro pins s σ H Q I q0
  refine Call_ (ld_blt I hg hm boot_len (PyProof.Rows.callWith_builtin1 (PyProof.Rows.args_cons ?_ na2) na2 rfl))
  refine Call_ (ld_blt I hg2 hm2 PyProof.Rows.boot_set (PyProof.Rows.callWith_type1 (PyProof.Rows.args_cons (thn (ha.run pins s σ H _ I q0) fun v s1 ⟨x, H1, I1, r1, q1⟩ => PyProof.Rows.args_nil ?_) na) na rfl))
  obtain ⟨l, ns, rfl, hq, hl, q1⟩ := q1
  cases r1
  obtain ⟨its, rv, pt, hz⟩ := I1.tuple hq
  have hi : IntsAre its.toArray.toList ns := ints_of_vals rv
  refine call_set_tupI ns (I1.ok.hd hc) (show s1.heap.IsTuple l its.toArray from pt) hi (by unfold scanBound; omega) fun h' tk c R1 hcn k => ?_
  obtain ⟨o, es, ep, t, ho, hex, hdt, g, nd, hm2, hb, hf, hn, hr, hl2⟩ := R1
  refine PyProof.Rows.args_nil ?_
  have I2 : Inv X pins σ H1 { s1 with heap := h', toks := tk } := I1.kept k
  have ec : es.size = (dd ns).length := by
    have e1 := dd_length (l := ns) nd fun z => by rw [← hm2 z]; simp
    rw [List.length_map, Array.length_toList] at e1
    exact e1
  exact call_len_set ho hex hdt hf (by omega) ⟨.int ((dd ns).length : Nat), H1, I2.tok _, ⟨_, by rw [ec]⟩, q1⟩
def kLenSet (d : D) : M D := match (asTup d).bind intsOf with
  | some ns => if ns.length ≤ 4000 then Mret (.int ((dd ns).length : Nat)) else Mbad
  | none => Mbad
def eLenSet (f : Env → M D) : Env → M D := fun ρ => Mbind (f ρ) kLenSet
theorem ed_lenSetT (hg : Gl X "len") (hm : X.mg "len" = none) (hg2 : Gl X "set") (hm2 : X.mg "set" = none) (hc : X.calm = true) (ha : ED X W a f) (na : starEach [a] X.env = (false, eval a X.env) :: starEach [] X.env := by rfl) :
    ED X W (.Call (.Name "len" p) [.Call (.Name "set" p2) [a] [] q] [] pos) (eLenSet f) :=
  PE_imp (pe_lenSetT hg hm hg2 hm2 ha hc na) fun σ H Q ⟨ρ, w, S, P⟩ => tE_bind S P fun d v H1 w1 _ S1 r1 P1 => by
    unfold kLenSet at P1
    cases e1 : (asTup d).bind intsOf with
    | none => rw [e1] at P1; exact P1.elim
    | some ns =>
      rw [e1] at P1
      simp only at P1
      obtain ⟨xs, h1, h2⟩ := Option.bind_eq_some_iff.mp e1
      obtain ⟨l, vs, rfl, hs, rr⟩ := asTup_ok S1.wf r1 h1
      have ev := intsOf_rep rr h2
      subst ev
      split at P1
      · rename_i hz
        exact ⟨l, ns, rfl, hs, hz, post_ret P1 S1.wf _ (.int _)⟩
      · exact P1.elim
end
end DL
namespace DL
open PySem PySem.Spec PyProof.Rows L2
/-! ### short words -/
theorem bb_len : bootBuiltins "len" = some (.builtin "len") := by decide +kernel
theorem bb_abs : bootBuiltins "abs" = some (.builtin "abs") := by decide +kernel
theorem bb_max : bootBuiltins "max" = some (.builtin "max") := by decide +kernel
theorem bb_min : bootBuiltins "min" = some (.builtin "min") := by decide +kernel
theorem bb_sum : bootBuiltins "sum" = some (.builtin "sum") := by decide +kernel
theorem bb_all : bootBuiltins "all" = some (.builtin "all") := by decide +kernel
theorem bb_any : bootBuiltins "any" = some (.builtin "any") := by decide +kernel
theorem bb_sorted : bootBuiltins "sorted" = some (.builtin "sorted") := by decide +kernel
theorem bb_isinstance : bootBuiltins "isinstance" = some (.builtin "isinstance") := by decide +kernel
theorem bb_int : bootBuiltins "int" = some (.type "int") := by decide +kernel
theorem bb_str : bootBuiltins "str" = some (.type "str") := by decide +kernel
theorem bb_bool : bootBuiltins "bool" = some (.type "bool") := by decide +kernel
theorem bb_list : bootBuiltins "list" = some (.type "list") := by decide +kernel
theorem bb_tuple : bootBuiltins "tuple" = some (.type "tuple") := by decide +kernel
section
variable {X : Cx} {W : WX} {a b c e : Expr} {es : List Expr} {f h k : Env → M D} {t : Env → M (List D)} {pos p : Pos}
theorem xv (i : Nat) {x : Str} (hN : X.N[i]? = some x := by rfl) (hv : Vis X.env.scope x := by first | exact Or.inl rfl | exact Or.inr (Or.inl rfl) | exact Or.inr (Or.inr rfl)) (hd : (x == ("__debug__" : Str)) = false := by decide)
    (hcd : (x == ("__classdict__" : Str)) = false := by decide) : ED X W (.Name x pos) (eVar i) := ed_var hN hv hd hcd
theorem xAdd (mu : Bool) (ha : ED X W a f) (hb : ED X W b h) : ED X W (.BinOp a .Add b pos) (eBin (gAdd mu) f h) := ed_bin op_addD (v_add _ mu) ha hb
theorem xSub (ha : ED X W a f) (hb : ED X W b h) : ED X W (.BinOp a .Sub b pos) (eBin gSub f h) := ed_bin op_subD (v_sub _) ha hb
theorem xMul (ha : ED X W a f) (hb : ED X W b h) : ED X W (.BinOp a .Mult b pos) (eBin gMulI f h) := ed_bin op_mulW (v_mulI _) ha hb
theorem xMod (ha : ED X W a f) (hb : ED X W b h) : ED X W (.BinOp a .Mod b pos) (eBin gMod f h) := ed_bin op_modN (v_mod _) ha hb
theorem xDiv (ha : ED X W a f) (hb : ED X W b h) : ED X W (.BinOp a .FloorDiv b pos) (eBin gDiv f h) := ed_bin op_divD (v_div _) ha hb
theorem xPow (ha : ED X W a f) (hb : ED X W b h) : ED X W (.BinOp a .Pow b pos) (eBin gPow f h) := ed_bin op_pow (v_pow _) ha hb
/-- comparisons: the operator's rule -/
structure CmpW (X : Cx) (op : CmpOp) (g : D → D → M D) : Prop where
  ex : ∃ r, OpR X (compareOp op) r ∧ VOp X.K r g
theorem cEq (hu : X.A.units + 64 < cLine) : CmpW X .Eq (gEq false) := ⟨_, op_eqD hu, v_eq _⟩
theorem cNe (hu : X.A.units + 64 < cLine) : CmpW X .NotEq (gEq true) := ⟨_, op_neD hu, v_ne _⟩
theorem cLt (hu : X.A.units + 64 < cLine) : CmpW X .Lt gLt := ⟨_, op_ltD hu, v_lt _⟩
theorem cLe : CmpW X .LtE gLe := ⟨_, op_le, v_cmpI⟩
theorem cGt : CmpW X .Gt gGt := ⟨_, op_gt, v_cmpI⟩
theorem cGe : CmpW X .GtE gGe := ⟨_, op_ge, v_cmpI⟩
theorem cIn (hu : X.A.units + 65 < cLine) : CmpW X .In (gIn false) := ⟨_, op_inA hu, v_in _⟩
theorem cNi (hu : X.A.units + 65 < cLine) : CmpW X .NotIn (gIn true) := ⟨_, op_notInA hu, v_notIn _⟩
theorem cIs : CmpW X .Is (gIsN false) := ⟨_, op_isN, v_isN _⟩
theorem cIsNot : CmpW X .IsNot (gIsN true) := ⟨_, op_notN, v_notN _⟩
theorem xCmp {op : CmpOp} {g : D → D → M D} (q : CmpW X op g) (ha : ED X W a f) (hb : ED X W b h) (hm : behindInMarks op b = false := by first | exact nomark _ (by decide) (by decide) | rfl) : ED X W (.Compare a [op] [b] pos) (eBin g f h) := by
  obtain ⟨r, h1, h2⟩ := q.ex
  exact ed_cmp h1 h2 ha hb hm
theorem tCmpW {op : CmpOp} {g : D → D → M D} (q : CmpW X op g) (ha : ED X W a f) (hb : ED X W b h) (hm : behindInMarks op b = false := by first | exact nomark _ (by decide) (by decide) | rfl) : TD X W (.Compare a [op] [b] pos) (tOf (eBin g f h)) := by
  obtain ⟨r, h1, h2⟩ := q.ex
  exact td_cmp h1 h2 ha hb hm
theorem xCh {op op' : CmpOp} {g g' : D → D → M D} (q : CmpW X op g) (q' : CmpW X op' g') (ha : ED X W a f) (hb : ED X W b h) (hc : ED X W c k) (hm : lastMarks [op, op'] [b, c] = false := by with_unfolding_all rfl) : ED X W (.Compare a [op, op'] [b, c] pos) (eChain g g' f h k) := by
  obtain ⟨r, h1, h2⟩ := q.ex
  obtain ⟨r', h1', h2'⟩ := q'.ex
  exact ed_chain h1 h1' h2 h2' ha hb hc hm
theorem tCh {op op' : CmpOp} {g g' : D → D → M D} (q : CmpW X op g) (q' : CmpW X op' g') (ha : ED X W a f) (hb : ED X W b h) (hc : ED X W c k) (hm : lastMarks [op, op'] [b, c] = false := by with_unfolding_all rfl) : TD X W (.Compare a [op, op'] [b, c] pos) (tOf (eChain g g' f h k)) := by
  obtain ⟨r, h1, h2⟩ := q.ex
  obtain ⟨r', h1', h2'⟩ := q'.ex
  exact td_chain h1 h1' h2 h2' ha hb hc hm
/-- built-ins of one or more arguments -/
structure BltW (X : Cx) (x : Str) (g : List D → M D) : Prop where
  ex : (∃ id r, CallR X (.builtin id) r ∧ VCall X.K r g ∧ bootBuiltins x = some (.builtin id)) ∨ ∃ T r, CallR X (.type T) r ∧ VCall X.K r g ∧ bootBuiltins x = some (.type T)
theorem wLen : BltW X "len" gLen := ⟨.inl ⟨_, _, call_len, v_len _, bb_len⟩⟩
theorem wList (mu : Bool) : BltW X "list" (gList mu) := ⟨.inr ⟨_, _, call_list_of, v_list _ mu, bb_list⟩⟩
theorem wTuple : BltW X "tuple" gTuple := ⟨.inr ⟨_, _, call_tuple_of, v_tuple _, bb_tuple⟩⟩
theorem wInt : BltW X "int" gInt1 := ⟨.inr ⟨_, _, call_int1, v_int1 _, bb_int⟩⟩
theorem wStr : BltW X "str" gStrI := ⟨.inr ⟨_, _, call_str_int, v_strI _, bb_str⟩⟩
theorem wAbs : BltW X "abs" gAbs := ⟨.inl ⟨_, _, call_abs, v_abs _, bb_abs⟩⟩
theorem wMax2 (hc : X.calm = true) : BltW X "max" gMax2 := ⟨.inl ⟨_, _, call_max2 hc, v_fun2, bb_max⟩⟩
theorem wMin2 (hc : X.calm = true) : BltW X "min" gMin2 := ⟨.inl ⟨_, _, call_min2 hc, v_fun2, bb_min⟩⟩
theorem wAll (hc : X.calm = true) : BltW X "all" gAll := ⟨.inl ⟨_, _, cr_all hc, v_bls, bb_all⟩⟩
theorem wAny (hc : X.calm = true) : BltW X "any" gAny := ⟨.inl ⟨_, _, cr_any hc, v_bls, bb_any⟩⟩
theorem wSum (hc : X.calm = true) : BltW X "sum" gSum := ⟨.inl ⟨_, _, cr_sum hc, v_sum _, bb_sum⟩⟩
theorem wIsi : BltW X "isinstance" gIsi := ⟨.inl ⟨_, _, call_isi, v_isi _, bb_isinstance⟩⟩
theorem wSorted (hu : X.A.units + 64 < cLine) : BltW X "sorted" gSorted := ⟨.inl ⟨_, _, call_sortD hu, v_sorted _, bb_sorted⟩⟩
theorem xBlt {x : Str} {g : List D → M D} (q : BltW X x g) (hm : X.mg x = none) (ha : AD X W (a :: es) t) (hg : Gl X x := by rfl) (hn : x ≠ "__name__" := by decide) (hdb : (x == ("__debug__" : Str)) = false := by decide)
    (he : starEach (a :: es) X.env = (false, eval a X.env) :: starEach es X.env := by rfl) (hpl : (backTo pos (starEach es X.env)).any (·.1) = false := by rfl) : ED X W (.Call (.Name x p) (a :: es) [] pos) (eCall g t) := by
  rcases q.ex with ⟨id, r, h1, h2, h3⟩ | ⟨id, r, h1, h2, h3⟩
  · exact ed_blt h1 h2 hg hm h3 ha hn hdb he hpl
  · exact ed_bty h1 h2 hg hm h3 ha hn hdb he hpl
end
/-- a def that keeps its promise G -/
def Good (P : Program) (w : World) (K : PySem.W.Frag) (mg : Str → Option Value) (base : Heap) (k : Nat) (x : Str) (ps : List Str) (G : List D → M D) : Prop :=
  ∃ f fd, mg x = some (.ref f) ∧ PySem.W.keepIn K (.ref f) = true ∧ Binds K fd ps [] ∧ FnOk P w K mg base (L2.CX P w) k f fd ps (spM K mg G)
theorem Good.mono {P : Program} {w : World} {K : PySem.W.Frag} {mg : Str → Option Value} {base : Heap} {j k : Nat} {x : Str} {ps : List Str} {G : List D → M D} (g : Good P w K mg base j x ps G) (h : j ≤ k) : Good P w K mg base k x ps G := by
  obtain ⟨f, fd, h1, h2, h3, F⟩ := g
  exact ⟨f, fd, h1, h2, h3, F.mono h⟩
theorem Good.pure {P : Program} {w : World} {K : PySem.W.Frag} {mg : Str → Option Value} {base : Heap} {k : Nat} {x : Str} {ps : List Str} {G : List D → M D} (g : Good P w K mg base k x ps G) : Good P w K mg base k x ps (pureM G) := by
  obtain ⟨f, fd, h1, h2, h3, F⟩ := g
  exact ⟨f, fd, h1, h2, h3, F.imp fun _ _ _ _ h => pure_ok h⟩
theorem xCall {X : Cx} {W : WX} {e : Expr} {es : List Expr} {t : Env → M (List D)} {x : Str} {k j : Nat} {ps : List Str} {p pos : Pos} {G : List D → M D} (g : Good X.prog X.w X.K X.mg X.base k x ps G) (hr : Room j X.A) (hj : k ≤ j) (tk : Takes X W)
    (ha : AD X W (e :: es) t) (hg : Gl X x := by rfl) (hdb : (x == ("__debug__" : Str)) = false := by decide) (he : starEach (e :: es) X.env = (false, eval e X.env) :: starEach es X.env := by rfl) (hpl : (backTo pos (starEach es X.env)).any (·.1) = false := by rfl) :
    ED X W (.Call (.Name x p) (e :: es) [] pos) (eCall G t) := by
  obtain ⟨f, fd, h1, h2, h3, F⟩ := g
  exact ed_call F (hr.mono hj) hg h1 h2 h3 tk ha hdb he hpl
theorem good_mk {P : Program} {w : World} {K : PySem.W.Frag} {mg : Str → Option Value} {base : Heap} {x : Str} {params : Arguments} {body : List Stmt} {scope : Scope} {f : Addr} {N ps : List Str} {k : Nat} {s : SM} (hm : mg x = some (.ref f))
    (F : ∃ fd, FunD K x x params body scope [] [] f fd) (S : FnScope N ps scope) (hn : ps.length ≤ N.length)
    (hb : ∀ (kV doc pm : Value) (an : Option Addr) (cdv ct : Value) (us : List Value), us.length = ps.length → bindArgs (PySem.W.fnOf x x params body scope .none kV doc pm an cdv ct) ⟨us, []⟩ = pure (ps.zip us))
    (h : ∀ (f : Addr) (cdv : Value) (A : Around) (outer : List PySem.Env) (s0 : Shared) (H : Hp) (E : XK), Room k (A.deeper (envOfC x scope s0.heap.objs.size f cdv)) →
      SDs (cxOf (L2.CX P w) P w K mg base N x scope f cdv A outer s0 H E) (WE0 E) body s) : Good P w K mg base (k + 1) x ps (defM ps.length N.length s) := by
  obtain ⟨fd, F⟩ := F
  exact ⟨f, fd, hm, F.kp, FunD.bindsN F hb, fn_okD F S hn (h f)⟩
end DL
namespace L2
open PySem PySem.Spec PyProof.Rows
theorem Room.u65 {k : Nat} {A : Around} (r : Room k A) : A.units + 65 < cLine := by have := r.un; omega
end L2
namespace DL
open PySem PySem.Spec PyProof.Rows L2
/-! ### words for the printed texts -/
theorem bb_range : bootBuiltins "range" = some (.type "range") := by decide +kernel
def sBad : SM := fun _ => Mbad
theorem sd_bad {X : Cx} {W : WX} {s : Stmt} : SD X W s sBad := ⟨fun pins s σ H De I ⟨ρ, w, S, P⟩ => P.elim⟩
theorem ed_bad {X : Cx} {W : WX} {e : Expr} : ED X W e (fun _ => Mbad) := ⟨fun pins s σ H De I ⟨ρ, w, S, P⟩ => P.elim⟩
def sRetN : SM := fun _ => Mret (.ret .non)
section
variable {X : Cx} {W : WX} {x : Str} {pos : Pos}
theorem xgI {i : Int} (h : ∃ t, X.mg x = some (.int i t)) (hg : Gl X x := by rfl) (hd : (x == ("__debug__" : Str)) = false := by decide) : ED X W (.Name x pos) (eC (.int i)) := by
  obtain ⟨t, h⟩ := h
  exact ed_glob (v := .int i) hg h ⟨t, rfl⟩ (fun _ _ => .int _) hd
theorem xgS {i : Str} (h : ∃ t, X.mg x = some (.str i t)) (hg : Gl X x := by rfl) (hd : (x == ("__debug__" : Str)) = false := by decide) : ED X W (.Name x pos) (eC (.str i)) := by
  obtain ⟨t, h⟩ := h
  exact ed_glob (v := .str i) hg h ⟨t, rfl⟩ (fun _ _ => .str _) hd
theorem xgV {d : D} (h : ∃ a, X.mg x = some (.ref a) ∧ ∀ F θ, Rep X.K F θ (.ref a) d) (hg : Gl X x := by rfl) (hd : (x == ("__debug__" : Str)) = false := by decide) : ED X W (.Name x pos) (eC d) := by
  obtain ⟨a, h, r⟩ := h
  exact ed_glob (v := .ref a) hg h rfl r hd
end
end DL
namespace DL
open PySem PySem.Spec PyProof.Rows L2
/-- the law itself -/
theorem law_mk {P : Program} {w : World} {K : PySem.W.Frag} {mg : Str → Option Value} {x y : Str} {params : Arguments} {body : List Stmt} {scope : Scope} {f : Addr} {N : List Str} {k : Nat} {s : SM}
    (F : ∃ fd, FunD K x x params body scope [] [] f fd) (S : FnScope N [y] scope) (hn : ([y] : List Str).length ≤ N.length)
    (hb : ∀ (kV doc pm : Value) (an : Option Addr) (cdv ct : Value) (us : List Value), us.length = ([y] : List Str).length → bindArgs (PySem.W.fnOf x x params body scope .none kV doc pm an cdv ct) ⟨us, []⟩ = pure (([y] : List Str).zip us))
    (h : ∀ (base : Heap) (f : Addr) (cdv : Value) (A : Around) (outer : List PySem.Env) (s0 : Shared) (H : Hp) (E : XK), Room k (A.deeper (envOfC x scope s0.heap.objs.size f cdv)) →
      SDs (cxOf (L2.CX P w) P w K mg base N x scope f cdv A outer s0 H E) (WE0 E) body s) :
    ∃ fd, (∀ (s : Shared) (u : Value), BindsTo s fd ⟨[u], []⟩ [(y, u)]) ∧ ∀ base : Heap, FnOk P w K mg base (L2.CX P w) (k + 1) f fd [y] (spM K mg (pureM (defM 1 N.length s))) := by
  obtain ⟨fd, F⟩ := F
  have b := FunD.bindsA (ps := [y]) F hb
  exact ⟨fd, fun s v => b s [v] rfl, fun base => (fn_okD F S hn (h base f)).imp fun _ _ _ _ h => pure_ok h⟩
/-- what is asked of the law -/
theorem law_sp {K : PySem.W.Frag} {mg : Str → Option Value} {G : List D → M D} {H : Hp} {a : Addr} {ns : List Int} (hS : SqL K H a (ns.map V.int)) (hG : G [.arg (ns.map .int)] [] = .ok (.bl true) []) : spM K mg G [.ref a] H (fun v _ => v = .bl true) fun _ _ _ => False := by
  have rr : ∀ l : List Int, RepL K H [] (l.map V.int) (l.map D.int) := fun l => by
    induction l with
    | nil => exact .nil
    | cons x l ih => exact .cons (.int x) ih
  refine ⟨[.arg (ns.map .int)], ⟨H, [], []⟩, ⟨Same.refl H, rfl, List.nodup_nil, fun i a h => by simp at h, fun i a o h => by simp at h⟩, .cons (.arg hS (rr ns)) .nil, ?_⟩
  rw [hG]
  exact fun H' w' _ _ _ v r => by cases r; rfl
end DL
namespace DL
open PySem PySem.Spec PyProof.Rows L2
/-! ### how the mirror's words are reckoned -/
def Res.and {α β : Type} (r : Res α) (f : α → M β) : Res β := match r with
  | .ok a μ => f a μ
  | .ex e μ => .ex e μ
  | .bad => .bad
section
variable {α β : Type} {μ : Store} {ρ : Env} {f h k : Env → M D} {t : Env → M (List D)} {c d : Env → M Bool} {x y z : D} {xs ys : List D} {i j : Int} {b : Bool} {r : Res α} {s s' : SM}
@[simp] theorem and_ok (a : α) (g : α → M β) : (Res.ok a μ).and g = g a μ := Eq.trans rfl rfl
@[simp] theorem and_ex (e : Ex) (g : α → M β) : (Res.ex e μ).and g = .ex e μ := Eq.trans rfl rfl
@[simp] theorem and_bad (g : α → M β) : (Res.bad).and g = .bad := Eq.trans rfl rfl
@[simp] theorem and_ite (p : Prop) [Decidable p] (r r' : Res α) (g : α → M β) : (if p then r else r').and g = if p then r.and g else r'.and g := by split <;> rfl
@[simp] theorem Mbind_at (m : M α) (g : α → M β) : Mbind m g μ = (m μ).and g := Eq.trans rfl rfl
@[simp] theorem Mret_at (a : α) : Mret a μ = .ok a μ := Eq.trans rfl rfl
@[simp] theorem Mbad_at : (Mbad : M α) μ = .bad := Eq.trans rfl rfl
@[simp] theorem ite_at (p : Prop) [Decidable p] (m m' : M α) : (if p then m else m') μ = if p then m μ else m' μ := by split <;> rfl
/-! expressions -/
def vr : Option (Option D) → M D
  | some (some d) => Mret d
  | _ => Mbad
@[simp] theorem vr_some (d : D) : vr (some (some d)) μ = .ok d μ := Eq.trans rfl rfl
@[simp] theorem eVar_at (i : Nat) : eVar i ρ μ = vr ρ[i]? μ := by
  unfold eVar vr
  cases ρ[i]? with
  | none => rfl
  | some o => cases o <;> rfl
@[simp] theorem eC_at (d : D) : eC d ρ μ = .ok d μ := Eq.trans rfl rfl
@[simp] theorem eBin_at (g : D → D → M D) : eBin g f h ρ μ = (f ρ μ).and fun x => Mbind (h ρ) fun y => g x y := Eq.trans rfl rfl
@[simp] theorem eUn_at (g : D → M D) : eUn g f ρ μ = (f ρ μ).and g := Eq.trans rfl rfl
@[simp] theorem aNil_at : aNil ρ μ = .ok [] μ := Eq.trans rfl rfl
@[simp] theorem aCons_at : aCons f t ρ μ = (f ρ μ).and fun x => Mbind (t ρ) fun xs => Mret (x :: xs) := Eq.trans rfl rfl
@[simp] theorem eCall_at (g : List D → M D) : eCall g t ρ μ = (t ρ μ).and g := Eq.trans rfl rfl
def kTup : List D → M D := fun xs => if xs.length ≤ sizeLine then Mret (.tup xs) else Mbad
def kLst (mu : Bool) : List D → M D := fun xs => if xs.length ≤ sizeLine then retL mu xs else Mbad
@[simp] theorem eTup_at : eTup t ρ μ = (t ρ μ).and kTup := Eq.trans rfl rfl
@[simp] theorem eLst_at (mu : Bool) : eLst mu t ρ μ = (t ρ μ).and (kLst mu) := Eq.trans rfl rfl
theorem line16 : sizeLine = 16777216 := by decide
@[simp] theorem kTup_0 : kTup [] μ = .ok (.tup []) μ := Eq.trans rfl rfl
@[simp] theorem kTup_1 : kTup [x] μ = .ok (.tup [x]) μ := by unfold kTup; rw [if_pos (by rw [line16]; simp)]; rfl
@[simp] theorem kTup_2 : kTup [x, y] μ = .ok (.tup [x, y]) μ := by unfold kTup; rw [if_pos (by rw [line16]; simp)]; rfl
@[simp] theorem kTup_3 : kTup [x, y, z] μ = .ok (.tup [x, y, z]) μ := by unfold kTup; rw [if_pos (by rw [line16]; simp)]; rfl
@[simp] theorem kLst_at (mu : Bool) (h : xs.length ≤ 16777216) : kLst mu xs μ = retL mu xs μ := by unfold kLst; rw [if_pos (by rw [line16]; exact h)]
@[simp] theorem retL_f : retL false xs μ = .ok (.lst xs) μ := Eq.trans rfl rfl
@[simp] theorem retL_t : retL true xs μ = .ok (.ptr μ.length) (μ ++ [.lst xs]) := Eq.trans rfl rfl
def kIf (m m' : M α) : Bool → M α := fun b => if b = true then m else m'
@[simp] theorem kIf_t (m m' : M α) : kIf m m' true μ = m μ := Eq.trans rfl rfl
@[simp] theorem kIf_f (m m' : M α) : kIf m m' false μ = m' μ := Eq.trans rfl rfl
theorem kIf_b (m m' : M α) (b : Bool) : kIf m m' b μ = if b = true then m μ else m' μ := by cases b <;> rfl
@[simp] theorem eIf_at : eIf c f h ρ μ = (c ρ μ).and (kIf (f ρ) (h ρ)) := Eq.trans rfl rfl
@[simp] theorem asB_bl : asB (.bl b) μ = .ok b μ := Eq.trans rfl rfl
@[simp] theorem asI_int : asI (.int i) μ = .ok i μ := Eq.trans rfl rfl
@[simp] theorem eAnd_at : eAnd f h ρ μ = (f ρ μ).and fun x => Mbind (asB x) (kIf (h ρ) (Mret (.bl false))) := Eq.trans rfl rfl
@[simp] theorem eOr_at : eOr f h ρ μ = (f ρ μ).and fun x => Mbind (asB x) (kIf (Mret (.bl true)) (h ρ)) := Eq.trans rfl rfl
@[simp] theorem eNot_at : eNot f ρ μ = (f ρ μ).and fun x => Mbind (asB x) fun b => Mret (.bl (!b)) := Eq.trans rfl rfl
@[simp] theorem eChain_at (g g' : D → D → M D) : eChain g g' f h k ρ μ = (f ρ μ).and fun x => Mbind (h ρ) fun y => Mbind (g x y) fun z => Mbind (asB z) (kIf (Mbind (k ρ) fun u => g' y u) (Mret (.bl false))) := Eq.trans rfl rfl
@[simp] theorem oNone_at : oNone ρ μ = .ok none μ := Eq.trans rfl rfl
@[simp] theorem oSome_at : oSome f ρ μ = (f ρ μ).and fun x => Mbind (asI x) fun i => Mret (some i) := Eq.trans rfl rfl
@[simp] theorem eSl_at (lo hi : Env → M (Option Int)) : eSl f lo hi ρ μ = (f ρ μ).and fun x => Mbind (lo ρ) fun l => Mbind (hi ρ) fun u => gSl x l u := Eq.trans rfl rfl
@[simp] theorem tOf_at : tOf f ρ μ = (f ρ μ).and asB := Eq.trans rfl rfl
@[simp] theorem tAndM_at : tAndM c d ρ μ = (c ρ μ).and (kIf (d ρ) (Mret false)) := Eq.trans rfl rfl
@[simp] theorem tOrM_at : tOrM c d ρ μ = (c ρ μ).and (kIf (Mret true) (d ρ)) := Eq.trans rfl rfl
@[simp] theorem tNotM_at : tNotM c ρ μ = (c ρ μ).and fun b => Mret (!b) := Eq.trans rfl rfl
@[simp] theorem tTru_at : tTru f ρ μ = (f ρ μ).and gTru := Eq.trans rfl rfl
@[simp] theorem gTru_lst : gTru (.lst xs) μ = .ok (!xs.isEmpty) μ := Eq.trans rfl rfl
@[simp] theorem gTru_tup : gTru (.tup xs) μ = .ok (!xs.isEmpty) μ := Eq.trans rfl rfl
@[simp] theorem gTru_int : gTru (.int i) μ = .ok (i != 0) μ := Eq.trans rfl rfl
@[simp] theorem gTru_bl : gTru (.bl b) μ = .ok b μ := Eq.trans rfl rfl
@[simp] theorem gTru_non : gTru .non μ = .ok false μ := Eq.trans rfl rfl
@[simp] theorem eMth_at (g : D → List D → M D) : eMth g f t ρ μ = (f ρ μ).and fun x => Mbind (chkL x) fun _ => Mbind (t ρ) fun ds => g x ds := Eq.trans rfl rfl
theorem chkL_ptr {n : Nat} (h : μ[n]? = some (.lst xs)) : chkL (.ptr n) μ = .ok () μ := by
  have e : asLst μ (.ptr n) = some xs := by unfold asLst; simp only [h]
  unfold chkL; rw [e]
theorem gMut_ptr {n : Nat} {q : List D → List D → Option (List D)} (h : μ[n]? = some (.lst xs)) {zs : List D} (hq : q xs ys = some zs) : gMut q (.ptr n) ys μ = .ok .non (μ.set n (.lst zs)) := by
  unfold gMut; simp only [h, hq]
/-! statements -/
@[simp] theorem sNil_at : sNil ρ μ = .ok (.nx ρ) μ := Eq.trans rfl rfl
@[simp] theorem sBad_at : sBad ρ μ = .bad := Eq.trans rfl rfl
def kSeq (t : SM) : Fl → M Fl := fun fl => match fl with
  | .nx ρ' => t ρ'
  | f => Mret f
@[simp] theorem sSeq_at : sSeq s s' ρ μ = (s ρ μ).and (kSeq s') := Eq.trans rfl rfl
@[simp] theorem kSeq_nx : kSeq s (.nx ρ) μ = s ρ μ := Eq.trans rfl rfl
@[simp] theorem kSeq_ret : kSeq s (.ret x) μ = .ok (.ret x) μ := Eq.trans rfl rfl
@[simp] theorem kSeq_bk : kSeq s (.bk ρ) μ = .ok (.bk ρ) μ := Eq.trans rfl rfl
@[simp] theorem kSeq_ct : kSeq s (.ct ρ) μ = .ok (.ct ρ) μ := Eq.trans rfl rfl
@[simp] theorem sRet_at : sRet f ρ μ = (f ρ μ).and fun d => Mret (.ret d) := Eq.trans rfl rfl
@[simp] theorem sRetN_at : sRetN ρ μ = .ok (.ret .non) μ := Eq.trans rfl rfl
@[simp] theorem sSet_at (i : Nat) : sSet i f ρ μ = (f ρ μ).and fun d => Mret (.nx (ρ.set i (some d))) := Eq.trans rfl rfl
@[simp] theorem sExp_at : sExp f ρ μ = (f ρ μ).and fun _ => Mret (.nx ρ) := Eq.trans rfl rfl
@[simp] theorem sIf_at : sIf c s s' ρ μ = (c ρ μ).and (kIf (s ρ) (s' ρ)) := Eq.trans rfl rfl
@[simp] theorem gVar_at (i : Nat) : gVar i x ρ μ = .ok (ρ.set i (some x)) μ := Eq.trans rfl rfl
@[simp] theorem gsNil_at : gsNil [] ρ μ = .ok ρ μ := Eq.trans rfl rfl
@[simp] theorem gsCons_at (g : GM) (q : List D → Env → M Env) : gsCons g q (x :: xs) ρ μ = (g x ρ μ).and fun ρ' => q xs ρ' := Eq.trans rfl rfl
@[simp] theorem gTupl_at (n : Nat) (q : List D → Env → M Env) (h : xs.length = n) : gTupl n q (.tup xs) ρ μ = q xs ρ μ := by
  unfold gTupl; simp only [asTup, if_pos h]
@[simp] theorem sAsg_at (g : GM) : sAsg g f ρ μ = (f ρ μ).and fun d => Mbind (g d ρ) fun ρ' => Mret (.nx ρ') := Eq.trans rfl rfl
@[simp] theorem sPar_at (i j : Nat) : sPar i j f h ρ μ = (f ρ μ).and fun x => Mbind (h ρ) fun y => Mret (.nx ((ρ.set i (some x)).set j (some y))) := Eq.trans rfl rfl
@[simp] theorem sPar3_at (i j l : Nat) : sPar3 i j l f h k ρ μ = (f ρ μ).and fun x => Mbind (h ρ) fun y => Mbind (k ρ) fun z => Mret (.nx (((ρ.set i (some x)).set j (some y)).set l (some z))) := Eq.trans rfl rfl
@[simp] theorem sPut_at : sPut f h k ρ μ = (k ρ μ).and fun d => Mbind (f ρ) fun x => Mbind (h ρ) fun y => Mbind (putL x y d) fun _ => Mret (.nx ρ) := Eq.trans rfl rfl
theorem putL_ptr {n : Nat} {q : Nat} (h : μ[n]? = some (.lst xs)) (hi : ixN xs.length i = some q) : putL (.ptr n) (.int i) x μ = .ok () (μ.set n (.lst (xs.set q x))) := by
  unfold putL; simp only [h, hi]
@[simp] theorem sFor_at (it : IM) (g : GM) : sFor it g s ρ μ = (it ρ μ).and fun p => forL p.2 g s p.1 ρ := Eq.trans rfl rfl
@[simp] theorem sWhile_at (fu : Env → Store → Nat) : sWhile fu c s ρ μ = whileF c s (fu ρ μ) ρ μ := Eq.trans rfl rfl
/-! iterations -/
@[simp] theorem iSeq_at : iSeq f ρ μ = (f ρ μ).and gSeq := Eq.trans rfl rfl
@[simp] theorem gSeq_tup : gSeq (.tup xs) μ = .ok (xs, always) μ := Eq.trans rfl rfl
@[simp] theorem gSeq_lst : gSeq (.lst xs) μ = .ok (xs, always) μ := Eq.trans rfl rfl
@[simp] theorem gSeq_arg : gSeq (.arg xs) μ = .ok (xs, always) μ := Eq.trans rfl rfl
theorem gSeq_ptr {n : Nat} (h : μ[n]? = some (.lst xs)) : gSeq (.ptr n) μ = .ok (xs, holds n xs) μ := by unfold gSeq; simp only [h]
@[simp] theorem iRange1_at : iRange1 f ρ μ = (f ρ μ).and kR1 := Eq.trans rfl rfl
@[simp] theorem iRange2_at : iRange2 f h ρ μ = (f ρ μ).and fun x => Mbind (h ρ) fun y => kR2 x y := Eq.trans rfl rfl
@[simp] theorem iEnum1_at : iEnum1 f ρ μ = (f ρ μ).and fun d => Mbind (gSeq d) fun p => Mret (enumD p.1, p.2) := Eq.trans rfl rfl
@[simp] theorem iZip_at : iZip f h ρ μ = (f ρ μ).and fun x => Mbind (h ρ) fun y => kZip x y := Eq.trans rfl rfl
@[simp] theorem kZip_tup : kZip (.tup xs) (.tup ys) μ = .ok (zipD xs ys, always) μ := Eq.trans rfl rfl
@[simp] theorem kZip_lst : kZip (.lst xs) (.lst ys) μ = .ok (zipD xs ys, always) μ := Eq.trans rfl rfl
theorem okR_of (h1 : -1000000000 ≤ i) (h2 : i ≤ 1000000000) : okR i = true := by unfold okR; simp only [Bool.and_eq_true, decide_eq_true_eq]; omega
theorem kR1_at (h1 : -1000000000 ≤ i) (h2 : i ≤ 1000000000) : kR1 (.int i) μ = .ok (rngD 0 i.toNat, always) μ := by unfold kR1; simp only [okR_of h1 h2, if_true]; rfl
theorem kR2_at (h1 : -1000000000 ≤ i) (h2 : i ≤ 1000000000) (h3 : -1000000000 ≤ j) (h4 : j ≤ 1000000000) : kR2 (.int i) (.int j) μ = .ok (rngD i (j - i).toNat, always) μ := by unfold kR2; simp only [okR_of h1 h2, okR_of h3 h4, Bool.and_self, if_true]; rfl
@[simp] theorem eLR1_at (mu : Bool) : eLR1 mu f ρ μ = (f ρ μ).and fun x => Mbind (asI x) fun j => kLR mu 0 j := Eq.trans rfl rfl
@[simp] theorem eLR2_at (mu : Bool) : eLR2 mu f h ρ μ = (f ρ μ).and fun x => Mbind (h ρ) fun y => Mbind (asI x) fun i => Mbind (asI y) fun j => kLR mu i j := Eq.trans rfl rfl
@[simp] theorem eTR1_at : eTR1 f ρ μ = (f ρ μ).and fun x => Mbind (asI x) fun j => kTR 0 j := Eq.trans rfl rfl
theorem kLR_at (mu : Bool) (h1 : -1000000 ≤ i) (h2 : i ≤ 1000000) (h3 : -1000000 ≤ j) (h4 : j ≤ 1000000) : kLR mu i j μ = retL mu (rngD i (j - i).toNat) μ := by
  unfold kLR
  rw [if_pos]
  simp only [okR_of (show -1000000000 ≤ i by omega) (by omega), okR_of (show -1000000000 ≤ j by omega) (by omega), Bool.and_self, Bool.true_and, Nat.ble_eq]
  omega
theorem kTR_at (h1 : -1000000 ≤ i) (h2 : i ≤ 1000000) (h3 : -1000000 ≤ j) (h4 : j ≤ 1000000) : kTR i j μ = .ok (.tup (rngD i (j - i).toNat)) μ := by
  unfold kTR
  rw [if_pos]
  · rfl
  simp only [okR_of (show -1000000000 ≤ i by omega) (by omega), okR_of (show -1000000000 ≤ j by omega) (by omega), Bool.and_self, Bool.true_and, Nat.ble_eq]
  omega
/-! operations -/
@[simp] theorem gAdd_int (mu : Bool) : gAdd mu (.int i) (.int j) μ = .ok (.int (i + j)) μ := Eq.trans rfl rfl
theorem gAdd_tup (mu : Bool) (h : xs.length + ys.length ≤ 16777216) : gAdd mu (.tup xs) (.tup ys) μ = .ok (.tup (xs ++ ys)) μ := by unfold gAdd; simp only; rw [if_pos (by rw [line16]; exact h)]
theorem gAdd_lst (mu : Bool) (h : xs.length + ys.length ≤ 16777216) : gAdd mu (.lst xs) (.lst ys) μ = retL mu (xs ++ ys) μ := by unfold gAdd; simp only [asLst]; rw [if_pos (by rw [line16]; exact h)]
@[simp] theorem gSub_int : gSub (.int i) (.int j) μ = .ok (.int (i - j)) μ := Eq.trans rfl rfl
theorem gMulI_int (h1 : i.natAbs < 2 ^ 400) (h2 : j.natAbs < 2 ^ 400) : gMulI (.int i) (.int j) μ = .ok (.int (i * j)) μ := by
  have w : ∀ k : Int, k.natAbs < 2 ^ 400 → wideI k = true := fun k hk => by
    unfold wideI
    rw [Nat.blt_eq]
    by_cases z : k.natAbs = 0
    · rw [z]; decide
    · have := (Nat.log2_lt z).mpr hk
      omega
  unfold gMulI gInt2
  simp only [w i h1, w j h2, Bool.and_self, if_true]
theorem gMod_int (h : j ≠ 0) : gMod (.int i) (.int j) μ = .ok (.int (i.fmod j)) μ := by unfold gMod gInt2; simp [h]
theorem gMod_pos (h : 0 < j) : gMod (.int i) (.int j) μ = .ok (.int (i % j)) μ := by rw [gMod_int (by omega), Int.fmod_eq_emod_of_nonneg _ (by omega)]
theorem gDiv_pos (h : 0 < j) (h2 : j < 1073741824) : gDiv (.int i) (.int j) μ = .ok (.int (i / j)) μ := by
  unfold gDiv gInt2
  have : smallI j = true := by unfold smallI; simp only [Bool.or_eq_true, Bool.and_eq_true, Nat.blt_eq, bne_iff_ne]; left; omega
  simp only [this, if_true, Int.fdiv_eq_ediv_of_nonneg _ (show 0 ≤ j by omega)]
@[simp] theorem gLt_int : gLt (.int i) (.int j) μ = .ok (.bl (decide (i < j))) μ := Eq.trans rfl rfl
@[simp] theorem gLe_int : gLe (.int i) (.int j) μ = .ok (.bl (decide (i ≤ j))) μ := Eq.trans rfl rfl
@[simp] theorem gGt_int : gGt (.int i) (.int j) μ = .ok (.bl (decide (j < i))) μ := Eq.trans rfl rfl
@[simp] theorem gGe_int : gGe (.int i) (.int j) μ = .ok (.bl (decide (j ≤ i))) μ := Eq.trans rfl rfl
@[simp] theorem gIsN_non (neg : Bool) : gIsN neg .non .non μ = .ok (.bl (!neg)) μ := by cases neg <;> rfl
def gIxL (xs : List D) (i : Int) : M D := match atI xs i with
  | some d => Mret d
  | none => Mbad
@[simp] theorem gIx_tup : gIx (.tup xs) (.int i) μ = gIxL xs i μ := by unfold gIx gIxL asSeq; simp only; cases atI xs i <;> rfl
@[simp] theorem gIx_lst : gIx (.lst xs) (.int i) μ = gIxL xs i μ := by unfold gIx gIxL asSeq asLst; simp only; cases atI xs i <;> rfl
@[simp] theorem gIx_arg : gIx (.arg xs) (.int i) μ = gIxL xs i μ := by unfold gIx gIxL asSeq; simp only; cases atI xs i <;> rfl
theorem gIx_ptr {n : Nat} (h : μ[n]? = some (.lst xs)) : gIx (.ptr n) (.int i) μ = gIxL xs i μ := by unfold gIx gIxL asSeq asLst; simp only [h]; cases atI xs i <;> rfl
theorem gIxL_at (h : atI xs i = some x) : gIxL xs i μ = .ok x μ := by unfold gIxL; rw [h]; rfl
@[simp] theorem gIxL_0 : gIxL (x :: xs) 0 μ = .ok x μ := by
  refine gIxL_at ?_
  unfold atI ixN
  rw [if_pos (by omega), if_pos (by simp only [List.length_cons]; omega)]; rfl
@[simp] theorem gIxL_1 : gIxL (x :: y :: xs) 1 μ = .ok y μ := by
  refine gIxL_at ?_
  unfold atI ixN
  rw [if_pos (by omega), if_pos (by simp only [List.length_cons]; omega)]; rfl
@[simp] theorem gIxL_2 : gIxL (x :: y :: z :: xs) 2 μ = .ok z μ := by
  refine gIxL_at ?_
  unfold atI ixN
  rw [if_pos (by omega), if_pos (by simp only [List.length_cons]; omega)]; rfl
theorem atI_nn {α : Type} {l : List α} {i : Int} (h : 0 ≤ i) : atI l i = l[i.toNat]? := by
  unfold atI ixN
  rw [if_pos h]
  by_cases q : i < l.length
  · rw [if_pos q]; rfl
  · rw [if_neg q]
    symm
    simp only [Option.bind_none]
    exact List.getElem?_eq_none (by omega)
theorem gIxL_nn (h0 : 0 ≤ i) (h : xs[i.toNat]? = some x) : gIxL xs i μ = .ok x μ := gIxL_at (by rw [atI_nn h0]; exact h)
@[simp] theorem gLen_tup : gLen [.tup xs] μ = .ok (.int xs.length) μ := Eq.trans rfl rfl
@[simp] theorem gLen_lst : gLen [.lst xs] μ = .ok (.int xs.length) μ := Eq.trans rfl rfl
@[simp] theorem gLen_arg : gLen [.arg xs] μ = .ok (.int xs.length) μ := Eq.trans rfl rfl
theorem gLen_ptr {n : Nat} (h : μ[n]? = some (.lst xs)) : gLen [.ptr n] μ = .ok (.int xs.length) μ := by unfold gLen asSeq asLst; simp only [h]
@[simp] theorem gList_tup (mu : Bool) : gList mu [.tup xs] μ = retL mu xs μ := Eq.trans rfl rfl
@[simp] theorem gList_lst (mu : Bool) : gList mu [.lst xs] μ = retL mu xs μ := Eq.trans rfl rfl
@[simp] theorem gTuple_lst : gTuple [.lst xs] μ = .ok (.tup xs) μ := Eq.trans rfl rfl
@[simp] theorem gTuple_tup : gTuple [.tup xs] μ = .ok (.tup xs) μ := Eq.trans rfl rfl
@[simp] theorem gInt1_int : gInt1 [.int i] μ = .ok (.int i) μ := Eq.trans rfl rfl
@[simp] theorem gAbs_int : gAbs [.int i] μ = .ok (.int (if i < 0 then -i else i)) μ := Eq.trans rfl rfl
@[simp] theorem gMax2_int : gMax2 [.int i, .int j] μ = .ok (.int (if j > i then j else i)) μ := Eq.trans rfl rfl
@[simp] theorem gMin2_int : gMin2 [.int i, .int j] μ = .ok (.int (if j < i then j else i)) μ := Eq.trans rfl rfl
theorem blsOf_map (l : List Bool) : blsOf (l.map .bl) = some l := by induction l with
  | nil => rfl
  | cons b l ih => simp only [List.map_cons, blsOf, ih, Option.map_some]
theorem intsOf_map (l : List Int) : intsOf (l.map .int) = some l := by induction l with
  | nil => rfl
  | cons b l ih => simp only [List.map_cons, intsOf, ih, Option.map_some]
@[simp] theorem gAll_map (l : List Bool) : gAll [.lst (l.map .bl)] μ = .ok (.bl (l.all id)) μ := by unfold gAll gBls; simp only [asLst, Option.bind_some, blsOf_map]
@[simp] theorem gAny_map (l : List Bool) : gAny [.lst (l.map .bl)] μ = .ok (.bl (l.any id)) μ := by unfold gAny gBls; simp only [asLst, Option.bind_some, blsOf_map]
@[simp] theorem gSum_map (l : List Int) : gSum [.lst (l.map .int)] μ = .ok (.int l.sum) μ := by unfold gSum; simp only [asLst, Option.bind_some, intsOf_map]
/-! isinstance -/
theorem gIsi_at {t n : String} (h : tyName μ x = some t) (hb : kitB t n = some b) : gIsi [x, .raw (.ty n)] μ = .ok (.bl b) μ := by unfold gIsi; simp only [h, hb]
@[simp] theorem isi_tup_tuple : gIsi [.tup xs, .raw (.ty "tuple")] μ = .ok (.bl true) μ := gIsi_at (t := "tuple") rfl (by decide +kernel)
@[simp] theorem isi_int_int : gIsi [.int i, .raw (.ty "int")] μ = .ok (.bl true) μ := gIsi_at (t := "int") rfl (by decide +kernel)
@[simp] theorem isi_int_bool : gIsi [.int i, .raw (.ty "bool")] μ = .ok (.bl false) μ := gIsi_at (t := "int") rfl (by decide +kernel)
@[simp] theorem isi_bl_bool : gIsi [.bl b, .raw (.ty "bool")] μ = .ok (.bl true) μ := gIsi_at (t := "bool") rfl (by decide +kernel)
@[simp] theorem isi_bl_int : gIsi [.bl b, .raw (.ty "int")] μ = .ok (.bl true) μ := gIsi_at (t := "bool") rfl (by decide +kernel)
@[simp] theorem isi_str_str {v : Str} : gIsi [.str v, .raw (.ty "str")] μ = .ok (.bl true) μ := gIsi_at (t := "str") rfl (by decide +kernel)
end
/-! ### defs -/
theorem defM_at {n m : Nat} {body : SM} {ds : List D} {μ : Store} (h : ds.length = n) : defM n m body ds μ = (body (ds.map some ++ List.replicate (m - n) none) μ).and fun fl => match fl with
  | .ret d => Mret d
  | .nx _ => Mret .non
  | _ => Mbad := by unfold defM; rw [if_pos h]; rfl
theorem defM_ret {n m : Nat} {body : SM} {ds : List D} {μ μ' : Store} {d : D} (h : ds.length = n) (e : body (ds.map some ++ List.replicate (m - n) none) μ = .ok (.ret d) μ') : defM n m body ds μ = .ok d μ' := by
  rw [defM_at h, e]; rfl
theorem defM_nx {n m : Nat} {body : SM} {ds : List D} {μ μ' : Store} {ρ : Env} (h : ds.length = n) (e : body (ds.map some ++ List.replicate (m - n) none) μ = .ok (.nx ρ) μ') : defM n m body ds μ = .ok .non μ' := by
  rw [defM_at h, e]; rfl
theorem pureM_at {F : List D → M D} {ds : List D} {μ μ' : Store} {d d' : D} (hd : noPtrL ds = true) (e : F ds [] = .ok d μ') (hf : frzD μ' d = some d') : pureM F ds μ = .ok d' μ := by
  unfold pureM; rw [if_pos hd, e]; simp only [hf]
/-! ### loops -/
theorem for_inv {α : Type} {g : GM} {body : SM} {c : Store → Bool} (R : α → Env → Store → Prop) (step : α → D → α) : ∀ (ds : List D) (a : α) (ρ : Env) (μ : Store), (∀ a ρ μ, R a ρ μ → c μ = true) →
    (∀ a d ρ μ, d ∈ ds → R a ρ μ → ∃ ρ' μ', Mbind (g d ρ) body μ = .ok (.nx ρ') μ' ∧ R (step a d) ρ' μ') → R a ρ μ → ∃ ρ' μ', forL c g body ds ρ μ = .ok (.nx ρ') μ' ∧ R (ds.foldl step a) ρ' μ'
  | [], a, ρ, μ, hc, h, r => ⟨ρ, μ, by unfold forL; rw [if_pos (hc a ρ μ r)], r⟩
  | d :: ds, a, ρ, μ, hc, h, r => by
    obtain ⟨ρ1, μ1, e, r1⟩ := h a d ρ μ List.mem_cons_self r
    obtain ⟨ρ2, μ2, e2, r2⟩ := for_inv R step ds (step a d) ρ1 μ1 hc (fun a d ρ μ hd => h a d ρ μ (List.mem_cons_of_mem _ hd)) r1
    refine ⟨ρ2, μ2, ?_, r2⟩
    unfold forL
    rw [if_pos (hc a ρ μ r)]
    simp only [Mbind_at] at e ⊢
    cases e3 : g d ρ μ with
    | ok ρ3 μ3 =>
      rw [e3] at e
      simp only [and_ok, Mbind_at] at e ⊢
      rw [e]
      exact e2
    | _ => rw [e3] at e; cases e
/-- what is returned at the first item with p -/
theorem for_find {g : GM} {body : SM} {c : Store → Bool} (R : Env → Store → Prop) (p : D → Bool) (v : D → D) : ∀ (ds : List D) (ρ : Env) (μ : Store), (∀ ρ μ, R ρ μ → c μ = true) →
    (∀ d ρ μ, d ∈ ds → R ρ μ → if p d = true then Mbind (g d ρ) body μ = .ok (.ret (v d)) μ else ∃ ρ' μ', Mbind (g d ρ) body μ = .ok (.nx ρ') μ' ∧ R ρ' μ') → R ρ μ →
    match ds.find? p with
    | some d => ∃ μ', forL c g body ds ρ μ = .ok (.ret (v d)) μ'
    | none => ∃ ρ' μ', forL c g body ds ρ μ = .ok (.nx ρ') μ' ∧ R ρ' μ'
  | [], ρ, μ, hc, h, r => ⟨ρ, μ, by unfold forL; rw [if_pos (hc ρ μ r)], r⟩
  | d :: ds, ρ, μ, hc, h, r => by
    have q := h d ρ μ List.mem_cons_self r
    by_cases hp : p d = true
    · rw [if_pos hp] at q
      rw [List.find?_cons_of_pos hp]
      refine ⟨μ, ?_⟩
      unfold forL
      rw [if_pos (hc ρ μ r)]
      simp only [Mbind_at] at q ⊢
      cases e3 : g d ρ μ with
      | ok ρ3 μ3 =>
        rw [e3] at q
        simp only [and_ok, Mbind_at] at q ⊢
        rw [q]; rfl
      | _ => rw [e3] at q; cases q
    · rw [if_neg hp] at q
      obtain ⟨ρ1, μ1, e, r1⟩ := q
      rw [List.find?_cons_of_neg hp]
      have k := for_find R p v ds ρ1 μ1 hc (fun d ρ μ hd => h d ρ μ (List.mem_cons_of_mem _ hd)) r1
      have e4 : forL c g body (d :: ds) ρ μ = forL c g body ds ρ1 μ1 := by
        conv => lhs; unfold forL
        rw [if_pos (hc ρ μ r)]
        simp only [Mbind_at] at e ⊢
        cases e3 : g d ρ μ with
        | ok ρ3 μ3 =>
          rw [e3] at e
          simp only [and_ok, Mbind_at] at e ⊢
          rw [e]; rfl
        | _ => rw [e3] at e; cases e
      rw [e4]
      exact k
/-! ### comprehensions -/
theorem compL_at {c : Store → Bool} {g : GM} {t : Env → M Bool} {f : Env → M D} {ρ : Env} {μ : Store} {p : D → Bool} {q : D → D} (hc : c μ = true) : ∀ (ds acc : List D),
    (∀ d ∈ ds, ∃ ρ1, g d ρ μ = .ok ρ1 μ ∧ t ρ1 μ = .ok (p d) μ ∧ (p d = true → f ρ1 μ = .ok (q d) μ)) → acc.length + ds.length < 16777216 → compL c g t f ρ ds acc μ = .ok (acc ++ (ds.filter p).map q) μ
  | [], acc, h, hl => by unfold compL; rw [if_pos hc]; simp
  | d :: ds, acc, h, hl => by
    obtain ⟨ρ1, e1, e2, e3⟩ := h d List.mem_cons_self
    simp only [List.length_cons] at hl
    unfold compL
    rw [if_pos hc]
    simp only [Mbind_at, Mno, e1, and_ok, e2]
    cases hp : p d with
    | true =>
      have el : acc.length < sizeLine := by rw [line16]; omega
      simp only [if_true, Mbind_at, Mno, e3 hp, and_ok, el]
      rw [compL_at hc ds (acc ++ [q d]) (fun d hd => h d (List.mem_cons_of_mem _ hd)) (by simp only [List.length_append, List.length_cons, List.length_nil]; omega), List.filter_cons_of_pos hp]
      simp
    | false =>
      simp only [Bool.false_eq_true, if_false]
      rw [compL_at hc ds acc (fun d hd => h d (List.mem_cons_of_mem _ hd)) (by omega), List.filter_cons_of_neg (by simp [hp])]
theorem lc_at {mu : Bool} {it : IM} {g : GM} {t : Env → M Bool} {f : Env → M D} {vs : List Nat} {ρ : Env} {μ μ1 : Store} {c : Store → Bool} {ds : List D} (p : D → Bool) (q : D → D) (hi : it ρ μ = .ok (ds, c) μ1) (hc : c μ1 = true)
    (h : ∀ d ∈ ds, ∃ ρ1, g d (wipeE ρ vs) μ1 = .ok ρ1 μ1 ∧ t ρ1 μ1 = .ok (p d) μ1 ∧ (p d = true → f ρ1 μ1 = .ok (q d) μ1)) (hl : ds.length < 16777216) : eLc mu it g t f vs ρ μ = retL mu ((ds.filter p).map q) μ1 := by
  unfold eLc
  simp only [Mbind_at, hi, and_ok]
  rw [compL_at hc ds [] h (by simpa using hl)]
  simp
theorem lc_all {mu : Bool} {it : IM} {g : GM} {f : Env → M D} {vs : List Nat} {ρ : Env} {μ μ1 : Store} {c : Store → Bool} {ds : List D} (q : D → D) (hi : it ρ μ = .ok (ds, c) μ1) (hc : c μ1 = true)
    (h : ∀ d ∈ ds, ∃ ρ1, g d (wipeE ρ vs) μ1 = .ok ρ1 μ1 ∧ f ρ1 μ1 = .ok (q d) μ1) (hl : ds.length < 16777216) : eLc mu it g tYesM f vs ρ μ = retL mu (ds.map q) μ1 := by
  rw [lc_at (fun _ => true) q hi hc (fun d hd => by obtain ⟨ρ1, h1, h2⟩ := h d hd; exact ⟨ρ1, h1, rfl, fun _ => h2⟩) hl, List.filter_eq_self.mpr (fun _ _ => rfl)]
end DL
namespace DL
open PySem PySem.Spec PyProof.Rows L2
section
variable {μ : Store} {xs : List D}
@[simp] theorem gSl_tup (lo hi : Option Int) : gSl (.tup xs) lo hi μ = .ok (.tup (cutD xs lo hi)) μ := Eq.trans rfl rfl
@[simp] theorem gSl_lst (lo hi : Option Int) : gSl (.lst xs) lo hi μ = .ok (.lst (cutD xs lo hi)) μ := Eq.trans rfl rfl
theorem cut_from {k : Int} (h : 0 ≤ k) : cutD xs (some k) none = xs.drop k.toNat := by
  unfold cutD HT.sIx
  simp only [if_neg (show ¬ k < 0 by omega)]
  by_cases q : k.toNat ≤ xs.length
  · rw [Nat.min_eq_left q, List.take_of_length_le (by simp)]
  · rw [Nat.min_eq_right (by omega), List.drop_of_length_le (Nat.le_refl _), List.drop_of_length_le (by omega)]; simp
theorem cut_to {k : Int} (h : 0 ≤ k) : cutD xs none (some k) = xs.take k.toNat := by
  unfold cutD HT.sIx
  simp only [if_neg (show ¬ k < 0 by omega), List.drop_zero, Nat.sub_zero]
  by_cases q : k.toNat ≤ xs.length
  · rw [Nat.min_eq_left q]
  · rw [Nat.min_eq_right (by omega), List.take_of_length_le (Nat.le_refl _), List.take_of_length_le (by omega)]
/-- a comprehension of truths -/
def bls (l : List Bool) : List D := l.map .bl
@[simp] theorem gAll_bls (l : List Bool) : gAll [.lst (bls l)] μ = .ok (.bl (l.all id)) μ := gAll_map l
@[simp] theorem gAny_bls (l : List Bool) : gAny [.lst (bls l)] μ = .ok (.bl (l.any id)) μ := gAny_map l
theorem lc_bl {it : IM} {g : GM} {f : Env → M D} {vs : List Nat} {ρ : Env} {μ μ1 : Store} {c : Store → Bool} {ds : List D} (p : D → Bool) (hi : it ρ μ = .ok (ds, c) μ1) (hc : c μ1 = true)
    (h : ∀ d ∈ ds, ∃ ρ1, g d (wipeE ρ vs) μ1 = .ok ρ1 μ1 ∧ f ρ1 μ1 = .ok (.bl (p d)) μ1) (hl : ds.length < 16777216) : eLc false it g tYesM f vs ρ μ = .ok (.lst (bls (ds.map p))) μ1 := by
  rw [lc_all (fun d => .bl (p d)) hi hc h hl, retL_f, bls, List.map_map]; rfl
end
end DL
namespace DL
open PySem PySem.Spec PyProof.Rows L2
theorem kLR_nat {μ : Store} (mu : Bool) {n : Nat} (h : n ≤ 1000) : kLR mu 0 (n : Int) μ = retL mu (rngD 0 n) μ := by
  rw [kLR_at mu (by omega) (by omega) (by omega) (by omega), Int.sub_zero, Int.toNat_natCast]
theorem kR1_nat {μ : Store} {n : Nat} (h : n ≤ 1000) : kR1 (.int (n : Int)) μ = .ok (rngD 0 n, always) μ := by
  rw [kR1_at (by omega) (by omega), Int.toNat_natCast]
theorem kTR_nat {μ : Store} {n : Nat} (h : n ≤ 1000) : kTR 0 (n : Int) μ = .ok (.tup (rngD 0 n)) μ := by
  rw [kTR_at (by omega) (by omega) (by omega) (by omega), Int.sub_zero, Int.toNat_natCast]
end DL
namespace DL
open PySem PySem.Spec PyProof.Rows L2
/-- a loop, by what holds behind the first items -/
theorem for_pre {α : Type} {f : α → D} {g : GM} {body : SM} {c : Store → Bool} (R : List α → Env → Store → Prop) (l : List α) {ρ : Env} {μ : Store} (hc : ∀ p ρ μ, R p ρ μ → c μ = true)
    (h : ∀ p a s ρ μ, l = p ++ a :: s → R p ρ μ → ∃ ρ' μ', Mbind (g (f a) ρ) body μ = .ok (.nx ρ') μ' ∧ R (p ++ [a]) ρ' μ') (r : R [] ρ μ) : ∃ ρ' μ', forL c g body (l.map f) ρ μ = .ok (.nx ρ') μ' ∧ R l ρ' μ' := by
  have main : ∀ (s p : List α) (ρ : Env) (μ : Store), l = p ++ s → R p ρ μ → ∃ ρ' μ', forL c g body (s.map f) ρ μ = .ok (.nx ρ') μ' ∧ R l ρ' μ' := by
    intro s
    induction s with
    | nil =>
      intro p ρ μ e r
      refine ⟨ρ, μ, ?_, by rw [e, List.append_nil]; exact r⟩
      rw [List.map_nil]; unfold forL; rw [if_pos (hc p ρ μ r)]
    | cons a s ih =>
      intro p ρ μ e r
      obtain ⟨ρ1, μ1, e1, r1⟩ := h p a s ρ μ e r
      obtain ⟨ρ2, μ2, e2, r2⟩ := ih (p ++ [a]) ρ1 μ1 (by rw [e]; simp) r1
      refine ⟨ρ2, μ2, ?_, r2⟩
      rw [List.map_cons]
      unfold forL
      rw [if_pos (hc p ρ μ r)]
      simp only [Mbind_at] at e1 ⊢
      cases e3 : g (f a) ρ μ with
      | ok ρ3 μ3 =>
        rw [e3] at e1
        simp only [and_ok, Mbind_at] at e1 ⊢
        rw [e1]
        exact e2
      | _ => rw [e3] at e1; cases e1
  exact main l [] ρ μ rfl r
/-- a loop that returns v at the first item with p -/
theorem for_any {α : Type} {f : α → D} {g : GM} {body : SM} {c : Store → Bool} (R : Env → Store → Prop) (p : α → Bool) (v : D) (l : List α) {ρ : Env} {μ : Store} (hc : ∀ ρ μ, R ρ μ → c μ = true)
    (h : ∀ a ρ μ, a ∈ l → R ρ μ → (p a = true ∧ Mbind (g (f a) ρ) body μ = .ok (.ret v) μ) ∨ (p a = false ∧ ∃ ρ' μ', Mbind (g (f a) ρ) body μ = .ok (.nx ρ') μ' ∧ R ρ' μ')) (r : R ρ μ) :
    (l.any p = true ∧ ∃ ρ' μ', forL c g body (l.map f) ρ μ = .ok (.ret v) μ' ∧ R ρ' μ') ∨ (l.any p = false ∧ ∃ ρ' μ', forL c g body (l.map f) ρ μ = .ok (.nx ρ') μ' ∧ R ρ' μ') := by
  induction l generalizing ρ μ with
  | nil => exact .inr ⟨rfl, ρ, μ, by rw [List.map_nil]; unfold forL; rw [if_pos (hc ρ μ r)], r⟩
  | cons a l ih =>
    rcases h a ρ μ List.mem_cons_self r with ⟨hp, e⟩ | ⟨hp, ρ1, μ1, e, r1⟩
    · refine .inl ⟨by simp [hp], ρ, μ, ?_, r⟩
      rw [List.map_cons]
      unfold forL
      rw [if_pos (hc ρ μ r)]
      simp only [Mbind_at] at e ⊢
      cases e3 : g (f a) ρ μ with
      | ok ρ3 μ3 =>
        rw [e3] at e
        simp only [and_ok, Mbind_at] at e ⊢
        rw [e]; rfl
      | _ => rw [e3] at e; cases e
    · have e4 : forL c g body ((a :: l).map f) ρ μ = forL c g body (l.map f) ρ1 μ1 := by
        rw [List.map_cons]
        conv => lhs; unfold forL
        rw [if_pos (hc ρ μ r)]
        simp only [Mbind_at] at e ⊢
        cases e3 : g (f a) ρ μ with
        | ok ρ3 μ3 =>
          rw [e3] at e
          simp only [and_ok, Mbind_at] at e ⊢
          rw [e]; rfl
        | _ => rw [e3] at e; cases e
      rw [e4]
      rcases ih (fun a ρ μ ha => h a ρ μ (List.mem_cons_of_mem _ ha)) r1 with ⟨h1, h2⟩ | ⟨h1, h2⟩
      · exact .inl ⟨by rw [List.any_cons, hp, h1]; rfl, h2⟩
      · exact .inr ⟨by rw [List.any_cons, hp, h1]; rfl, h2⟩
@[simp] theorem set_concat {α : Type} (l : List α) (x y : α) : (l ++ [x]).set l.length y = l ++ [y] := by
  induction l with
  | nil => rfl
  | cons a l ih => simp only [List.cons_append, List.length_cons, List.set_cons_succ, ih]
theorem ixN_nn {n : Nat} {i : Int} (h : 0 ≤ i) (h2 : i < n) : ixN n i = some i.toNat := by unfold ixN; rw [if_pos h, if_pos h2]
theorem always_at {μ : Store} : always μ = true := rfl
end DL
namespace DL
theorem sSeq_assoc {a b c : SM} {ρ : Env} {μ : Store} : sSeq a (sSeq b c) ρ μ = (sSeq a b ρ μ).and (kSeq c) := by
  rw [sSeq_at, sSeq_at]
  cases a ρ μ with
  | ok fl μ1 =>
    simp only [and_ok]
    cases fl <;> rfl
  | _ => rfl
theorem seq_at {a b : SM} {ρ ρ1 : Env} {μ μ1 : Store} (h : a ρ μ = .ok (.nx ρ1) μ1) : sSeq a b ρ μ = b ρ1 μ1 := by rw [sSeq_at, h]; rfl
end DL
namespace DL
open PySem PySem.Spec PyProof.Rows L2
/-! ### == and in, of clean data: no True, False among them -/
def cl : Nat → D → Bool
  | _, .non => true
  | _, .int _ => true
  | _, .str s => PyData.strOk s
  | n + 1, .tup xs => xs.all (cl n)
  | n + 1, .lst xs => xs.all (cl n)
  | _, _ => false
theorem toPyL_all {xs : List D} : (∀ x ∈ xs, ∃ p, toPy x = some p) → ∃ ps, toPyL xs = some ps ∧ ps.length = xs.length := by
  induction xs with
  | nil => exact fun _ => ⟨[], rfl, rfl⟩
  | cons x xs ih =>
    intro h
    obtain ⟨p, hp⟩ := h x List.mem_cons_self
    obtain ⟨ps, h1, h2⟩ := ih fun y hy => h y (List.mem_cons_of_mem _ hy)
    exact ⟨p :: ps, by simp only [toPyL, hp, h1], by simp [h2]⟩
/-- what is known of clean data -/
structure Cl (n : Nat) (d : D) (p : PyData) : Prop where
  py : toPy d = some p
  lay : p.canLay0 = true
  dep : p.depth ≤ n
theorem clL {n : Nat} : ∀ {xs : List D}, (∀ x ∈ xs, ∃ p, Cl n x p) → ∃ ps, toPyL xs = some ps ∧ PyData.canLayAll0 ps = true ∧ PyData.depthAll ps ≤ n
  | [], _ => ⟨[], rfl, by simp [PyData.canLayAll0], by simp [PyData.depthAll]⟩
  | x :: xs, h => by
    obtain ⟨p, hp⟩ := h x List.mem_cons_self
    obtain ⟨ps, h1, h2, h3⟩ := clL fun y hy => h y (List.mem_cons_of_mem _ hy)
    refine ⟨p :: ps, by simp only [toPyL, hp.py, h1], by simp [PyData.canLayAll0, hp.lay, h2], ?_⟩
    simp only [PyData.depthAll]
    exact Nat.max_le.mpr ⟨hp.dep, h3⟩
theorem cl_py : ∀ (n : Nat) (d : D), cl n d = true → ∃ p, Cl n d p
  | n, .non, _ => ⟨.none, rfl, by simp [PyData.canLay0], by simp [PyData.depth]⟩
  | n, .int i, _ => ⟨.int i, rfl, by simp [PyData.canLay0], by simp [PyData.depth]⟩
  | n, .str s, h => ⟨.str s, rfl, by simpa [PyData.canLay0, cl] using h, by simp [PyData.depth]⟩
  | n + 1, .tup xs, h => by
    have h' : ∀ x ∈ xs, cl n x = true := by simpa [cl] using h
    obtain ⟨ps, h1, h2, h3⟩ := clL (n := n) fun x hx => cl_py n x (h' x hx)
    exact ⟨.tuple ps, by simp only [toPy, h1, Option.map_some], by simpa [PyData.canLay0] using h2, by simp only [PyData.depth]; omega⟩
  | n + 1, .lst xs, h => by
    have h' : ∀ x ∈ xs, cl n x = true := by simpa [cl] using h
    obtain ⟨ps, h1, h2, h3⟩ := clL (n := n) fun x hx => cl_py n x (h' x hx)
    exact ⟨.list ps, by simp only [toPy, h1, Option.map_some], by simpa [PyData.canLay0] using h2, by simp only [PyData.depth]; omega⟩
  | 0, .tup xs, h => by simp [cl] at h
  | 0, .lst xs, h => by simp [cl] at h
  | _, .bl _, h => by simp [cl] at h
  | _, .arg _, h => by simp [cl] at h
  | _, .ptr _, h => by simp [cl] at h
  | _, .raw _, h => by simp [cl] at h
theorem eqvL {n : Nat} (ih : ∀ (x y : D) (p q : PyData), cl n x = true → cl n y = true → toPy x = some p → toPy y = some q → PyData.eqv p q = decide (x = y)) : ∀ (xs ys : List D) (ps qs : List PyData), (∀ x ∈ xs, cl n x = true) → (∀ x ∈ ys, cl n x = true) →
    toPyL xs = some ps → toPyL ys = some qs → PyData.eqvAll ps qs = decide (xs = ys)
  | [], [], ps, qs, _, _, h1, h2 => by cases h1; cases h2; simp [PyData.eqvAll]
  | [], y :: ys, ps, qs, _, hy, h1, h2 => by
    obtain ⟨q, hq⟩ := cl_py n y (hy y List.mem_cons_self)
    obtain ⟨qs', e, _⟩ := toPyL_all (xs := ys) fun z hz => (cl_py n z (hy z (List.mem_cons_of_mem _ hz))).imp fun p c => c.py
    simp only [toPyL, hq.py, e] at h2
    cases h1; cases h2; simp [PyData.eqvAll]
  | x :: xs, [], ps, qs, hx, _, h1, h2 => by
    obtain ⟨q, hq⟩ := cl_py n x (hx x List.mem_cons_self)
    obtain ⟨qs', e, _⟩ := toPyL_all (xs := xs) fun z hz => (cl_py n z (hx z (List.mem_cons_of_mem _ hz))).imp fun p c => c.py
    simp only [toPyL, hq.py, e] at h1
    cases h1; cases h2; simp [PyData.eqvAll]
  | x :: xs, y :: ys, ps, qs, hx, hy, h1, h2 => by
    obtain ⟨p, hp⟩ := cl_py n x (hx x List.mem_cons_self)
    obtain ⟨ps', e, _⟩ := toPyL_all (xs := xs) fun z hz => (cl_py n z (hx z (List.mem_cons_of_mem _ hz))).imp fun p c => c.py
    obtain ⟨q, hq⟩ := cl_py n y (hy y List.mem_cons_self)
    obtain ⟨qs', e', _⟩ := toPyL_all (xs := ys) fun z hz => (cl_py n z (hy z (List.mem_cons_of_mem _ hz))).imp fun p c => c.py
    simp only [toPyL, hp.py, e] at h1
    simp only [toPyL, hq.py, e'] at h2
    cases h1; cases h2
    rw [PyData.eqvAll, ih x y p q (hx x List.mem_cons_self) (hy y List.mem_cons_self) hp.py hq.py, eqvL ih xs ys ps' qs' (fun z hz => hx z (List.mem_cons_of_mem _ hz)) (fun z hz => hy z (List.mem_cons_of_mem _ hz)) e e']
    simp
theorem cl_eqv : ∀ (n : Nat) (x y : D) (p q : PyData), cl n x = true → cl n y = true → toPy x = some p → toPy y = some q → PyData.eqv p q = decide (x = y) := by
  intro n
  induction n with
  | zero =>
    intro x y p q hx hy h1 h2
    cases x with
    | non => cases h1; cases y <;> first | (cases h2; simp [PyData.eqv]) | (simp [cl] at hy)
    | int i => cases h1; cases y <;> first | (simp [cl] at hy; done) | (cases h2; simp [PyData.eqv]; try rfl)
    | str i => cases h1; cases y <;> first | (simp [cl] at hy; done) | (cases h2; simp [PyData.eqv]; try rfl)
    | _ => simp [cl] at hx
  | succ n ih =>
    have py : ∀ xs : List D, (∀ x ∈ xs, cl n x = true) → ∃ ps, toPyL xs = some ps := fun xs h => by
      obtain ⟨ps, e, _⟩ := toPyL_all (xs := xs) fun z hz => (cl_py n z (h z hz)).imp fun p c => c.py
      exact ⟨ps, e⟩
    intro x y p q hx hy h1 h2
    cases x with
    | non =>
      cases h1
      cases y with
      | tup ys => obtain ⟨qs, e⟩ := py ys (by simpa [cl] using hy); simp only [toPy, e, Option.map_some] at h2; cases h2; simp [PyData.eqv]
      | lst ys => obtain ⟨qs, e⟩ := py ys (by simpa [cl] using hy); simp only [toPy, e, Option.map_some] at h2; cases h2; simp [PyData.eqv]
      | non => cases h2; simp [PyData.eqv]
      | int j => cases h2; simp [PyData.eqv]
      | str j => cases h2; simp [PyData.eqv]
      | _ => simp [cl] at hy
    | int i =>
      cases h1
      cases y with
      | tup ys => obtain ⟨qs, e⟩ := py ys (by simpa [cl] using hy); simp only [toPy, e, Option.map_some] at h2; cases h2; simp [PyData.eqv]
      | lst ys => obtain ⟨qs, e⟩ := py ys (by simpa [cl] using hy); simp only [toPy, e, Option.map_some] at h2; cases h2; simp [PyData.eqv]
      | non => cases h2; simp [PyData.eqv]
      | int j => cases h2; simp [PyData.eqv]; rfl
      | str j => cases h2; simp [PyData.eqv]
      | _ => simp [cl] at hy
    | str i =>
      cases h1
      cases y with
      | tup ys => obtain ⟨qs, e⟩ := py ys (by simpa [cl] using hy); simp only [toPy, e, Option.map_some] at h2; cases h2; simp [PyData.eqv]
      | lst ys => obtain ⟨qs, e⟩ := py ys (by simpa [cl] using hy); simp only [toPy, e, Option.map_some] at h2; cases h2; simp [PyData.eqv]
      | non => cases h2; simp [PyData.eqv]
      | int j => cases h2; simp [PyData.eqv]
      | str j => cases h2; simp [PyData.eqv]; rfl
      | _ => simp [cl] at hy
    | tup xs =>
      have hx' : ∀ x ∈ xs, cl n x = true := by simpa [cl] using hx
      obtain ⟨ps, e1⟩ := py xs hx'
      simp only [toPy, e1, Option.map_some] at h1
      cases h1
      cases y with
      | tup ys =>
        have hy' : ∀ x ∈ ys, cl n x = true := by simpa [cl] using hy
        obtain ⟨qs, e⟩ := py ys hy'
        simp only [toPy, e, Option.map_some] at h2
        cases h2
        rw [PyData.eqv, eqvL ih xs ys ps qs hx' hy' e1 e]
        simp
      | lst ys => obtain ⟨qs, e⟩ := py ys (by simpa [cl] using hy); simp only [toPy, e, Option.map_some] at h2; cases h2; simp [PyData.eqv]
      | non => cases h2; simp [PyData.eqv]
      | int j => cases h2; simp [PyData.eqv]
      | str j => cases h2; simp [PyData.eqv]
      | _ => simp [cl] at hy
    | lst xs =>
      have hx' : ∀ x ∈ xs, cl n x = true := by simpa [cl] using hx
      obtain ⟨ps, e1⟩ := py xs hx'
      simp only [toPy, e1, Option.map_some] at h1
      cases h1
      cases y with
      | lst ys =>
        have hy' : ∀ x ∈ ys, cl n x = true := by simpa [cl] using hy
        obtain ⟨qs, e⟩ := py ys hy'
        simp only [toPy, e, Option.map_some] at h2
        cases h2
        rw [PyData.eqv, eqvL ih xs ys ps qs hx' hy' e1 e]
        simp
      | tup ys => obtain ⟨qs, e⟩ := py ys (by simpa [cl] using hy); simp only [toPy, e, Option.map_some] at h2; cases h2; simp [PyData.eqv]
      | non => cases h2; simp [PyData.eqv]
      | int j => cases h2; simp [PyData.eqv]
      | str j => cases h2; simp [PyData.eqv]
      | _ => simp [cl] at hy
    | _ => simp [cl] at hx
theorem cl_shaped {n : Nat} {d : D} {p : PyData} (c : Cl n d p) (h : n ≤ 64) : SeqAt.shaped p = true := by
  unfold SeqAt.shaped
  rw [Bool.and_eq_true]
  exact ⟨c.lay, decide_eq_true (Nat.le_trans c.dep h)⟩
/-- how a list that changes is seen -/
theorem view_of {n : Nat} {d : D} (μ : Store) (h : cl n d = true) : view μ d = d := by
  cases d <;> first | rfl | (simp [cl] at h)
theorem gEq_cl {n : Nat} {x y : D} {μ : Store} (neg : Bool) (hx : cl n (view μ x) = true) (hy : cl n (view μ y) = true) (hn : n ≤ 64 := by decide) : gEq neg x y μ = .ok (.bl (if neg then !decide (view μ x = view μ y) else decide (view μ x = view μ y))) μ := by
  obtain ⟨p, hp⟩ := cl_py n _ hx
  obtain ⟨q, hq⟩ := cl_py n _ hy
  have e : eqB μ x y = some (decide (view μ x = view μ y)) := by
    unfold eqB pyV
    simp only [hp.py, hq.py, cl_shaped hp hn, cl_shaped hq hn, Bool.and_self, if_true, cl_eqv n _ _ p q hx hy hp.py hq.py]
  unfold gEq
  rw [e]
theorem any_cl {n : Nat} {x : D} {p : PyData} (hx : cl n x = true) (hp : toPy x = some p) : ∀ (ys : List D) (qs : List PyData), (∀ y ∈ ys, cl n y = true) → toPyL ys = some qs → (qs.any fun z => PyData.eqv z p) = decide (x ∈ ys)
  | [], qs, _, h => by cases h; simp
  | y :: ys, qs, hy, h => by
    obtain ⟨q, hq⟩ := cl_py n y (hy y List.mem_cons_self)
    obtain ⟨qs', e, _⟩ := toPyL_all (xs := ys) fun z hz => (cl_py n z (hy z (List.mem_cons_of_mem _ hz))).imp fun p c => c.py
    simp only [toPyL, hq.py, e] at h
    cases h
    rw [List.any_cons, any_cl hx hp ys qs' (fun z hz => hy z (List.mem_cons_of_mem _ hz)) e, cl_eqv n y x q p (hy y List.mem_cons_self) hx hq.py hp]
    by_cases h1 : x = y
    · subst h1; simp
    · have : y ≠ x := fun e => h1 e.symm
      simp [h1, this]
theorem gIn_seq {n : Nat} {x y : D} {ys : List D} {μ : Store} (neg : Bool) (hx : cl n x = true) (hy : ∀ z ∈ ys, cl n z = true) (hv : view μ y = .tup ys ∨ view μ y = .lst ys) (hn : n + 1 ≤ 64 := by decide) :
    gIn neg x y μ = .ok (.bl (if neg then !decide (x ∈ ys) else decide (x ∈ ys))) μ := by
  obtain ⟨p, hp⟩ := cl_py n _ hx
  obtain ⟨qs, h1, h2, h3⟩ := clL (n := n) fun z hz => cl_py n z (hy z hz)
  have sh : SeqAt.shaped (.tuple qs) = true ∧ SeqAt.shaped (.list qs) = true := by
    unfold SeqAt.shaped
    constructor
    · rw [Bool.and_eq_true]
      exact ⟨by simpa [PyData.canLay0] using h2, decide_eq_true (by simp only [PyData.depth]; omega)⟩
    · rw [Bool.and_eq_true]
      exact ⟨by simpa [PyData.canLay0] using h2, decide_eq_true (by simp only [PyData.depth]; omega)⟩
  have px : pyV μ x = some p := by unfold pyV; rw [view_of μ hx]; exact hp.py
  have e : inB μ x y = some (decide (x ∈ ys)) := by
    have es := any_cl hx hp.py ys qs hy h1
    have s1 := cl_shaped hp (by omega)
    rcases hv with hv | hv
    · have py : pyV μ y = some (.tuple qs) := by unfold pyV; rw [hv]; simp only [toPy, h1, Option.map_some]
      cases y with
      | str j => cases hv
      | _ => simp only [inB, px, py, s1, sh.1, Bool.and_self, if_true, es]
    · have py : pyV μ y = some (.list qs) := by unfold pyV; rw [hv]; simp only [toPy, h1, Option.map_some]
      cases y with
      | str j => cases hv
      | _ => simp only [inB, px, py, s1, sh.2, Bool.and_self, if_true, es]
  unfold gIn
  rw [e]
/-! ints -/
theorem cl_ints {n : Nat} (l : List Int) : ∀ z ∈ l.map D.int, cl n z = true := fun z hz => by
  obtain ⟨i, _, rfl⟩ := List.mem_map.mp hz
  cases n <;> rfl
theorem cl_tupI (l : List Int) (n : Nat) : cl (n + 1) (.tup (l.map D.int)) = true := by
  simp only [cl, List.all_eq_true]; exact cl_ints l
theorem cl_lstI (l : List Int) (n : Nat) : cl (n + 1) (.lst (l.map D.int)) = true := by
  simp only [cl, List.all_eq_true]; exact cl_ints l
theorem cl_tup {n : Nat} {l : List D} (h : ∀ z ∈ l, cl n z = true) : cl (n + 1) (.tup l) = true := by simpa only [cl, List.all_eq_true] using h
theorem cl_lst {n : Nat} {l : List D} (h : ∀ z ∈ l, cl n z = true) : cl (n + 1) (.lst l) = true := by simpa only [cl, List.all_eq_true] using h
section
variable {μ : Store} {i j : Int} {l m : List Int} (neg : Bool)
@[simp] theorem gEq_int : gEq neg (.int i) (.int j) μ = .ok (.bl (if neg then !decide (i = j) else decide (i = j))) μ := by
  rw [gEq_cl (n := 0) neg rfl rfl]
  have : (view μ (.int i) = view μ (.int j)) ↔ i = j := by show D.int i = D.int j ↔ _; simp
  simp only [this]
theorem dec_tupI {a b : List Int} : (D.tup (a.map D.int) = D.tup (b.map D.int)) ↔ a = b := by
  rw [D.tup.injEq]
  exact ⟨fun h => List.map_inj_right (fun _ _ e => D.int.inj e) |>.mp h, fun h => by rw [h]⟩
theorem dec_lstI {a b : List Int} : (D.lst (a.map D.int) = D.lst (b.map D.int)) ↔ a = b := by
  rw [D.lst.injEq]
  exact ⟨fun h => List.map_inj_right (fun _ _ e => D.int.inj e) |>.mp h, fun h => by rw [h]⟩
@[simp] theorem gEq_tupI : gEq neg (.tup (l.map D.int)) (.tup (m.map D.int)) μ = .ok (.bl (if neg then !decide (l = m) else decide (l = m))) μ := by
  rw [gEq_cl (x := .tup (l.map D.int)) (y := .tup (m.map D.int)) (n := 1) neg (cl_tupI l 0) (cl_tupI m 0)]
  simp only [view, dec_tupI]
@[simp] theorem gEq_lstI : gEq neg (.lst (l.map D.int)) (.lst (m.map D.int)) μ = .ok (.bl (if neg then !decide (l = m) else decide (l = m))) μ := by
  rw [gEq_cl (x := .lst (l.map D.int)) (y := .lst (m.map D.int)) (n := 1) neg (cl_lstI l 0) (cl_lstI m 0)]
  simp only [view, dec_lstI]
theorem mem_ints : D.int i ∈ l.map D.int ↔ i ∈ l := by simp
@[simp] theorem gIn_tupI : gIn neg (.int i) (.tup (l.map D.int)) μ = .ok (.bl (if neg then !decide (i ∈ l) else decide (i ∈ l))) μ := by
  rw [gIn_seq (n := 0) neg rfl (cl_ints l) (.inl rfl)]
  simp only [mem_ints]
@[simp] theorem gIn_lstI : gIn neg (.int i) (.lst (l.map D.int)) μ = .ok (.bl (if neg then !decide (i ∈ l) else decide (i ∈ l))) μ := by
  rw [gIn_seq (n := 0) neg rfl (cl_ints l) (.inr rfl)]
  simp only [mem_ints]
end
end DL
namespace DL
open PySem PySem.Spec PyProof.Rows L2
/-! ### join, split -/
def strsOf : List D → Option (List Str)
  | [] => some []
  | .str b :: r => (strsOf r).map (b :: ·)
  | _ => none
theorem strsOf_rep {K : PySem.W.Frag} {F : Hp} {θ : List Addr} : ∀ {vs : List V} {xs : List D} {bs : List Str}, RepL K F θ vs xs → strsOf xs = some bs → vs = bs.map V.str
  | _, [], _, r, h => by cases r; cases h; rfl
  | _, d :: ds, _, r, h => by
    cases r with
    | cons r1 r2 =>
      cases d with
      | str b =>
        simp only [strsOf, Option.map_eq_some_iff] at h
        obtain ⟨bs, h1, rfl⟩ := h
        cases r1
        rw [strsOf_rep r2 h1]; rfl
      | _ => cases h
theorem strsOf_map (l : List Str) : strsOf (l.map .str) = some l := by induction l with
  | nil => rfl
  | cons b l ih => simp only [List.map_cons, strsOf, ih, Option.map_some]
theorem repL_strs {K : PySem.W.Frag} {F : Hp} {θ : List Addr} : ∀ ns : List Str, RepL K F θ (ns.map V.str) (ns.map D.str)
  | [] => .nil
  | n :: ns => .cons (.str n) (repL_strs ns)
def chkS (x : D) : M Unit := match x with
  | .str _ => Mret ()
  | _ => Mbad
def gJoin : D → D → M D := fun x y μ => match x, (asSeq μ y).bind strsOf with
  | .str a, some ys => if (ys.map (·.length)).sum + ys.length * a.length ≤ 16777216 then .ok (.str (Txt.join a ys)) μ else .bad
  | _, _ => .bad
def gSplit (mu : Bool) : D → D → M D := fun x y μ => match x, y with
  | .str a, .str b => if (!(b.length == 0) && decide (a.length + 2 ≤ sizeLine)) = true then retL mu ((Txt.split a b).map .str) μ else .bad
  | _, _ => .bad
def eStrM (g : D → D → M D) (f h : Env → M D) : Env → M D := fun ρ => Mbind (f ρ) fun x => Mbind (chkS x) fun _ => Mbind (h ρ) fun y => g x y
section
variable {X : Cx} {W : WX} {o e : Expr} {f h : Env → M D} {apos pos : Pos}
theorem chkS_post {K : PySem.W.Frag} {F : Hp} {θ : List Addr} {H : Hp} {w : Wd} {v : V} {d : D} {α : Type} {m : M α} {Q : α → Hp → Wd → Prop} {E : Ex → Hp → Wd → Prop} (r : Rep K F θ v d) (P : Post K H w (Mbind (chkS d) (fun _ => m) w.μ) Q E) : ∃ a, d = .str a ∧ v = .str a ∧ Post K H w (m w.μ) Q E := by
  cases d with
  | str a => cases r; exact ⟨a, rfl, rfl, P⟩
  | _ => exact P.elim
theorem ed_join (ho : ED X W o f) (he : ED X W e h) (hs : starEach [e] X.env = [(false, eval e X.env)] := by rfl) (hbase : attributeBase o "join" X.env (eval o X.env) = eval o X.env := by rfl) (hline : (apos.endLine == pos.line) = true := by rfl) :
    ED X W (.Call (.Attribute o "join" apos) [e] [] pos) (eStrM gJoin f h) :=
  PE_imp (pe_join ho he hs hbase hline) fun σ H Q ⟨ρ, w, S, P⟩ => tE_bind S P fun d v H1 w1 _ S1 r1 P1 => by
    obtain ⟨a, rfl, rfl, P2⟩ := chkS_post r1 P1
    refine ⟨⟨a, rfl⟩, tE_bind S1 P2 fun d2 v2 H2 w2 x2 S2 r2 P3 => ?_⟩
    simp only [gJoin] at P3
    cases e1 : (asSeq w2.μ d2).bind strsOf with
    | none => rw [e1] at P3; exact P3.elim
    | some ys =>
      rw [e1] at P3
      simp only at P3
      obtain ⟨xs, h1, h2⟩ := Option.bind_eq_some_iff.mp e1
      obtain ⟨p, us, rfl, hs, rr⟩ := asSeq_ok S2.wf r2 h1
      have ev := strsOf_rep rr h2
      subst ev
      split at P3
      · rename_i hz
        exact ⟨a, p, ys, rfl, rfl, hs, hz, post_here P3 S2.wf (.str _)⟩
      · exact P3.elim
theorem ed_split (mu : Bool) (ho : ED X W o f) (he : ED X W e h) (hs : starEach [e] X.env = [(false, eval e X.env)] := by rfl) (hbase : attributeBase o "split" X.env (eval o X.env) = eval o X.env := by rfl) (hline : (apos.endLine == pos.line) = true := by rfl) :
    ED X W (.Call (.Attribute o "split" apos) [e] [] pos) (eStrM (gSplit mu) f h) :=
  PE_imp (pe_split ho he hs hbase hline) fun σ H Q ⟨ρ, w, S, P⟩ => tE_bind S P fun d v H1 w1 _ S1 r1 P1 => by
    obtain ⟨a, rfl, rfl, P2⟩ := chkS_post r1 P1
    refine ⟨⟨a, rfl⟩, tE_bind S1 P2 fun d2 v2 H2 w2 x2 S2 r2 P3 => ?_⟩
    cases d2 with
    | str b =>
      cases r2
      simp only [gSplit] at P3
      split at P3
      · rename_i hz
        simp only [Bool.and_eq_true, decide_eq_true_eq, Bool.not_eq_true'] at hz
        refine ⟨a, b, rfl, rfl, hz.1, hz.2, fun p hp => ?_⟩
        simp only [retL] at P3
        cases mu with
        | true => exact post_mut P3 S2.wf hp (repL_strs _)
        | false => exact post_lst P3 S2.wf hp (repL_strs _)
      · exact P3.elim
    | _ => exact P3.elim
end
section
variable {μ : Store} {ρ : Env} {f h : Env → M D} {x : D} {a b : Str} {l : List Str}
@[simp] theorem eStrM_at (g : D → D → M D) : eStrM g f h ρ μ = (f ρ μ).and fun x => Mbind (chkS x) fun _ => Mbind (h ρ) fun y => g x y := Eq.trans rfl rfl
@[simp] theorem chkS_at : chkS (.str a) μ = .ok () μ := Eq.trans rfl rfl
theorem gJoin_lst (h : (l.map (·.length)).sum + l.length * a.length ≤ 16777216) : gJoin (.str a) (.lst (l.map .str)) μ = .ok (.str (Txt.join a l)) μ := by
  unfold gJoin; simp only [asSeq, asLst, Option.bind_some, strsOf_map, if_pos h]
theorem gJoin_ptr {n : Nat} (hn : μ[n]? = some (.lst (l.map .str))) (h : (l.map (·.length)).sum + l.length * a.length ≤ 16777216) : gJoin (.str a) (.ptr n) μ = .ok (.str (Txt.join a l)) μ := by
  unfold gJoin; simp only [asSeq, asLst, hn, Option.bind_some, strsOf_map, if_pos h]
theorem gSplit_str (mu : Bool) (hb : b.length ≠ 0) (h : a.length ≤ 1000000) : gSplit mu (.str a) (.str b) μ = retL mu ((Txt.split a b).map .str) μ := by
  unfold gSplit
  have : (!(b.length == 0) && decide (a.length + 2 ≤ sizeLine)) = true := by
    simp only [Bool.and_eq_true, decide_eq_true_eq, Bool.not_eq_true', beq_eq_false_iff_ne]
    exact ⟨hb, by rw [line16]; omega⟩
  simp only [this, if_true]
end
end DL
namespace DL
open PySem PySem.Spec PyProof.Rows L2
def gNeg : D → M D := fun x => match x with
  | .int i => Mret (.int (-i))
  | _ => Mbad
@[simp] theorem gNeg_int {μ : Store} {i : Int} : gNeg (.int i) μ = .ok (.int (-i)) μ := Eq.trans rfl rfl
theorem xNeg {X : Cx} {W : WX} {e : Expr} {f : Env → M D} {pos : Pos} (he : ED X W e f) : ED X W (.UnaryOp .USub e pos) (eUn gNeg f) :=
  PE_imp (pe_un un_neg he) fun σ H Q ⟨ρ, w, S, P⟩ => tE_bind S P fun d v H1 w1 _ S1 r1 P1 => by
    cases d with
    | int i => cases r1; exact ⟨i, rfl, post_ret P1 S1.wf _ (.int _)⟩
    | _ => exact P1.elim
end DL
namespace DL
open PySem PySem.Spec PyProof.Rows L2
/-! ### sorted(set(xs)), xs a list of tuples of ints -/
def rowD (l : List Int) : D := .tup (l.map .int)
def rowsI : List D → Option (List (List Int))
  | [] => some []
  | .tup b :: r => match intsOf b, rowsI r with
    | some l, some ls => some (l :: ls)
    | _, _ => none
  | _ => none
theorem rowsI_map (l : List (List Int)) : rowsI (l.map rowD) = some l := by
  induction l with
  | nil => rfl
  | cons b l ih =>
    have : intsOf (b.map D.int) = some b := by
      induction b with
      | nil => rfl
      | cons x b ih2 => simp only [List.map_cons, intsOf, ih2, Option.map_some]
    simp only [List.map_cons, rowD, rowsI, this]
    rw [ih]
/-- the different ones, in order -/
def ssort (rows : List (List Int)) : List (List Int) := (dd rows).mergeSort fun a b => decide (a ≤ b)
def rowsOk (rows : List (List Int)) : Bool := decide (rows.length < 64) && rows.all fun r => decide (r.length = (rows.headD []).length) && (!r.isEmpty && r.all fun i => decide (0 ≤ i) && decide (i < 1000))
def gSortSet : D → M D := fun x μ => match (asLst μ x).bind rowsI with
  | some rows => if rowsOk rows = true then .ok (.lst ((ssort rows).map rowD)) μ else .bad
  | none => .bad
def eSortSet (f : Env → M D) : Env → M D := fun ρ => Mbind (f ρ) gSortSet
theorem code_lex {B : Int} : ∀ (a b : List Int), a.length = b.length → TS.Bd B a → TS.Bd B b → (TS.code B a < TS.code B b ↔ a < b)
  | [], [], _, _, _ => by simp [TS.code]
  | [], _ :: _, h, _, _ => by simp at h
  | _ :: _, [], h, _, _ => by simp at h
  | x :: a, y :: b, h, ha, hb => by
    have hl : a.length = b.length := by simpa using h
    rw [List.cons_lt_cons_iff]
    by_cases h1 : x < y
    · exact ⟨fun _ => .inl h1, fun _ => TS.code_lt hl ha.tail hb.tail h1⟩
    · by_cases h2 : x = y
      · subst h2
        rw [TS.code_same hl, code_lex a b hl ha.tail hb.tail]
        simp
      · have h3 : y < x := by omega
        have := TS.code_lt hl.symm hb.tail ha.tail h3
        constructor
        · intro q; omega
        · rintro (q | ⟨q, _⟩)
          · omega
          · omega
theorem code_le {B : Int} {a b : List Int} (h : a.length = b.length) (ha : TS.Bd B a) (hb : TS.Bd B b) : TS.code B a ≤ TS.code B b ↔ a ≤ b := by
  rw [← Int.not_lt, code_lex b a h.symm hb ha, List.not_lt]
theorem pairs_out {ks L L' : List (Addr × List Int)} {rows : List (List Int)} {d : Nat} (hks : ks.map (·.2) = rows) (h1 : ∀ p ∈ L, p ∈ ks) (h2 : ∀ p ∈ ks, p.2 ∈ L.map (·.2)) (hr : ∀ r ∈ rows, r.length = d ∧ TS.Bd 1000 r)
    (pm : L'.Perm L) (nd : (L'.map (·.2)).Nodup) (pw : L'.Pairwise fun q r => TS.code 1000 q.2 ≤ TS.code 1000 r.2) : L'.map (·.2) = ssort rows := by
  have mem : ∀ r, r ∈ L'.map (·.2) ↔ r ∈ rows := fun r => by
    rw [(pm.map (·.2)).mem_iff, ← hks]
    constructor
    · intro h
      obtain ⟨p, hp, rfl⟩ := List.mem_map.mp h
      exact List.mem_map.mpr ⟨p, h1 p hp, rfl⟩
    · intro h
      obtain ⟨p, hp, rfl⟩ := List.mem_map.mp h
      exact h2 p hp
  unfold ssort
  have p1 : (L'.map (·.2)).Perm ((dd rows).mergeSort fun a b => decide (a ≤ b)) :=
    ((List.perm_ext_iff_of_nodup nd (dd_nodup rows)).mpr fun a => (mem a).trans mem_dd.symm).trans (List.mergeSort_perm _ _).symm
  refine List.Perm.eq_of_pairwise (le := fun a b => a ≤ b) (fun a b _ _ h1 h2 => List.le_antisymm h1 h2) ?_ ?_ p1
  · rw [List.pairwise_map]
    refine List.Pairwise.imp_of_mem (fun {q r} hq hr' h => ?_) pw
    have a1 := hr q.2 ((mem q.2).mp (List.mem_map.mpr ⟨q, hq, rfl⟩))
    have a2 := hr r.2 ((mem r.2).mp (List.mem_map.mpr ⟨r, hr', rfl⟩))
    exact (code_le (a1.1.trans a2.1.symm) a1.2 a2.2).mp h
  · have := List.pairwise_mergeSort (le := fun a b : List Int => decide (a ≤ b)) (fun a b c h1 h2 => by simp only [decide_eq_true_eq] at *; exact List.le_trans h1 h2) (fun a b => by
      simp only [Bool.or_eq_true, decide_eq_true_eq]; exact List.le_total a b) (dd rows)
    exact this.imp fun h => by simpa using h
theorem repL_rows {K : PySem.W.Frag} {F : Hp} {θ : List Addr} : ∀ {vs : List V} {xs : List D} {rows : List (List Int)}, RepL K F θ vs xs → rowsI xs = some rows →
    ∃ ks : List (Addr × List Int), vs = ks.map (fun p => V.ref p.1) ∧ ks.map (·.2) = rows ∧ ∀ p ∈ ks, SqT K F p.1 (p.2.map V.int) ∧ Rep K F θ (.ref p.1) (rowD p.2)
  | _, [], _, r, h => by cases r; cases h; exact ⟨[], rfl, rfl, fun _ h => (nomatch h)⟩
  | _, d :: ds, _, r, h => by
    cases r with
    | cons r1 r2 =>
      cases d with
      | tup b =>
        simp only [rowsI] at h
        cases e1 : intsOf b with
        | none => rw [e1] at h; cases h
        | some l =>
          cases e2 : rowsI ds with
          | none => rw [e1, e2] at h; cases h
          | some ls =>
            rw [e1, e2] at h
            cases h
            obtain ⟨ks, k1, k2, k3⟩ := repL_rows r2 e2
            cases r1 with
            | @tup a vs _ h1 h2 =>
              have ev := intsOf_rep h2 e1
              subst ev
              have eb : b = l.map .int := by
                clear h1 h2 k1 k2 k3
                induction b generalizing l with
                | nil => cases e1; rfl
                | cons x b ih =>
                  cases x with
                  | int i =>
                    simp only [intsOf, Option.map_eq_some_iff] at e1
                    obtain ⟨l', h, rfl⟩ := e1
                    rw [ih l' h]; rfl
                  | _ => cases e1
              subst eb
              exact ⟨(a, l) :: ks, by rw [k1]; rfl, by rw [List.map_cons, k2], fun p hp => by
                rcases List.mem_cons.mp hp with e | hp
                · rw [e]; exact ⟨h1, .tup h1 h2⟩
                · exact k3 p hp⟩
      | _ => cases h
section
variable {X : Cx} {W : WX} {a : Expr} {f : Env → M D} {p p2 q pos : Pos}
theorem ed_sortSet (hu : X.A.units + 64 < cLine) (hg : Gl X "sorted") (hm : X.mg "sorted" = none) (hg2 : Gl X "set") (hm2 : X.mg "set" = none) (hc : X.calm = true) (ha : ED X W a f) (na : starEach [a] X.env = (false, eval a X.env) :: starEach [] X.env := by rfl)
    (na2 : starEach [.Call (.Name "set" p2) [a] [] q] X.env = (false, eval (.Call (.Name "set" p2) [a] [] q) X.env) :: starEach [] X.env := by rfl) :
    ED X W (.Call (.Name "sorted" p) [.Call (.Name "set" p2) [a] [] q] [] pos) (eSortSet f) :=
  PE_imp (pe_callB (cr_sortedT hc) hg hm bb_sorted (pa_cons (pe_callTy (cr_setOfT hc hu) hg2 hm2 PyProof.Rows.boot_set (pa_cons ha pa_nil na) (by decide) (by decide) na rfl) pa_nil na2) (by decide) (by decide) na2 rfl) fun σ H Q ⟨ρ, w, S, P⟩ =>
    show tE X.K X.mg W f σ H _ from tE_bind S P fun d v H1 w1 x1 S1 r1 P1 => by
      simp only [gSortSet] at P1
      cases e1 : (asLst w1.μ d).bind rowsI with
      | none => rw [e1] at P1; exact P1.elim
      | some rows =>
        rw [e1] at P1
        simp only at P1
        obtain ⟨xs, h1, h2⟩ := Option.bind_eq_some_iff.mp e1
        obtain ⟨l, vs, rfl, hs, rr⟩ := asLst_ok S1.wf r1 h1
        obtain ⟨ks, rfl, hks, hk⟩ := repL_rows rr h2
        split at P1
        · rename_i hz
          unfold rowsOk at hz
          simp only [Bool.and_eq_true, List.all_eq_true, decide_eq_true_eq, Bool.not_eq_true'] at hz
          have hrow : ∀ r ∈ rows, r.length = (rows.headD []).length ∧ TS.Bd 1000 r := fun r hr => ⟨(hz.2 r hr).1, fun m hm => (hz.2 r hr).2.2 m hm⟩
          have hlen : ks.length < 64 := by
            have := congrArg List.length hks
            rw [List.length_map] at this
            omega
          refine ⟨l, ks, rfl, SqL.of hs, fun p hp => same_sqt S1.wf.same (hk p hp).1, hlen, fun b L hb hL1 hL2 => ?_⟩
          have wf2 := S1.wf.frz (o := SetTO X.prog X.w b L) hb
          have hd : rows = [] ∨ 1 ≤ (rows.headD []).length := by
            cases rows with
            | nil => exact .inl rfl
            | cons r rs =>
              right
              have := (hz.2 r List.mem_cons_self).2.1
              cases r with
              | nil => simp at this
              | cons _ _ => simp
          have inr : ∀ p ∈ L, p.2 ∈ rows := fun p hp => by rw [← hks]; exact List.mem_map.mpr ⟨p, hL1 p hp, rfl⟩
          have sup : ∀ p ∈ ks, SqT X.K (upd H1 b (SetTO X.prog X.w b L)) p.1 (p.2.map V.int) := fun p hp => same_sqt (same_upd_new hb) (same_sqt S1.wf.same (hk p hp).1)
          refine ⟨b, L, max 1 (rows.headD []).length, 1000, rfl, upd_same, fun p hp => sup p (hL1 p hp), Nat.le_max_left _ _, fun p hp => ?_, fun L' c pm nd hl pw hc => ?_⟩
          · have hp' := inr p hp
            have := hrow p.2 hp'
            rcases hd with hd | hd
            · rw [hd] at hp'; cases hp'
            · exact ⟨by rw [Nat.max_eq_right hd]; exact this.1, this.2⟩
          · have eo := pairs_out hks hL1 hL2 hrow pm nd pw
            have s1 : Same w1.F (w1.frz b (SetTO X.prog X.w b L)).F := same_upd_new (S1.wf.frz_new hb)
            have rL : RepL X.K (w1.frz b (SetTO X.prog X.w b L)).F (w1.frz b (SetTO X.prog X.w b L)).θ (L'.map fun q => V.ref q.1) ((ssort rows).map rowD) := by
              rw [← eo, List.map_map]
              have hin : ∀ p ∈ L', p ∈ ks := fun p hp => hL1 p (pm.mem_iff.mp hp)
              clear eo pw nd hl pm
              induction L' with
              | nil => exact .nil
              | cons p L' ih => exact .cons ((hk p (hin p List.mem_cons_self)).2.mono s1 (List.prefix_refl _)) (ih fun q hq => hin q (List.mem_cons_of_mem _ hq))
            have P2 := Post.ext (H' := upd H1 b (SetTO X.prog X.w b L)) (w' := w1.frz b (SetTO X.prog X.w b L)) P1 (Ext.frz_ S1.wf hb)
            exact post_lst P2 wf2 hc rL
        · exact P1.elim
end
@[simp] theorem eSortSet_at {f : Env → M D} {ρ : Env} {μ : Store} : eSortSet f ρ μ = (f ρ μ).and gSortSet := Eq.trans rfl rfl
theorem gSortSet_at {rows : List (List Int)} {μ : Store} {k : Nat} (h : rows.length < 64) (hk : 0 < k) (hr : ∀ r ∈ rows, r.length = k ∧ ∀ i ∈ r, 0 ≤ i ∧ i < 1000) : gSortSet (.lst (rows.map rowD)) μ = .ok (.lst ((ssort rows).map rowD)) μ := by
  have : rowsOk rows = true := by
    unfold rowsOk
    simp only [Bool.and_eq_true, List.all_eq_true, decide_eq_true_eq, Bool.not_eq_true']
    refine ⟨h, fun r hr' => ?_⟩
    have hh : (rows.headD []).length = k := by
      cases rows with
      | nil => cases hr'
      | cons q _ => exact (hr q List.mem_cons_self).1
    refine ⟨by rw [(hr r hr').1, hh], ?_, (hr r hr').2⟩
    have := (hr r hr').1
    cases r with
    | nil => simp at this; omega
    | cons _ _ => rfl
  unfold gSortSet
  simp only [asLst, Option.bind_some, rowsI_map, this, if_true]
theorem mem_ssort {rows : List (List Int)} {r : List Int} : r ∈ ssort rows ↔ r ∈ rows := by unfold ssort; rw [List.mem_mergeSort, mem_dd]
end DL
namespace DL
open PySem PySem.Spec PyProof.Rows L2
/-! ### sorted, of one item alone as well (of an empty tuple too) -/
theorem general_lt (x y : Value) : keyLt' general' x y = oneLt' false x y := rfl
def rSort1 (K : PySem.W.Frag) : List V → Hp → VK → Prop := fun vs H Q => ∃ (a : Addr) (v : V) (d : PyData), vs = [.ref a] ∧ SqL K H a [v] ∧ Dp K H v d ∧ PySem.W.alike d d = true ∧ d ≠ .none ∧ d.depth ≤ 50 ∧ ∀ q, H q = none → Q (.ref q) (upd H q (.lst [v]))
theorem call_sort1 {X : Cx} (hu : X.A.units + 64 < cLine) : CallR X (.builtin "sorted") (rSort1 X.K) := by
  intro pins s σ H vs us Q I r ⟨a, v, d, ev, hs, hd, hal, hn, hdep, q⟩
  subst ev
  obtain ⟨its, rv, pl, hz⟩ := I.list hs
  rw [Vals.ref1 r]
  cases rv with
  | @cons _ u _ _ r1 r2 =>
    cases r2
    obtain ⟨as, rd⟩ := Dp.reads I _ _ _ hd r1
    have rd' : Reads (PySem.W.sortingHeap (PySem.W.copyHeap s.heap [u]) (s.heap.objs.size + 1) [u]) u d as := PyProof.Rows.Reads.keeps (fun _ _ => PySem.W.sorting_copy_old) rd
    have all1 : PySem.W.AllAlike [d] := fun x hx y hy => by
      rw [List.mem_singleton.mp hx, List.mem_singleton.mp hy]; exact hal
    refine PySem.W.sorted_vals (κ := PySem.W.dataKind (PySem.W.sortingHeap (PySem.W.copyHeap s.heap [u]) (s.heap.objs.size + 1) [u]) [d]) pl.isList ⟨fun z hz => ?_, general', fun E x y k l P hk hl hP => ?_, fun h2 => absurd h2 (by simp)⟩ (by rw [line16]; simp) ?_
    · rw [List.mem_singleton.mp hz]
      exact ⟨_, PySem.W.dataKind_some all1 (List.mem_singleton.mpr rfl) rd'⟩
    · obtain ⟨p1, as1, m1, ra, rfl⟩ := PySem.W.dataKind_inv hk
      obtain ⟨p2, as2, m2, rb, rfl⟩ := PySem.W.dataKind_inv hl
      rw [List.mem_singleton.mp m1] at ra hP
      rw [List.mem_singleton.mp m2] at rb hP
      rw [general_lt]
      exact PySem.W.oneLt_alike (fun z => nomatch z) ra rb hal hn (by show X.A.units + 1 + 1 + min d.depth d.depth < cLine; omega) hP
    · have e1 : PySem.W.sortVals (PySem.W.dataKind (PySem.W.sortingHeap (PySem.W.copyHeap s.heap [u]) (s.heap.objs.size + 1) [u]) [d]) false [u] [u] = [u] := by simp [PySem.W.sortVals]
      rw [e1]
      obtain ⟨ep, he'⟩ := PyProof.Rows.sortedAll_at s.heap [u] #[u]
      exact ⟨.ref _, upd H (s.heap.objs.size + 1) (.lst [v]), I.laid (t' := s.toks) (fun _ _ => PyProof.Rows.sortedAll_old) (Nat.le_succ _) ⟨hz, [u], ep, .cons r1 .nil, he'⟩, rfl, q _ (I.hok.fresh (Nat.le_succ _))⟩
def oneB (d : D) : Bool := match toPy d with
  | some p => PySem.W.alike p p && (notNone p && Nat.ble p.depth 50)
  | none => false
def gSortedE : List D → M D := fun ds μ => match ds with
  | [x] => match asLst μ x with
    | some [d] => if oneB d = true then .ok (.lst [d]) μ else .bad
    | _ => gSorted ds μ
  | _ => .bad
theorem v_sortedE (K : PySem.W.Frag) : VCall K (fun vs H Q => rSortD K vs H Q ∨ rSort1 K vs H Q) gSortedE := by
  intro H w xs ds Q E wf r P
  have old : Post K H w (gSorted ds w.μ) (QV K Q) E → rSortD K xs H Q ∨ rSort1 K xs H Q := fun h => .inl (v_sorted K H w xs ds Q E wf r h)
  cases ds with
  | nil => exact P.elim
  | cons x ds =>
    cases ds with
    | cons _ _ => exact P.elim
    | nil =>
      simp only [gSortedE] at P
      cases e1 : asLst w.μ x with
      | none => rw [e1] at P; exact old P
      | some ys =>
        rw [e1] at P
        match ys, e1 with
        | [], _ => exact old P
        | _ :: _ :: _, _ => exact old P
        | [d], e1 =>
          simp only at P
          split at P
          · rename_i hb
            cases r with
            | cons r1 r2 =>
              cases r2
              obtain ⟨a, us, rfl, hs, rr⟩ := asLst_ok wf r1 e1
              cases rr with
              | cons r3 r4 =>
                cases r4
                unfold oneB at hb
                cases e2 : toPy d with
                | none => rw [e2] at hb; cases hb
                | some p =>
                  rw [e2] at hb
                  simp only [Bool.and_eq_true, Nat.ble_eq] at hb
                  refine .inr ⟨a, _, p, rfl, SqL.of hs, rep_dp wf.same _ r3 e2, hb.1, fun e => ?_, hb.2.2, fun q hq => post_lst P wf hq (.cons r3 .nil)⟩
                  rw [e] at hb; exact absurd hb.2.1 (by decide)
          · exact P.elim
theorem wSortedE {X : Cx} (hu : X.A.units + 64 < cLine) : BltW X "sorted" gSortedE := ⟨.inl ⟨_, _, (call_sortD hu).or (call_sort1 hu), v_sortedE _, bb_sorted⟩⟩
end DL
namespace Hd
open PySem PySem.Spec PyProof.Rows L2
def top (i : Nat) : Stmt := PySem.Challenge.pw_hatnames_k10_whole_least_bars.main.body.getD i (.Pass ⟨0, 0, 0, 0⟩)
end Hd
namespace Lw
open PySem PySem.Spec PyProof.Rows L2 DL
def m__law_let : List D → M D := pureM (defM 2 6 ((sSeq (sPar 3 4 (eLst true aNil) (eCall gLen (aCons (eVar 1) aNil)))
    (sSeq (sFor (iRange1 (eCall gLen (aCons (eBin gIx (eVar 0) (eC (.int 0))) aNil))) (gVar 2) (sIf (tAndM (tOf (eBin (gIn true) (eVar 2) (eVar 1))) (tOf (eBin (gIn true) (eVar 2) (eBin gIx (eBin gIx (eVar 0) (eC (.int 0))) (eVar 4))))) (sSeq (sSet 5 (eOr (eBin (gEq false) (eVar 2) (eVar 4)) (eAnd (eBin gLt (eVar 2) (eVar 4)) (eBin (gEq false) (eBin gIx (eVar 1) (eVar 2)) (eVar 4)))))
    (sIf (tNotM (tAndM (tTru (eBin gIx (eVar 0) (eC (.int 1)))) (tTru (eVar 5)))) (sExp (eMth (gMut hAppend) (eVar 3) (aCons (eVar 2) aNil))) sNil)) sNil))
    (sRet (eVar 3))))))
def m__law_drawn : List D → M D := pureM (defM 3 9 ((sSeq (sAsg (gTupl 4 (gsCons (gVar 5) (gsCons (gVar 6) (gsCons (gVar 7) (gsCons (gVar 8) gsNil))))) (eVar 1))
    (sSeq (sIf (tOf (eBin (gEq false) (eCall gLen (aCons (eVar 5) aNil)) (eCall gLen (aCons (eBin gIx (eVar 0) (eC (.int 0))) aNil)))) (sRet (eTup (aCons (eC .non) (aCons (eC (.str "over")) aNil)))) sNil)
    (sSeq (sIf (tOrM (tNotM (tOf (eCall gIsi (aCons (eVar 2) (aCons (eC (.raw (.ty "int"))) aNil))))) (tOrM (tOf (eCall gIsi (aCons (eVar 2) (aCons (eC (.raw (.ty "bool"))) aNil)))) (tOrM (tOf (eBin (gIn false) (eVar 2) (eVar 5))) (tNotM (tOf (eChain gLe gLt (eC (.int 0)) (eVar 2) (eCall gLen (aCons (eBin gIx (eVar 0) (eC (.int 0))) aNil)))))))) (sRet (eTup (aCons (eC .non) (aCons (eC (.str "name")) aNil)))) sNil)
    (sSeq (sSet 3 (eCall m__law_let (aCons (eVar 0) (aCons (eVar 5) aNil))))
    (sSeq (sIf (tOf (eBin (gEq false) (eVar 3) (eLst false aNil))) (sRet (eTup (aCons (eC .non) (aCons (eC (.str "stuck")) aNil)))) sNil)
    (sSeq (sSet 4 (eBin (gAdd false) (eBin (gAdd false) (eBin (gAdd false) (eCall gStrI (aCons (eCall gLen (aCons (eVar 5) aNil)) aNil)) (eC (.str " "))) (eCall gStrI (aCons (eVar 2) aNil))) (eC (.str " "))))
    (sSeq (sIf (tOf (eBin (gIn false) (eVar 2) (eVar 3))) (sRet (eTup (aCons (eTup (aCons (eBin (gAdd false) (eVar 5) (eTup (aCons (eVar 2) aNil))) (aCons (eVar 6) (aCons (eBin (gAdd false) (eVar 7) (eC (.int 1))) (aCons (eBin (gAdd false) (eVar 8) (eTup (aCons (eBin (gAdd false) (eVar 4) (eC (.str "keeps"))) aNil))) aNil))))) (aCons (eC (.str "keeps")) aNil)))) sNil)
    (sSeq (sIf (tOf (eBin (gEq false) (eBin gIx (eVar 0) (eC (.int 2))) (eC (.str "anew")))) (sRet (eTup (aCons (eTup (aCons (eTup aNil) (aCons (eBin (gAdd false) (eVar 6) (eC (.int 1))) (aCons (eBin (gAdd false) (eVar 7) (eC (.int 1))) (aCons (eBin (gAdd false) (eVar 8) (eTup (aCons (eBin (gAdd false) (eVar 4) (eC (.str "anew"))) aNil))) aNil))))) (aCons (eC (.str "anew")) aNil)))) sNil)
    (sRet (eTup (aCons (eTup (aCons (eVar 5) (aCons (eVar 6) (aCons (eBin (gAdd false) (eVar 7) (eC (.int 1))) (aCons (eBin (gAdd false) (eVar 8) (eTup (aCons (eBin (gAdd false) (eVar 4) (eC (.str "back"))) aNil))) aNil))))) (aCons (eC (.str "back")) aNil))))))))))))))
def m__law_all_drawn : List D → M D := pureM (defM 3 6 ((sSeq (sIf (tNotM (tOf (eCall gIsi (aCons (eVar 2) (aCons (eC (.raw (.ty "tuple"))) aNil))))) (sRet (eC (.str "name"))) sNil)
    (sSeq (sFor (iSeq (eVar 2)) (gVar 3) (sSeq (sAsg (gTupl 2 (gsCons (gVar 4) (gsCons (gVar 5) gsNil))) (eCall m__law_drawn (aCons (eVar 0) (aCons (eVar 1) (aCons (eVar 3) aNil)))))
    (sSeq (sIf (tOf (eBin (gIsN false) (eVar 4) (eC .non))) (sRet (eVar 5)) sNil)
    (sSet 1 (eVar 4)))))
    (sRet (eVar 1))))))
def m__law_pairs : List D → M D := pureM (defM 2 11 ((sSeq (sPar 3 4 (eLst true aNil) (eCall gLen (aCons (eVar 1) aNil)))
    (sSeq (sFor (iRange1 (eVar 4)) (gVar 2) (sFor (iRange1 (eCall gLen (aCons (eBin gIx (eVar 0) (eC (.int 0))) aNil))) (gVar 5) (sSeq (sSet 6 (eBin (gAdd true) (eCall (gList false) (aCons (eVar 1) aNil)) (eLst false (aCons (eBin gIx (eVar 1) (eVar 2)) aNil))))
    (sSeq (sPut (eVar 6) (eVar 2) (eVar 5))
    (sSeq (sSet 7 (eAnd (eBin (gIn true) (eVar 5) (eVar 1)) (eBin (gIn true) (eVar 5) (eBin gIx (eBin gIx (eVar 0) (eC (.int 0))) (eVar 2)))))
    (sSeq (sSet 7 (eAnd (eVar 7) (eBin (gIn true) (eBin gIx (eVar 1) (eVar 2)) (eBin gIx (eBin gIx (eVar 0) (eC (.int 0))) (eVar 4)))))
    (sSeq (sFor (iRange1 (eBin (gAdd false) (eVar 4) (eC (.int 1)))) (gVar 8) (sSeq (sSet 9 (eBin gIx (eVar 6) (eVar 8)))
    (sSeq (sSet 10 (eOr (eBin (gEq false) (eVar 9) (eVar 8)) (eAnd (eBin gLe (eVar 9) (eVar 4)) (eBin (gEq false) (eBin gIx (eVar 6) (eVar 9)) (eVar 8)))))
    (sSet 7 (eAnd (eVar 7) (eNot (eAnd (eBin gIx (eVar 0) (eC (.int 1))) (eVar 10))))))))
    (sIf (tTru (eVar 7)) (sExp (eMth (gMut hAppend) (eVar 3) (aCons (eTup (aCons (eVar 2) (aCons (eVar 5) aNil))) aNil))) sNil))))))))
    (sRet (eVar 3))))))
def m__law_anew_due : List D → M D := pureM (defM 2 7 ((sSeq (sAsg (gTupl 4 (gsCons (gVar 3) (gsCons (gVar 4) (gsCons (gVar 5) (gsCons (gVar 6) gsNil))))) (eVar 1))
    (sSeq (sSet 2 (eBin (gEq false) (eCall gLen (aCons (eVar 3) aNil)) (eCall gLen (aCons (eBin gIx (eVar 0) (eC (.int 0))) aNil))))
    (sSeq (sIf (tOrM (tTru (eVar 2)) (tOrM (tOf (eBin (gEq true) (eCall m__law_let (aCons (eVar 0) (aCons (eVar 3) aNil))) (eLst false aNil))) (tAndM (tOf (eBin (gEq false) (eBin gIx (eVar 0) (eC (.int 2))) (eC (.str "swap")))) (tOf (eBin (gEq true) (eCall m__law_pairs (aCons (eVar 0) (aCons (eVar 3) aNil))) (eLst false aNil)))))) (sRet (eTup (aCons (eC .non) (aCons (eC (.str "going")) aNil)))) sNil)
    (sRet (eTup (aCons (eTup (aCons (eTup aNil) (aCons (eBin (gAdd false) (eVar 4) (eC (.int 1))) (aCons (eVar 5) (aCons (eBin (gAdd false) (eVar 6) (eTup (aCons (eC (.str "anew")) aNil))) aNil))))) (aCons (eC .non) aNil)))))))))
def m__law_take : List D → M D := defM 2 4 ((sSeq (sIf (tOf (eBin gGt (eBin gIx (eVar 0) (eC (.int 0))) (eC (.int 0)))) (sSeq (sSet 3 (eBin gMod (eCall gInt1 (aCons (eBin gIx (eVar 0) (eC (.int 0))) aNil)) (eVar 1)))
    (sSeq (sPut (eVar 0) (eC (.int 0)) (eBin gDiv (eCall gInt1 (aCons (eBin gIx (eVar 0) (eC (.int 0))) aNil)) (eVar 1)))
    (sRet (eVar 3)))) sNil)
    (sSeq (sPut (eVar 0) (eC (.int 1)) (eBin gMod (eCall gInt1 (aCons (eBin (gAdd false) (eBin gMulI (eBin gIx (eVar 0) (eC (.int 1))) (eC (.int 40692))) (eC (.int 401))) aNil)) (eC (.int 2147483269))))
    (sSeq (sSet 2 (eBin gMod (eBin gMulI (eCall gInt1 (aCons (eBin gIx (eVar 0) (eC (.int 1))) aNil)) (eBin (gAdd false) (eBin gDiv (eCall gInt1 (aCons (eBin gIx (eVar 0) (eC (.int 1))) aNil)) (eC (.int 13))) (eC (.int 31)))) (eC (.int 2147483249))))
    (sRet (eBin gMod (eCall gInt1 (aCons (eBin gDiv (eCall gInt1 (aCons (eVar 2) aNil)) (eC (.int 17))) aNil)) (eVar 1)))))))
def m__law_of : List D → M D := defM 2 2 ((sRet (eBin gIx (eVar 1) (eCall m__law_take (aCons (eVar 0) (aCons (eCall gLen (aCons (eVar 1) aNil)) aNil))))))
def m__law_bag : List D → M D := defM 2 3 ((sSeq (sSet 2 (eIf (tOf (eBin gLt (eVar 1) (eCall gLen (aCons (eVar 0) aNil)))) (eCall gAbs (aCons (eCall gInt1 (aCons (eBin gIx (eVar 0) (eVar 1)) aNil)) aNil)) (eBin (gAdd false) (eBin gMulI (eC (.int 61)) (eVar 1)) (eC (.int 23)))))
    (sRet (eLst true (aCons (eIf (tOf (eBin gGe (eVar 2) (eBin gPow (eC (.int 10)) (eC (.int 18))))) (eVar 2) (eC (.int 0))) (aCons (eBin gMod (eCall gInt1 (aCons (eBin (gAdd false) (eBin (gAdd false) (eBin gMod (eCall gInt1 (aCons (eVar 2) aNil)) (eC (.int 2147483269))) (eBin gMulI (eC (.int 90011)) (eVar 1))) (eC (.int 47))) aNil)) (eC (.int 2147483269))) aNil))))))
def m__law_bars : List D → M D := defM 2 7 ((sSeq (sPar 3 4 (eCall m__law_take (aCons (eVar 0) (aCons (eC (.int 4)) aNil))) (eTup aNil))
    (sSeq (sFor (iRange1 (eVar 1)) (gVar 2) (sSeq (sSet 5 (eIf (tOf (eBin gLt (eVar 3) (eC (.int 2)))) (eLst false (aCons (eVar 2) aNil)) (eLst false aNil)))
    (sSeq (sFor (iRange1 (eVar 1)) (gVar 6) (sIf (tAndM (tOf (eBin (gIn true) (eVar 6) (eVar 5))) (tOf (eBin (gEq false) (eCall m__law_take (aCons (eVar 0) (aCons (eIf (tOf (eBin (gEq true) (eVar 3) (eC (.int 1)))) (eC (.int 4)) (eC (.int 7))) aNil))) (eC (.int 0))))) (sSet 5 (eBin (gAdd false) (eVar 5) (eLst false (aCons (eVar 6) aNil)))) sNil))
    (sSet 4 (eBin (gAdd false) (eVar 4) (eTup (aCons (eCall gTuple (aCons (eCall gSorted (aCons (eVar 5) aNil)) aNil)) aNil)))))))
    (sRet (eVar 4)))))
def m__law_turned : List D → M D := pureM (defM 2 6 ((sSeq (sAsg (gTupl 2 (gsCons (gVar 3) (gsCons (gVar 4) gsNil))) (eVar 1))
    (sSeq (sSet 2 (eLc false (iRange1 (eCall gLen (aCons (eBin gIx (eVar 0) (eC (.int 0))) aNil))) (gVar 5) (tOf (eBin (gEq true) (eBin (gIn false) (eVar 5) (eBin gIx (eBin gIx (eVar 0) (eC (.int 0))) (eVar 3))) (eBin (gEq false) (eVar 5) (eVar 4)))) (eVar 5) [5]))
    (sRet (eTup (aCons (eBin (gAdd false) (eBin (gAdd false) (eSl (eBin gIx (eVar 0) (eC (.int 0))) oNone (oSome (eVar 3))) (eTup (aCons (eCall gTuple (aCons (eVar 2) aNil)) aNil))) (eSl (eBin gIx (eVar 0) (eC (.int 0))) (oSome (eBin (gAdd false) (eVar 3) (eC (.int 1)))) oNone)) (aCons (eBin gIx (eVar 0) (eC (.int 1))) (aCons (eBin gIx (eVar 0) (eC (.int 2))) aNil)))))))))
def m__law_text : List D → M D := pureM (defM 1 4 ((sSeq (sSet 1 (eLst true (aCons (eBin (gAdd false) (eBin gIx (eVar 0) (eC (.int 2))) (eIf (tTru (eBin gIx (eVar 0) (eC (.int 1)))) (eC (.str " mutual")) (eC (.str "")))) aNil)))
    (sSeq (sFor (iSeq (eBin gIx (eVar 0) (eC (.int 0)))) (gVar 2) (sExp (eMth (gMut hAppend) (eVar 1) (aCons (eIf (tOf (eBin (gEq true) (eVar 2) (eTup aNil))) (eStrM gJoin (eC (.str ",")) (eLc false (iSeq (eVar 2)) (gVar 3) tYesM (eCall gStrI (aCons (eVar 3) aNil)) [3])) (eC (.str "free"))) aNil))))
    (sRet (eStrM gJoin (eC (.str "\n")) (eVar 1)))))))
def m__law_begin : List D → M D := pureM (defM 0 0 ((sRet (eTup (aCons (eTup aNil) (aCons (eC (.int 1)) (aCons (eC (.int 0)) (aCons (eTup aNil) aNil))))))))
def m_is_ascending : List D → M D := pureM (defM 1 3 ((sRet (eCall gAll (aCons (eLc false (iZip (eVar 0) (eSl (eVar 0) (oSome (eC (.int 1))) oNone)) (gTupl 2 (gsCons (gVar 1) (gsCons (gVar 2) gsNil))) tYesM (eBin gLt (eVar 1) (eVar 2)) [1, 2]) aNil)))))
def m_is_number : List D → M D := pureM (defM 1 1 ((sRet (eAnd (eCall gIsi (aCons (eVar 0) (aCons (eC (.raw (.ty "int"))) aNil))) (eNot (eCall gIsi (aCons (eVar 0) (aCons (eC (.raw (.ty "bool"))) aNil))))))))
def m_is_from : List D → M D := pureM (defM 3 3 ((sRet (eAnd (eCall m_is_number (aCons (eVar 0) aNil)) (eChain gLe gLe (eVar 1) (eVar 0) (eVar 2))))))
def m_are_names : List D → M D := pureM (defM 2 3 ((sSeq (sIf (tOrM (tNotM (tOf (eCall gIsi (aCons (eVar 0) (aCons (eC (.raw (.ty "tuple"))) aNil))))) (tNotM (tOf (eCall gAll (aCons (eLc false (iSeq (eVar 0)) (gVar 2) tYesM (eCall m_is_from (aCons (eVar 2) (aCons (eC (.int 0)) (aCons (eBin gSub (eVar 1) (eC (.int 1))) aNil)))) [2]) aNil))))) (sRet (eC (.bl false))) sNil)
    (sRet (eCall m_is_ascending (aCons (eVar 0) aNil))))))
def m_is_rule : List D → M D := pureM (defM 1 2 ((sSeq (sIf (tOrM (tNotM (tOf (eCall gIsi (aCons (eVar 0) (aCons (eC (.raw (.ty "tuple"))) aNil))))) (tOrM (tOf (eBin (gEq true) (eCall gLen (aCons (eVar 0) aNil)) (eC (.int 3)))) (tNotM (tOf (eCall gIsi (aCons (eBin gIx (eVar 0) (eC (.int 0))) (aCons (eC (.raw (.ty "tuple"))) aNil))))))) (sRet (eC (.bl false))) sNil)
    (sSeq (sIf (tOrM (tNotM (tOf (eChain gLe gLe (eC (.int 2)) (eCall gLen (aCons (eBin gIx (eVar 0) (eC (.int 0))) aNil)) (eC (.int 6))))) (tNotM (tOf (eCall gAll (aCons (eLc false (iSeq (eBin gIx (eVar 0) (eC (.int 0)))) (gVar 1) tYesM (eCall m_are_names (aCons (eVar 1) (aCons (eCall gLen (aCons (eBin gIx (eVar 0) (eC (.int 0))) aNil)) aNil))) [1]) aNil))))) (sRet (eC (.bl false))) sNil)
    (sRet (eAnd (eCall gIsi (aCons (eBin gIx (eVar 0) (eC (.int 1))) (aCons (eC (.raw (.ty "bool"))) aNil))) (eAnd (eCall gIsi (aCons (eBin gIx (eVar 0) (eC (.int 2))) (aCons (eC (.raw (.ty "str"))) aNil))) (eBin (gIn false) (eBin gIx (eVar 0) (eC (.int 2))) (eC (.tup [.str "again", .str "anew", .str "swap"]))))))))))
def m_need_rule : List D → M D := pureM (defM 1 1 ((sIf (tNotM (tOf (eCall m_is_rule (aCons (eVar 0) aNil)))) sBad sNil)))
def m_are_different : List D → M D := pureM (defM 2 3 ((sSeq (sIf (tOrM (tNotM (tOf (eCall gIsi (aCons (eVar 0) (aCons (eC (.raw (.ty "tuple"))) aNil))))) (tNotM (tOf (eCall gAll (aCons (eLc false (iSeq (eVar 0)) (gVar 2) tYesM (eCall m_is_from (aCons (eVar 2) (aCons (eC (.int 0)) (aCons (eBin gSub (eVar 1) (eC (.int 1))) aNil)))) [2]) aNil))))) (sRet (eC (.bl false))) sNil)
    (sRet (eBin (gEq false) (eLenSet (eVar 0)) (eCall gLen (aCons (eVar 0) aNil)))))))
def m_is_outcome_for : List D → M D := pureM (defM 2 2 ((sRet (eAnd (eCall m_are_different (aCons (eVar 1) (aCons (eCall gLen (aCons (eBin gIx (eVar 0) (eC (.int 0))) aNil)) aNil))) (eBin (gEq false) (eCall gLen (aCons (eVar 1) aNil)) (eCall gLen (aCons (eBin gIx (eVar 0) (eC (.int 0))) aNil)))))))
def m_need_outcome : List D → M D := pureM (defM 2 2 ((sIf (tNotM (tOf (eCall m_is_outcome_for (aCons (eVar 0) (aCons (eVar 1) aNil))))) sBad sNil)))
def m_lengths_of : List D → M D := pureM (defM 1 5 ((sSeq (sPar 2 3 (eLst false aNil) (eLst false aNil))
    (sSeq (sFor (iRange1 (eCall gLen (aCons (eVar 0) aNil))) (gVar 1) (sSeq (sSet 4 (eC (.int 0)))
    (sSeq (sWhile (fun _ _ => 100000) (tOf (eBin (gIn true) (eVar 1) (eVar 3))) (sSeq (sSet 3 (eBin (gAdd false) (eVar 3) (eLst false (aCons (eVar 1) aNil))))
    (sPar 1 4 (eBin gIx (eVar 0) (eVar 1)) (eBin (gAdd false) (eVar 4) (eC (.int 1))))))
    (sSet 2 (eBin (gAdd false) (eVar 2) (eBin gMulI (eLst false (aCons (eVar 4) aNil)) (eCall gInt1 (aCons (eBin gGt (eVar 4) (eC (.int 0))) aNil))))))))
    (sRet (eCall gTuple (aCons (eCall gSorted (aCons (eLc false (iSeq (eVar 2)) (gVar 4) tYesM (eCall gInt1 (aCons (eVar 4) aNil)) [4]) aNil)) aNil)))))))
def m_lengths : List D → M D := pureM (defM 2 2 ((sSeq (sExp (eCall m_need_rule (aCons (eVar 0) aNil)))
    (sSeq (sExp (eCall m_need_outcome (aCons (eVar 0) (aCons (eVar 1) aNil))))
    (sRet (eCall m_lengths_of (aCons (eVar 1) aNil)))))))
def m_lowest : List D → M D := pureM (defM 2 4 ((sSeq (sPar 2 3 (eVar 1) (eVar 0))
    (sSeq (sWhile (fun _ _ => 100000) (tOf (eBin gGt (eVar 3) (eC (.int 0)))) (sPar 2 3 (eVar 3) (eBin gMod (eVar 2) (eVar 3))))
    (sRet (eTup (aCons (eBin gDiv (eVar 0) (eVar 2)) (aCons (eBin gDiv (eVar 1) (eVar 2)) aNil))))))))
def m_plus : List D → M D := pureM (defM 2 2 ((sRet (eCall m_lowest (aCons (eBin (gAdd false) (eBin gMulI (eBin gIx (eVar 0) (eC (.int 0))) (eBin gIx (eVar 1) (eC (.int 1)))) (eBin gMulI (eBin gIx (eVar 1) (eC (.int 0))) (eBin gIx (eVar 0) (eC (.int 1))))) (aCons (eBin gMulI (eBin gIx (eVar 0) (eC (.int 1))) (eBin gIx (eVar 1) (eC (.int 1)))) aNil))))))
def m_times : List D → M D := pureM (defM 3 3 ((sRet (eCall m_lowest (aCons (eBin gMulI (eBin gIx (eVar 0) (eC (.int 0))) (eVar 1)) (aCons (eBin gMulI (eBin gIx (eVar 0) (eC (.int 1))) (eVar 2)) aNil))))))
def m_names_left : List D → M D := pureM (defM 2 3 ((sRet (eLc false (iSeq (eLR1 false (eCall gLen (aCons (eBin gIx (eVar 0) (eC (.int 0))) aNil)))) (gVar 2) (tOf (eBin (gIn true) (eVar 2) (eVar 1))) (eVar 2) [2]))))
def m_is_let : List D → M D := pureM (defM 4 4 ((sSeq (sIf (tOf (eBin (gIn false) (eVar 3) (eBin gIx (eBin gIx (eVar 0) (eC (.int 0))) (eVar 2)))) (sRet (eC (.bl false))) sNil)
    (sSeq (sIf (tNotM (tTru (eBin gIx (eVar 0) (eC (.int 1))))) (sRet (eC (.bl true))) sNil)
    (sRet (eAnd (eBin (gEq true) (eVar 3) (eVar 2)) (eOr (eBin gGe (eVar 3) (eCall gLen (aCons (eVar 1) aNil))) (eBin (gEq true) (eBin gIx (eVar 1) (eVar 3)) (eVar 2)))))))))
def m_all_let : List D → M D := pureM (defM 2 3 ((sRet (eLc false (iSeq (eCall m_names_left (aCons (eVar 0) (aCons (eVar 1) aNil)))) (gVar 2) (tOf (eCall m_is_let (aCons (eVar 0) (aCons (eVar 1) (aCons (eCall gLen (aCons (eVar 1) aNil)) (aCons (eVar 2) aNil)))))) (eVar 2) [2]))))
def m_is_sound : List D → M D := pureM (defM 2 4 ((sSeq (sIf (tNotM (tTru (eBin gIx (eVar 0) (eC (.int 1))))) (sRet (eC (.bl true))) sNil)
    (sSeq (sFor (iEnum1 (eVar 1)) (gTupl 2 (gsCons (gVar 2) (gsCons (gVar 3) gsNil))) (sIf (tOrM (tOf (eBin (gEq false) (eVar 3) (eVar 2))) (tAndM (tOf (eBin gLt (eVar 3) (eCall gLen (aCons (eVar 1) aNil)))) (tOf (eBin (gEq false) (eBin gIx (eVar 1) (eVar 3)) (eVar 2))))) (sRet (eC (.bl false))) sNil))
    (sRet (eC (.bl true)))))))
def m_with_name : List D → M D := pureM (defM 3 3 ((sRet (eBin (gAdd false) (eBin (gAdd false) (eSl (eVar 0) oNone (oSome (eVar 1))) (eTup (aCons (eVar 2) aNil))) (eSl (eVar 0) (oSome (eBin (gAdd false) (eVar 1) (eC (.int 1)))) oNone)))))
def m_exchanged : List D → M D := pureM (defM 3 3 ((sRet (eBin (gAdd false) (eCall m_with_name (aCons (eVar 0) (aCons (eVar 1) (aCons (eVar 2) aNil)))) (eTup (aCons (eBin gIx (eVar 0) (eVar 1)) aNil))))))
def m_can_exchange : List D → M D := pureM (defM 4 4 ((sSeq (sIf (tOrM (tOf (eBin (gIn false) (eBin gIx (eVar 1) (eVar 2)) (eBin gIx (eBin gIx (eVar 0) (eC (.int 0))) (eCall gLen (aCons (eVar 1) aNil))))) (tOf (eBin (gIn false) (eVar 3) (eBin gIx (eBin gIx (eVar 0) (eC (.int 0))) (eVar 2))))) (sRet (eC (.bl false))) sNil)
    (sRet (eCall m_is_sound (aCons (eVar 0) (aCons (eCall m_exchanged (aCons (eVar 1) (aCons (eVar 2) (aCons (eVar 3) aNil)))) aNil)))))))
def m_all_exchanges : List D → M D := pureM (defM 2 5 ((sSeq (sSet 2 (eLst false aNil))
    (sSeq (sFor (iRange1 (eCall gLen (aCons (eVar 1) aNil))) (gVar 3) (sFor (iSeq (eCall m_names_left (aCons (eVar 0) (aCons (eVar 1) aNil)))) (gVar 4) (sIf (tOf (eCall m_can_exchange (aCons (eVar 0) (aCons (eVar 1) (aCons (eVar 3) (aCons (eVar 4) aNil)))))) (sSet 2 (eBin (gAdd false) (eVar 2) (eLst false (aCons (eTup (aCons (eVar 3) (aCons (eVar 4) aNil))) aNil)))) sNil)))
    (sRet (eVar 2))))))
def m_steps_at : List D → M D := pureM (defM 3 11 ((sSeq (sAsg (gTupl 2 (gsCons (gVar 4) (gsCons (gVar 5) gsNil))) (eTup (aCons (eCall m_all_let (aCons (eVar 0) (aCons (eVar 1) aNil))) (aCons (eCall gLen (aCons (eCall m_names_left (aCons (eVar 0) (aCons (eVar 1) aNil))) aNil)) aNil))))
    (sSeq (sIf (tOf (eBin (gEq false) (eVar 4) (eLst false aNil))) (sSeq (sSet 6 (eIf (tOf (eBin (gEq false) (eBin gIx (eVar 0) (eC (.int 2))) (eC (.str "swap")))) (eCall m_all_exchanges (aCons (eVar 0) (aCons (eVar 1) aNil))) (eLst false aNil)))
    (sSeq (sSet 7 (eTup (aCons (eC (.int 1)) (aCons (eCall gLen (aCons (eVar 6) aNil)) aNil))))
    (sRet (eLc false (iSeq (eVar 6)) (gTupl 2 (gsCons (gVar 10) (gsCons (gVar 9) gsNil))) tYesM (eTup (aCons (eCall m_exchanged (aCons (eVar 1) (aCons (eVar 10) (aCons (eVar 9) aNil)))) (aCons (eIf (tTru (eVar 2)) (eVar 10) (eC (.str ""))) (aCons (eVar 7) aNil)))) [10, 9])))) sNil)
    (sSeq (sIf (tOf (eBin (gEq false) (eBin gIx (eVar 0) (eC (.int 2))) (eC (.str "anew")))) (sRet (eLc false (iSeq (eVar 4)) (gVar 9) tYesM (eTup (aCons (eBin (gAdd false) (eVar 1) (eTup (aCons (eVar 9) aNil))) (aCons (eIf (tTru (eVar 2)) (eC (.str "drew")) (eC (.str ""))) (aCons (eTup (aCons (eC (.int 1)) (aCons (eVar 5) aNil))) aNil)))) [9])) sNil)
    (sSeq (sIf (tNotM (tTru (eVar 2))) (sRet (eLc false (iSeq (eVar 4)) (gVar 9) tYesM (eTup (aCons (eBin (gAdd false) (eVar 1) (eTup (aCons (eVar 9) aNil))) (aCons (eC (.str "")) (aCons (eTup (aCons (eC (.int 1)) (aCons (eCall gLen (aCons (eVar 4) aNil)) aNil))) aNil)))) [9])) sNil)
    (sSeq (sSet 3 (eLc false (iSeq (eVar 4)) (gVar 9) tYesM (eTup (aCons (eBin (gAdd false) (eVar 1) (eTup (aCons (eVar 9) aNil))) (aCons (eC (.str "drew")) (aCons (eTup (aCons (eC (.int 1)) (aCons (eVar 5) aNil))) aNil)))) [9]))
    (sSeq (sIf (tOf (eBin gGt (eVar 5) (eCall gLen (aCons (eVar 4) aNil)))) (sSeq (sSet 8 (eCall m_lowest (aCons (eBin gSub (eVar 5) (eCall gLen (aCons (eVar 4) aNil))) (aCons (eBin gMulI (eVar 5) (eCall gLen (aCons (eVar 4) aNil))) aNil))))
    (sSet 3 (eBin (gAdd false) (eVar 3) (eLc false (iSeq (eVar 4)) (gVar 9) tYesM (eTup (aCons (eBin (gAdd false) (eVar 1) (eTup (aCons (eVar 9) aNil))) (aCons (eC (.str "back")) (aCons (eVar 8) aNil)))) [9])))) sNil)
    (sRet (eVar 3))))))))))
def m_is_less : List D → M D := pureM (defM 2 2 ((sRet (eBin gLt (eBin gMulI (eBin gIx (eVar 0) (eC (.int 0))) (eBin gIx (eVar 1) (eC (.int 1)))) (eBin gMulI (eBin gIx (eVar 1) (eC (.int 0))) (eBin gIx (eVar 0) (eC (.int 1))))))))
def m_need_person : List D → M D := pureM (defM 2 2 ((sIf (tNotM (tOf (eCall m_is_from (aCons (eVar 1) (aCons (eC (.int 0)) (aCons (eBin gSub (eCall gLen (aCons (eBin gIx (eVar 0) (eC (.int 0))) aNil)) (eC (.int 1))) aNil)))))) sBad sNil)))
def m_first_stuck : List D → M D := pureM (defM 3 4 ((sSeq (sFor (iSeq (eBin gIx (eVar 1) (eVar 2))) (gVar 3) (sIf (tOf (eBin (gEq false) (eCall m_all_let (aCons (eVar 0) (aCons (eVar 3) aNil))) (eLst false aNil))) (sRet (eVar 3)) sNil))
    (sRet (eC .non)))))
def m_names_behind : List D → M D := pureM (defM 2 5 ((sSeq (sSet 2 (eCall m_all_let (aCons (eVar 0) (aCons (eVar 1) aNil))))
    (sSeq (sIf (tOf (eBin (gEq true) (eVar 2) (eLst false aNil))) (sRet (eLc false (iSeq (eVar 2)) (gVar 3) tYesM (eBin (gAdd false) (eVar 1) (eTup (aCons (eVar 3) aNil))) [3])) sNil)
    (sSeq (sIf (tOf (eBin (gEq true) (eBin gIx (eVar 0) (eC (.int 2))) (eC (.str "swap")))) (sRet (eLst false aNil)) sNil)
    (sRet (eLc false (iSeq (eCall m_all_exchanges (aCons (eVar 0) (aCons (eVar 1) aNil)))) (gTupl 2 (gsCons (gVar 4) (gsCons (gVar 3) gsNil))) tYesM (eCall m_exchanged (aCons (eVar 1) (aCons (eVar 4) (aCons (eVar 3) aNil)))) [4, 3])))))))
def m_turns_of : List D → M D := pureM (defM 1 5 ((sSeq (sSet 1 (eLst false (aCons (eLst false (aCons (eTup aNil) aNil)) aNil)))
    (sSeq (sFor (iRange1 (eCall gLen (aCons (eBin gIx (eVar 0) (eC (.int 0))) aNil))) (gVar 2) (sSeq (sSet 3 (eLst false aNil))
    (sSeq (sFor (iSeq (eBin gIx (eVar 1) (eUn gNeg (eC (.int 1))))) (gVar 4) (sSet 3 (eBin (gAdd false) (eVar 3) (eCall m_names_behind (aCons (eVar 0) (aCons (eVar 4) aNil))))))
    (sSet 1 (eBin (gAdd false) (eVar 1) (eLst false (aCons (eSortSet (eVar 3)) aNil)))))))
    (sRet (eVar 1))))))
def m_stuck_row : List D → M D := pureM (defM 2 2 ((sSeq (sExp (eCall m_need_rule (aCons (eVar 0) aNil)))
    (sSeq (sExp (eCall m_need_person (aCons (eVar 0) (aCons (eVar 1) aNil))))
    (sRet (eCall m_first_stuck (aCons (eVar 0) (aCons (eCall m_turns_of (aCons (eVar 0) aNil)) (aCons (eVar 1) aNil)))))))))
def m_is_kind : List D → M D := pureM (defM 1 2 ((sSeq (sIf (tOrM (tNotM (tOf (eCall gIsi (aCons (eVar 0) (aCons (eC (.raw (.ty "tuple"))) aNil))))) (tOrM (tOf (eBin (gEq false) (eVar 0) (eTup aNil))) (tNotM (tOf (eCall gAll (aCons (eLc false (iSeq (eVar 0)) (gVar 1) tYesM (eCall gIsi (aCons (eVar 1) (aCons (eC (.raw (.ty "str"))) aNil))) [1]) aNil)))))) (sRet (eC (.bl false))) sNil)
    (sRet (eAnd (eCall gAll (aCons (eLc false (iSeq (eVar 0)) (gVar 1) tYesM (eBin (gIn false) (eVar 1) (eC (.tup [.str "before", .str "mutual", .str "next", .str "own", .str "partner"]))) [1]) aNil)) (eCall m_is_ascending (aCons (eVar 0) aNil)))))))
def m_need_kind : List D → M D := pureM (defM 1 1 ((sIf (tNotM (tOf (eCall m_is_kind (aCons (eVar 0) aNil)))) sBad sNil)))
def m_need_number : List D → M D := pureM (defM 1 1 ((sIf (tOrM (tNotM (tOf (eCall m_is_number (aCons (eVar 0) aNil)))) (tOf (eBin gLt (eVar 0) (eC (.int 2))))) sBad sNil)))
def m_is_stuck_with : List D → M D := pureM (defM 2 2 ((sRet (eAnd (eBin gLt (eCall gLen (aCons (eVar 1) aNil)) (eCall gLen (aCons (eBin gIx (eVar 0) (eC (.int 0))) aNil))) (eBin (gEq false) (eCall m_all_let (aCons (eVar 0) (aCons (eVar 1) aNil))) (eLst false aNil))))))
def m_people_stuck : List D → M D := pureM (defM 1 3 ((sSeq (sSet 1 (eCall m_turns_of (aCons (eVar 0) aNil)))
    (sRet (eLc false (iSeq (eLR1 false (eCall gLen (aCons (eBin gIx (eVar 0) (eC (.int 0))) aNil)))) (gVar 2) (tOf (eBin (gIsN true) (eCall m_first_stuck (aCons (eVar 0) (aCons (eVar 1) (aCons (eVar 2) aNil)))) (eC .non))) (eVar 2) [2])))))
def m_stuck_people : List D → M D := pureM (defM 1 1 ((sSeq (sExp (eCall m_need_rule (aCons (eVar 0) aNil)))
    (sRet (eCall m_people_stuck (aCons (eVar 0) aNil))))))
def m_is_endless : List D → M D := pureM (defM 1 1 ((sSeq (sExp (eCall m_need_rule (aCons (eVar 0) aNil)))
    (sRet (eBin (gEq false) (eBin gIx (eCall m_turns_of (aCons (eVar 0) aNil)) (eUn gNeg (eC (.int 1)))) (eLst false aNil))))))
def m_bars_of : List D → M D := pureM (defM 1 5 ((sSeq (sSet 1 (eLst false aNil))
    (sSeq (sFor (iEnum1 (eBin gIx (eVar 0) (eC (.int 0)))) (gTupl 2 (gsCons (gVar 2) (gsCons (gVar 3) gsNil))) (sSet 1 (eBin (gAdd false) (eVar 1) (eLc false (iSeq (eVar 3)) (gVar 4) tYesM (eTup (aCons (eVar 2) (aCons (eVar 4) aNil))) [4]))))
    (sRet (eVar 1))))))
def m_turned_over : List D → M D := pureM (defM 2 7 ((sSeq (sAsg (gTupl 2 (gsCons (gVar 4) (gsCons (gVar 5) gsNil))) (eVar 1))
    (sSeq (sSet 2 (eBin gIx (eBin gIx (eVar 0) (eC (.int 0))) (eVar 4)))
    (sSeq (sSet 3 (eIf (tOf (eBin (gIn false) (eVar 5) (eVar 2))) (eLc false (iSeq (eVar 2)) (gVar 6) (tOf (eBin (gEq true) (eVar 6) (eVar 5))) (eVar 6) [6]) (eBin (gAdd false) (eCall (gList false) (aCons (eVar 2) aNil)) (eLst false (aCons (eVar 5) aNil)))))
    (sRet (eTup (aCons (eBin (gAdd false) (eBin (gAdd false) (eSl (eBin gIx (eVar 0) (eC (.int 0))) oNone (oSome (eVar 4))) (eTup (aCons (eCall gTuple (aCons (eCall gSorted (aCons (eLc false (iSeq (eVar 3)) (gVar 6) tYesM (eCall gInt1 (aCons (eVar 6) aNil)) [6]) aNil)) aNil)) aNil))) (eSl (eBin gIx (eVar 0) (eC (.int 0))) (oSome (eBin (gAdd false) (eVar 4) (eC (.int 1)))) oNone)) (aCons (eBin gIx (eVar 0) (eC (.int 1))) (aCons (eBin gIx (eVar 0) (eC (.int 2))) aNil))))))))))
def m_is_smooth : List D → M D := pureM (defM 1 1 ((sRet (eBin (gEq false) (eCall m_people_stuck (aCons (eVar 0) aNil)) (eLst false aNil)))))
def m_least_bars : List D → M D := pureM (defM 1 11 ((sSeq (sExp (eCall m_need_rule (aCons (eVar 0) aNil)))
    (sSeq (sSet 1 (eCall gLen (aCons (eBin gIx (eVar 0) (eC (.int 0))) aNil)))
    (sSeq (sPar 3 4 (eLst false (aCons (eTup (aCons (eTup aNil) (aCons (eVar 0) aNil))) aNil)) (eLc false (iSeq (eLR1 false (eBin gMulI (eVar 1) (eVar 1)))) (gVar 9) tYesM (eTup (aCons (eBin gDiv (eVar 9) (eVar 1)) (aCons (eBin gMod (eVar 9) (eVar 1)) aNil))) [9]))
    (sSeq (sFor (iRange1 (eC (.int 3))) (gVar 2) (sSeq (sSet 5 (eLc false (iSeq (eVar 3)) (gTupl 2 (gsCons (gVar 7) (gsCons (gVar 8) gsNil))) (tOf (eCall m_is_smooth (aCons (eVar 8) aNil))) (eVar 7) [7, 8]))
    (sSeq (sIf (tOf (eBin (gEq true) (eVar 5) (eLst false aNil))) (sRet (eCall gSortedE (aCons (eVar 5) aNil))) sNil)
    (sSeq (sSet 6 (eLst false aNil))
    (sSeq (sFor (iSeq (eVar 3)) (gTupl 2 (gsCons (gVar 7) (gsCons (gVar 8) gsNil))) (sSet 6 (eBin (gAdd false) (eVar 6) (eLc false (iSeq (eVar 4)) (gVar 10) (tOrM (tOf (eBin (gEq false) (eVar 7) (eTup aNil))) (tOf (eBin gLt (eBin gIx (eVar 7) (eUn gNeg (eC (.int 1)))) (eVar 10)))) (eTup (aCons (eBin (gAdd false) (eVar 7) (eTup (aCons (eVar 10) aNil))) (aCons (eCall m_turned_over (aCons (eVar 8) (aCons (eVar 10) aNil))) aNil))) [10]))))
    (sSet 3 (eVar 6)))))))
    (sRet (eLst false aNil))))))))
def m_text_of : List D → M D := pureM (defM 1 4 ((sSeq (sSet 1 (eLst false (aCons (eBin (gAdd false) (eBin gIx (eVar 0) (eC (.int 2))) (eIf (tTru (eBin gIx (eVar 0) (eC (.int 1)))) (eC (.str " mutual")) (eC (.str "")))) aNil)))
    (sRet (eStrM gJoin (eC (.str "\n")) (eBin (gAdd false) (eVar 1) (eLc false (iSeq (eBin gIx (eVar 0) (eC (.int 0)))) (gVar 2) tYesM (eIf (tOf (eBin (gEq false) (eVar 2) (eTup aNil))) (eC (.str "free")) (eStrM gJoin (eC (.str ",")) (eLc false (iSeq (eVar 2)) (gVar 3) tYesM (eCall gStrI (aCons (eVar 3) aNil)) [3]))) [2])))))))
def m_rule_text : List D → M D := pureM (defM 1 1 ((sSeq (sExp (eCall m_need_rule (aCons (eVar 0) aNil)))
    (sRet (eCall m_text_of (aCons (eVar 0) aNil))))))
def m_is_like_seen : List D → M D := pureM (defM 1 2 ((sSeq (sIf (tOrM (tNotM (tOf (eCall gIsi (aCons (eVar 0) (aCons (eC (.raw (.ty "tuple"))) aNil))))) (tOrM (tOf (eBin (gEq true) (eCall gLen (aCons (eVar 0) aNil)) (eC (.int 2)))) (tOrM (tNotM (tOf (eCall m_is_number (aCons (eBin gIx (eVar 0) (eC (.int 0))) aNil)))) (tNotM (tOf (eCall gIsi (aCons (eBin gIx (eVar 0) (eC (.int 1))) (aCons (eC (.raw (.ty "tuple"))) aNil)))))))) (sRet (eC (.bl false))) sNil)
    (sRet (eCall gAll (aCons (eLc false (iSeq (eBin gIx (eVar 0) (eC (.int 1)))) (gVar 1) tYesM (eOr (eCall gIsi (aCons (eVar 1) (aCons (eC (.raw (.ty "str"))) aNil))) (eCall m_is_number (aCons (eVar 1) aNil))) [1]) aNil))))))
def m_need_names : List D → M D := pureM (defM 2 2 ((sSeq (sExp (eCall m_need_rule (aCons (eVar 0) aNil)))
    (sIf (tOrM (tNotM (tOf (eCall m_are_different (aCons (eVar 1) (aCons (eCall gLen (aCons (eBin gIx (eVar 0) (eC (.int 0))) aNil)) aNil))))) (tOf (eBin (gEq false) (eCall gLen (aCons (eVar 1) aNil)) (eCall gLen (aCons (eBin gIx (eVar 0) (eC (.int 0))) aNil))))) sBad sNil))))
def m_let_names : List D → M D := pureM (defM 2 2 ((sSeq (sExp (eCall m_need_names (aCons (eVar 0) (aCons (eVar 1) aNil))))
    (sRet (eCall m_all_let (aCons (eVar 0) (aCons (eVar 1) aNil)))))))
def m_exchanges : List D → M D := pureM (defM 2 2 ((sSeq (sExp (eCall m_need_names (aCons (eVar 0) (aCons (eVar 1) aNil))))
    (sRet (eCall m_all_exchanges (aCons (eVar 0) (aCons (eVar 1) aNil)))))))
def m_need_two : List D → M D := pureM (defM 2 2 ((sSeq (sExp (eCall m_need_rule (aCons (eVar 0) aNil)))
    (sSeq (sExp (eCall m_need_rule (aCons (eVar 1) aNil)))
    (sIf (tOf (eBin (gEq true) (eCall gLen (aCons (eBin gIx (eVar 0) (eC (.int 0))) aNil)) (eCall gLen (aCons (eBin gIx (eVar 1) (eC (.int 0))) aNil)))) sBad sNil)))))
def m_pattern_of : List D → M D := pureM (defM 1 5 ((sSeq (sPar 1 2 (eCall gTuple (aCons (eLc false (iSeq (eTup (aCons (eC (.int 0)) (aCons (eC (.int 1)) aNil)))) (gVar 3) (tTru (eBin gIx (eVar 0) (eBin (gAdd false) (eC (.int 6)) (eVar 3)))) (eVar 3) [3]) aNil)) (eC (.int 8)))
    (sSeq (sWhile (fun _ _ => 100000) (tAndM (tOf (eBin gGt (eVar 2) (eC (.int 2)))) (tOf (eBin (gEq false) (eBin gIx (eVar 0) (eBin gSub (eVar 2) (eC (.int 3)))) (eBin (gIn false) (eBin gMod (eBin gSub (eVar 2) (eC (.int 1))) (eC (.int 2))) (eVar 1))))) (sSet 2 (eBin gSub (eVar 2) (eC (.int 1)))))
    (sRet (eTup (aCons (eCall gTuple (aCons (eLc false (iSeq (eLR2 false (eC (.int 2)) (eVar 2))) (gVar 4) (tTru (eBin gIx (eVar 0) (eBin gSub (eVar 4) (eC (.int 2))))) (eVar 4) [4]) aNil)) (aCons (eVar 2) (aCons (eVar 1) aNil)))))))))
def m_is_outcome : List D → M D := pureM (defM 2 2 ((sSeq (sExp (eCall m_need_rule (aCons (eVar 0) aNil)))
    (sRet (eCall m_is_outcome_for (aCons (eVar 0) (aCons (eVar 1) aNil)))))))
def m__law_closed : List D → M D := pureM (defM 2 5 ((sSeq (sSet 2 (eBin gMulI (eLst false (aCons (eC .non) aNil)) (eVar 1)))
    (sSeq (sFor (iSeq (eVar 0)) (gVar 3) (sFor (iRange1 (eCall gLen (aCons (eVar 3) aNil))) (gVar 4) (sPut (eVar 2) (eBin gIx (eVar 3) (eVar 4)) (eBin gIx (eVar 3) (eBin gMod (eBin (gAdd false) (eVar 4) (eC (.int 1))) (eCall gLen (aCons (eVar 3) aNil)))))))
    (sRet (eCall gTuple (aCons (eVar 2) aNil)))))))
def m__law_swapped : List D → M D := pureM (defM 3 3 ((sRet (eBin (gAdd false) (eBin (gAdd false) (eBin (gAdd false) (eSl (eVar 0) oNone (oSome (eVar 1))) (eTup (aCons (eVar 2) aNil))) (eSl (eVar 0) (oSome (eBin (gAdd false) (eVar 1) (eC (.int 1)))) oNone)) (eTup (aCons (eBin gIx (eVar 0) (eVar 1)) aNil))))))
def m__law_deed : List D → M D := defM 3 8 ((sSeq (sSet 3 (eBin gIx (eVar 2) (eC (.int 0))))
    (sSeq (sPar 4 5 (eCall m__law_take (aCons (eVar 0) (aCons (eC (.int 10)) aNil))) (eLc false (iRange1 (eCall gLen (aCons (eBin gIx (eVar 1) (eC (.int 0))) aNil))) (gVar 7) (tOf (eBin (gIn true) (eVar 7) (eVar 3))) (eVar 7) [7]))
    (sSeq (sIf (tOf (eBin gLt (eVar 4) (eC (.int 5)))) (sRet (eTup (aCons (eC (.str "draw")) (aCons (eIf (tOf (eBin (gEq true) (eVar 5) (eLst false aNil))) (eCall m__law_of (aCons (eVar 0) (aCons (eVar 5) aNil))) (eC (.int 0))) aNil)))) sNil)
    (sSeq (sIf (tOf (eBin (gEq false) (eVar 4) (eC (.int 5)))) (sRet (eTup (aCons (eC (.str "draw")) (aCons (eCall m__law_of (aCons (eVar 0) (aCons (eBin (gAdd false) (eLst false (aCons (eC .non) (aCons (eUn gNeg (eC (.int 1))) (aCons (eCall gLen (aCons (eBin gIx (eVar 1) (eC (.int 0))) aNil)) (aCons (eC (.bl true)) (aCons (eC (.str "0")) aNil)))))) (eCall (gList false) (aCons (eVar 3) aNil))) aNil))) aNil)))) sNil)
    (sSeq (sIf (tOf (eBin gLt (eVar 4) (eC (.int 8)))) (sSeq (sSet 6 (eBin (gAdd false) (eCall m__law_pairs (aCons (eVar 1) (aCons (eVar 3) aNil))) (eLst false (aCons (eTup (aCons (eC (.int 0)) (aCons (eC (.int 0)) aNil))) (aCons (eTup (aCons (eCall gLen (aCons (eVar 3) aNil)) (aCons (eC (.int 0)) aNil))) (aCons (eTup (aCons (eC .non) (aCons (eC (.int 1)) aNil))) (aCons (eTup (aCons (eC (.bl true)) (aCons (eC (.int 0)) aNil))) (aCons (eTup (aCons (eC (.int 0)) (aCons (eC (.str "1")) aNil))) aNil))))))))
    (sRet (eTup (aCons (eC (.str "swap")) (aCons (eCall m__law_of (aCons (eVar 0) (aCons (eBin (gAdd false) (eSl (eVar 6) oNone (oSome (eC (.int 1)))) (eVar 6)) aNil))) aNil))))) sNil)
    (sRet (eTup (aCons (eBin gIx (eLst false (aCons (eC (.str "anew")) (aCons (eC (.str "item")) aNil))) (eBin gSub (eVar 4) (eC (.int 8)))) (aCons (eCall m__law_of (aCons (eVar 0) (aCons (eLst false (aCons (eUn gNeg (eC (.int 1))) (aCons (eCall gLen (aCons (eVar 3) aNil)) (aCons (eC .non) (aCons (eC (.bl true)) (aCons (eC (.str "0")) aNil)))))) aNil))) aNil))))))))))
def m__law_is_let : List D → M D := pureM (defM 4 5 ((sSeq (sSet 4 (eCall gLen (aCons (eVar 2) aNil)))
    (sSeq (sIf (tAndM (tOf (eBin (gEq false) (eVar 3) (eVar 4))) (tOrM (tOf (eBin (gIn false) (eC (.str "own")) (eVar 0))) (tOf (eBin (gIn false) (eC (.str "mutual")) (eVar 0))))) (sRet (eC (.bl false))) sNil)
    (sSeq (sIf (tAndM (tOf (eBin (gIn false) (eC (.str "mutual")) (eVar 0))) (tAndM (tOf (eBin gLt (eVar 3) (eVar 4))) (tOf (eBin (gEq false) (eBin gIx (eVar 2) (eVar 3)) (eVar 4))))) (sRet (eC (.bl false))) sNil)
    (sSeq (sIf (tOrM (tAndM (tOf (eBin (gIn false) (eC (.str "next")) (eVar 0))) (tOf (eBin (gEq false) (eVar 3) (eBin gMod (eBin (gAdd false) (eVar 4) (eC (.int 1))) (eVar 1))))) (tAndM (tOf (eBin (gIn false) (eC (.str "before")) (eVar 0))) (tOf (eBin (gEq false) (eVar 4) (eBin gMod (eBin (gAdd false) (eVar 3) (eC (.int 1))) (eVar 1)))))) (sRet (eC (.bl false))) sNil)
    (sRet (eNot (eAnd (eBin (gIn false) (eC (.str "partner")) (eVar 0)) (eAnd (eBin (gEq false) (eBin gDiv (eVar 3) (eC (.int 2))) (eBin gDiv (eVar 4) (eC (.int 2)))) (eBin (gEq true) (eVar 3) (eVar 4))))))))))))
def m__law_good : List D → M D := pureM (defM 3 4 ((sSeq (sFor (iRange1 (eCall gLen (aCons (eVar 2) aNil))) (gVar 3) (sIf (tOrM (tOf (eBin (gIn false) (eBin gIx (eVar 2) (eVar 3)) (eSl (eVar 2) oNone (oSome (eVar 3))))) (tNotM (tTru (eCall m__law_is_let (aCons (eVar 0) (aCons (eVar 1) (aCons (eSl (eVar 2) oNone (oSome (eVar 3))) (aCons (eBin gIx (eVar 2) (eVar 3)) aNil)))))))) (sRet (eC (.bl false))) sNil))
    (sRet (eC (.bl true))))))
def m__law_in : List D → M D := pureM (defM 2 5 ((sSeq (sAsg (gTupl 3 (gsCons (gVar 2) (gsCons (gVar 3) (gsCons (gVar 4) gsNil)))) (eVar 0))
    (sRet (eIf (tOf (eBin gLt (eVar 1) (eVar 3))) (eBin (gIn false) (eVar 1) (eVar 2)) (eBin (gIn false) (eBin gMod (eVar 1) (eC (.int 2))) (eVar 4)))))))
def m__law_int : List D → M D := pureM (defM 3 3 ((sRet (eAnd (eCall gIsi (aCons (eVar 0) (aCons (eC (.raw (.ty "int"))) aNil))) (eAnd (eNot (eCall gIsi (aCons (eVar 0) (aCons (eC (.raw (.ty "bool"))) aNil)))) (eChain gLe gLe (eVar 1) (eVar 0) (eVar 2)))))))
def m__law_is_kind : List D → M D := pureM (defM 1 3 ((sSeq (sIf (tOrM (tNotM (tOf (eCall gIsi (aCons (eVar 0) (aCons (eC (.raw (.ty "tuple"))) aNil))))) (tOf (eBin (gEq true) (eLc false (iSeq (eVar 0)) (gVar 2) (tNotM (tOf (eCall gIsi (aCons (eVar 2) (aCons (eC (.raw (.ty "str"))) aNil))))) (eVar 2) [2]) (eLst false aNil)))) (sRet (eC (.bl false))) sNil)
    (sSeq (sSet 1 (eLc false (iSeq (eLst false (aCons (eC (.str "before")) (aCons (eC (.str "mutual")) (aCons (eC (.str "next")) (aCons (eC (.str "own")) (aCons (eC (.str "partner")) aNil))))))) (gVar 2) (tOf (eBin (gIn false) (eVar 2) (eVar 0))) (eVar 2) [2]))
    (sRet (eAnd (eBin (gEq true) (eVar 0) (eTup aNil)) (eBin (gEq false) (eCall (gList false) (aCons (eVar 0) aNil)) (eVar 1))))))))
def m__law_is_outcome : List D → M D := pureM (defM 2 4 ((sSeq (sSet 2 (eCall gLen (aCons (eBin gIx (eVar 0) (eC (.int 0))) aNil)))
    (sSeq (sIf (tOrM (tNotM (tOf (eCall gIsi (aCons (eVar 1) (aCons (eC (.raw (.ty "tuple"))) aNil))))) (tOf (eBin (gEq true) (eCall gLen (aCons (eVar 1) aNil)) (eVar 2)))) (sRet (eC (.bl false))) sNil)
    (sSeq (sIf (tOf (eBin (gEq true) (eLc false (iSeq (eVar 1)) (gVar 3) (tNotM (tTru (eCall m__law_int (aCons (eVar 3) (aCons (eC (.int 0)) (aCons (eBin gSub (eVar 2) (eC (.int 1))) aNil)))))) (eVar 3) [3]) (eLst false aNil))) (sRet (eC (.bl false))) sNil)
    (sRet (eBin (gEq false) (eCall gSorted (aCons (eVar 1) aNil)) (eLR1 false (eVar 2)))))))))
def m__law_kinds : List D → M D := pureM (defM 0 3 ((sSeq (sSet 0 (eLst false (aCons (eTup aNil) aNil)))
    (sSeq (sFor (iSeq (eLst false (aCons (eC (.str "before")) (aCons (eC (.str "mutual")) (aCons (eC (.str "next")) (aCons (eC (.str "own")) (aCons (eC (.str "partner")) aNil))))))) (gVar 1) (sSet 0 (eBin (gAdd false) (eVar 0) (eLc false (iSeq (eVar 0)) (gVar 2) tYesM (eBin (gAdd false) (eVar 2) (eTup (aCons (eVar 1) aNil))) [2]))))
    (sRet (eLc false (iSeq (eVar 0)) (gVar 2) (tOf (eBin (gEq true) (eVar 2) (eTup aNil))) (eVar 2) [2]))))))
def m__law_last_stuck : List D → M D := pureM (defM 2 8 ((sSeq (sAsg (gTupl 2 (gsCons (gVar 4) (gsCons (gVar 5) gsNil))) (eTup (aCons (eBin gSub (eVar 1) (eC (.int 1))) (aCons (eBin gSub (eVar 1) (eC (.int 1))) aNil))))
    (sSeq (sIf (tAndM (tOf (eBin (gIn true) (eC (.str "own")) (eVar 0))) (tOf (eBin (gIn true) (eC (.str "mutual")) (eVar 0)))) (sSeq (sSet 5 (eIf (tOf (eBin (gIn false) (eC (.str "next")) (eVar 0))) (eC (.int 0)) (eBin gSub (eVar 1) (eC (.int 2)))))
    (sIf (tAndM (tOf (eBin (gEq false) (eVar 0) (eTup (aCons (eC (.str "partner")) aNil)))) (tOf (eBin (gEq false) (eBin gMod (eVar 1) (eC (.int 2))) (eC (.int 1))))) (sRet (eC .non)) sNil)) sNil)
    (sSeq (sSet 2 (eLc false (iRange1 (eVar 1)) (gVar 7) (tOf (eBin (gEq true) (eVar 7) (eVar 5))) (eVar 7) [7]))
    (sSeq (sFor (iSeq (eLst false (aCons (eC (.int 3)) (aCons (eC (.int 4)) (aCons (eC (.int 5)) (aCons (eC (.int 2)) aNil)))))) (gVar 3) (sSeq (sSet 6 (eCall gTuple (aCons (eBin (gAdd false) (eSl (eVar 2) (oSome (eVar 3)) oNone) (eSl (eVar 2) oNone (oSome (eVar 3)))) aNil)))
    (sIf (tAndM (tTru (eCall m__law_good (aCons (eVar 0) (aCons (eVar 1) (aCons (eVar 6) aNil))))) (tNotM (tTru (eCall m__law_is_let (aCons (eVar 0) (aCons (eVar 1) (aCons (eVar 6) (aCons (eVar 5) aNil)))))))) (sRet (eVar 6)) sNil)))
    (sRet (eC .non))))))))
def m__law_lowest : List D → M D := pureM (defM 2 4 ((sSeq (sPar 2 3 (eCall gAbs (aCons (eVar 0) aNil)) (eCall gAbs (aCons (eVar 1) aNil)))
    (sSeq (sWhile (fun _ _ => 100000) (tOf (eBin (gEq true) (eVar 3) (eC (.int 0)))) (sPar 2 3 (eVar 3) (eBin gMod (eVar 2) (eVar 3))))
    (sRet (eTup (aCons (eBin gDiv (eVar 0) (eVar 2)) (aCons (eBin gDiv (eVar 1) (eVar 2)) aNil))))))))
def m__law_plus : List D → M D := pureM (defM 2 2 ((sRet (eCall m__law_lowest (aCons (eBin (gAdd false) (eBin gMulI (eBin gIx (eVar 0) (eC (.int 0))) (eBin gIx (eVar 1) (eC (.int 1)))) (eBin gMulI (eBin gIx (eVar 1) (eC (.int 0))) (eBin gIx (eVar 0) (eC (.int 1))))) (aCons (eBin gMulI (eBin gIx (eVar 0) (eC (.int 1))) (eBin gIx (eVar 1) (eC (.int 1)))) aNil))))))
def m__law_many_chains : List D → M D := pureM (defM 2 7 ((sSeq (sIf (tAndM (tOf (eBin (gIn true) (eC (.str "mutual")) (eVar 0))) (tOf (eBin (gIn true) (eC (.str "own")) (eVar 0)))) (sRet (eTR1 (eVar 1))) sNil)
    (sSeq (sSet 2 (eIf (tOf (eBin (gIn false) (eC (.str "mutual")) (eVar 0))) (eC (.int 3)) (eC (.int 2))))
    (sSeq (sAsg (gTupl 2 (gsCons (gVar 5) (gsCons (gVar 6) gsNil))) (eTup (aCons (eBin gDiv (eVar 1) (eVar 2)) (aCons (eBin gMod (eVar 1) (eVar 2)) aNil))))
    (sSeq (sSet 3 (eLc false (iRange1 (eVar 5)) (gVar 4) tYesM (eSl (eLst false (aCons (eVar 4) (aCons (eBin (gAdd false) (eVar 4) (eVar 5)) (aCons (eBin (gAdd false) (eVar 4) (eBin gMulI (eC (.int 2)) (eVar 5))) aNil)))) oNone (oSome (eVar 2))) [4]))
    (sSeq (sFor (iRange1 (eVar 6)) (gVar 4) (sExp (eMth (gMut hAppend) (eBin gIx (eVar 3) (eBin (gAdd false) (eBin gMulI (eC (.int 2)) (eVar 4)) (eC (.int 1)))) (aCons (eBin (gAdd false) (eBin gMulI (eVar 2) (eVar 5)) (eVar 4)) aNil))))
    (sRet (eCall m__law_closed (aCons (eVar 3) (aCons (eVar 1) aNil)))))))))))
def m__law_near : List D → M D := defM 2 4 ((sSeq (sPar 2 3 (eCall m__law_take (aCons (eVar 0) (aCons (eC (.int 3)) aNil))) (eCall gLen (aCons (eBin gIx (eVar 1) (eC (.int 0))) aNil)))
    (sSeq (sIf (tOf (eBin (gEq false) (eVar 2) (eC (.int 0)))) (sRet (eBin (gAdd false) (eSl (eVar 1) oNone (oSome (eC (.int 2)))) (eTup (aCons (eCall m__law_of (aCons (eVar 0) (aCons (eLst false (aCons (eC (.str "again")) (aCons (eC (.str "swap")) (aCons (eC (.str "anew")) aNil)))) aNil))) aNil)))) sNil)
    (sSeq (sIf (tOf (eBin (gEq false) (eVar 2) (eC (.int 1)))) (sRet (eTup (aCons (eBin gIx (eVar 1) (eC (.int 0))) (aCons (eNot (eBin gIx (eVar 1) (eC (.int 1)))) (aCons (eBin gIx (eVar 1) (eC (.int 2))) aNil))))) sNil)
    (sRet (eCall m__law_turned (aCons (eVar 1) (aCons (eTup (aCons (eCall m__law_take (aCons (eVar 0) (aCons (eVar 3) aNil))) (aCons (eCall m__law_take (aCons (eVar 0) (aCons (eVar 3) aNil))) aNil))) aNil))))))))
def m__law_order : List D → M D := defM 2 5 ((sSeq (sPar 2 3 (eLR1 true (eVar 1)) (eTup aNil))
    (sSeq (sWhile (fun _ _ => 100000) (tOf (eBin (gEq true) (eVar 2) (eLst false aNil))) (sSeq (sSet 4 (eCall m__law_of (aCons (eVar 0) (aCons (eVar 2) aNil))))
    (sSeq (sExp (eMth (gMut hRemove) (eVar 2) (aCons (eVar 4) aNil)))
    (sSet 3 (eBin (gAdd false) (eVar 3) (eTup (aCons (eVar 4) aNil)))))))
    (sRet (eVar 3)))))
def m_first_of : List D → M D := pureM (defM 1 2 ((sSeq (sFor (iSeq (eC (.tup [.str "again", .str "anew", .str "swap"]))) (gVar 1) (sSeq (sIf (tOf (eBin (gEq false) (eVar 0) (eVar 1))) (sRet (eTup (aCons (eVar 1) (aCons (eC (.bl false)) aNil)))) sNil)
    (sIf (tOf (eBin (gEq false) (eVar 0) (eBin (gAdd false) (eVar 1) (eC (.str " mutual"))))) (sRet (eTup (aCons (eVar 1) (aCons (eC (.bl true)) aNil)))) sNil)))
    (sRet (eC .non)))))
def m_names_of : List D → M D := pureM (defM 1 5 ((sSeq (sIf (tOf (eBin (gEq false) (eVar 0) (eC (.str "free")))) (sRet (eTup aNil)) sNil)
    (sSeq (sSet 1 (eTup aNil))
    (sSeq (sFor (iSeq (eStrM (gSplit false) (eVar 0) (eC (.str ",")))) (gVar 2) (sSeq (sSet 3 (eLc false (iSeq (eLR1 false (eC (.int 6)))) (gVar 4) (tAndM (tOf (eBin (gEq false) (eCall gStrI (aCons (eVar 4) aNil)) (eVar 2))) (tOrM (tOf (eBin (gEq false) (eVar 1) (eTup aNil))) (tOf (eBin gLt (eBin gIx (eVar 1) (eUn gNeg (eC (.int 1)))) (eVar 4))))) (eVar 4) [4]))
    (sSeq (sIf (tOf (eBin (gEq false) (eVar 3) (eLst false aNil))) (sRet (eC .non)) sNil)
    (sSet 1 (eBin (gAdd false) (eVar 1) (eTup (aCons (eBin gIx (eVar 3) (eC (.int 0))) aNil)))))))
    (sRet (eVar 1)))))))
def m_rule_read : List D → M D := pureM (defM 1 6 ((sSeq (sIf (tNotM (tOf (eCall gIsi (aCons (eVar 0) (aCons (eC (.raw (.ty "str"))) aNil))))) sBad sNil)
    (sSeq (sSet 1 (eStrM (gSplit false) (eVar 0) (eC (.str "\n"))))
    (sSeq (sFor (iEnum1 (eVar 1)) (gTupl 2 (gsCons (gVar 2) (gsCons (gVar 3) gsNil))) (sIf (tAndM (tOf (eBin (gIsN false) (eCall m_first_of (aCons (eVar 3) aNil)) (eC .non))) (tOf (eBin (gIsN false) (eCall m_names_of (aCons (eVar 3) aNil)) (eC .non)))) sBad sNil))
    (sSeq (sPar 4 5 (eCall m_first_of (aCons (eBin gIx (eVar 1) (eC (.int 0))) aNil)) (eCall gTuple (aCons (eLc false (iSeq (eSl (eVar 1) (oSome (eC (.int 1))) oNone)) (gVar 3) tYesM (eCall m_names_of (aCons (eVar 3) aNil)) [3]) aNil)))
    (sSeq (sIf (tOrM (tOf (eBin (gIsN false) (eVar 4) (eC .non))) (tNotM (tOf (eCall m_is_rule (aCons (eTup (aCons (eVar 5) (aCons (eBin gIx (eVar 4) (eC (.int 1))) (aCons (eBin gIx (eVar 4) (eC (.int 0))) aNil)))) aNil))))) sBad sNil)
    (sRet (eTup (aCons (eVar 5) (aCons (eBin gIx (eVar 4) (eC (.int 1))) (aCons (eBin gIx (eVar 4) (eC (.int 0))) aNil))))))))))))
def m_read_rule : List D → M D := pureM (defM 1 1 ((sRet (eCall m_rule_read (aCons (eVar 0) aNil)))))
def m__law_rule : List D → M D := defM 2 3 ((sSeq (sSet 2 (eBin (gAdd false) (eC (.int 2)) (eCall m__law_take (aCons (eVar 0) (aCons (eBin gSub (eVar 1) (eC (.int 1))) aNil)))))
    (sRet (eTup (aCons (eCall m__law_bars (aCons (eVar 0) (aCons (eVar 2) aNil))) (aCons (eBin (gEq false) (eCall m__law_take (aCons (eVar 0) (aCons (eC (.int 3)) aNil))) (eC (.int 0))) (aCons (eCall m__law_of (aCons (eVar 0) (aCons (eLst false (aCons (eC (.str "again")) (aCons (eC (.str "again")) (aCons (eC (.str "swap")) (aCons (eC (.str "swap")) (aCons (eC (.str "anew")) aNil)))))) aNil))) aNil)))))))
def m__law_sizes : List D → M D := pureM (defM 1 6 ((sSeq (sPar 2 3 (eLst true aNil) (eLst true aNil))
    (sSeq (sFor (iRange1 (eCall gLen (aCons (eVar 0) aNil))) (gVar 1) (sSeq (sPar 4 5 (eLst true aNil) (eVar 1))
    (sSeq (sWhile (fun _ _ => 100000) (tOf (eBin (gIn true) (eVar 5) (eVar 4))) (sSeq (sExp (eMth (gMut hAppend) (eVar 4) (aCons (eVar 5) aNil)))
    (sSet 5 (eBin gIx (eVar 0) (eVar 5)))))
    (sIf (tOf (eBin (gIn true) (eCall gSorted (aCons (eVar 4) aNil)) (eVar 3))) (sSeq (sExp (eMth (gMut hAppend) (eVar 3) (aCons (eCall gSorted (aCons (eVar 4) aNil)) aNil)))
    (sExp (eMth (gMut hAppend) (eVar 2) (aCons (eCall gLen (aCons (eVar 4) aNil)) aNil)))) sNil))))
    (sRet (eCall gTuple (aCons (eCall gSorted (aCons (eVar 2) aNil)) aNil)))))))
def m__law_smooth : List D → M D := pureM (defM 1 7 ((sSeq (sSet 1 (eLst false (aCons (eTup aNil) aNil)))
    (sSeq (sFor (iRange1 (eCall gLen (aCons (eBin gIx (eVar 0) (eC (.int 0))) aNil))) (gVar 2) (sSeq (sSet 3 (eLst false aNil))
    (sSeq (sFor (iSeq (eVar 1)) (gVar 4) (sSeq (sSet 5 (eCall m__law_let (aCons (eVar 0) (aCons (eVar 4) aNil))))
    (sSeq (sIf (tOf (eBin (gEq false) (eVar 5) (eLst false aNil))) (sRet (eC (.bl false))) sNil)
    (sSet 3 (eBin (gAdd false) (eVar 3) (eLc false (iSeq (eVar 5)) (gVar 6) tYesM (eBin (gAdd false) (eVar 4) (eTup (aCons (eVar 6) aNil))) [6]))))))
    (sSet 1 (eVar 3)))))
    (sRet (eC (.bl true)))))))
def m__law_swap_due : List D → M D := pureM (defM 3 9 ((sSeq (sAsg (gTupl 4 (gsCons (gVar 4) (gsCons (gVar 5) (gsCons (gVar 6) (gsCons (gVar 7) gsNil))))) (eVar 1))
    (sSeq (sIf (tOf (eBin (gEq false) (eCall gLen (aCons (eVar 4) aNil)) (eCall gLen (aCons (eBin gIx (eVar 0) (eC (.int 0))) aNil)))) (sRet (eTup (aCons (eC .non) (aCons (eC (.str "over")) aNil)))) sNil)
    (sSeq (sIf (tOrM (tOf (eBin (gEq true) (eCall m__law_let (aCons (eVar 0) (aCons (eVar 4) aNil))) (eLst false aNil))) (tOf (eBin (gEq true) (eBin gIx (eVar 0) (eC (.int 2))) (eC (.str "swap"))))) (sRet (eTup (aCons (eC .non) (aCons (eC (.str "going")) aNil)))) sNil)
    (sSeq (sIf (tOf (eBin (gIn true) (eCall gStrI (aCons (eVar 2) aNil)) (eLc false (iSeq (eCall m__law_pairs (aCons (eVar 0) (aCons (eVar 4) aNil)))) (gVar 8) tYesM (eCall gStrI (aCons (eVar 8) aNil)) [8]))) (sRet (eTup (aCons (eC .non) (aCons (eC (.str "exchange")) aNil)))) sNil)
    (sSeq (sSet 3 (eBin (gAdd false) (eBin (gAdd false) (eBin (gAdd false) (eBin (gAdd false) (eCall gStrI (aCons (eCall gLen (aCons (eVar 4) aNil)) aNil)) (eC (.str " swaps "))) (eCall gStrI (aCons (eBin gIx (eVar 2) (eC (.int 0))) aNil))) (eC (.str " "))) (eCall gStrI (aCons (eBin gIx (eVar 2) (eC (.int 1))) aNil))))
    (sRet (eTup (aCons (eTup (aCons (eCall m__law_swapped (aCons (eVar 4) (aCons (eBin gIx (eVar 2) (eC (.int 0))) (aCons (eBin gIx (eVar 2) (eC (.int 1))) aNil)))) (aCons (eVar 5) (aCons (eVar 6) (aCons (eBin (gAdd false) (eVar 7) (eTup (aCons (eVar 3) aNil))) aNil))))) (aCons (eBin gIx (eVar 4) (eBin gIx (eVar 2) (eC (.int 0)))) aNil)))))))))))
def m__law_three : List D → M D := pureM (defM 0 1 ((sSeq (sSet 0 (eTup (aCons (eTup (aCons (eTup (aCons (eC (.int 0)) aNil)) (aCons (eTup (aCons (eC (.int 1)) aNil)) (aCons (eTup (aCons (eC (.int 2)) aNil)) aNil)))) (aCons (eC (.bl false)) aNil))))
    (sRet (eTup (aCons (eBin (gAdd false) (eVar 0) (eTup (aCons (eC (.str "again")) aNil))) (aCons (eBin (gAdd false) (eVar 0) (eTup (aCons (eC (.str "anew")) aNil))) (aCons (eBin (gAdd false) (eVar 0) (eTup (aCons (eC (.str "swap")) aNil))) aNil))))))))
def m__law_whole : List D → M D := pureM (defM 1 6 ((sSeq (sPar 1 2 (eC (.int 0)) (eC (.int 1)))
    (sSeq (sFor (iSeq (eVar 0)) (gTupl 2 (gsCons (gVar 3) (gsCons (gTupl 2 (gsCons (gVar 4) (gsCons (gVar 5) gsNil))) gsNil))) (sPar 1 2 (eBin (gAdd false) (eBin gMulI (eVar 1) (eVar 5)) (eBin gMulI (eVar 4) (eVar 2))) (eBin gMulI (eVar 2) (eVar 5))))
    (sRet (eBin (gEq false) (eVar 1) (eVar 2)))))))
def m__wall : List D → M D := pureM (defM 1 1 ((sWhile (fun _ _ => 100000) (tOf (eC (.bl true))) sNil)))
def m_is_bar : List D → M D := pureM (defM 2 2 ((sSeq (sIf (tOrM (tNotM (tOf (eCall gIsi (aCons (eVar 1) (aCons (eC (.raw (.ty "tuple"))) aNil))))) (tOf (eBin (gEq true) (eCall gLen (aCons (eVar 1) aNil)) (eC (.int 2))))) (sRet (eC (.bl false))) sNil)
    (sRet (eAnd (eCall m_is_from (aCons (eBin gIx (eVar 1) (eC (.int 0))) (aCons (eC (.int 0)) (aCons (eBin gSub (eCall gLen (aCons (eBin gIx (eVar 0) (eC (.int 0))) aNil)) (eC (.int 1))) aNil)))) (eCall m_is_from (aCons (eBin gIx (eVar 1) (eC (.int 1))) (aCons (eC (.int 0)) (aCons (eBin gSub (eCall gLen (aCons (eBin gIx (eVar 0) (eC (.int 0))) aNil)) (eC (.int 1))) aNil)))))))))
def m_with_bar : List D → M D := pureM (defM 3 3 ((sSeq (sIf (tOrM (tNotM (tOf (eCall m_is_bar (aCons (eVar 0) (aCons (eVar 1) aNil))))) (tOf (eBin (gEq true) (eBin (gIn false) (eBin gIx (eVar 1) (eC (.int 1))) (eBin gIx (eBin gIx (eVar 0) (eC (.int 0))) (eBin gIx (eVar 1) (eC (.int 0))))) (eVar 2)))) sBad sNil)
    (sRet (eCall m_turned_over (aCons (eVar 0) (aCons (eVar 1) aNil)))))))
def m_law : List D → M D := pureM (defM 1 11 ((sSeq (sFor (iRange1 (eCall gMax2 (aCons (eC (.int 3)) (aCons (eCall gMin2 (aCons (eC (.int 6)) (aCons (eBin (gAdd false) (eCall gLen (aCons (eVar 0) aNil)) (eC (.int 2))) aNil))) aNil)))) (gVar 1) (sSeq (sSet 2 (eCall m__law_bag (aCons (eVar 0) (aCons (eVar 1) aNil))))
    (sSeq (sSet 3 (eCall m__law_rule (aCons (eVar 2) (aCons (eCall m__law_of (aCons (eVar 2) (aCons (eLst false (aCons (eC (.int 3)) (aCons (eC (.int 4)) aNil))) aNil))) aNil))))
    (sSeq (sSet 4 (eCall gLen (aCons (eBin gIx (eVar 3) (eC (.int 0))) aNil)))
    (sSeq (sSet 5 (eLc false (iRange1 (eBin gMulI (eVar 4) (eVar 4))) (gVar 8) tYesM (eTup (aCons (eBin gDiv (eVar 8) (eVar 4)) (aCons (eBin gMod (eVar 8) (eVar 4)) aNil))) [8]))
    (sSeq (sSet 6 (eIf (tTru (eCall m__law_smooth (aCons (eVar 3) aNil))) (eLst false (aCons (eTup aNil) aNil)) (eLst false aNil)))
    (sSeq (sIf (tOf (eBin (gEq false) (eVar 6) (eLst false aNil))) (sSet 6 (eLc false (iSeq (eVar 5)) (gVar 7) (tTru (eCall m__law_smooth (aCons (eCall m__law_turned (aCons (eVar 3) (aCons (eVar 7) aNil))) aNil))) (eTup (aCons (eVar 7) aNil)) [7])) sNil)
    (sSeq (sIf (tOf (eBin (gEq false) (eVar 6) (eLst false aNil))) (sFor (iSeq (eVar 5)) (gVar 7) (sSeq (sSet 9 (eCall m__law_turned (aCons (eVar 3) (aCons (eVar 7) aNil))))
    (sSet 6 (eBin (gAdd false) (eVar 6) (eLc false (iSeq (eVar 5)) (gVar 10) (tAndM (tOf (eBin gLt (eVar 7) (eVar 10))) (tTru (eCall m__law_smooth (aCons (eCall m__law_turned (aCons (eVar 9) (aCons (eVar 10) aNil))) aNil)))) (eTup (aCons (eVar 7) (aCons (eVar 10) aNil))) [10]))))) sNil)
    (sIf (tOf (eBin (gEq true) (eCall m_least_bars (aCons (eVar 3) aNil)) (eVar 6))) (sRet (eC (.bl false))) sNil)))))))))
    (sRet (eC (.bl true))))))
end Lw
namespace Lw
open PySem PySem.Spec PyProof.Rows L2 DL
structure Fx (K : PySem.W.Frag) (mg : Str → Option Value) : Prop where
  d__law_bag : ∃ f, mg "_law_bag" = some (.ref f) ∧ ∃ fd, FunD K "_law_bag" "_law_bag" (defArgs (Hd.top 33)) (defBody (Hd.top 33)) (defScope (Hd.top 33)) [] [] f fd
  d__law_take : ∃ f, mg "_law_take" = some (.ref f) ∧ ∃ fd, FunD K "_law_take" "_law_take" (defArgs (Hd.top 34)) (defBody (Hd.top 34)) (defScope (Hd.top 34)) [] [] f fd
  d__law_bars : ∃ f, mg "_law_bars" = some (.ref f) ∧ ∃ fd, FunD K "_law_bars" "_law_bars" (defArgs (Hd.top 36)) (defBody (Hd.top 36)) (defScope (Hd.top 36)) [] [] f fd
  d__law_of : ∃ f, mg "_law_of" = some (.ref f) ∧ ∃ fd, FunD K "_law_of" "_law_of" (defArgs (Hd.top 35)) (defBody (Hd.top 35)) (defScope (Hd.top 35)) [] [] f fd
  d__law_rule : ∃ f, mg "_law_rule" = some (.ref f) ∧ ∃ fd, FunD K "_law_rule" "_law_rule" (defArgs (Hd.top 37)) (defBody (Hd.top 37)) (defScope (Hd.top 37)) [] [] f fd
  d__law_let : ∃ f, mg "_law_let" = some (.ref f) ∧ ∃ fd, FunD K "_law_let" "_law_let" (defArgs (Hd.top 38)) (defBody (Hd.top 38)) (defScope (Hd.top 38)) [] [] f fd
  d__law_smooth : ∃ f, mg "_law_smooth" = some (.ref f) ∧ ∃ fd, FunD K "_law_smooth" "_law_smooth" (defArgs (Hd.top 40)) (defBody (Hd.top 40)) (defScope (Hd.top 40)) [] [] f fd
  d_is_ascending : ∃ f, mg "is_ascending" = some (.ref f) ∧ ∃ fd, FunD K "is_ascending" "is_ascending" (defArgs (Hd.top 11)) (defBody (Hd.top 11)) (defScope (Hd.top 11)) [] [] f fd
  d_is_number : ∃ f, mg "is_number" = some (.ref f) ∧ ∃ fd, FunD K "is_number" "is_number" (defArgs (Hd.top 9)) (defBody (Hd.top 9)) (defScope (Hd.top 9)) [] [] f fd
  d_is_from : ∃ f, mg "is_from" = some (.ref f) ∧ ∃ fd, FunD K "is_from" "is_from" (defArgs (Hd.top 10)) (defBody (Hd.top 10)) (defScope (Hd.top 10)) [] [] f fd
  d_are_names : ∃ f, mg "are_names" = some (.ref f) ∧ ∃ fd, FunD K "are_names" "are_names" (defArgs (Hd.top 12)) (defBody (Hd.top 12)) (defScope (Hd.top 12)) [] [] f fd
  d_is_rule : ∃ f, mg "is_rule" = some (.ref f) ∧ ∃ fd, FunD K "is_rule" "is_rule" (defArgs (Hd.top 13)) (defBody (Hd.top 13)) (defScope (Hd.top 13)) [] [] f fd
  d_need_rule : ∃ f, mg "need_rule" = some (.ref f) ∧ ∃ fd, FunD K "need_rule" "need_rule" (defArgs (Hd.top 14)) (defBody (Hd.top 14)) (defScope (Hd.top 14)) [] [] f fd
  d_names_left : ∃ f, mg "names_left" = some (.ref f) ∧ ∃ fd, FunD K "names_left" "names_left" (defArgs (Hd.top 16)) (defBody (Hd.top 16)) (defScope (Hd.top 16)) [] [] f fd
  d_is_let : ∃ f, mg "is_let" = some (.ref f) ∧ ∃ fd, FunD K "is_let" "is_let" (defArgs (Hd.top 17)) (defBody (Hd.top 17)) (defScope (Hd.top 17)) [] [] f fd
  d_all_let : ∃ f, mg "all_let" = some (.ref f) ∧ ∃ fd, FunD K "all_let" "all_let" (defArgs (Hd.top 18)) (defBody (Hd.top 18)) (defScope (Hd.top 18)) [] [] f fd
  d_with_name : ∃ f, mg "with_name" = some (.ref f) ∧ ∃ fd, FunD K "with_name" "with_name" (defArgs (Hd.top 19)) (defBody (Hd.top 19)) (defScope (Hd.top 19)) [] [] f fd
  d_exchanged : ∃ f, mg "exchanged" = some (.ref f) ∧ ∃ fd, FunD K "exchanged" "exchanged" (defArgs (Hd.top 20)) (defBody (Hd.top 20)) (defScope (Hd.top 20)) [] [] f fd
  d_is_sound : ∃ f, mg "is_sound" = some (.ref f) ∧ ∃ fd, FunD K "is_sound" "is_sound" (defArgs (Hd.top 21)) (defBody (Hd.top 21)) (defScope (Hd.top 21)) [] [] f fd
  d_can_exchange : ∃ f, mg "can_exchange" = some (.ref f) ∧ ∃ fd, FunD K "can_exchange" "can_exchange" (defArgs (Hd.top 22)) (defBody (Hd.top 22)) (defScope (Hd.top 22)) [] [] f fd
  d_all_exchanges : ∃ f, mg "all_exchanges" = some (.ref f) ∧ ∃ fd, FunD K "all_exchanges" "all_exchanges" (defArgs (Hd.top 23)) (defBody (Hd.top 23)) (defScope (Hd.top 23)) [] [] f fd
  d_names_behind : ∃ f, mg "names_behind" = some (.ref f) ∧ ∃ fd, FunD K "names_behind" "names_behind" (defArgs (Hd.top 24)) (defBody (Hd.top 24)) (defScope (Hd.top 24)) [] [] f fd
  d_turns_of : ∃ f, mg "turns_of" = some (.ref f) ∧ ∃ fd, FunD K "turns_of" "turns_of" (defArgs (Hd.top 25)) (defBody (Hd.top 25)) (defScope (Hd.top 25)) [] [] f fd
  d_first_stuck : ∃ f, mg "first_stuck" = some (.ref f) ∧ ∃ fd, FunD K "first_stuck" "first_stuck" (defArgs (Hd.top 26)) (defBody (Hd.top 26)) (defScope (Hd.top 26)) [] [] f fd
  d_people_stuck : ∃ f, mg "people_stuck" = some (.ref f) ∧ ∃ fd, FunD K "people_stuck" "people_stuck" (defArgs (Hd.top 27)) (defBody (Hd.top 27)) (defScope (Hd.top 27)) [] [] f fd
  d_is_smooth : ∃ f, mg "is_smooth" = some (.ref f) ∧ ∃ fd, FunD K "is_smooth" "is_smooth" (defArgs (Hd.top 30)) (defBody (Hd.top 30)) (defScope (Hd.top 30)) [] [] f fd
  d_turned_over : ∃ f, mg "turned_over" = some (.ref f) ∧ ∃ fd, FunD K "turned_over" "turned_over" (defArgs (Hd.top 29)) (defBody (Hd.top 29)) (defScope (Hd.top 29)) [] [] f fd
  d_least_bars : ∃ f, mg "least_bars" = some (.ref f) ∧ ∃ fd, FunD K "least_bars" "least_bars" (defArgs (Hd.top 31)) (defBody (Hd.top 31)) (defScope (Hd.top 31)) [] [] f fd
  d__law_turned : ∃ f, mg "_law_turned" = some (.ref f) ∧ ∃ fd, FunD K "_law_turned" "_law_turned" (defArgs (Hd.top 39)) (defBody (Hd.top 39)) (defScope (Hd.top 39)) [] [] f fd
  b_abs : mg "abs" = none
  b_all : mg "all" = none
  b_bool : mg "bool" = none
  b_enumerate : mg "enumerate" = none
  b_int : mg "int" = none
  b_isinstance : mg "isinstance" = none
  b_len : mg "len" = none
  b_list : mg "list" = none
  b_max : mg "max" = none
  b_min : mg "min" = none
  b_range : mg "range" = none
  b_set : mg "set" = none
  b_sorted : mg "sorted" = none
  b_str : mg "str" = none
  b_tuple : mg "tuple" = none
  b_zip : mg "zip" = none
  c_MOST : ∃ t, mg "MOST" = some (.int 6 t)
  c_SWAP : ∃ t, mg "SWAP" = some (.str "swap" t)
  c_WAYS : ∃ a, mg "WAYS" = some (.ref a) ∧ ∀ F θ, Rep K F θ (.ref a) (.tup [.str "again", .str "anew", .str "swap"])
def n__law_bag : List Str := ["script", "k", "cell"]
theorem sc__law_bag : FnScope n__law_bag ["script", "k"] (defScope (Hd.top 33)) := ⟨rfl, rfl, rfl, by decide +kernel, rfl, by decide +kernel, by decide +kernel⟩
theorem g__law_bag {P : Program} {w : World} {K : PySem.W.Frag} {mg : Str → Option Value} {base : Heap} (c : Fx K mg) : Good P w K mg base 1 "_law_bag" ["script", "k"] m__law_bag := by
  obtain ⟨f, hm, F⟩ := c.d__law_bag
  refine (good_mk (N := n__law_bag) (ps := ["script", "k"]) (k := 0) hm F sc__law_bag (by decide) (fun _ _ _ _ _ _ us hl => match us, hl with | [_, _], _ => rfl) fun f cdv A outer s0 H E hr => ?_)
  exact (sd_cons (sd_set (i := 2) sc__law_bag.nd rfl (Or.inl rfl) (ed_if (tCmpW (cLt hr.units) (xv 1) (xBlt wLen c.b_len (ad_cons (xv 0) ad_nil))) (xBlt wAbs c.b_abs (ad_cons (xBlt wInt c.b_int (ad_cons (ed_ix (xv 0) (xv 1) (fun _ _ => rfl)) ad_nil)) ad_nil)) (xAdd false (xMul ed_int (xv 1)) ed_int)))
    (sd_one (sd_ret (ed_lst true (ad_cons (ed_if (tCmpW cGe (xv 2) (xPow ed_int ed_int)) (xv 2) ed_int) (ad_cons (xMod (xBlt wInt c.b_int (ad_cons (xAdd false (xAdd false (xMod (xBlt wInt c.b_int (ad_cons (xv 2) ad_nil)) ed_int) (xMul ed_int (xv 1))) ed_int) ad_nil)) ed_int) ad_nil))))))
def n__law_take : List Str := ["bag", "many", "stirred", "found"]
theorem sc__law_take : FnScope n__law_take ["bag", "many"] (defScope (Hd.top 34)) := ⟨rfl, rfl, rfl, by decide +kernel, rfl, by decide +kernel, by decide +kernel⟩
theorem g__law_take {P : Program} {w : World} {K : PySem.W.Frag} {mg : Str → Option Value} {base : Heap} (c : Fx K mg) : Good P w K mg base 1 "_law_take" ["bag", "many"] m__law_take := by
  obtain ⟨f, hm, F⟩ := c.d__law_take
  refine (good_mk (N := n__law_take) (ps := ["bag", "many"]) (k := 0) hm F sc__law_take (by decide) (fun _ _ _ _ _ _ us hl => match us, hl with | [_, _], _ => rfl) fun f cdv A outer s0 H E hr => ?_)
  exact (sd_cons (sd_if (tCmpW cGt (ed_ix (xv 0) ed_int (fun _ _ => rfl)) ed_int) (sd_cons (sd_set (i := 3) sc__law_take.nd rfl (Or.inl rfl) (xMod (xBlt wInt c.b_int (ad_cons (ed_ix (xv 0) ed_int (fun _ _ => rfl)) ad_nil)) (xv 1)))
    (sd_cons (sd_put (xDiv (xBlt wInt c.b_int (ad_cons (ed_ix (xv 0) ed_int (fun _ _ => rfl)) ad_nil)) (xv 1)) (xv 0) ed_int)
    (sd_one (sd_ret (xv 3))))) sd_nil)
    (sd_cons (sd_put (xMod (xBlt wInt c.b_int (ad_cons (xAdd false (xMul (ed_ix (xv 0) ed_int (fun _ _ => rfl)) ed_int) ed_int) ad_nil)) ed_int) (xv 0) ed_int)
    (sd_cons (sd_set (i := 2) sc__law_take.nd rfl (Or.inl rfl) (xMod (xMul (xBlt wInt c.b_int (ad_cons (ed_ix (xv 0) ed_int (fun _ _ => rfl)) ad_nil)) (xAdd false (xDiv (xBlt wInt c.b_int (ad_cons (ed_ix (xv 0) ed_int (fun _ _ => rfl)) ad_nil)) ed_int) ed_int)) ed_int))
    (sd_one (sd_ret (xMod (xBlt wInt c.b_int (ad_cons (xDiv (xBlt wInt c.b_int (ad_cons (xv 2) ad_nil)) ed_int) ad_nil)) (xv 1)))))))
def n__law_bars : List Str := ["bag", "many", "person", "way", "found", "some", "name"]
theorem sc__law_bars : FnScope n__law_bars ["bag", "many"] (defScope (Hd.top 36)) := ⟨rfl, rfl, rfl, by decide +kernel, rfl, by decide +kernel, by decide +kernel⟩
theorem g__law_bars {P : Program} {w : World} {K : PySem.W.Frag} {mg : Str → Option Value} {base : Heap} (c : Fx K mg) : Good P w K mg base 2 "_law_bars" ["bag", "many"] m__law_bars := by
  obtain ⟨f, hm, F⟩ := c.d__law_bars
  refine (good_mk (N := n__law_bars) (ps := ["bag", "many"]) (k := 1) hm F sc__law_bars (by decide) (fun _ _ _ _ _ _ us hl => match us, hl with | [_, _], _ => rfl) fun f cdv A outer s0 H E hr => ?_)
  exact (sd_cons (sd_par (i := 3) (j := 4) rfl sc__law_bars.nd rfl rfl (by decide) rfl rfl (ad_cons (xCall (g__law_take c) hr (by decide) (takes_of rfl rfl rfl rfl) (ad_cons (xv 0) (ad_cons ed_int ad_nil))) (ad_cons (ed_tup ad_nil) ad_nil)) rfl)
    (sd_cons (sd_for (ix := [2]) (passes_of rfl) rfl (id_range1 rfl c.b_range (xv 1)) (gd_var (i := 2) (by decide) sc__law_bars.nd rfl (Or.inl rfl)) (sd_cons (sd_set (i := 5) sc__law_bars.nd rfl (Or.inl rfl) (ed_if (tCmpW (cLt hr.units) (xv 3) ed_int) (ed_lst false (ad_cons (xv 2) ad_nil)) (ed_lst false ad_nil)))
    (sd_cons (sd_for (ix := [6]) (passes_of rfl) rfl (id_range1 rfl c.b_range (xv 1)) (gd_var (i := 6) (by decide) sc__law_bars.nd rfl (Or.inl rfl)) (sd_one (sd_if (td_bool (wd_and (tCmpW (cNi hr.u65) (xv 6) (xv 5)) (wd_and1 (tCmpW (cEq hr.units) (xCall (g__law_take c) hr (by decide) (takes_of rfl rfl rfl rfl) (ad_cons (xv 0) (ad_cons (ed_if (tCmpW (cNe hr.units) (xv 3) ed_int) ed_int ed_int) ad_nil))) ed_int)))) (sd_one (sd_set (i := 5) sc__law_bars.nd rfl (Or.inl rfl) (xAdd false (xv 5) (ed_lst false (ad_cons (xv 6) ad_nil))))) sd_nil)))
    (sd_one (sd_set (i := 4) sc__law_bars.nd rfl (Or.inl rfl) (xAdd false (xv 4) (ed_tup (ad_cons (xBlt wTuple c.b_tuple (ad_cons (xBlt (wSorted hr.units) c.b_sorted (ad_cons (xv 5) ad_nil)) ad_nil)) ad_nil))))))))
    (sd_one (sd_ret (xv 4)))))
def n__law_of : List Str := ["bag", "some"]
theorem sc__law_of : FnScope n__law_of ["bag", "some"] (defScope (Hd.top 35)) := ⟨rfl, rfl, rfl, by decide +kernel, rfl, by decide +kernel, by decide +kernel⟩
theorem g__law_of {P : Program} {w : World} {K : PySem.W.Frag} {mg : Str → Option Value} {base : Heap} (c : Fx K mg) : Good P w K mg base 2 "_law_of" ["bag", "some"] m__law_of := by
  obtain ⟨f, hm, F⟩ := c.d__law_of
  refine (good_mk (N := n__law_of) (ps := ["bag", "some"]) (k := 1) hm F sc__law_of (by decide) (fun _ _ _ _ _ _ us hl => match us, hl with | [_, _], _ => rfl) fun f cdv A outer s0 H E hr => ?_)
  exact (sd_one (sd_ret (ed_ix (xv 1) (xCall (g__law_take c) hr (by decide) (takes_of rfl rfl rfl rfl) (ad_cons (xv 0) (ad_cons (xBlt wLen c.b_len (ad_cons (xv 1) ad_nil)) ad_nil))) (fun _ _ => rfl))))
def n__law_rule : List Str := ["bag", "most", "many"]
theorem sc__law_rule : FnScope n__law_rule ["bag", "most"] (defScope (Hd.top 37)) := ⟨rfl, rfl, rfl, by decide +kernel, rfl, by decide +kernel, by decide +kernel⟩
theorem g__law_rule {P : Program} {w : World} {K : PySem.W.Frag} {mg : Str → Option Value} {base : Heap} (c : Fx K mg) : Good P w K mg base 3 "_law_rule" ["bag", "most"] m__law_rule := by
  obtain ⟨f, hm, F⟩ := c.d__law_rule
  refine (good_mk (N := n__law_rule) (ps := ["bag", "most"]) (k := 2) hm F sc__law_rule (by decide) (fun _ _ _ _ _ _ us hl => match us, hl with | [_, _], _ => rfl) fun f cdv A outer s0 H E hr => ?_)
  exact (sd_cons (sd_set (i := 2) sc__law_rule.nd rfl (Or.inl rfl) (xAdd false ed_int (xCall (g__law_take c) hr (by decide) (takes_of rfl rfl rfl rfl) (ad_cons (xv 0) (ad_cons (xSub (xv 1) ed_int) ad_nil)))))
    (sd_one (sd_ret (ed_tup (ad_cons (xCall (g__law_bars c) hr (by decide) (takes_of rfl rfl rfl rfl) (ad_cons (xv 0) (ad_cons (xv 2) ad_nil))) (ad_cons (xCmp (cEq hr.units) (xCall (g__law_take c) hr (by decide) (takes_of rfl rfl rfl rfl) (ad_cons (xv 0) (ad_cons ed_int ad_nil))) ed_int) (ad_cons (xCall (g__law_of c) hr (by decide) (takes_of rfl rfl rfl rfl) (ad_cons (xv 0) (ad_cons (ed_lst false (ad_cons ed_str (ad_cons ed_str (ad_cons ed_str (ad_cons ed_str (ad_cons ed_str ad_nil)))))) ad_nil))) ad_nil)))))))
def n__law_let : List Str := ["rule", "having", "name", "found", "person", "closed"]
theorem sc__law_let : FnScope n__law_let ["rule", "having"] (defScope (Hd.top 38)) := ⟨rfl, rfl, rfl, by decide +kernel, rfl, by decide +kernel, by decide +kernel⟩
theorem g__law_let {P : Program} {w : World} {K : PySem.W.Frag} {mg : Str → Option Value} {base : Heap} (c : Fx K mg) : Good P w K mg base 1 "_law_let" ["rule", "having"] m__law_let := by
  obtain ⟨f, hm, F⟩ := c.d__law_let
  refine Good.pure (good_mk (N := n__law_let) (ps := ["rule", "having"]) (k := 0) hm F sc__law_let (by decide) (fun _ _ _ _ _ _ us hl => match us, hl with | [_, _], _ => rfl) fun f cdv A outer s0 H E hr => ?_)
  exact (sd_cons (sd_par (i := 3) (j := 4) rfl sc__law_let.nd rfl rfl (by decide) rfl rfl (ad_cons (ed_lst true ad_nil) (ad_cons (xBlt wLen c.b_len (ad_cons (xv 1) ad_nil)) ad_nil)) rfl)
    (sd_cons (sd_for (ix := [2]) (passes_of rfl) rfl (id_range1 rfl c.b_range (xBlt wLen c.b_len (ad_cons (ed_ix (xv 0) ed_int (fun _ _ => rfl)) ad_nil))) (gd_var (i := 2) (by decide) sc__law_let.nd rfl (Or.inl rfl)) (sd_one (sd_if (td_bool (wd_and (tCmpW (cNi hr.u65) (xv 2) (xv 1)) (wd_and1 (tCmpW (cNi hr.u65) (xv 2) (ed_ix (ed_ix (xv 0) ed_int (fun _ _ => rfl)) (xv 4) (fun _ _ => rfl)))))) (sd_cons (sd_set (i := 5) sc__law_let.nd rfl (Or.inl rfl) (ed_or (xCmp (cEq hr.units) (xv 2) (xv 4)) (ed_one (ed_and (xCmp (cLt hr.units) (xv 2) (xv 4)) (ed_one (xCmp (cEq hr.units) (ed_ix (xv 1) (xv 2) (fun _ _ => rfl)) (xv 4)))))))
    (sd_one (sd_if (td_not (td_bool (wd_and (td_tru (ed_ix (xv 0) ed_int (fun _ _ => rfl))) (wd_and1 (td_tru (xv 5)))))) (sd_one (sd_exp (ed_append (xv 3) (ad_cons (xv 2) ad_nil)))) sd_nil))) sd_nil)))
    (sd_one (sd_ret (xv 3)))))
def n__law_smooth : List Str := ["rule", "line", "person", "there", "having", "some", "name"]
theorem sc__law_smooth : FnScope n__law_smooth ["rule"] (defScope (Hd.top 40)) := ⟨rfl, rfl, rfl, by decide +kernel, rfl, by decide +kernel, by decide +kernel⟩
theorem g__law_smooth {P : Program} {w : World} {K : PySem.W.Frag} {mg : Str → Option Value} {base : Heap} (c : Fx K mg) : Good P w K mg base 2 "_law_smooth" ["rule"] m__law_smooth := by
  obtain ⟨f, hm, F⟩ := c.d__law_smooth
  refine Good.pure (good_mk (N := n__law_smooth) (ps := ["rule"]) (k := 1) hm F sc__law_smooth (by decide) (fun _ _ _ _ _ _ us hl => match us, hl with | [_], _ => rfl) fun f cdv A outer s0 H E hr => ?_)
  exact (sd_cons (sd_set (i := 1) sc__law_smooth.nd rfl (Or.inl rfl) (ed_lst false (ad_cons (ed_tup ad_nil) ad_nil)))
    (sd_cons (sd_for (ix := [2]) (passes_of rfl) rfl (id_range1 rfl c.b_range (xBlt wLen c.b_len (ad_cons (ed_ix (xv 0) ed_int (fun _ _ => rfl)) ad_nil))) (gd_var (i := 2) (by decide) sc__law_smooth.nd rfl (Or.inl rfl)) (sd_cons (sd_set (i := 3) sc__law_smooth.nd rfl (Or.inl rfl) (ed_lst false ad_nil))
    (sd_cons (sd_for (ix := [4]) (passes_of rfl) rfl (id_seq (xv 1)) (gd_var (i := 4) (by decide) sc__law_smooth.nd rfl (Or.inr rfl)) (sd_cons (sd_set (i := 5) sc__law_smooth.nd rfl (Or.inl rfl) (xCall (g__law_let c) hr (by decide) (takes_of rfl rfl rfl rfl) (ad_cons (xv 0) (ad_cons (xv 4) ad_nil))))
    (sd_cons (sd_if (tCmpW (cEq hr.units) (xv 5) (ed_lst false ad_nil)) (sd_one (sd_ret ed_bl)) sd_nil)
    (sd_one (sd_set (i := 3) sc__law_smooth.nd rfl (Or.inl rfl) (xAdd false (xv 3) (ed_lc (own := [("name", 6)]) false rfl sc__law_smooth.nd (id_seq (xv 5)) (blkOk_by (N := n__law_smooth) (sc := defScope (Hd.top 40)) (own := [("name", 6)]) (by decide +kernel)) (fun _ _ _ _ _ => (gd_var (i := 6) (by decide) sc__law_smooth.nd rfl (Or.inl rfl))) (fun _ _ _ _ _ => pts_nilD) (fun _ _ _ _ _ => (xAdd false (xv 4) (ed_tup (ad_cons (xv 6) ad_nil)))))))))))
    (sd_one (sd_set (i := 1) sc__law_smooth.nd rfl (Or.inl rfl) (xv 3))))))
    (sd_one (sd_ret ed_bl))))
def n_is_ascending : List Str := ["value", "one", "other"]
theorem sc_is_ascending : FnScope n_is_ascending ["value"] (defScope (Hd.top 11)) := ⟨rfl, rfl, rfl, by decide +kernel, rfl, by decide +kernel, by decide +kernel⟩
theorem g_is_ascending {P : Program} {w : World} {K : PySem.W.Frag} {mg : Str → Option Value} {base : Heap} (c : Fx K mg) : Good P w K mg base 1 "is_ascending" ["value"] m_is_ascending := by
  obtain ⟨f, hm, F⟩ := c.d_is_ascending
  refine Good.pure (good_mk (N := n_is_ascending) (ps := ["value"]) (k := 0) hm F sc_is_ascending (by decide) (fun _ _ _ _ _ _ us hl => match us, hl with | [_], _ => rfl) fun f cdv A outer s0 H E hr => ?_)
  exact (sd_one (sd_ret (xBlt (wAll rfl) c.b_all (ad_cons (ed_lc (own := [("one", 1), ("other", 2)]) false rfl sc_is_ascending.nd (id_zip rfl c.b_zip (xv 0) (ed_sl (xv 0) (od_some ed_int) od_none)) (blkOk_by (N := n_is_ascending) (sc := defScope (Hd.top 11)) (own := [("one", 1), ("other", 2)]) (by decide +kernel)) (fun _ _ _ _ _ => (gd_tup rfl (gds_cons (gd_var (i := 1) (by decide) sc_is_ascending.nd rfl (Or.inl rfl)) (gds_cons (gd_var (i := 2) (by decide) sc_is_ascending.nd rfl (Or.inl rfl)) gds_nil)))) (fun _ _ _ _ _ => pts_nilD) (fun _ _ _ _ _ => (xCmp (cLt hr.units) (xv 1) (xv 2)))) ad_nil))))
def n_is_number : List Str := ["value"]
theorem sc_is_number : FnScope n_is_number ["value"] (defScope (Hd.top 9)) := ⟨rfl, rfl, rfl, by decide +kernel, rfl, by decide +kernel, by decide +kernel⟩
theorem g_is_number {P : Program} {w : World} {K : PySem.W.Frag} {mg : Str → Option Value} {base : Heap} (c : Fx K mg) : Good P w K mg base 1 "is_number" ["value"] m_is_number := by
  obtain ⟨f, hm, F⟩ := c.d_is_number
  refine Good.pure (good_mk (N := n_is_number) (ps := ["value"]) (k := 0) hm F sc_is_number (by decide) (fun _ _ _ _ _ _ us hl => match us, hl with | [_], _ => rfl) fun f cdv A outer s0 H E hr => ?_)
  exact (sd_one (sd_ret (ed_and (xBlt wIsi c.b_isinstance (ad_cons (xv 0) (ad_cons (ed_ty rfl c.b_int bb_int) ad_nil))) (ed_one (ed_not (xBlt wIsi c.b_isinstance (ad_cons (xv 0) (ad_cons (ed_ty rfl c.b_bool bb_bool) ad_nil))))))))
def n_is_from : List Str := ["value", "low", "high"]
theorem sc_is_from : FnScope n_is_from ["value", "low", "high"] (defScope (Hd.top 10)) := ⟨rfl, rfl, rfl, by decide +kernel, rfl, by decide +kernel, by decide +kernel⟩
theorem g_is_from {P : Program} {w : World} {K : PySem.W.Frag} {mg : Str → Option Value} {base : Heap} (c : Fx K mg) : Good P w K mg base 2 "is_from" ["value", "low", "high"] m_is_from := by
  obtain ⟨f, hm, F⟩ := c.d_is_from
  refine Good.pure (good_mk (N := n_is_from) (ps := ["value", "low", "high"]) (k := 1) hm F sc_is_from (by decide) (fun _ _ _ _ _ _ us hl => match us, hl with | [_, _, _], _ => rfl) fun f cdv A outer s0 H E hr => ?_)
  exact (sd_one (sd_ret (ed_and (xCall (g_is_number c) hr (by decide) (takes_of rfl rfl rfl rfl) (ad_cons (xv 0) ad_nil)) (ed_one (xCh cLe cLe (xv 1) (xv 0) (xv 2))))))
def n_are_names : List Str := ["value", "many", "name"]
theorem sc_are_names : FnScope n_are_names ["value", "many"] (defScope (Hd.top 12)) := ⟨rfl, rfl, rfl, by decide +kernel, rfl, by decide +kernel, by decide +kernel⟩
theorem g_are_names {P : Program} {w : World} {K : PySem.W.Frag} {mg : Str → Option Value} {base : Heap} (c : Fx K mg) : Good P w K mg base 3 "are_names" ["value", "many"] m_are_names := by
  obtain ⟨f, hm, F⟩ := c.d_are_names
  refine Good.pure (good_mk (N := n_are_names) (ps := ["value", "many"]) (k := 2) hm F sc_are_names (by decide) (fun _ _ _ _ _ _ us hl => match us, hl with | [_, _], _ => rfl) fun f cdv A outer s0 H E hr => ?_)
  exact (sd_cons (sd_if (td_bool (wd_or (td_not (td_val (xBlt wIsi c.b_isinstance (ad_cons (xv 0) (ad_cons (ed_ty rfl c.b_tuple bb_tuple) ad_nil))))) (wd_or1 (td_not (td_val (xBlt (wAll rfl) c.b_all (ad_cons (ed_lc (own := [("name", 2)]) false rfl sc_are_names.nd (id_seq (xv 0)) (blkOk_by (N := n_are_names) (sc := defScope (Hd.top 12)) (own := [("name", 2)]) (by decide +kernel)) (fun _ _ _ _ _ => (gd_var (i := 2) (by decide) sc_are_names.nd rfl (Or.inl rfl))) (fun _ _ _ _ _ => pts_nilD) (fun _ _ _ _ _ => (xCall (g_is_from c) hr (by decide) takes0 (ad_cons (xv 2) (ad_cons ed_int (ad_cons (xSub (xv 1) ed_int) ad_nil)))))) ad_nil))))))) (sd_one (sd_ret ed_bl)) sd_nil)
    (sd_one (sd_ret (xCall (g_is_ascending c) hr (by decide) (takes_of rfl rfl rfl rfl) (ad_cons (xv 0) ad_nil)))))
def n_is_rule : List Str := ["value", "names"]
theorem sc_is_rule : FnScope n_is_rule ["value"] (defScope (Hd.top 13)) := ⟨rfl, rfl, rfl, by decide +kernel, rfl, by decide +kernel, by decide +kernel⟩
theorem g_is_rule {P : Program} {w : World} {K : PySem.W.Frag} {mg : Str → Option Value} {base : Heap} (c : Fx K mg) : Good P w K mg base 4 "is_rule" ["value"] m_is_rule := by
  obtain ⟨f, hm, F⟩ := c.d_is_rule
  refine Good.pure (good_mk (N := n_is_rule) (ps := ["value"]) (k := 3) hm F sc_is_rule (by decide) (fun _ _ _ _ _ _ us hl => match us, hl with | [_], _ => rfl) fun f cdv A outer s0 H E hr => ?_)
  exact (sd_cons (sd_if (td_bool (wd_or (td_not (td_val (xBlt wIsi c.b_isinstance (ad_cons (xv 0) (ad_cons (ed_ty rfl c.b_tuple bb_tuple) ad_nil))))) (wd_or (tCmpW (cNe hr.units) (xBlt wLen c.b_len (ad_cons (xv 0) ad_nil)) ed_int) (wd_or1 (td_not (td_val (xBlt wIsi c.b_isinstance (ad_cons (ed_ix (xv 0) ed_int (fun _ _ => rfl)) (ad_cons (ed_ty rfl c.b_tuple bb_tuple) ad_nil))))))))) (sd_one (sd_ret ed_bl)) sd_nil)
    (sd_cons (sd_if (td_bool (wd_or (td_not (tCh cLe cLe ed_int (xBlt wLen c.b_len (ad_cons (ed_ix (xv 0) ed_int (fun _ _ => rfl)) ad_nil)) (xgI c.c_MOST))) (wd_or1 (td_not (td_val (xBlt (wAll rfl) c.b_all (ad_cons (ed_lc (own := [("names", 1)]) false rfl sc_is_rule.nd (id_seq (ed_ix (xv 0) ed_int (fun _ _ => rfl))) (blkOk_by (N := n_is_rule) (sc := defScope (Hd.top 13)) (own := [("names", 1)]) (by decide +kernel)) (fun _ _ _ _ _ => (gd_var (i := 1) (by decide) sc_is_rule.nd rfl (Or.inl rfl))) (fun _ _ _ _ _ => pts_nilD) (fun _ _ _ _ _ => (xCall (g_are_names c) hr (by decide) takes0 (ad_cons (xv 1) (ad_cons (xBlt wLen c.b_len (ad_cons (ed_ix (xv 0) ed_int (fun _ _ => rfl)) ad_nil)) ad_nil))))) ad_nil))))))) (sd_one (sd_ret ed_bl)) sd_nil)
    (sd_one (sd_ret (ed_and (xBlt wIsi c.b_isinstance (ad_cons (ed_ix (xv 0) ed_int (fun _ _ => rfl)) (ad_cons (ed_ty rfl c.b_bool bb_bool) ad_nil))) (ed_and (xBlt wIsi c.b_isinstance (ad_cons (ed_ix (xv 0) ed_int (fun _ _ => rfl)) (ad_cons (ed_ty rfl c.b_str bb_str) ad_nil))) (ed_one (xCmp (cIn hr.u65) (ed_ix (xv 0) ed_int (fun _ _ => rfl)) (xgV c.c_WAYS)))))))))
def n_need_rule : List Str := ["value"]
theorem sc_need_rule : FnScope n_need_rule ["value"] (defScope (Hd.top 14)) := ⟨rfl, rfl, rfl, by decide +kernel, rfl, by decide +kernel, by decide +kernel⟩
theorem g_need_rule {P : Program} {w : World} {K : PySem.W.Frag} {mg : Str → Option Value} {base : Heap} (c : Fx K mg) : Good P w K mg base 5 "need_rule" ["value"] m_need_rule := by
  obtain ⟨f, hm, F⟩ := c.d_need_rule
  refine Good.pure (good_mk (N := n_need_rule) (ps := ["value"]) (k := 4) hm F sc_need_rule (by decide) (fun _ _ _ _ _ _ us hl => match us, hl with | [_], _ => rfl) fun f cdv A outer s0 H E hr => ?_)
  exact (sd_one (sd_if (td_not (td_val (xCall (g_is_rule c) hr (by decide) (takes_of rfl rfl rfl rfl) (ad_cons (xv 0) ad_nil)))) (sd_one sd_bad) sd_nil))
def n_names_left : List Str := ["rule", "names", "name"]
theorem sc_names_left : FnScope n_names_left ["rule", "names"] (defScope (Hd.top 16)) := ⟨rfl, rfl, rfl, by decide +kernel, rfl, by decide +kernel, by decide +kernel⟩
theorem g_names_left {P : Program} {w : World} {K : PySem.W.Frag} {mg : Str → Option Value} {base : Heap} (c : Fx K mg) : Good P w K mg base 1 "names_left" ["rule", "names"] m_names_left := by
  obtain ⟨f, hm, F⟩ := c.d_names_left
  refine Good.pure (good_mk (N := n_names_left) (ps := ["rule", "names"]) (k := 0) hm F sc_names_left (by decide) (fun _ _ _ _ _ _ us hl => match us, hl with | [_, _], _ => rfl) fun f cdv A outer s0 H E hr => ?_)
  exact (sd_one (sd_ret (ed_lc (own := [("name", 2)]) false rfl sc_names_left.nd (id_seq (ed_listR1 false rfl rfl c.b_list rfl c.b_range (xBlt wLen c.b_len (ad_cons (ed_ix (xv 0) ed_int (fun _ _ => rfl)) ad_nil)))) (blkOk_by (N := n_names_left) (sc := defScope (Hd.top 16)) (own := [("name", 2)]) (by decide +kernel)) (fun _ _ _ _ _ => (gd_var (i := 2) (by decide) sc_names_left.nd rfl (Or.inl rfl))) (fun _ _ _ _ _ => (pts_oneD (tCmpW (cNi hr.u65) (xv 2) (xv 1)))) (fun _ _ _ _ _ => (xv 2)))))
def n_is_let : List Str := ["rule", "names", "person", "name"]
theorem sc_is_let : FnScope n_is_let ["rule", "names", "person", "name"] (defScope (Hd.top 17)) := ⟨rfl, rfl, rfl, by decide +kernel, rfl, by decide +kernel, by decide +kernel⟩
theorem g_is_let {P : Program} {w : World} {K : PySem.W.Frag} {mg : Str → Option Value} {base : Heap} (c : Fx K mg) : Good P w K mg base 1 "is_let" ["rule", "names", "person", "name"] m_is_let := by
  obtain ⟨f, hm, F⟩ := c.d_is_let
  refine Good.pure (good_mk (N := n_is_let) (ps := ["rule", "names", "person", "name"]) (k := 0) hm F sc_is_let (by decide) (fun _ _ _ _ _ _ us hl => match us, hl with | [_, _, _, _], _ => rfl) fun f cdv A outer s0 H E hr => ?_)
  exact (sd_cons (sd_if (tCmpW (cIn hr.u65) (xv 3) (ed_ix (ed_ix (xv 0) ed_int (fun _ _ => rfl)) (xv 2) (fun _ _ => rfl))) (sd_one (sd_ret ed_bl)) sd_nil)
    (sd_cons (sd_if (td_not (td_tru (ed_ix (xv 0) ed_int (fun _ _ => rfl)))) (sd_one (sd_ret ed_bl)) sd_nil)
    (sd_one (sd_ret (ed_and (xCmp (cNe hr.units) (xv 3) (xv 2)) (ed_one (ed_or (xCmp cGe (xv 3) (xBlt wLen c.b_len (ad_cons (xv 1) ad_nil))) (ed_one (xCmp (cNe hr.units) (ed_ix (xv 1) (xv 3) (fun _ _ => rfl)) (xv 2))))))))))
def n_all_let : List Str := ["rule", "names", "name"]
theorem sc_all_let : FnScope n_all_let ["rule", "names"] (defScope (Hd.top 18)) := ⟨rfl, rfl, rfl, by decide +kernel, rfl, by decide +kernel, by decide +kernel⟩
theorem g_all_let {P : Program} {w : World} {K : PySem.W.Frag} {mg : Str → Option Value} {base : Heap} (c : Fx K mg) : Good P w K mg base 2 "all_let" ["rule", "names"] m_all_let := by
  obtain ⟨f, hm, F⟩ := c.d_all_let
  refine Good.pure (good_mk (N := n_all_let) (ps := ["rule", "names"]) (k := 1) hm F sc_all_let (by decide) (fun _ _ _ _ _ _ us hl => match us, hl with | [_, _], _ => rfl) fun f cdv A outer s0 H E hr => ?_)
  exact (sd_one (sd_ret (ed_lc (own := [("name", 2)]) false rfl sc_all_let.nd (id_seq (xCall (g_names_left c) hr (by decide) (takes_of rfl rfl rfl rfl) (ad_cons (xv 0) (ad_cons (xv 1) ad_nil)))) (blkOk_by (N := n_all_let) (sc := defScope (Hd.top 18)) (own := [("name", 2)]) (by decide +kernel)) (fun _ _ _ _ _ => (gd_var (i := 2) (by decide) sc_all_let.nd rfl (Or.inl rfl))) (fun _ _ _ _ _ => (pts_oneD (td_val (xCall (g_is_let c) hr (by decide) takes0 (ad_cons (xv 0) (ad_cons (xv 1) (ad_cons (xBlt wLen c.b_len (ad_cons (xv 1) ad_nil)) (ad_cons (xv 2) ad_nil)))))))) (fun _ _ _ _ _ => (xv 2)))))
def n_with_name : List Str := ["names", "person", "name"]
theorem sc_with_name : FnScope n_with_name ["names", "person", "name"] (defScope (Hd.top 19)) := ⟨rfl, rfl, rfl, by decide +kernel, rfl, by decide +kernel, by decide +kernel⟩
theorem g_with_name {P : Program} {w : World} {K : PySem.W.Frag} {mg : Str → Option Value} {base : Heap} (c : Fx K mg) : Good P w K mg base 1 "with_name" ["names", "person", "name"] m_with_name := by
  obtain ⟨f, hm, F⟩ := c.d_with_name
  refine Good.pure (good_mk (N := n_with_name) (ps := ["names", "person", "name"]) (k := 0) hm F sc_with_name (by decide) (fun _ _ _ _ _ _ us hl => match us, hl with | [_, _, _], _ => rfl) fun f cdv A outer s0 H E hr => ?_)
  exact (sd_one (sd_ret (xAdd false (xAdd false (ed_sl (xv 0) od_none (od_some (xv 1))) (ed_tup (ad_cons (xv 2) ad_nil))) (ed_sl (xv 0) (od_some (xAdd false (xv 1) ed_int)) od_none))))
def n_exchanged : List Str := ["names", "earlier", "name"]
theorem sc_exchanged : FnScope n_exchanged ["names", "earlier", "name"] (defScope (Hd.top 20)) := ⟨rfl, rfl, rfl, by decide +kernel, rfl, by decide +kernel, by decide +kernel⟩
theorem g_exchanged {P : Program} {w : World} {K : PySem.W.Frag} {mg : Str → Option Value} {base : Heap} (c : Fx K mg) : Good P w K mg base 2 "exchanged" ["names", "earlier", "name"] m_exchanged := by
  obtain ⟨f, hm, F⟩ := c.d_exchanged
  refine Good.pure (good_mk (N := n_exchanged) (ps := ["names", "earlier", "name"]) (k := 1) hm F sc_exchanged (by decide) (fun _ _ _ _ _ _ us hl => match us, hl with | [_, _, _], _ => rfl) fun f cdv A outer s0 H E hr => ?_)
  exact (sd_one (sd_ret (xAdd false (xCall (g_with_name c) hr (by decide) (takes_of rfl rfl rfl rfl) (ad_cons (xv 0) (ad_cons (xv 1) (ad_cons (xv 2) ad_nil)))) (ed_tup (ad_cons (ed_ix (xv 0) (xv 1) (fun _ _ => rfl)) ad_nil)))))
def n_is_sound : List Str := ["rule", "names", "person", "name"]
theorem sc_is_sound : FnScope n_is_sound ["rule", "names"] (defScope (Hd.top 21)) := ⟨rfl, rfl, rfl, by decide +kernel, rfl, by decide +kernel, by decide +kernel⟩
theorem g_is_sound {P : Program} {w : World} {K : PySem.W.Frag} {mg : Str → Option Value} {base : Heap} (c : Fx K mg) : Good P w K mg base 1 "is_sound" ["rule", "names"] m_is_sound := by
  obtain ⟨f, hm, F⟩ := c.d_is_sound
  refine Good.pure (good_mk (N := n_is_sound) (ps := ["rule", "names"]) (k := 0) hm F sc_is_sound (by decide) (fun _ _ _ _ _ _ us hl => match us, hl with | [_, _], _ => rfl) fun f cdv A outer s0 H E hr => ?_)
  exact (sd_cons (sd_if (td_not (td_tru (ed_ix (xv 0) ed_int (fun _ _ => rfl)))) (sd_one (sd_ret ed_bl)) sd_nil)
    (sd_cons (sd_for (ix := [2, 3]) (passes_of rfl) rfl (id_enum rfl c.b_enumerate (xv 1)) (gd_tup rfl (gds_cons (gd_var (i := 2) (by decide) sc_is_sound.nd rfl (Or.inl rfl)) (gds_cons (gd_var (i := 3) (by decide) sc_is_sound.nd rfl (Or.inl rfl)) gds_nil))) (sd_one (sd_if (td_bool (wd_or (tCmpW (cEq hr.units) (xv 3) (xv 2)) (wd_or1 (td_bool (wd_and (tCmpW (cLt hr.units) (xv 3) (xBlt wLen c.b_len (ad_cons (xv 1) ad_nil))) (wd_and1 (tCmpW (cEq hr.units) (ed_ix (xv 1) (xv 3) (fun _ _ => rfl)) (xv 2)))))))) (sd_one (sd_ret ed_bl)) sd_nil)))
    (sd_one (sd_ret ed_bl))))
def n_can_exchange : List Str := ["rule", "names", "earlier", "name"]
theorem sc_can_exchange : FnScope n_can_exchange ["rule", "names", "earlier", "name"] (defScope (Hd.top 22)) := ⟨rfl, rfl, rfl, by decide +kernel, rfl, by decide +kernel, by decide +kernel⟩
theorem g_can_exchange {P : Program} {w : World} {K : PySem.W.Frag} {mg : Str → Option Value} {base : Heap} (c : Fx K mg) : Good P w K mg base 3 "can_exchange" ["rule", "names", "earlier", "name"] m_can_exchange := by
  obtain ⟨f, hm, F⟩ := c.d_can_exchange
  refine Good.pure (good_mk (N := n_can_exchange) (ps := ["rule", "names", "earlier", "name"]) (k := 2) hm F sc_can_exchange (by decide) (fun _ _ _ _ _ _ us hl => match us, hl with | [_, _, _, _], _ => rfl) fun f cdv A outer s0 H E hr => ?_)
  exact (sd_cons (sd_if (td_bool (wd_or (tCmpW (cIn hr.u65) (ed_ix (xv 1) (xv 2) (fun _ _ => rfl)) (ed_ix (ed_ix (xv 0) ed_int (fun _ _ => rfl)) (xBlt wLen c.b_len (ad_cons (xv 1) ad_nil)) (fun _ _ => rfl))) (wd_or1 (tCmpW (cIn hr.u65) (xv 3) (ed_ix (ed_ix (xv 0) ed_int (fun _ _ => rfl)) (xv 2) (fun _ _ => rfl)))))) (sd_one (sd_ret ed_bl)) sd_nil)
    (sd_one (sd_ret (xCall (g_is_sound c) hr (by decide) (takes_of rfl rfl rfl rfl) (ad_cons (xv 0) (ad_cons (xCall (g_exchanged c) hr (by decide) (takes_of rfl rfl rfl rfl) (ad_cons (xv 1) (ad_cons (xv 2) (ad_cons (xv 3) ad_nil)))) ad_nil))))))
def n_all_exchanges : List Str := ["rule", "names", "found", "earlier", "name"]
theorem sc_all_exchanges : FnScope n_all_exchanges ["rule", "names"] (defScope (Hd.top 23)) := ⟨rfl, rfl, rfl, by decide +kernel, rfl, by decide +kernel, by decide +kernel⟩
theorem g_all_exchanges {P : Program} {w : World} {K : PySem.W.Frag} {mg : Str → Option Value} {base : Heap} (c : Fx K mg) : Good P w K mg base 4 "all_exchanges" ["rule", "names"] m_all_exchanges := by
  obtain ⟨f, hm, F⟩ := c.d_all_exchanges
  refine Good.pure (good_mk (N := n_all_exchanges) (ps := ["rule", "names"]) (k := 3) hm F sc_all_exchanges (by decide) (fun _ _ _ _ _ _ us hl => match us, hl with | [_, _], _ => rfl) fun f cdv A outer s0 H E hr => ?_)
  exact (sd_cons (sd_set (i := 2) sc_all_exchanges.nd rfl (Or.inl rfl) (ed_lst false ad_nil))
    (sd_cons (sd_for (ix := [3]) (passes_of rfl) rfl (id_range1 rfl c.b_range (xBlt wLen c.b_len (ad_cons (xv 1) ad_nil))) (gd_var (i := 3) (by decide) sc_all_exchanges.nd rfl (Or.inl rfl)) (sd_one (sd_for (ix := [4]) (passes_of rfl) rfl (id_seq (xCall (g_names_left c) hr (by decide) (takes_of rfl rfl rfl rfl) (ad_cons (xv 0) (ad_cons (xv 1) ad_nil)))) (gd_var (i := 4) (by decide) sc_all_exchanges.nd rfl (Or.inl rfl)) (sd_one (sd_if (td_val (xCall (g_can_exchange c) hr (by decide) (takes_of rfl rfl rfl rfl) (ad_cons (xv 0) (ad_cons (xv 1) (ad_cons (xv 3) (ad_cons (xv 4) ad_nil)))))) (sd_one (sd_set (i := 2) sc_all_exchanges.nd rfl (Or.inl rfl) (xAdd false (xv 2) (ed_lst false (ad_cons (ed_tup (ad_cons (xv 3) (ad_cons (xv 4) ad_nil))) ad_nil))))) sd_nil)))))
    (sd_one (sd_ret (xv 2)))))
def n_names_behind : List Str := ["rule", "names", "some", "name", "earlier"]
theorem sc_names_behind : FnScope n_names_behind ["rule", "names"] (defScope (Hd.top 24)) := ⟨rfl, rfl, rfl, by decide +kernel, rfl, by decide +kernel, by decide +kernel⟩
theorem g_names_behind {P : Program} {w : World} {K : PySem.W.Frag} {mg : Str → Option Value} {base : Heap} (c : Fx K mg) : Good P w K mg base 5 "names_behind" ["rule", "names"] m_names_behind := by
  obtain ⟨f, hm, F⟩ := c.d_names_behind
  refine Good.pure (good_mk (N := n_names_behind) (ps := ["rule", "names"]) (k := 4) hm F sc_names_behind (by decide) (fun _ _ _ _ _ _ us hl => match us, hl with | [_, _], _ => rfl) fun f cdv A outer s0 H E hr => ?_)
  exact (sd_cons (sd_set (i := 2) sc_names_behind.nd rfl (Or.inl rfl) (xCall (g_all_let c) hr (by decide) (takes_of rfl rfl rfl rfl) (ad_cons (xv 0) (ad_cons (xv 1) ad_nil))))
    (sd_cons (sd_if (tCmpW (cNe hr.units) (xv 2) (ed_lst false ad_nil)) (sd_one (sd_ret (ed_lc (own := [("name", 3)]) false rfl sc_names_behind.nd (id_seq (xv 2)) (blkOk_by (N := n_names_behind) (sc := defScope (Hd.top 24)) (own := [("name", 3)]) (by decide +kernel)) (fun _ _ _ _ _ => (gd_var (i := 3) (by decide) sc_names_behind.nd rfl (Or.inl rfl))) (fun _ _ _ _ _ => pts_nilD) (fun _ _ _ _ _ => (xAdd false (xv 1) (ed_tup (ad_cons (xv 3) ad_nil))))))) sd_nil)
    (sd_cons (sd_if (tCmpW (cNe hr.units) (ed_ix (xv 0) ed_int (fun _ _ => rfl)) (xgS c.c_SWAP)) (sd_one (sd_ret (ed_lst false ad_nil))) sd_nil)
    (sd_one (sd_ret (ed_lc (own := [("earlier", 4), ("name", 3)]) false rfl sc_names_behind.nd (id_seq (xCall (g_all_exchanges c) hr (by decide) (takes_of rfl rfl rfl rfl) (ad_cons (xv 0) (ad_cons (xv 1) ad_nil)))) (blkOk_by (N := n_names_behind) (sc := defScope (Hd.top 24)) (own := [("earlier", 4), ("name", 3)]) (by decide +kernel)) (fun _ _ _ _ _ => (gd_tup rfl (gds_cons (gd_var (i := 4) (by decide) sc_names_behind.nd rfl (Or.inl rfl)) (gds_cons (gd_var (i := 3) (by decide) sc_names_behind.nd rfl (Or.inl rfl)) gds_nil)))) (fun _ _ _ _ _ => pts_nilD) (fun _ _ _ _ _ => (xCall (g_exchanged c) hr (by decide) takes0 (ad_cons (xv 1) (ad_cons (xv 4) (ad_cons (xv 3) ad_nil)))))))))))
def n_turns_of : List Str := ["rule", "found", "person", "later", "names"]
theorem sc_turns_of : FnScope n_turns_of ["rule"] (defScope (Hd.top 25)) := ⟨rfl, rfl, rfl, by decide +kernel, rfl, by decide +kernel, by decide +kernel⟩
theorem g_turns_of {P : Program} {w : World} {K : PySem.W.Frag} {mg : Str → Option Value} {base : Heap} (c : Fx K mg) : Good P w K mg base 6 "turns_of" ["rule"] m_turns_of := by
  obtain ⟨f, hm, F⟩ := c.d_turns_of
  refine Good.pure (good_mk (N := n_turns_of) (ps := ["rule"]) (k := 5) hm F sc_turns_of (by decide) (fun _ _ _ _ _ _ us hl => match us, hl with | [_], _ => rfl) fun f cdv A outer s0 H E hr => ?_)
  exact (sd_cons (sd_set (i := 1) sc_turns_of.nd rfl (Or.inl rfl) (ed_lst false (ad_cons (ed_lst false (ad_cons (ed_tup ad_nil) ad_nil)) ad_nil)))
    (sd_cons (sd_for (ix := [2]) (passes_of rfl) rfl (id_range1 rfl c.b_range (xBlt wLen c.b_len (ad_cons (ed_ix (xv 0) ed_int (fun _ _ => rfl)) ad_nil))) (gd_var (i := 2) (by decide) sc_turns_of.nd rfl (Or.inl rfl)) (sd_cons (sd_set (i := 3) sc_turns_of.nd rfl (Or.inl rfl) (ed_lst false ad_nil))
    (sd_cons (sd_for (ix := [4]) (passes_of rfl) rfl (id_seq (ed_ix (xv 1) (xNeg ed_int) (fun _ _ => rfl))) (gd_var (i := 4) (by decide) sc_turns_of.nd rfl (Or.inl rfl)) (sd_one (sd_set (i := 3) sc_turns_of.nd rfl (Or.inl rfl) (xAdd false (xv 3) (xCall (g_names_behind c) hr (by decide) (takes_of rfl rfl rfl rfl) (ad_cons (xv 0) (ad_cons (xv 4) ad_nil)))))))
    (sd_one (sd_set (i := 1) sc_turns_of.nd rfl (Or.inl rfl) (xAdd false (xv 1) (ed_lst false (ad_cons (ed_sortSet hr.units rfl c.b_sorted rfl c.b_set rfl (xv 3)) ad_nil))))))))
    (sd_one (sd_ret (xv 1)))))
def n_first_stuck : List Str := ["rule", "turns", "person", "names"]
theorem sc_first_stuck : FnScope n_first_stuck ["rule", "turns", "person"] (defScope (Hd.top 26)) := ⟨rfl, rfl, rfl, by decide +kernel, rfl, by decide +kernel, by decide +kernel⟩
theorem g_first_stuck {P : Program} {w : World} {K : PySem.W.Frag} {mg : Str → Option Value} {base : Heap} (c : Fx K mg) : Good P w K mg base 3 "first_stuck" ["rule", "turns", "person"] m_first_stuck := by
  obtain ⟨f, hm, F⟩ := c.d_first_stuck
  refine Good.pure (good_mk (N := n_first_stuck) (ps := ["rule", "turns", "person"]) (k := 2) hm F sc_first_stuck (by decide) (fun _ _ _ _ _ _ us hl => match us, hl with | [_, _, _], _ => rfl) fun f cdv A outer s0 H E hr => ?_)
  exact (sd_cons (sd_for (ix := [3]) (passes_of rfl) rfl (id_seq (ed_ix (xv 1) (xv 2) (fun _ _ => rfl))) (gd_var (i := 3) (by decide) sc_first_stuck.nd rfl (Or.inl rfl)) (sd_one (sd_if (tCmpW (cEq hr.units) (xCall (g_all_let c) hr (by decide) (takes_of rfl rfl rfl rfl) (ad_cons (xv 0) (ad_cons (xv 3) ad_nil))) (ed_lst false ad_nil)) (sd_one (sd_ret (xv 3))) sd_nil)))
    (sd_one (sd_ret ed_non)))
def n_people_stuck : List Str := ["rule", "turns", "person"]
theorem sc_people_stuck : FnScope n_people_stuck ["rule"] (defScope (Hd.top 27)) := ⟨rfl, rfl, rfl, by decide +kernel, rfl, by decide +kernel, by decide +kernel⟩
theorem g_people_stuck {P : Program} {w : World} {K : PySem.W.Frag} {mg : Str → Option Value} {base : Heap} (c : Fx K mg) : Good P w K mg base 7 "people_stuck" ["rule"] m_people_stuck := by
  obtain ⟨f, hm, F⟩ := c.d_people_stuck
  refine Good.pure (good_mk (N := n_people_stuck) (ps := ["rule"]) (k := 6) hm F sc_people_stuck (by decide) (fun _ _ _ _ _ _ us hl => match us, hl with | [_], _ => rfl) fun f cdv A outer s0 H E hr => ?_)
  exact (sd_cons (sd_set (i := 1) sc_people_stuck.nd rfl (Or.inr rfl) (xCall (g_turns_of c) hr (by decide) (takes_of rfl rfl rfl rfl) (ad_cons (xv 0) ad_nil)))
    (sd_one (sd_ret (ed_lc (own := [("person", 2)]) false rfl sc_people_stuck.nd (id_seq (ed_listR1 false rfl rfl c.b_list rfl c.b_range (xBlt wLen c.b_len (ad_cons (ed_ix (xv 0) ed_int (fun _ _ => rfl)) ad_nil)))) (blkOk_by (N := n_people_stuck) (sc := defScope (Hd.top 27)) (own := [("person", 2)]) (by decide +kernel)) (fun _ _ _ _ _ => (gd_var (i := 2) (by decide) sc_people_stuck.nd rfl (Or.inl rfl))) (fun _ _ _ _ _ => (pts_oneD (tCmpW cIsNot (xCall (g_first_stuck c) hr (by decide) takes0 (ad_cons (xv 0) (ad_cons (xv 1) (ad_cons (xv 2) ad_nil)))) ed_non))) (fun _ _ _ _ _ => (xv 2))))))
def n_is_smooth : List Str := ["rule"]
theorem sc_is_smooth : FnScope n_is_smooth ["rule"] (defScope (Hd.top 30)) := ⟨rfl, rfl, rfl, by decide +kernel, rfl, by decide +kernel, by decide +kernel⟩
theorem g_is_smooth {P : Program} {w : World} {K : PySem.W.Frag} {mg : Str → Option Value} {base : Heap} (c : Fx K mg) : Good P w K mg base 8 "is_smooth" ["rule"] m_is_smooth := by
  obtain ⟨f, hm, F⟩ := c.d_is_smooth
  refine Good.pure (good_mk (N := n_is_smooth) (ps := ["rule"]) (k := 7) hm F sc_is_smooth (by decide) (fun _ _ _ _ _ _ us hl => match us, hl with | [_], _ => rfl) fun f cdv A outer s0 H E hr => ?_)
  exact (sd_one (sd_ret (xCmp (cEq hr.units) (xCall (g_people_stuck c) hr (by decide) (takes_of rfl rfl rfl rfl) (ad_cons (xv 0) ad_nil)) (ed_lst false ad_nil))))
def n_turned_over : List Str := ["rule", "bar", "names", "some", "person", "name", "one"]
theorem sc_turned_over : FnScope n_turned_over ["rule", "bar"] (defScope (Hd.top 29)) := ⟨rfl, rfl, rfl, by decide +kernel, rfl, by decide +kernel, by decide +kernel⟩
theorem g_turned_over {P : Program} {w : World} {K : PySem.W.Frag} {mg : Str → Option Value} {base : Heap} (c : Fx K mg) : Good P w K mg base 1 "turned_over" ["rule", "bar"] m_turned_over := by
  obtain ⟨f, hm, F⟩ := c.d_turned_over
  refine Good.pure (good_mk (N := n_turned_over) (ps := ["rule", "bar"]) (k := 0) hm F sc_turned_over (by decide) (fun _ _ _ _ _ _ us hl => match us, hl with | [_, _], _ => rfl) fun f cdv A outer s0 H E hr => ?_)
  exact (sd_cons (sd_asg (ix := [4, 5]) (xv 1) (gd_tup rfl (gds_cons (gd_var (i := 4) (by decide) sc_turned_over.nd rfl (Or.inl rfl)) (gds_cons (gd_var (i := 5) (by decide) sc_turned_over.nd rfl (Or.inr rfl)) gds_nil))))
    (sd_cons (sd_set (i := 2) sc_turned_over.nd rfl (Or.inl rfl) (ed_ix (ed_ix (xv 0) ed_int (fun _ _ => rfl)) (xv 4) (fun _ _ => rfl)))
    (sd_cons (sd_set (i := 3) sc_turned_over.nd rfl (Or.inl rfl) (ed_if (tCmpW (cIn hr.u65) (xv 5) (xv 2)) (ed_lc (own := [("one", 6)]) false rfl sc_turned_over.nd (id_seq (xv 2)) (blkOk_by (N := n_turned_over) (sc := defScope (Hd.top 29)) (own := [("one", 6)]) (by decide +kernel)) (fun _ _ _ _ _ => (gd_var (i := 6) (by decide) sc_turned_over.nd rfl (Or.inl rfl))) (fun _ _ _ _ _ => (pts_oneD (tCmpW (cNe hr.units) (xv 6) (xv 5)))) (fun _ _ _ _ _ => (xv 6))) (xAdd false (xBlt (wList false) c.b_list (ad_cons (xv 2) ad_nil)) (ed_lst false (ad_cons (xv 5) ad_nil)))))
    (sd_one (sd_ret (ed_tup (ad_cons (xAdd false (xAdd false (ed_sl (ed_ix (xv 0) ed_int (fun _ _ => rfl)) od_none (od_some (xv 4))) (ed_tup (ad_cons (xBlt wTuple c.b_tuple (ad_cons (xBlt (wSorted hr.units) c.b_sorted (ad_cons (ed_lc (own := [("one", 6)]) false rfl sc_turned_over.nd (id_seq (xv 3)) (blkOk_by (N := n_turned_over) (sc := defScope (Hd.top 29)) (own := [("one", 6)]) (by decide +kernel)) (fun _ _ _ _ _ => (gd_var (i := 6) (by decide) sc_turned_over.nd rfl (Or.inl rfl))) (fun _ _ _ _ _ => pts_nilD) (fun _ _ _ _ _ => (xBlt wInt c.b_int (ad_cons (xv 6) ad_nil)))) ad_nil)) ad_nil)) ad_nil))) (ed_sl (ed_ix (xv 0) ed_int (fun _ _ => rfl)) (od_some (xAdd false (xv 4) ed_int)) od_none)) (ad_cons (ed_ix (xv 0) ed_int (fun _ _ => rfl)) (ad_cons (ed_ix (xv 0) ed_int (fun _ _ => rfl)) ad_nil)))))))))
def n_least_bars : List Str := ["rule", "many", "turn", "lots", "every", "good", "later", "some", "other", "number", "bar"]
theorem sc_least_bars : FnScope n_least_bars ["rule"] (defScope (Hd.top 31)) := ⟨rfl, rfl, rfl, by decide +kernel, rfl, by decide +kernel, by decide +kernel⟩
theorem g_least_bars {P : Program} {w : World} {K : PySem.W.Frag} {mg : Str → Option Value} {base : Heap} (c : Fx K mg) : Good P w K mg base 9 "least_bars" ["rule"] m_least_bars := by
  obtain ⟨f, hm, F⟩ := c.d_least_bars
  refine Good.pure (good_mk (N := n_least_bars) (ps := ["rule"]) (k := 8) hm F sc_least_bars (by decide) (fun _ _ _ _ _ _ us hl => match us, hl with | [_], _ => rfl) fun f cdv A outer s0 H E hr => ?_)
  exact (sd_cons (sd_exp (xCall (g_need_rule c) hr (by decide) (takes_of rfl rfl rfl rfl) (ad_cons (xv 0) ad_nil)))
    (sd_cons (sd_set (i := 1) sc_least_bars.nd rfl (Or.inr rfl) (xBlt wLen c.b_len (ad_cons (ed_ix (xv 0) ed_int (fun _ _ => rfl)) ad_nil)))
    (sd_cons (sd_par (i := 3) (j := 4) rfl sc_least_bars.nd rfl rfl (by decide) rfl rfl (ad_cons (ed_lst false (ad_cons (ed_tup (ad_cons (ed_tup ad_nil) (ad_cons (xv 0) ad_nil))) ad_nil)) (ad_cons (ed_lc (own := [("number", 9)]) false rfl sc_least_bars.nd (id_seq (ed_listR1 false rfl rfl c.b_list rfl c.b_range (xMul (xv 1) (xv 1)))) (blkOk_by (N := n_least_bars) (sc := defScope (Hd.top 31)) (own := [("number", 9)]) (by decide +kernel)) (fun _ _ _ _ _ => (gd_var (i := 9) (by decide) sc_least_bars.nd rfl (Or.inl rfl))) (fun _ _ _ _ _ => pts_nilD) (fun _ _ _ _ _ => (ed_tup (ad_cons (xDiv (xv 9) (xv 1)) (ad_cons (xMod (xv 9) (xv 1)) ad_nil))))) ad_nil)) rfl)
    (sd_cons (sd_for (ix := [2]) (passes_of rfl) rfl (id_range1 rfl c.b_range ed_int) (gd_var (i := 2) (by decide) sc_least_bars.nd rfl (Or.inl rfl)) (sd_cons (sd_setLc (own := [("some", 7), ("other", 8)]) (i := 5) false rfl sc_least_bars.nd rfl rfl (sw_true rfl rfl rfl rfl) (id_seq (xv 3)) (blkOk_by (N := n_least_bars) (sc := defScope (Hd.top 31)) (own := [("some", 7), ("other", 8)]) (by decide +kernel)) (fun _ _ _ _ _ => (gd_tup rfl (gds_cons (gd_var (i := 7) (by decide) sc_least_bars.nd rfl (Or.inl rfl)) (gds_cons (gd_var (i := 8) (by decide) sc_least_bars.nd rfl (Or.inl rfl)) gds_nil)))) (fun _ _ _ _ _ => (pts_oneD (td_val (xCall (g_is_smooth c) hr (by decide) takes0 (ad_cons (xv 8) ad_nil))))) (fun _ _ _ _ _ => (xv 7)))
    (sd_cons (sd_if (tCmpW (cNe hr.units) (xv 5) (ed_lst false ad_nil)) (sd_one (sd_ret (xBlt (wSortedE hr.units) c.b_sorted (ad_cons (xv 5) ad_nil)))) sd_nil)
    (sd_cons (sd_set (i := 6) sc_least_bars.nd rfl (Or.inl rfl) (ed_lst false ad_nil))
    (sd_cons (sd_for (ix := [7, 8]) (passes_of rfl) rfl (id_seq (xv 3)) (gd_tup rfl (gds_cons (gd_var (i := 7) (by decide) sc_least_bars.nd rfl (Or.inr rfl)) (gds_cons (gd_var (i := 8) (by decide) sc_least_bars.nd rfl (Or.inr rfl)) gds_nil))) (sd_one (sd_set (i := 6) sc_least_bars.nd rfl (Or.inl rfl) (xAdd false (xv 6) (ed_lc (own := [("bar", 10)]) false rfl sc_least_bars.nd (id_seq (xv 4)) (blkOk_by (N := n_least_bars) (sc := defScope (Hd.top 31)) (own := [("bar", 10)]) (by decide +kernel)) (fun _ _ _ _ _ => (gd_var (i := 10) (by decide) sc_least_bars.nd rfl (Or.inl rfl))) (fun _ _ _ _ _ => (pts_oneD (td_bool (wd_or (tCmpW (cEq hr.units) (xv 7) (ed_tup ad_nil)) (wd_or1 (tCmpW (cLt hr.units) (ed_ix (xv 7) (xNeg ed_int) (fun _ _ => rfl)) (xv 10))))))) (fun _ _ _ _ _ => (ed_tup (ad_cons (xAdd false (xv 7) (ed_tup (ad_cons (xv 10) ad_nil))) (ad_cons (xCall (g_turned_over c) hr (by decide) takes0 (ad_cons (xv 8) (ad_cons (xv 10) ad_nil))) ad_nil)))))))))
    (sd_one (sd_set (i := 3) sc_least_bars.nd rfl (Or.inl rfl) (xv 6))))))))
    (sd_one (sd_ret (ed_lst false ad_nil)))))))
def n__law_turned : List Str := ["rule", "bar", "some", "person", "name", "one"]
theorem sc__law_turned : FnScope n__law_turned ["rule", "bar"] (defScope (Hd.top 39)) := ⟨rfl, rfl, rfl, by decide +kernel, rfl, by decide +kernel, by decide +kernel⟩
theorem g__law_turned {P : Program} {w : World} {K : PySem.W.Frag} {mg : Str → Option Value} {base : Heap} (c : Fx K mg) : Good P w K mg base 1 "_law_turned" ["rule", "bar"] m__law_turned := by
  obtain ⟨f, hm, F⟩ := c.d__law_turned
  refine Good.pure (good_mk (N := n__law_turned) (ps := ["rule", "bar"]) (k := 0) hm F sc__law_turned (by decide) (fun _ _ _ _ _ _ us hl => match us, hl with | [_, _], _ => rfl) fun f cdv A outer s0 H E hr => ?_)
  exact (sd_cons (sd_asg (ix := [3, 4]) (xv 1) (gd_tup rfl (gds_cons (gd_var (i := 3) (by decide) sc__law_turned.nd rfl (Or.inr rfl)) (gds_cons (gd_var (i := 4) (by decide) sc__law_turned.nd rfl (Or.inr rfl)) gds_nil))))
    (sd_cons (sd_setLc (own := [("one", 5)]) (i := 2) false rfl sc__law_turned.nd rfl rfl (sw_true rfl rfl rfl rfl) (id_range1 rfl c.b_range (xBlt wLen c.b_len (ad_cons (ed_ix (xv 0) ed_int (fun _ _ => rfl)) ad_nil))) (blkOk_by (N := n__law_turned) (sc := defScope (Hd.top 39)) (own := [("one", 5)]) (by decide +kernel)) (fun _ _ _ _ _ => (gd_var (i := 5) (by decide) sc__law_turned.nd rfl (Or.inl rfl))) (fun _ _ _ _ _ => (pts_oneD (tCmpW (cNe hr.units) (xCmp (cIn hr.u65) (xv 5) (ed_ix (ed_ix (xv 0) ed_int (fun _ _ => rfl)) (xv 3) (fun _ _ => rfl))) (xCmp (cEq hr.units) (xv 5) (xv 4))))) (fun _ _ _ _ _ => (xv 5)))
    (sd_one (sd_ret (ed_tup (ad_cons (xAdd false (xAdd false (ed_sl (ed_ix (xv 0) ed_int (fun _ _ => rfl)) od_none (od_some (xv 3))) (ed_tup (ad_cons (xBlt wTuple c.b_tuple (ad_cons (xv 2) ad_nil)) ad_nil))) (ed_sl (ed_ix (xv 0) ed_int (fun _ _ => rfl)) (od_some (xAdd false (xv 3) ed_int)) od_none)) (ad_cons (ed_ix (xv 0) ed_int (fun _ _ => rfl)) (ad_cons (ed_ix (xv 0) ed_int (fun _ _ => rfl)) ad_nil))))))))
def n_law : List Str := ["script", "k", "bag", "rule", "many", "every", "due", "bar", "at", "other", "more"]
theorem sc_law : FnScope n_law ["script"] (defScope (Hd.top 41)) := ⟨rfl, rfl, rfl, by decide +kernel, rfl, by decide +kernel, by decide +kernel⟩
theorem g_law {P : Program} {w : World} {K : PySem.W.Frag} {mg : Str → Option Value} (c : Fx K mg) {f : Addr} (F : ∃ fd, FunD K "law" "law" (defArgs (Hd.top 41)) (defBody (Hd.top 41)) (defScope (Hd.top 41)) [] [] f fd) :
    ∃ fd, (∀ (s : Shared) (u : Value), BindsTo s fd ⟨[u], []⟩ [("script", u)]) ∧ ∀ base : Heap, FnOk P w K mg base (L2.CX P w) 10 f fd ["script"] (spM K mg m_law) := by
  refine law_mk (N := n_law) (k := 9) F sc_law (by decide) (fun _ _ _ _ _ _ us hl => match us, hl with | [_], _ => rfl) fun base f cdv A outer s0 H E hr => ?_
  exact (sd_cons (sd_for (ix := [1]) (passes_of rfl) rfl (id_range1 rfl c.b_range (xBlt (wMax2 rfl) c.b_max (ad_cons ed_int (ad_cons (xBlt (wMin2 rfl) c.b_min (ad_cons ed_int (ad_cons (xAdd false (xBlt wLen c.b_len (ad_cons (xv 0) ad_nil)) ed_int) ad_nil))) ad_nil)))) (gd_var (i := 1) (by decide) sc_law.nd rfl (Or.inl rfl)) (sd_cons (sd_set (i := 2) sc_law.nd rfl (Or.inl rfl) (xCall (g__law_bag c) hr (by decide) (takes_of rfl rfl rfl rfl) (ad_cons (xv 0) (ad_cons (xv 1) ad_nil))))
    (sd_cons (sd_set (i := 3) sc_law.nd rfl (Or.inr rfl) (xCall (g__law_rule c) hr (by decide) (takes_of rfl rfl rfl rfl) (ad_cons (xv 2) (ad_cons (xCall (g__law_of c) hr (by decide) (takes_of rfl rfl rfl rfl) (ad_cons (xv 2) (ad_cons (ed_lst false (ad_cons ed_int (ad_cons ed_int ad_nil))) ad_nil))) ad_nil))))
    (sd_cons (sd_set (i := 4) sc_law.nd rfl (Or.inr rfl) (xBlt wLen c.b_len (ad_cons (ed_ix (xv 3) ed_int (fun _ _ => rfl)) ad_nil)))
    (sd_cons (sd_setLc (own := [("at", 8)]) (i := 5) false rfl sc_law.nd rfl rfl (sw_true rfl rfl rfl rfl) (id_range1 rfl c.b_range (xMul (xv 4) (xv 4))) (blkOk_by (N := n_law) (sc := defScope (Hd.top 41)) (own := [("at", 8)]) (by decide +kernel)) (fun _ _ _ _ _ => (gd_var (i := 8) (by decide) sc_law.nd rfl (Or.inl rfl))) (fun _ _ _ _ _ => pts_nilD) (fun _ _ _ _ _ => (ed_tup (ad_cons (xDiv (xv 8) (xv 4)) (ad_cons (xMod (xv 8) (xv 4)) ad_nil)))))
    (sd_cons (sd_set (i := 6) sc_law.nd rfl (Or.inl rfl) (ed_if (td_tru (xCall (g__law_smooth c) hr (by decide) (takes_of rfl rfl rfl rfl) (ad_cons (xv 3) ad_nil))) (ed_lst false (ad_cons (ed_tup ad_nil) ad_nil)) (ed_lst false ad_nil)))
    (sd_cons (sd_if (tCmpW (cEq hr.units) (xv 6) (ed_lst false ad_nil)) (sd_one (sd_setLc (own := [("bar", 7)]) (i := 6) false rfl sc_law.nd rfl rfl (sw_true rfl rfl rfl rfl) (id_seq (xv 5)) (blkOk_by (N := n_law) (sc := defScope (Hd.top 41)) (own := [("bar", 7)]) (by decide +kernel)) (fun _ _ _ _ _ => (gd_var (i := 7) (by decide) sc_law.nd rfl (Or.inl rfl))) (fun _ _ _ _ _ => (pts_oneD (td_tru (xCall (g__law_smooth c) hr (by decide) takes0 (ad_cons (xCall (g__law_turned c) hr (by decide) takes0 (ad_cons (xv 3) (ad_cons (xv 7) ad_nil))) ad_nil))))) (fun _ _ _ _ _ => (ed_tup (ad_cons (xv 7) ad_nil))))) sd_nil)
    (sd_cons (sd_if (tCmpW (cEq hr.units) (xv 6) (ed_lst false ad_nil)) (sd_one (sd_for (ix := [7]) (passes_of rfl) rfl (id_seq (xv 5)) (gd_var (i := 7) (by decide) sc_law.nd rfl (Or.inr rfl)) (sd_cons (sd_set (i := 9) sc_law.nd rfl (Or.inr rfl) (xCall (g__law_turned c) hr (by decide) (takes_of rfl rfl rfl rfl) (ad_cons (xv 3) (ad_cons (xv 7) ad_nil))))
    (sd_one (sd_set (i := 6) sc_law.nd rfl (Or.inl rfl) (xAdd false (xv 6) (ed_lc (own := [("more", 10)]) false rfl sc_law.nd (id_seq (xv 5)) (blkOk_by (N := n_law) (sc := defScope (Hd.top 41)) (own := [("more", 10)]) (by decide +kernel)) (fun _ _ _ _ _ => (gd_var (i := 10) (by decide) sc_law.nd rfl (Or.inl rfl))) (fun _ _ _ _ _ => (pts_oneD (td_bool (wd_and (tCmpW (cLt hr.units) (xv 7) (xv 10)) (wd_and1 (td_tru (xCall (g__law_smooth c) hr (by decide) takes0 (ad_cons (xCall (g__law_turned c) hr (by decide) takes0 (ad_cons (xv 9) (ad_cons (xv 10) ad_nil))) ad_nil)))))))) (fun _ _ _ _ _ => (ed_tup (ad_cons (xv 7) (ad_cons (xv 10) ad_nil))))))))))) sd_nil)
    (sd_one (sd_if (tCmpW (cNe hr.units) (xCall (g_least_bars c) hr (by decide) (takes_of rfl rfl rfl rfl) (ad_cons (xv 3) ad_nil)) (xv 6)) (sd_one (sd_ret ed_bl)) sd_nil))))))))))
    (sd_one (sd_ret ed_bl)))
end Lw
namespace Lw
open PySem PySem.Spec PyProof.Rows L2 DL
/-! ### names, rules -/
def namesD (l : List Int) : D := .tup (l.map .int)
def barsD (b : List (List Int)) : D := .tup (b.map namesD)
structure Rl where
  b : List (List Int)
  m : Bool
  w : Str
def ruleD (r : Rl) : D := .tup [barsD r.b, .bl r.m, .str r.w]
structure Rl.Ok (r : Rl) : Prop where
  lo : 2 ≤ r.b.length
  hi : r.b.length ≤ 6
  asc : ∀ l ∈ r.b, l.Pairwise (· < ·)
  ran : ∀ l ∈ r.b, ∀ i ∈ l, 0 ≤ i ∧ i < r.b.length
  way : r.w = "again" ∨ r.w = "anew" ∨ r.w = "swap"
@[simp] theorem np_ints (l : List Int) : noPtrL (l.map .int) = true := by induction l with
  | nil => rfl
  | cons a l ih => simp only [List.map_cons, noPtrL, noPtr, ih, Bool.and_self]
theorem np_L {l : List D} (h : ∀ d ∈ l, noPtr d = true) : noPtrL l = true := by induction l with
  | nil => rfl
  | cons a l ih => rw [noPtrL, h a List.mem_cons_self, ih fun d hd => h d (List.mem_cons_of_mem _ hd)]; rfl
@[simp] theorem np_names (l : List Int) : noPtr (namesD l) = true := np_ints l
theorem np_mapN (b : List (List Int)) : noPtrL (b.map namesD) = true := np_L fun d hd => by
  obtain ⟨l, _, rfl⟩ := List.mem_map.mp hd
  exact np_names l
@[simp] theorem np_bars (b : List (List Int)) : noPtr (barsD b) = true := np_mapN b
@[simp] theorem np_rule (r : Rl) : noPtr (ruleD r) = true := by simp only [ruleD, noPtr, noPtrL, np_bars, Bool.and_self]
@[simp] theorem np_lstI (l : List Int) : noPtr (.lst (l.map .int)) = true := np_ints l
@[simp] theorem np_int (i : Int) : noPtr (.int i) = true := rfl
@[simp] theorem np_bl (i : Bool) : noPtr (.bl i) = true := rfl
@[simp] theorem np_str (i : Str) : noPtr (.str i) = true := rfl
@[simp] theorem np_non : noPtr .non = true := rfl
@[simp] theorem npL_nil : noPtrL [] = true := rfl
@[simp] theorem npL_cons (d : D) (l : List D) : noPtrL (d :: l) = (noPtr d && noPtrL l) := rfl
@[simp] theorem np_tup (l : List D) : noPtr (.tup l) = noPtrL l := rfl
@[simp] theorem np_lst (l : List D) : noPtr (.lst l) = noPtrL l := rfl
theorem frz_np {μ : Store} {d : D} (h : noPtr d = true) : frzD μ d = some d := by
  cases d <;> first | (simp only [frzD]; rw [if_pos h]) | (simp [noPtr] at h)
/-- a def that shows nothing of its store: reckoned from its body -/
theorem pure_ret {n m : Nat} {body : SM} {ds : List D} {d : D} {μ μ' : Store} (hn : noPtrL ds = true) (hl : ds.length = n) (e : body (ds.map some ++ List.replicate (m - n) none) [] = .ok (.ret d) μ') (hd : noPtr d = true) : pureM (defM n m body) ds μ = .ok d μ :=
  pureM_at hn (defM_ret hl e) (frz_np hd)
theorem pure_nx {n m : Nat} {body : SM} {ds : List D} {ρ : DL.Env} {μ μ' : Store} (hn : noPtrL ds = true) (hl : ds.length = n) (e : body (ds.map some ++ List.replicate (m - n) none) [] = .ok (.nx ρ) μ') : pureM (defM n m body) ds μ = .ok .non μ :=
  pureM_at hn (defM_nx hl e) (frz_np rfl)
section
variable {μ : Store} {i j k : Int} {l ns : List Int} {r : Rl}
@[simp] theorem is_number_int : m_is_number [.int i] μ = .ok (.bl true) μ := pure_ret (μ' := []) (by simp) rfl (by simp) rfl
@[simp] theorem is_from_int : m_is_from [.int i, .int j, .int k] μ = .ok (.bl (decide (j ≤ i) && decide (i ≤ k))) μ := by
  refine pure_ret (μ' := []) (by simp) rfl ?_ rfl
  by_cases h : j ≤ i
  · simp [h]
  · simp [h]
def ltP : D → Bool
  | .tup [.int a, .int b] => decide (a < b)
  | _ => false
theorem zip_int : ∀ (l m : List Int), zipD (l.map .int) (m.map .int) = (l.zip m).map fun p => .tup [.int p.1, .int p.2]
  | [], _ => rfl
  | _ :: _, [] => rfl
  | a :: l, b :: m => by
    have := zip_int l m
    unfold zipD at this ⊢
    simp only [List.map_cons, List.zipWith_cons_cons, List.zip_cons_cons, this]
theorem zip_intT (l : List Int) : zipD (l.map .int) (l.map .int).tail = (l.zip l.tail).map fun p => .tup [.int p.1, .int p.2] := by rw [← List.map_tail, zip_int]
theorem asc_zip : ∀ (l : List Int), l.Pairwise (· < ·) → ∀ p ∈ l.zip l.tail, p.1 < p.2
  | [], _, p, h => by simp at h
  | [a], _, p, h => by simp at h
  | a :: b :: l, hp, p, h => by
    simp only [List.tail_cons, List.zip_cons_cons, List.mem_cons] at h
    rcases h with h | h
    · subst h; exact (List.pairwise_cons.mp hp).1 b List.mem_cons_self
    · exact asc_zip (b :: l) (List.pairwise_cons.mp hp).2 p (by simpa using h)
theorem is_ascending_names (h : l.Pairwise (· < ·)) (hl : l.length < 1000) : m_is_ascending [namesD l] μ = .ok (.bl true) μ := by
  refine pure_ret (μ' := []) (by simp) rfl ?_ rfl
  rw [sRet_at, eCall_at, aCons_at, lc_bl (μ1 := []) (ds := (l.zip l.tail).map fun p => .tup [.int p.1, .int p.2]) (c := always) ltP (by simp [namesD, cut_from, zip_intT]) rfl ?_ (by simp; omega)]
  · simp
    intro a b hab
    exact decide_eq_true (asc_zip l h (a, b) (by simpa using hab))
  · intro d hd
    obtain ⟨p, _, rfl⟩ := List.mem_map.mp hd
    exact ⟨_, by simp [wipeE]; rfl, by simp [ltP]⟩
def ix (l : List Int) (i : Int) : Int := l.getD i.toNat 0
def ixL (b : List (List Int)) (i : Int) : List Int := b.getD i.toNat []
theorem gIxL_map {α : Type} {f : α → D} {l : List α} {x : α} (h : 0 ≤ i) (h2 : i < l.length) : gIxL (l.map f) i μ = .ok (f (l.getD i.toNat x)) μ := by
  refine gIxL_nn h ?_
  have e : i.toNat < l.length := by omega
  rw [List.getElem?_map, List.getElem?_eq_getElem e, Option.map_some, List.getD_eq_getElem?_getD, List.getElem?_eq_getElem e]; rfl
theorem gIx_names (h : 0 ≤ i) (h2 : i < ns.length) : gIx (namesD ns) (.int i) μ = .ok (.int (ix ns i)) μ := by
  rw [namesD, gIx_tup, gIxL_map (x := 0) h h2]; rfl
theorem gIx_bars {b : List (List Int)} (h : 0 ≤ i) (h2 : i < b.length) : gIx (barsD b) (.int i) μ = .ok (namesD (ixL b i)) μ := by
  rw [barsD, gIx_tup, gIxL_map (x := []) h h2]; rfl
@[simp] theorem gIx_rule0 : gIx (ruleD r) (.int 0) μ = .ok (barsD r.b) μ := by simp [ruleD]
@[simp] theorem gIx_rule1 : gIx (ruleD r) (.int 1) μ = .ok (.bl r.m) μ := by simp [ruleD]
@[simp] theorem gIx_rule2 : gIx (ruleD r) (.int 2) μ = .ok (.str r.w) μ := by simp [ruleD]
@[simp] theorem gLen_bars {b : List (List Int)} : gLen [barsD b] μ = .ok (.int b.length) μ := by simp [barsD]
@[simp] theorem gLen_names : gLen [namesD ns] μ = .ok (.int ns.length) μ := by simp [namesD]
@[simp] theorem gLen_rule : gLen [ruleD r] μ = .ok (.int 3) μ := by simp [ruleD]
@[simp] theorem gIn_names (neg : Bool) : gIn neg (.int i) (namesD ns) μ = .ok (.bl (if neg then !decide (i ∈ ns) else decide (i ∈ ns))) μ := gIn_tupI neg
@[simp] theorem isi_names : gIsi [namesD ns, .raw (.ty "tuple")] μ = .ok (.bl true) μ := isi_tup_tuple
@[simp] theorem isi_bars {b : List (List Int)} : gIsi [barsD b, .raw (.ty "tuple")] μ = .ok (.bl true) μ := isi_tup_tuple
@[simp] theorem isi_rule : gIsi [ruleD r, .raw (.ty "tuple")] μ = .ok (.bl true) μ := isi_tup_tuple
@[simp] theorem gSeq_names : gSeq (namesD ns) μ = .ok (ns.map .int, always) μ := rfl
@[simp] theorem gSeq_bars {b : List (List Int)} : gSeq (barsD b) μ = .ok (b.map namesD, always) μ := rfl
/-! ### what is a rule -/
def inR (n : Int) : D → Bool
  | .int i => decide (0 ≤ i) && decide (i ≤ n - 1)
  | _ => false
theorem range_all {n : Int} (h : ∀ i ∈ ns, 0 ≤ i ∧ i < n) : ns.all (inR n ∘ D.int) = true := by
  simp only [List.all_eq_true]
  intro i hi
  have := h i hi
  simp only [Function.comp_apply, inR, Bool.and_eq_true, decide_eq_true_eq]
  omega
theorem nat_len : ∀ (n : Nat) (l : List Nat), l.Nodup → (∀ x ∈ l, x < n) → l.length ≤ n
  | 0, [], _, _ => by simp
  | 0, x :: l, _, h => absurd (h x List.mem_cons_self) (by omega)
  | n + 1, l, hn, h => by
    have k := nat_len n (l.erase n) (hn.sublist List.erase_sublist) fun x hx => by
      have h1 := (List.Nodup.mem_erase_iff hn).mp hx
      have := h x h1.2
      have := h1.1
      omega
    rw [List.length_erase] at k
    split at k <;> omega
theorem int_len {l : List Int} {n : Nat} (hn : l.Nodup) (h : ∀ i ∈ l, 0 ≤ i ∧ i < n) : l.length ≤ n := by
  have := nat_len n (l.map Int.toNat) (List.pairwise_map.mpr (hn.imp_of_mem fun {a b} ha hb q e => q (by have := h a ha; have := h b hb; omega))) fun x hx => by
    obtain ⟨i, hi, rfl⟩ := List.mem_map.mp hx
    have := h i hi
    omega
  simpa using this
theorem asc_nodup {l : List Int} (h : l.Pairwise (· < ·)) : l.Nodup := h.imp fun q => Int.ne_of_lt q
theorem all_true {α : Type} (l : List α) : (l.all fun _ => true) = true := by simp
theorem are_names_ok {n : Int} (h : ns.Pairwise (· < ·)) (hr : ∀ i ∈ ns, 0 ≤ i ∧ i < n) (hl : ns.length < 1000) : m_are_names [namesD ns, .int n] μ = .ok (.bl true) μ := by
  refine pure_ret (μ' := []) (by simp) rfl ?_ rfl
  rw [sSeq_at, sIf_at, tOrM_at]
  have e := lc_bl (it := iSeq (eVar 0)) (g := gVar 2) (f := eCall m_is_from (aCons (eVar 2) (aCons (eC (.int 0)) (aCons (eBin gSub (eVar 1) (eC (.int 1))) aNil)))) (vs := [2]) (ρ := [some (namesD ns), some (.int n), none]) (μ := []) (μ1 := []) (ds := ns.map .int) (c := always) (inR n) (by simp) rfl
    (fun d hd => by obtain ⟨i, _, rfl⟩ := List.mem_map.mp hd; exact ⟨_, by simp [wipeE]; rfl, by simp [inR]⟩) (by simp; omega)
  simp [e, range_all hr, is_ascending_names h hl]
theorem way_str : ∀ s : Str, s = "again" ∨ s = "anew" ∨ s = "swap" → gIn false (.str s) (.tup [.str "again", .str "anew", .str "swap"]) μ = .ok (.bl true) μ := by
  intro s h
  rw [gIn_seq (n := 0) (ys := [.str "again", .str "anew", .str "swap"]) false ?_ ?_ (.inl rfl)]
  · simp [h]
  · rcases h with h | h | h <;> subst h <;> decide +kernel
  · intro z hz
    simp only [List.mem_cons, List.not_mem_nil, or_false] at hz
    rcases hz with h | h | h <;> subst h <;> decide +kernel
theorem is_rule_ok (h : r.Ok) : m_is_rule [ruleD r] μ = .ok (.bl true) μ := by
  refine pure_ret (μ' := []) (by simp) rfl ?_ rfl
  have hlo := h.lo
  have hhi := h.hi
  have e := lc_bl (it := iSeq (eBin gIx (eVar 0) (eC (.int 0)))) (g := gVar 1) (f := eCall m_are_names (aCons (eVar 1) (aCons (eCall gLen (aCons (eBin gIx (eVar 0) (eC (.int 0))) aNil)) aNil))) (vs := [1]) (ρ := [some (ruleD r), none]) (μ := []) (μ1 := []) (ds := r.b.map namesD) (c := always) (fun _ => true) (by simp) rfl
    (fun d hd => by
      obtain ⟨l, hl, rfl⟩ := List.mem_map.mp hd
      have hlen : l.length < 1000 := by
        have := int_len (asc_nodup (h.asc l hl)) (h.ran l hl)
        omega
      exact ⟨_, by simp [wipeE]; rfl, by simp [are_names_ok (h.asc l hl) (h.ran l hl) hlen]⟩) (by simp; omega)
  have h1 : (2 : Int) ≤ r.b.length := by omega
  have h2 : (r.b.length : Int) ≤ 6 := by omega
  simp [e, h1, h2, way_str _ h.way, all_true]
end
end Lw
namespace Lw
open PySem PySem.Spec PyProof.Rows L2 DL
section
variable {μ : Store} {i j k : Int} {l ns : List Int} {r : Rl}
theorem need_rule_ok (h : r.Ok) : m_need_rule [ruleD r] μ = .ok .non μ := by
  refine pure_nx (μ' := []) (ρ := [some (ruleD r)]) (by simp) rfl ?_
  simp [is_rule_ok h]
theorem dd_self : ∀ {l : List Int}, l.Nodup → dd l = l
  | [], _ => rfl
  | x :: l, h => by
    unfold dd
    rw [if_neg (List.nodup_cons.mp h).1, dd_self (List.nodup_cons.mp h).2]
theorem lenSet_names {ρ : DL.Env} {f : DL.Env → M D} (h : f ρ μ = .ok (namesD ns) μ) (hl : ns.length ≤ 4000) : eLenSet f ρ μ = .ok (.int ((dd ns).length : Nat)) μ := by
  unfold eLenSet
  simp only [Mbind_at, h, and_ok]
  unfold kLenSet
  simp only [namesD, asTup, Option.bind_some, intsOf_map, if_pos hl]; rfl
theorem are_different_ok {n : Int} (h : ns.Nodup) (hr : ∀ i ∈ ns, 0 ≤ i ∧ i < n) (hl : ns.length < 1000) : m_are_different [namesD ns, .int n] μ = .ok (.bl true) μ := by
  refine pure_ret (μ' := []) (by simp) rfl ?_ rfl
  have e := lc_bl (it := iSeq (eVar 0)) (g := gVar 2) (f := eCall m_is_from (aCons (eVar 2) (aCons (eC (.int 0)) (aCons (eBin gSub (eVar 1) (eC (.int 1))) aNil)))) (vs := [2]) (ρ := [some (namesD ns), some (.int n), none]) (μ := []) (μ1 := []) (ds := ns.map .int) (c := always) (inR n) (by simp) rfl
    (fun d hd => by obtain ⟨i, _, rfl⟩ := List.mem_map.mp hd; exact ⟨_, by simp [wipeE]; rfl, by simp [inR]⟩) (by simp; omega)
  have e2 := lenSet_names (ns := ns) (f := eVar 0) (ρ := [some (namesD ns), some (.int n), none]) (μ := []) (by simp) (by omega)
  simp [e, range_all hr, e2, dd_self h]
/-- names of those before -/
structure Ns (r : Rl) (ns : List Int) : Prop where
  nd : ns.Nodup
  ran : ∀ i ∈ ns, 0 ≤ i ∧ i < r.b.length
theorem Ns.len (h : Ns r ns) : ns.length ≤ r.b.length := int_len h.nd h.ran
theorem need_names_ok (h : r.Ok) (hn : Ns r ns) (hl : ns.length < r.b.length) : m_need_names [ruleD r, namesD ns] μ = .ok .non μ := by
  have := h.hi
  refine pure_nx (μ' := []) (ρ := [some (ruleD r), some (namesD ns)]) (by simp) rfl ?_
  have e : ¬ ((ns.length : Int) = r.b.length) := by omega
  simp [need_rule_ok h, are_different_ok hn.nd hn.ran (by omega), e]
def rng (n : Nat) : List Int := (List.range n).map fun (i : Nat) => (i : Int)
theorem rngD_0 (n : Nat) : rngD 0 n = (rng n).map .int := by
  unfold rngD rng
  rw [List.map_map]
  congr 1
  funext i
  simp
@[simp] theorem rng_len (n : Nat) : (rng n).length = n := by simp [rng]
theorem mem_rng {n : Nat} : i ∈ rng n ↔ 0 ≤ i ∧ i < n := by
  unfold rng
  simp only [List.mem_map, List.mem_range]
  exact ⟨fun ⟨a, h, e⟩ => by omega, fun h => ⟨i.toNat, by omega, by omega⟩⟩
def left (r : Rl) (ns : List Int) : List Int := (rng r.b.length).filter fun n => !decide (n ∈ ns)
def nIn (ns : List Int) : D → Bool
  | .int i => !decide (i ∈ ns)
  | _ => false
theorem filter_ints (p : D → Bool) (l : List Int) : (l.map D.int).filter p = (l.filter fun i => p (.int i)).map .int := by
  rw [List.filter_map]; rfl
/-- a comprehension that keeps some ints -/
theorem lc_keep {mu : Bool} {it : IM} {g : GM} {t : DL.Env → M Bool} {f : DL.Env → M D} {vs : List Nat} {ρ : DL.Env} {μ μ1 : Store} {c : Store → Bool} {l : List Int} (p : Int → Bool) (hi : it ρ μ = .ok (l.map .int, c) μ1) (hc : c μ1 = true)
    (h : ∀ i ∈ l, ∃ ρ1, g (.int i) (wipeE ρ vs) μ1 = .ok ρ1 μ1 ∧ t ρ1 μ1 = .ok (p i) μ1 ∧ f ρ1 μ1 = .ok (.int i) μ1) (hl : l.length < 16777216) : eLc mu it g t f vs ρ μ = retL mu ((l.filter p).map .int) μ1 := by
  rw [lc_at (fun d => match d with
    | .int i => p i
    | _ => false) id hi hc (fun d hd => by obtain ⟨i, h1, rfl⟩ := List.mem_map.mp hd; obtain ⟨ρ1, q1, q2, q3⟩ := h i h1; exact ⟨ρ1, q1, q2, fun _ => q3⟩) (by simpa using hl), List.map_id, filter_ints]
theorem names_left_ok (h : r.b.length ≤ 1000) : m_names_left [ruleD r, namesD ns] μ = .ok (.lst ((left r ns).map .int)) μ := by
  refine pure_ret (μ' := []) (by simp) rfl ?_ (by simp)
  rw [sRet_at, lc_keep (μ1 := []) (l := rng r.b.length) (c := always) (fun n => !decide (n ∈ ns))]
  · rfl
  · simp [kLR_nat false h, rngD_0]
  · rfl
  · intro i hi
    exact ⟨_, by simp [wipeE]; rfl, by simp, by simp⟩
  · rw [rng_len]; omega
/-! ### what is let -/
def isLet (r : Rl) (ns : List Int) (p n : Int) : Bool := !decide (n ∈ ixL r.b p) && (!r.m || (!decide (n = p) && (decide ((ns.length : Int) ≤ n) || !decide (ix ns n = p))))
theorem is_let_ok (hp : 0 ≤ i ∧ i < r.b.length) (hn : 0 ≤ j) : m_is_let [ruleD r, namesD ns, .int i, .int j] μ = .ok (.bl (isLet r ns i j)) μ := by
  refine pure_ret (μ' := []) (by simp) rfl ?_ rfl
  unfold isLet
  by_cases h1 : j ∈ ixL r.b i
  · simp [gIx_bars hp.1 hp.2, h1]
  · by_cases h2 : r.m = true
    · by_cases h3 : j = i
      · subst h3
        simp [gIx_bars hp.1 hp.2, h1, h2]
      · by_cases h4 : (ns.length : Int) ≤ j
        · simp [gIx_bars hp.1 hp.2, h1, h2, h3, h4]
        · simp [gIx_bars hp.1 hp.2, h1, h2, h3, h4, gIx_names hn (show j < ns.length by omega)]
    · simp [gIx_bars hp.1 hp.2, h1, h2]
def letOf (r : Rl) (ns : List Int) : List Int := (left r ns).filter fun n => isLet r ns ns.length n
theorem left_mem : i ∈ left r ns ↔ (0 ≤ i ∧ i < r.b.length) ∧ i ∉ ns := by simp [left, mem_rng]
theorem all_let_ok (h : r.b.length ≤ 1000) (hl : ns.length < r.b.length) : m_all_let [ruleD r, namesD ns] μ = .ok (.lst ((letOf r ns).map .int)) μ := by
  refine pure_ret (μ' := []) (by simp) rfl ?_ (by simp)
  rw [sRet_at, lc_keep (μ1 := []) (l := left r ns) (c := always) (fun n => isLet r ns ns.length n)]
  · rfl
  · simp [names_left_ok h]
  · rfl
  · intro i hi
    refine ⟨_, by simp [wipeE]; rfl, ?_, by simp⟩
    simp [is_let_ok (show 0 ≤ (ns.length : Int) ∧ (ns.length : Int) < r.b.length by omega) (left_mem.mp hi).1.1]
  · have : (left r ns).length ≤ (rng r.b.length).length := List.length_filter_le _ _
    rw [rng_len] at this
    omega
theorem let_names_ok (h : r.Ok) (hn : Ns r ns) (hl : ns.length < r.b.length) : m_let_names [ruleD r, namesD ns] μ = .ok (.lst ((letOf r ns).map .int)) μ := by
  have := h.hi
  refine pure_ret (μ' := []) (by simp) rfl ?_ (by simp)
  simp [need_names_ok h hn hl, all_let_ok (show r.b.length ≤ 1000 by omega) hl]
end
end Lw
namespace Lw
open PySem PySem.Spec PyProof.Rows L2 DL
section
variable {μ : Store} {i j k : Int} {l ns xs : List Int} {r : Rl}
theorem cut_fromI (h : 0 ≤ k) : cutD (l.map .int) (some k) none = (l.drop k.toNat).map .int := by rw [cut_from h, List.map_drop]
theorem cut_toI (h : 0 ≤ k) : cutD (l.map .int) none (some k) = (l.take k.toNat).map .int := by rw [cut_to h, List.map_take]
theorem gSl_from (h : 0 ≤ k) : gSl (namesD l) (some k) none μ = .ok (namesD (l.drop k.toNat)) μ := by rw [namesD, gSl_tup, cut_fromI h]; rfl
theorem gSl_to (h : 0 ≤ k) : gSl (namesD l) none (some k) μ = .ok (namesD (l.take k.toNat)) μ := by rw [namesD, gSl_tup, cut_toI h]; rfl
theorem gAdd_names (mu : Bool) (h : l.length + ns.length ≤ 10000) : gAdd mu (namesD l) (namesD ns) μ = .ok (namesD (l ++ ns)) μ := by
  rw [namesD, namesD, gAdd_tup mu (by simp only [List.length_map]; omega), ← List.map_append]; rfl
theorem tup_names1 : D.tup [.int i] = namesD [i] := rfl
def withName (ns : List Int) (e n : Int) : List Int := ns.take e.toNat ++ ([n] ++ ns.drop (e.toNat + 1))
def exch (ns : List Int) (e n : Int) : List Int := withName ns e n ++ [ix ns e]
theorem with_name_ok (h : 0 ≤ i) (hl : ns.length ≤ 1000) : m_with_name [namesD ns, .int i, .int j] μ = .ok (namesD (withName ns i j)) μ := by
  refine pure_ret (μ' := []) (by simp) rfl ?_ (by simp)
  have e : (i + 1).toNat = i.toNat + 1 := by omega
  simp only [withName]
  have h1 : (ns.take i.toNat).length ≤ 1000 := by rw [List.length_take]; omega
  have h2 : (ns.drop (i.toNat + 1)).length ≤ 1000 := by rw [List.length_drop]; omega
  simp [gSl_to h, gSl_from (show 0 ≤ i + 1 by omega), tup_names1, e]
  rw [gAdd_names false (by simp; omega)]
  simp [gSl_from (show 0 ≤ i + 1 by omega), e]
  rw [gAdd_names false (by simp; omega)]
  simp
theorem withName_len (h : 0 ≤ i) (h2 : i < ns.length) : (withName ns i j).length = ns.length := by
  simp only [withName, List.length_append, List.length_take, List.length_drop, List.length_cons, List.length_nil]; omega
theorem exchanged_ok (h : 0 ≤ i) (h2 : i < ns.length) (hl : ns.length ≤ 1000) : m_exchanged [namesD ns, .int i, .int j] μ = .ok (namesD (exch ns i j)) μ := by
  refine pure_ret (μ' := []) (by simp) rfl ?_ (by simp)
  simp [with_name_ok h hl, gIx_names h h2, tup_names1]
  rw [gAdd_names false (by rw [withName_len h h2]; simp; omega)]
  rfl
theorem withName_set (h : 0 ≤ i) (h2 : i < ns.length) : withName ns i j = ns.set i.toNat j := by
  rw [List.set_eq_take_append_cons_drop, if_pos (by omega)]; rfl
/-! ### sound -/
def clash (xs : List Int) (q : Int) : Bool := decide (ix xs q = q) || (decide (ix xs q < xs.length) && decide (ix xs (ix xs q) = q))
def soundB (r : Rl) (xs : List Int) : Bool := !r.m || !(rng xs.length).any (clash xs)
theorem enum_ints : enumD (xs.map .int) = (rng xs.length).map fun i => .tup [.int i, .int (ix xs i)] := by
  refine List.ext_getElem (by simp [enumD]) fun n h1 h2 => ?_
  have h3 : n < xs.length := by simpa [enumD] using h1
  simp only [enumD, List.getElem_zipWith, List.getElem_range, List.getElem_map, rng, ix, Int.toNat_natCast, List.getD_eq_getElem?_getD, List.getElem?_eq_getElem h3, Option.getD_some]
theorem ix_mem (h : 0 ≤ i) (h2 : i < xs.length) : ix xs i ∈ xs := by
  have h3 : i.toNat < xs.length := by omega
  simp only [ix, List.getD_eq_getElem?_getD, List.getElem?_eq_getElem h3, Option.getD_some]
  exact List.getElem_mem h3
theorem is_sound_ok (hx : ∀ x ∈ xs, 0 ≤ x) (hl : xs.length ≤ 1000) : m_is_sound [ruleD r, namesD xs] μ = .ok (.bl (soundB r xs)) μ := by
  refine pure_ret (μ' := []) (by simp) rfl ?_ rfl
  unfold soundB
  by_cases hm : r.m = true
  · simp only [hm, Bool.not_true, Bool.false_or]
    have main := for_any (f := fun i => D.tup [.int i, .int (ix xs i)]) (g := gTupl 2 (gsCons (gVar 2) (gsCons (gVar 3) gsNil)))
      (body := sIf (tOrM (tOf (eBin (gEq false) (eVar 3) (eVar 2))) (tAndM (tOf (eBin gLt (eVar 3) (eCall gLen (aCons (eVar 1) aNil)))) (tOf (eBin (gEq false) (eBin gIx (eVar 1) (eVar 3)) (eVar 2))))) (sRet (eC (.bl false))) sNil) (c := always)
      (fun ρ μ => μ = [] ∧ ∃ x y, ρ = [some (ruleD r), some (namesD xs), x, y]) (clash xs) (.bl false) (rng xs.length) (ρ := [some (ruleD r), some (namesD xs), none, none]) (μ := []) (fun _ _ _ => rfl) ?_ ⟨rfl, none, none, rfl⟩
    · rcases main with ⟨h1, ρ', μ', e, rfl, _⟩ | ⟨h1, ρ', μ', e, rfl, x, y, rfl⟩
      · simp [hm, enum_ints, e, h1]
      · simp [hm, enum_ints, e, h1]
    · rintro a ρ μ ha ⟨rfl, x, y, rfl⟩
      obtain ⟨ha1, ha2⟩ := mem_rng.mp ha
      have hv := hx _ (ix_mem ha1 ha2)
      by_cases h1 : ix xs a = a
      · exact .inl ⟨by simp [clash, h1], by simp [h1]⟩
      · by_cases h2 : ix xs a < xs.length
        · by_cases h3 : ix xs (ix xs a) = a
          · exact .inl ⟨by simp [clash, h2, h3], by simp [h1, h2, gIx_names hv h2, h3]⟩
          · exact .inr ⟨by simp [clash, h1, h3], _, _, by simp [h1, h2, gIx_names hv h2, h3]; exact ⟨rfl, rfl⟩, rfl, _, _, rfl⟩
        · exact .inr ⟨by simp [clash, h1, h2], _, _, by simp [h1, h2]; exact ⟨rfl, rfl⟩, rfl, _, _, rfl⟩
  · have hm : r.m = false := by simpa using hm
    simp [hm]
theorem exch_mem (h : 0 ≤ i) (h2 : i < ns.length) (hn : ∀ x ∈ ns, 0 ≤ x) (hj : 0 ≤ j) : ∀ x ∈ exch ns i j, 0 ≤ x := by
  intro x hx
  simp only [exch, withName_set h h2, List.mem_append, List.mem_singleton] at hx
  rcases hx with hx | hx
  · rcases List.mem_or_eq_of_mem_set hx with q | q
    · exact hn x q
    · omega
  · rw [hx]; exact hn _ (ix_mem h h2)
def canEx (r : Rl) (ns : List Int) (e n : Int) : Bool := !(decide (ix ns e ∈ ixL r.b ns.length) || decide (n ∈ ixL r.b e)) && soundB r (exch ns e n)
theorem exch_len (h : 0 ≤ i) (h2 : i < ns.length) : (exch ns i j).length = ns.length + 1 := by simp [exch, withName_len h h2]
theorem can_exchange_ok (h : r.b.length ≤ 1000) (hl : ns.length < r.b.length) (hn : ∀ x ∈ ns, 0 ≤ x) (hi : 0 ≤ i) (hi2 : i < ns.length) (hj : 0 ≤ j) : m_can_exchange [ruleD r, namesD ns, .int i, .int j] μ = .ok (.bl (canEx r ns i j)) μ := by
  refine pure_ret (μ' := []) (by simp) rfl ?_ rfl
  have e1 := gIx_bars (μ := []) (b := r.b) (i := ns.length) (by omega) (by omega)
  have e2 := gIx_bars (μ := []) (b := r.b) (i := i) (by omega) (by omega)
  have e3 := gIx_names (μ := []) (ns := ns) hi hi2
  unfold canEx
  by_cases h1 : ix ns i ∈ ixL r.b ns.length
  · simp [e1, e2, e3, h1]
  · by_cases h2 : j ∈ ixL r.b i
    · simp [e1, e2, e3, h1, h2]
    · simp [e1, e2, e3, h1, h2, exchanged_ok hi hi2 (show ns.length ≤ 1000 by omega), is_sound_ok (exch_mem hi hi2 hn hj) (show (exch ns i j).length ≤ 1000 by rw [exch_len hi hi2]; omega)]
def pairD (p : Int × Int) : D := .tup [.int p.1, .int p.2]
def prs (r : Rl) (ns : List Int) (es : List Int) : List (Int × Int) := es.flatMap fun e => ((left r ns).filter (canEx r ns e)).map fun n => (e, n)
def pairsOf (r : Rl) (ns : List Int) : List (Int × Int) := prs r ns (rng ns.length)
theorem prs_snoc (p : List Int) (a : Int) : prs r ns (p ++ [a]) = prs r ns p ++ ((left r ns).filter (canEx r ns a)).map fun n => (a, n) := by simp [prs]
theorem left_len : (left r ns).length ≤ r.b.length := by
  have : (left r ns).length ≤ (rng r.b.length).length := List.length_filter_le _ _
  rwa [rng_len] at this
theorem flat_len {α β : Type} (f : α → List β) (m : Nat) : ∀ (l : List α), (∀ a ∈ l, (f a).length ≤ m) → (l.flatMap f).length ≤ l.length * m
  | [], _ => by simp
  | a :: l, h => by
    have h1 := h a List.mem_cons_self
    have h2 := flat_len f m l fun b hb => h b (List.mem_cons_of_mem _ hb)
    rw [List.flatMap_cons, List.length_append, List.length_cons, Nat.succ_mul]
    omega
theorem prs_len (es : List Int) : (prs r ns es).length ≤ es.length * r.b.length := flat_len _ _ es fun e _ => by
  rw [List.length_map]
  exact Nat.le_trans (List.length_filter_le _ _) left_len
@[simp] theorem np_pair (p : Int × Int) : noPtr (pairD p) = true := rfl
@[simp] theorem np_pairs (l : List (Int × Int)) : noPtrL (l.map pairD) = true := np_L fun d hd => by
  obtain ⟨p, _, rfl⟩ := List.mem_map.mp hd
  rfl
theorem all_exchanges_ok (h : r.b.length ≤ 100) (hl : ns.length < r.b.length) (hn : ∀ x ∈ ns, 0 ≤ x) : m_all_exchanges [ruleD r, namesD ns] μ = .ok (.lst ((pairsOf r ns).map pairD)) μ := by
  have main := for_pre (f := D.int) (g := gVar 3) (c := always) (body := sFor (iSeq (eCall m_names_left (aCons (eVar 0) (aCons (eVar 1) aNil)))) (gVar 4) (sIf (tOf (eCall m_can_exchange (aCons (eVar 0) (aCons (eVar 1) (aCons (eVar 3) (aCons (eVar 4) aNil)))))) (sSet 2 (eBin (gAdd false) (eVar 2) (eLst false (aCons (eTup (aCons (eVar 3) (aCons (eVar 4) aNil))) aNil)))) sNil))
    (fun p ρ μ => μ = [] ∧ ∃ x y, ρ = [some (ruleD r), some (namesD ns), some (.lst ((prs r ns p).map pairD)), x, y]) (rng ns.length) (ρ := [some (ruleD r), some (namesD ns), some (.lst []), none, none]) (μ := []) (fun _ _ _ _ => rfl) ?_ ⟨rfl, none, none, rfl⟩
  · obtain ⟨ρ', μ', e, rfl, x, y, rfl⟩ := main
    refine pure_ret (μ' := []) (by simp) rfl ?_ (by simp)
    simp [kR1_nat (show ns.length ≤ 1000 by omega), rngD_0, e, pairsOf]
  · rintro p a s ρ μ hp ⟨rfl, x, y, rfl⟩
    have ha : a ∈ rng ns.length := by rw [hp]; simp
    obtain ⟨ha1, ha2⟩ := mem_rng.mp ha
    have hpl : p.length ≤ 100 := by
      have := congrArg List.length hp
      rw [rng_len, List.length_append] at this
      omega
    have pl := prs_len (r := r) (ns := ns) p
    have pl2 : p.length * r.b.length ≤ 100 * 100 := Nat.mul_le_mul hpl h
    have main := for_pre (f := D.int) (g := gVar 4) (c := always) (body := sIf (tOf (eCall m_can_exchange (aCons (eVar 0) (aCons (eVar 1) (aCons (eVar 3) (aCons (eVar 4) aNil)))))) (sSet 2 (eBin (gAdd false) (eVar 2) (eLst false (aCons (eTup (aCons (eVar 3) (aCons (eVar 4) aNil))) aNil)))) sNil)
      (fun q ρ μ => μ = [] ∧ ∃ y, ρ = [some (ruleD r), some (namesD ns), some (.lst ((prs r ns p ++ (q.filter (canEx r ns a)).map fun n => (a, n)).map pairD)), some (.int a), y]) (left r ns) (ρ := [some (ruleD r), some (namesD ns), some (.lst ((prs r ns p).map pairD)), some (.int a), y]) (μ := []) (fun _ _ _ _ => rfl) ?_ ⟨rfl, y, by simp⟩
    · obtain ⟨ρ', μ', e, rfl, y', rfl⟩ := main
      refine ⟨_, [], ?_, rfl, some (.int a), y', rfl⟩
      simp [names_left_ok (show r.b.length ≤ 1000 by omega), e, prs_snoc]
    · rintro q b s' ρ μ hq ⟨rfl, y, rfl⟩
      have hb : b ∈ left r ns := by rw [hq]; simp
      have hql : q.length ≤ 100 := by
        have := congrArg List.length hq
        have := left_len (r := r) (ns := ns)
        simp at *
        omega
      have fl : (q.filter (canEx r ns a)).length ≤ q.length := List.length_filter_le _ _
      have ce := can_exchange_ok (μ := []) (show r.b.length ≤ 1000 by omega) hl hn ha1 ha2 (left_mem.mp hb).1.1
      by_cases hc : canEx r ns a b = true
      · refine ⟨_, [], ?_, rfl, some (.int b), rfl⟩
        simp [ce, hc]
        rw [gAdd_lst false (by simp; omega)]
        simp [hc, pairD]
      · refine ⟨_, [], ?_, rfl, some (.int b), rfl⟩
        simp [ce, hc]
theorem exchanges_ok (h : r.Ok) (hn : Ns r ns) (hl : ns.length < r.b.length) : m_exchanges [ruleD r, namesD ns] μ = .ok (.lst ((pairsOf r ns).map pairD)) μ := by
  have := h.hi
  refine pure_ret (μ' := []) (by simp) rfl ?_ (by simp)
  simp [need_names_ok h hn hl, all_exchanges_ok (show r.b.length ≤ 100 by omega) hl fun x hx => (hn.ran x hx).1]
end
end Lw
namespace Lw
open PySem PySem.Spec PyProof.Rows L2 DL
section
variable {μ : Store} {i j k : Int} {l ns xs : List Int} {r : Rl}
theorem pure_ptr {n m q : Nat} {body : SM} {ds zs : List D} {μ μ' : Store} (hn : noPtrL ds = true) (hl : ds.length = n) (e : body (ds.map some ++ List.replicate (m - n) none) [] = .ok (.ret (.ptr q)) μ') (hq : μ'[q]? = some (.lst zs)) (hd : noPtrL zs = true) : pureM (defM n m body) ds μ = .ok (.lst zs) μ :=
  pureM_at hn (defM_ret hl e) (by simp only [frzD, hq, hd, if_true])
def goodLet (r : Rl) (ns : List Int) (n : Int) : Bool := !decide (n ∈ ns) && (!decide (n ∈ ixL r.b ns.length) && !(r.m && (decide (n = ns.length) || (decide (n < ns.length) && decide (ix ns n = ns.length)))))
theorem goodLet_eq (n : Int) : goodLet r ns n = ((!decide (n ∈ ns)) && isLet r ns ns.length n) := by
  unfold goodLet isLet
  by_cases h1 : n ∈ ns <;> by_cases h2 : n ∈ ixL r.b ns.length <;> by_cases h3 : r.m = true <;> by_cases h4 : n = (ns.length : Int) <;> by_cases h5 : n < (ns.length : Int) <;> by_cases h6 : ix ns n = (ns.length : Int) <;> simp_all <;> omega
theorem letOf_eq : (rng r.b.length).filter (goodLet r ns) = letOf r ns := by
  unfold letOf left
  rw [List.filter_filter]
  congr 1
  funext n
  rw [goodLet_eq, Bool.and_comm]
theorem law_let_ok (h : r.b.length ≤ 100) (hl : ns.length < r.b.length) : m__law_let [ruleD r, namesD ns] μ = .ok (.lst ((letOf r ns).map .int)) μ := by
  have main := for_pre (f := D.int) (g := gVar 2) (c := always) (body := sIf (tAndM (tOf (eBin (gIn true) (eVar 2) (eVar 1))) (tOf (eBin (gIn true) (eVar 2) (eBin gIx (eBin gIx (eVar 0) (eC (.int 0))) (eVar 4))))) (sSeq (sSet 5 (eOr (eBin (gEq false) (eVar 2) (eVar 4)) (eAnd (eBin gLt (eVar 2) (eVar 4)) (eBin (gEq false) (eBin gIx (eVar 1) (eVar 2)) (eVar 4)))))
    (sIf (tNotM (tAndM (tTru (eBin gIx (eVar 0) (eC (.int 1)))) (tTru (eVar 5)))) (sExp (eMth (gMut hAppend) (eVar 3) (aCons (eVar 2) aNil))) sNil)) sNil)
    (fun p ρ μ => μ = [.lst ((p.filter (goodLet r ns)).map .int)] ∧ ∃ x y, ρ = [some (ruleD r), some (namesD ns), x, some (.ptr 0), some (.int ns.length), y]) (rng r.b.length) (ρ := [some (ruleD r), some (namesD ns), none, some (.ptr 0), some (.int ns.length), none]) (μ := [.lst []]) (fun _ _ _ _ => rfl) ?_ ⟨rfl, none, none, rfl⟩
  · obtain ⟨ρ', μ', e, rfl, x, y, rfl⟩ := main
    rw [letOf_eq] at e
    refine pure_ptr (q := 0) (zs := (letOf r ns).map .int) (μ' := [.lst ((letOf r ns).map .int)]) (by simp) rfl ?_ rfl (by simp)
    simp [kR1_nat (show r.b.length ≤ 1000 by omega), rngD_0, e]
  · rintro p a s ρ μ hp ⟨rfl, x, y, rfl⟩
    have ha : a ∈ rng r.b.length := by rw [hp]; simp
    obtain ⟨ha1, ha2⟩ := mem_rng.mp ha
    have hpl : p.length ≤ 100 := by
      have := congrArg List.length hp
      rw [rng_len, List.length_append] at this
      omega
    have fl : (p.filter (goodLet r ns)).length ≤ p.length := List.length_filter_le _ _
    have e1 := gIx_bars (μ := [.lst ((p.filter (goodLet r ns)).map .int)]) (b := r.b) (i := ns.length) (by omega) (by omega)
    have ap : gMut hAppend (.ptr 0) [.int a] [.lst ((p.filter (goodLet r ns)).map .int)] = .ok .non [.lst (((p.filter (goodLet r ns)).map .int) ++ [.int a])] := by
      refine gMut_ptr (n := 0) (μ := [.lst ((p.filter (goodLet r ns)).map .int)]) (xs := (p.filter (goodLet r ns)).map .int) (zs := ((p.filter (goodLet r ns)).map .int) ++ [.int a]) rfl ?_
      simp only [hAppend]
      rw [if_pos (by rw [line16]; simp; omega)]
    have ck := chkL_ptr (μ := [.lst ((p.filter (goodLet r ns)).map .int)]) (n := 0) rfl
    by_cases h1 : a ∈ ns
    · exact ⟨_, _, by simp [h1]; exact ⟨⟨rfl, rfl⟩, rfl⟩, by simp [goodLet, h1], _, _, rfl⟩
    · by_cases h2 : a ∈ ixL r.b ns.length
      · exact ⟨_, _, by simp [h1, e1, h2]; exact ⟨⟨rfl, rfl⟩, rfl⟩, by simp [goodLet, h2], _, _, rfl⟩
      · by_cases h3 : a = (ns.length : Int)
        · subst h3
          by_cases hm : r.m = true
          · exact ⟨_, _, by simp [h1, e1, h2, hm]; exact ⟨⟨rfl, rfl⟩, rfl⟩, by simp [goodLet, hm], _, _, rfl⟩
          · exact ⟨_, _, by simp [h1, e1, h2, hm, ck, ap]; exact ⟨⟨rfl, rfl⟩, rfl⟩, by simp [goodLet, hm, h1, h2], _, _, rfl⟩
        · by_cases h4 : a < (ns.length : Int)
          · have e2 := gIx_names (μ := [.lst ((p.filter (goodLet r ns)).map .int)]) (ns := ns) ha1 h4
            by_cases hm : r.m = true
            · by_cases h5 : ix ns a = ns.length
              · exact ⟨_, _, by simp [h1, e1, e2, h2, h3, h4, h5, hm]; exact ⟨⟨rfl, rfl⟩, rfl⟩, by simp [goodLet, hm, h4, h5], _, _, rfl⟩
              · exact ⟨_, _, by simp [h1, e1, e2, h2, h3, h4, h5, hm, ck, ap]; exact ⟨⟨rfl, rfl⟩, rfl⟩, by simp [goodLet, hm, h1, h2, h3, h5], _, _, rfl⟩
            · exact ⟨_, _, by simp [h1, e1, e2, h2, h3, h4, hm, ck, ap]; exact ⟨⟨rfl, rfl⟩, rfl⟩, by simp [goodLet, hm, h1, h2], _, _, rfl⟩
          · by_cases hm : r.m = true
            · exact ⟨_, _, by simp [h1, e1, h2, h3, h4, hm, ck, ap]; exact ⟨⟨rfl, rfl⟩, rfl⟩, by simp [goodLet, hm, h1, h2, h3, h4], _, _, rfl⟩
            · exact ⟨_, _, by simp [h1, e1, h2, h3, h4, hm, ck, ap]; exact ⟨⟨rfl, rfl⟩, rfl⟩, by simp [goodLet, hm, h1, h2], _, _, rfl⟩
end
end Lw
namespace Lw
open PySem PySem.Spec PyProof.Rows L2 DL
section
variable {μ : Store} {i j k : Int} {l ns xs : List Int} {r : Rl}
def clashL (xs : List Int) (m q : Int) : Bool := decide (ix xs q = q) || (decide (ix xs q ≤ m) && decide (ix xs (ix xs q) = q))
theorem clashL_eq (m q : Int) (h : (xs.length : Int) = m + 1) : clashL xs m q = clash xs q := by
  unfold clashL clash
  have : (ix xs q ≤ m) ↔ (ix xs q < xs.length) := by omega
  simp only [this]
theorem exch_set (h : 0 ≤ i) (h2 : i < ns.length) : (ns ++ [ix ns i]).set i.toNat j = exch ns i j := by
  rw [exch, withName_set h h2, List.set_append_left _ _ (by omega)]
abbrev bInner : SM := sSeq (sSet 9 (eBin gIx (eVar 6) (eVar 8)))
    (sSeq (sSet 10 (eOr (eBin (gEq false) (eVar 9) (eVar 8)) (eAnd (eBin gLe (eVar 9) (eVar 4)) (eBin (gEq false) (eBin gIx (eVar 6) (eVar 9)) (eVar 8)))))
    (sSet 7 (eAnd (eVar 7) (eNot (eAnd (eBin gIx (eVar 0) (eC (.int 1))) (eVar 10))))))
theorem pairs_inner {g : Bool} {t : Nat} {m : Nat} {c1 c2 c3 : Option D} {x y z : Option D} (ht : μ[t]? = some (.lst (xs.map .int))) (hl : xs.length = m + 1) (hx : ∀ x ∈ xs, 0 ≤ x) :
    ∃ x' y' z', forL always (gVar 8) bInner ((rng (m + 1)).map .int) [some (ruleD r), some (namesD ns), c1, c2, some (.int m), c3, some (.ptr t), some (.bl g), x, y, z] μ =
      .ok (.nx [some (ruleD r), some (namesD ns), c1, c2, some (.int m), c3, some (.ptr t), some (.bl (g && !(r.m && (rng (m + 1)).any (clashL xs m)))), x', y', z']) μ := by
  have main := for_pre (f := D.int) (g := gVar 8) (c := always) (body := bInner) (fun p ρ μ' => μ' = μ ∧ ∃ x y z, ρ = [some (ruleD r), some (namesD ns), c1, c2, some (.int m), c3, some (.ptr t), some (.bl (g && !(r.m && p.any (clashL xs m)))), x, y, z]) (rng (m + 1))
    (ρ := [some (ruleD r), some (namesD ns), c1, c2, some (.int m), c3, some (.ptr t), some (.bl g), x, y, z]) (μ := μ) (fun _ _ _ _ => rfl) ?_ ⟨rfl, x, y, z, by simp⟩
  · obtain ⟨ρ', μ', e, rfl, x', y', z', rfl⟩ := main
    exact ⟨x', y', z', e⟩
  · rintro p a s ρ μ' hp ⟨rfl, x, y, z, rfl⟩
    have ha : a ∈ rng (m + 1) := by rw [hp]; simp
    obtain ⟨ha1, ha2⟩ := mem_rng.mp ha
    have hv := hx _ (ix_mem ha1 (show a < xs.length by omega))
    have gi : ∀ {i : Int}, 0 ≤ i → i < xs.length → gIx (.ptr t) (.int i) μ' = .ok (.int (ix xs i)) μ' := fun {i} h1 h2 => by
      rw [gIx_ptr ht, gIxL_map (x := 0) h1 h2]; rfl
    have e1 := gi ha1 (by omega)
    refine ⟨[some (ruleD r), some (namesD ns), c1, c2, some (.int m), c3, some (.ptr t), some (.bl (g && !(r.m && (p ++ [a]).any (clashL xs m)))), some (.int a), some (.int (ix xs a)), some (.bl (clashL xs m a))], μ', ?_, rfl, _, _, _, rfl⟩
    have fin : (g && !(r.m && (p ++ [a]).any (clashL xs m))) = ((g && !(r.m && p.any (clashL xs m))) && !(r.m && clashL xs m a)) := by
      rw [List.any_append, List.any_cons, List.any_nil]
      cases g <;> cases r.m <;> cases p.any (clashL xs m) <;> cases clashL xs m a <;> rfl
    have step : ∀ b : Bool, clashL xs m a = b → (sSet 7 (eAnd (eVar 7) (eNot (eAnd (eBin gIx (eVar 0) (eC (.int 1))) (eVar 10))))) [some (ruleD r), some (namesD ns), c1, c2, some (.int m), c3, some (.ptr t), some (.bl (g && !(r.m && p.any (clashL xs m)))), some (.int a), some (.int (ix xs a)), some (.bl b)] μ' =
        .ok (.nx [some (ruleD r), some (namesD ns), c1, c2, some (.int m), c3, some (.ptr t), some (.bl (g && !(r.m && (p ++ [a]).any (clashL xs m)))), some (.int a), some (.int (ix xs a)), some (.bl b)]) μ' := fun b hb => by
      rw [fin, hb]
      cases h1 : (g && !(r.m && p.any (clashL xs m)))
      · simp
      · cases h2 : r.m
        · simp [h2]
        · simp [h2]
    by_cases h1 : ix xs a = a
    · have hb : clashL xs m a = true := by simp [clashL, h1]
      have st := step true hb
      rw [hb]
      simp only [sSeq_at, Mbind_at, gVar_at, and_ok]
      simp [e1, h1] at st ⊢
      exact st
    · by_cases h2 : ix xs a ≤ m
      · have e2 := gi hv (by omega)
        have st := step (decide (ix xs (ix xs a) = a)) (by simp [clashL, h1, h2])
        rw [show clashL xs m a = decide (ix xs (ix xs a) = a) by simp [clashL, h1, h2]]
        simp [e1, h1, h2, e2] at st ⊢
        exact st
      · have hb : clashL xs m a = false := by simp [clashL, h1, h2]
        have st := step false hb
        rw [hb]
        simp [e1, h1, h2] at st ⊢
        exact st
def goodP (r : Rl) (ns : List Int) (e n : Int) : Bool := ((!decide (n ∈ ns) && !decide (n ∈ ixL r.b e)) && !decide (ix ns e ∈ ixL r.b ns.length)) && !(r.m && (rng (ns.length + 1)).any (clashL (exch ns e n) ns.length))
theorem goodP_eq (he : 0 ≤ i) (he2 : i < ns.length) : goodP r ns i j = (!decide (j ∈ ns) && canEx r ns i j) := by
  unfold goodP canEx soundB
  have hl : (exch ns i j).length = ns.length + 1 := exch_len he he2
  rw [hl, show clashL (exch ns i j) ns.length = clash (exch ns i j) from funext fun q => clashL_eq _ q (by rw [hl]; omega)]
  cases decide (j ∈ ns) <;> cases decide (j ∈ ixL r.b i) <;> cases decide (ix ns i ∈ ixL r.b ns.length) <;> cases r.m <;> simp
def lprs (r : Rl) (ns : List Int) (es : List Int) : List (Int × Int) := es.flatMap fun e => ((rng r.b.length).filter (goodP r ns e)).map fun n => (e, n)
theorem lprs_snoc (p : List Int) (a : Int) : lprs r ns (p ++ [a]) = lprs r ns p ++ ((rng r.b.length).filter (goodP r ns a)).map fun n => (a, n) := by simp [lprs]
theorem lprs_eq : lprs r ns (rng ns.length) = pairsOf r ns := by
  unfold lprs pairsOf prs
  rw [List.flatMap_def, List.flatMap_def]
  congr 1
  refine List.map_congr_left fun e he => ?_
  obtain ⟨h1, h2⟩ := mem_rng.mp he
  congr 1
  unfold left
  rw [List.filter_filter]
  congr 1
  funext n
  rw [goodP_eq h1 h2, Bool.and_comm]
theorem lprs_len (es : List Int) : (lprs r ns es).length ≤ es.length * r.b.length := flat_len _ _ es fun e _ => by
  rw [List.length_map]
  have := List.length_filter_le (goodP r ns e) (rng r.b.length)
  rwa [rng_len] at this
abbrev bMid : SM := sSeq (sSet 6 (eBin (gAdd true) (eCall (gList false) (aCons (eVar 1) aNil)) (eLst false (aCons (eBin gIx (eVar 1) (eVar 2)) aNil))))
    (sSeq (sPut (eVar 6) (eVar 2) (eVar 5))
    (sSeq (sSet 7 (eAnd (eBin (gIn true) (eVar 5) (eVar 1)) (eBin (gIn true) (eVar 5) (eBin gIx (eBin gIx (eVar 0) (eC (.int 0))) (eVar 2)))))
    (sSeq (sSet 7 (eAnd (eVar 7) (eBin (gIn true) (eBin gIx (eVar 1) (eVar 2)) (eBin gIx (eBin gIx (eVar 0) (eC (.int 0))) (eVar 4)))))
    (sSeq (sFor (iRange1 (eBin (gAdd false) (eVar 4) (eC (.int 1)))) (gVar 8) bInner)
    (sIf (tTru (eVar 7)) (sExp (eMth (gMut hAppend) (eVar 3) (aCons (eTup (aCons (eVar 2) (aCons (eVar 5) aNil))) aNil))) sNil)))))
def onTop (xs : List (Int × Int)) (μ : Store) : Store := .lst (xs.map pairD) :: μ
theorem mid_step {e n : Int} {fs : List (Int × Int)} {ju : Store} {c5 c6 c7 c8 c9 c10 : Option D} (h : r.b.length ≤ 100) (hl : ns.length < r.b.length) (hn : ∀ x ∈ ns, 0 ≤ x) (he : 0 ≤ e) (he2 : e < ns.length) (hj : 0 ≤ n) (hf : fs.length ≤ 100000) :
    ∃ ju' d6 d7 d8 d9 d10, bMid [some (ruleD r), some (namesD ns), some (.int e), some (.ptr 0), some (.int ns.length), some (.int n), c6, c7, c8, c9, c10] (onTop fs ju) =
      .ok (.nx [some (ruleD r), some (namesD ns), some (.int e), some (.ptr 0), some (.int ns.length), some (.int n), d6, d7, d8, d9, d10]) (onTop (fs ++ if goodP r ns e n = true then [(e, n)] else []) ju') := by
  have gadd : ∀ μ : Store, gAdd true (.lst (ns.map D.int)) (.lst [.int (ix ns e)]) μ = .ok (.ptr μ.length) (μ ++ [.lst ((ns ++ [ix ns e]).map D.int)]) := fun μ => by
    rw [gAdd_lst true (by simp; omega), retL_t]; simp
  have glist : ∀ μ : Store, gList false [namesD ns] μ = .ok (.lst (ns.map D.int)) μ := fun μ => rfl
  have e3 : ∀ μ : Store, gIx (namesD ns) (.int e) μ = .ok (.int (ix ns e)) μ := fun μ => gIx_names he he2
  have e4 : ∀ μ : Store, gIx (barsD r.b) (.int e) μ = .ok (namesD (ixL r.b e)) μ := fun μ => gIx_bars he (by omega)
  have e5 : ∀ μ : Store, gIx (barsD r.b) (.int ns.length) μ = .ok (namesD (ixL r.b ns.length)) μ := fun μ => gIx_bars (by omega) (by omega)
  have put : putL (.ptr (onTop fs ju).length) (.int e) (.int n) (onTop fs ju ++ [.lst ((ns ++ [ix ns e]).map D.int)]) = .ok () (onTop fs ju ++ [.lst ((exch ns e n).map D.int)]) := by
    rw [putL_ptr (xs := (ns ++ [ix ns e]).map D.int) (q := e.toNat) (by simp) (ixN_nn he (by simp; omega)), set_concat, ← List.map_set, exch_set he he2]
  obtain ⟨x', y', z', ein⟩ := pairs_inner (r := r) (ns := ns) (g := (!decide (n ∈ ns) && !decide (n ∈ ixL r.b e)) && !decide (ix ns e ∈ ixL r.b ns.length)) (t := (onTop fs ju).length) (m := ns.length) (c1 := some (.int e)) (c2 := some (.ptr 0)) (c3 := some (.int n)) (x := c8) (y := c9) (z := c10)
    (xs := exch ns e n) (μ := onTop fs ju ++ [.lst ((exch ns e n).map D.int)]) (by simp) (exch_len he he2) (exch_mem he he2 hn hj)
  refine ⟨ju ++ [.lst ((exch ns e n).map D.int)], some (.ptr (onTop fs ju).length), some (.bl (goodP r ns e n)), x', y', z', ?_⟩
  have rg : kR1 (.int ((ns.length : Int) + 1)) (onTop fs ju ++ [.lst ((exch ns e n).map D.int)]) = .ok ((rng (ns.length + 1)).map .int, always) (onTop fs ju ++ [.lst ((exch ns e n).map D.int)]) := by
    rw [show (ns.length : Int) + 1 = ((ns.length + 1 : Nat) : Int) by omega, kR1_nat (by omega), rngD_0]
  have ap : gMut hAppend (.ptr 0) [.tup [.int e, .int n]] (onTop fs ju ++ [.lst ((exch ns e n).map D.int)]) = .ok .non (onTop (fs ++ [(e, n)]) (ju ++ [.lst ((exch ns e n).map D.int)])) := by
    refine (gMut_ptr (n := 0) (xs := fs.map pairD) (zs := fs.map pairD ++ [.tup [.int e, .int n]]) rfl ?_).trans ?_
    · simp only [hAppend]
      rw [if_pos (by rw [line16]; simp; omega)]
    · simp [onTop, pairD]
  have ck : chkL (.ptr 0) (onTop fs ju ++ [.lst ((exch ns e n).map D.int)]) = .ok () (onTop fs ju ++ [.lst ((exch ns e n).map D.int)]) := chkL_ptr (xs := fs.map pairD) rfl
  have s1 : ∀ c7 c8 c9 c10, (sSeq (sSet 7 (eAnd (eBin (gIn true) (eVar 5) (eVar 1)) (eBin (gIn true) (eVar 5) (eBin gIx (eBin gIx (eVar 0) (eC (.int 0))) (eVar 2)))))
      (sSet 7 (eAnd (eVar 7) (eBin (gIn true) (eBin gIx (eVar 1) (eVar 2)) (eBin gIx (eBin gIx (eVar 0) (eC (.int 0))) (eVar 4))))))
      [some (ruleD r), some (namesD ns), some (.int e), some (.ptr 0), some (.int ns.length), some (.int n), some (.ptr (onTop fs ju).length), c7, c8, c9, c10] (onTop fs ju ++ [.lst ((exch ns e n).map D.int)]) =
      .ok (.nx [some (ruleD r), some (namesD ns), some (.int e), some (.ptr 0), some (.int ns.length), some (.int n), some (.ptr (onTop fs ju).length), some (.bl ((!decide (n ∈ ns) && !decide (n ∈ ixL r.b e)) && !decide (ix ns e ∈ ixL r.b ns.length))), c8, c9, c10]) (onTop fs ju ++ [.lst ((exch ns e n).map D.int)]) := fun c7 c8 c9 c10 => by
    by_cases h1 : n ∈ ns
    · simp [h1]
    · by_cases h2 : n ∈ ixL r.b e
      · simp [h1, h2, e4]
      · simp [h1, h2, e3, e4, e5]
  have hg : (((!decide (n ∈ ns) && !decide (n ∈ ixL r.b e)) && !decide (ix ns e ∈ ixL r.b ns.length)) && !(r.m && (rng (ns.length + 1)).any (clashL (exch ns e n) ns.length))) = goodP r ns e n := rfl
  rw [hg] at ein
  refine (seq_at (ρ1 := [some (ruleD r), some (namesD ns), some (.int e), some (.ptr 0), some (.int ns.length), some (.int n), some (.ptr (onTop fs ju).length), c7, c8, c9, c10]) (μ1 := onTop fs ju ++ [.lst ((ns ++ [ix ns e]).map D.int)]) ?_).trans ?_
  · simp [glist, e3, gadd]
  refine (seq_at (ρ1 := [some (ruleD r), some (namesD ns), some (.int e), some (.ptr 0), some (.int ns.length), some (.int n), some (.ptr (onTop fs ju).length), c7, c8, c9, c10]) (μ1 := onTop fs ju ++ [.lst ((exch ns e n).map D.int)]) ?_).trans ?_
  · rw [sPut_at]
    simp only [eVar_at, List.getElem?_cons_succ, List.getElem?_cons_zero, vr_some, and_ok, Mbind_at, put, Mret_at]
  rw [sSeq_assoc, s1, and_ok, kSeq_nx]
  refine (seq_at (ρ1 := [some (ruleD r), some (namesD ns), some (.int e), some (.ptr 0), some (.int ns.length), some (.int n), some (.ptr (onTop fs ju).length), some (.bl (goodP r ns e n)), x', y', z']) (μ1 := onTop fs ju ++ [.lst ((exch ns e n).map D.int)]) ?_).trans ?_
  · rw [sFor_at, iRange1_at]
    simp only [eBin_at, eVar_at, eC_at, List.getElem?_cons_succ, List.getElem?_cons_zero, vr_some, and_ok, Mbind_at, gAdd_int, rg]
    exact ein
  by_cases hc : goodP r ns e n = true
  · simp [hc, ck, ap]
  · simp [hc, onTop]
end
end Lw
namespace Lw
open PySem PySem.Spec PyProof.Rows L2 DL
section
variable {μ : Store} {i j k : Int} {l ns xs : List Int} {r : Rl}
theorem law_pairs_ok (h : r.b.length ≤ 100) (hl : ns.length < r.b.length) (hn : ∀ x ∈ ns, 0 ≤ x) : m__law_pairs [ruleD r, namesD ns] μ = .ok (.lst ((pairsOf r ns).map pairD)) μ := by
  have main := for_pre (f := D.int) (g := gVar 2) (c := always) (body := sFor (iRange1 (eCall gLen (aCons (eBin gIx (eVar 0) (eC (.int 0))) aNil))) (gVar 5) bMid)
    (fun p ρ μ => ∃ ju d2 d5 d6 d7 d8 d9 d10, μ = onTop (lprs r ns p) ju ∧ ρ = [some (ruleD r), some (namesD ns), d2, some (.ptr 0), some (.int ns.length), d5, d6, d7, d8, d9, d10]) (rng ns.length)
    (ρ := [some (ruleD r), some (namesD ns), none, some (.ptr 0), some (.int ns.length), none, none, none, none, none, none]) (μ := [.lst []]) (fun _ _ _ _ => rfl) ?_ ⟨[], _, _, _, _, _, _, _, rfl, rfl⟩
  · obtain ⟨ρ', μ', e, ju, d2, d5, d6, d7, d8, d9, d10, rfl, rfl⟩ := main
    rw [lprs_eq] at e
    refine pure_ptr (q := 0) (zs := (pairsOf r ns).map pairD) (μ' := onTop (pairsOf r ns) ju) (by simp) rfl ?_ rfl (by simp)
    simp [kR1_nat (show ns.length ≤ 1000 by omega), rngD_0, e]
  · rintro p a s ρ μ hp ⟨ju, d2, d5, d6, d7, d8, d9, d10, rfl, rfl⟩
    have ha : a ∈ rng ns.length := by rw [hp]; simp
    obtain ⟨ha1, ha2⟩ := mem_rng.mp ha
    have hpl : p.length ≤ 100 := by
      have := congrArg List.length hp
      rw [rng_len, List.length_append] at this
      omega
    have pl := lprs_len (r := r) (ns := ns) p
    have pl2 : p.length * r.b.length ≤ 100 * 100 := Nat.mul_le_mul hpl h
    have main := for_pre (f := D.int) (g := gVar 5) (c := always) (body := bMid)
      (fun q ρ μ => ∃ ju d5 d6 d7 d8 d9 d10, μ = onTop (lprs r ns p ++ (q.filter (goodP r ns a)).map fun n => (a, n)) ju ∧ ρ = [some (ruleD r), some (namesD ns), some (.int a), some (.ptr 0), some (.int ns.length), d5, d6, d7, d8, d9, d10]) (rng r.b.length)
      (ρ := [some (ruleD r), some (namesD ns), some (.int a), some (.ptr 0), some (.int ns.length), d5, d6, d7, d8, d9, d10]) (μ := onTop (lprs r ns p) ju) (fun _ _ _ _ => rfl) ?_ ⟨ju, _, _, _, _, _, _, by simp, rfl⟩
    · obtain ⟨ρ', μ', e, ju', e5, e6, e7, e8, e9, e10, rfl, rfl⟩ := main
      refine ⟨_, _, ?_, ju', some (.int a), e5, e6, e7, e8, e9, e10, by rw [lprs_snoc], rfl⟩
      simp [kR1_nat (show r.b.length ≤ 1000 by omega), rngD_0, e]
    · rintro q b s' ρ μ hq ⟨ju, d5, d6, d7, d8, d9, d10, rfl, rfl⟩
      have hb : b ∈ rng r.b.length := by rw [hq]; simp
      obtain ⟨hb1, hb2⟩ := mem_rng.mp hb
      have hql : q.length ≤ 100 := by
        have := congrArg List.length hq
        rw [rng_len, List.length_append] at this
        omega
      have fl : (q.filter (goodP r ns a)).length ≤ q.length := List.length_filter_le _ _
      obtain ⟨ju', e6, e7, e8, e9, e10, e⟩ := mid_step (fs := lprs r ns p ++ (q.filter (goodP r ns a)).map fun n => (a, n)) (ju := ju) (n := b) (c5 := none) (c6 := d6) (c7 := d7) (c8 := d8) (c9 := d9) (c10 := d10) h hl hn ha1 ha2 hb1 (by simp; omega)
      refine ⟨_, _, ?_, ju', some (.int b), e6, e7, e8, e9, e10, rfl, rfl⟩
      rw [Mbind_at, gVar_at, and_ok]
      refine Eq.trans ?_ (e.trans ?_)
      · rfl
      · have : lprs r ns p ++ ((q.filter (goodP r ns a)).map fun n => (a, n)) ++ (if goodP r ns a b = true then [(a, b)] else []) = lprs r ns p ++ (((q ++ [b]).filter (goodP r ns a)).map fun n => (a, n)) := by
          by_cases hc : goodP r ns a b = true
          · simp [hc]
          · simp [hc]
        rw [this]
end
/-! ### the bag -/
/-- the bag at n of the store -/
def Bag (n : Nat) (μ : Store) : Prop := ∃ x y : Int, μ[n]? = some (.lst [.int x, .int y]) ∧ 0 ≤ y ∧ y < 2147483269
/-- nothing but the bag changed -/
structure Bg (n : Nat) (μ μ' : Store) : Prop where
  bag : Bag n μ'
  len : μ'.length = μ.length
  old : ∀ q : Nat, q ≠ n → μ'[q]? = μ[q]?
theorem Bg.refl {n : Nat} {μ : Store} (h : Bag n μ) : Bg n μ μ := ⟨h, rfl, fun _ _ => rfl⟩
theorem Bg.trans {n : Nat} {μ μ' μ'' : Store} (a : Bg n μ μ') (b : Bg n μ' μ'') : Bg n μ μ'' := ⟨b.bag, b.len.trans a.len, fun q h => (b.old q h).trans (a.old q h)⟩
theorem Bg.set {n : Nat} {μ : Store} {x y : Int} {o : Ob} (h : μ[n]? = some o) (h1 : 0 ≤ y) (h2 : y < 2147483269) : Bg n μ (μ.set n (.lst [.int x, .int y])) :=
  ⟨⟨x, y, List.getElem?_set_self (List.getElem?_eq_some_iff.mp h).1, h1, h2⟩, by simp, fun q hq => List.getElem?_set_ne (Ne.symm hq)⟩
theorem law_take_ok {n : Nat} {m : Int} {μ : Store} (h : Bag n μ) (h1 : 0 < m) (h2 : m < 1073741824) : ∃ v μ', m__law_take [.ptr n, .int m] μ = .ok (.int v) μ' ∧ 0 ≤ v ∧ v < m ∧ Bg n μ μ' := by
  obtain ⟨x, y, hn, hy1, hy2⟩ := h
  have gx : gIx (.ptr n) (.int 0) μ = .ok (.int x) μ := by rw [gIx_ptr hn]; simp
  have gy : gIx (.ptr n) (.int 1) μ = .ok (.int y) μ := by rw [gIx_ptr hn]; simp
  by_cases hx : 0 < x
  · refine ⟨x % m, μ.set n (.lst [.int (x / m), .int y]), defM_ret rfl ?_, Int.emod_nonneg _ (by omega), Int.emod_lt_of_pos _ h1, Bg.set hn hy1 hy2⟩
    have put : putL (.ptr n) (.int 0) (.int (x / m)) μ = .ok () (μ.set n (.lst [.int (x / m), .int y])) := by
      rw [putL_ptr (xs := [.int x, .int y]) (q := 0) hn (by rfl)]; rfl
    simp [gx, hx, gMod_pos h1, gDiv_pos h1 h2, put]
  · let y' : Int := (y * 40692 + 401) % 2147483269
    have hy'1 : 0 ≤ y' := Int.emod_nonneg _ (by omega)
    have hy'2 : y' < 2147483269 := Int.emod_lt_of_pos _ (by omega)
    let μ' : Store := μ.set n (.lst [.int x, .int y'])
    have bg : Bg n μ μ' := Bg.set hn hy'1 hy'2
    have hn' : μ'[n]? = some (.lst [.int x, .int y']) := List.getElem?_set_self (List.getElem?_eq_some_iff.mp hn).1
    have gy' : gIx (.ptr n) (.int 1) μ' = .ok (.int y') μ' := by rw [gIx_ptr hn']; simp
    have put : putL (.ptr n) (.int 1) (.int y') μ = .ok () μ' := by
      rw [putL_ptr (xs := [.int x, .int y]) (q := 1) hn (by rfl)]; rfl
    refine ⟨((y' * (y' / 13 + 31)) % 2147483249 / 17) % m, μ', defM_ret rfl ?_, Int.emod_nonneg _ (by omega), Int.emod_lt_of_pos _ h1, bg⟩
    have w1 : gMulI (.int y) (.int 40692) μ = .ok (.int (y * 40692)) μ := gMulI_int (by omega) (by omega)
    have w2 : gMulI (.int y') (.int (y' / 13 + 31)) μ' = .ok (.int (y' * (y' / 13 + 31))) μ' := gMulI_int (by omega) (by omega)
    have m1 : ∀ z : Int, ∀ μ : Store, gMod (.int z) (.int 2147483269) μ = .ok (.int (z % 2147483269)) μ := fun z μ => gMod_pos (by omega)
    have m2 : ∀ z : Int, ∀ μ : Store, gMod (.int z) (.int 2147483249) μ = .ok (.int (z % 2147483249)) μ := fun z μ => gMod_pos (by omega)
    have m3 : ∀ z : Int, ∀ μ : Store, gMod (.int z) (.int m) μ = .ok (.int (z % m)) μ := fun z μ => gMod_pos h1
    have d1 : ∀ z : Int, ∀ μ : Store, gDiv (.int z) (.int 13) μ = .ok (.int (z / 13)) μ := fun z μ => gDiv_pos (by omega) (by omega)
    have d2 : ∀ z : Int, ∀ μ : Store, gDiv (.int z) (.int 17) μ = .ok (.int (z / 17)) μ := fun z μ => gDiv_pos (by omega) (by omega)
    have e1 : (y * 40692 + 401) % 2147483269 = y' := rfl
    simp [gx, gy, hx, w1, m1, e1, put, gy', d1, w2, m2, d2, m3]
end Lw
namespace Lw
open PySem PySem.Spec PyProof.Rows L2 DL
def sortI (l : List Int) : List Int := l.mergeSort fun a b => decide (a ≤ b)
theorem leD_int (a b : Int) : leD (.int a) (.int b) = decide (a ≤ b) := congrFun (congrFun (PySem.W.dataLe_int (β := Int) fun b => b) a) b
theorem sortD_ints (l : List Int) : (l.map D.int).mergeSort leD = (sortI l).map .int :=
  (List.map_mergeSort (r := fun a b : Int => decide (a ≤ b)) (s := leD) (f := D.int) fun a _ b _ => (leD_int a b).symm).symm
theorem sortB_ints (l : List Int) : sortB (l.map D.int) = true := by
  unfold sortB alikeB
  rw [Bool.and_eq_true, Bool.or_eq_true]
  refine ⟨List.all_eq_true.mpr fun x hx => ?_, .inr (List.all_eq_true.mpr fun x hx => ?_)⟩
  · obtain ⟨a, _, rfl⟩ := List.mem_map.mp hx
    rw [Bool.and_eq_true]
    exact ⟨rfl, List.all_eq_true.mpr fun y hy => by obtain ⟨b, _, rfl⟩ := List.mem_map.mp hy; rfl⟩
  · obtain ⟨a, _, rfl⟩ := List.mem_map.mp hx
    rfl
@[simp] theorem gSorted_ints {μ : Store} (l : List Int) : gSorted [.lst (l.map .int)] μ = .ok (.lst ((sortI l).map .int)) μ := by
  unfold gSorted
  simp only [asLst, sortB_ints, if_true, sortD_ints]
theorem sortI_mem {l : List Int} {i : Int} : i ∈ sortI l ↔ i ∈ l := List.mem_mergeSort
theorem sortI_asc {l : List Int} (h : l.Nodup) : (sortI l).Pairwise (· < ·) := by
  have h1 : (sortI l).Pairwise (fun a b => decide (a ≤ b) = true) := List.pairwise_mergeSort (fun a b c h1 h2 => by simp only [decide_eq_true_eq] at *; omega) (fun a b => by simp only [Bool.or_eq_true, decide_eq_true_eq]; omega) l
  have h2 : (sortI l).Nodup := (List.mergeSort_perm l _).nodup_iff.mpr h
  exact h1.imp₂ (fun {a b} q1 q2 => by have : a ≤ b := by simpa using q1
                                       omega) h2
theorem pow18 {μ : Store} : gPow (.int 10) (.int 18) μ = .ok (.int 1000000000000000000) μ := by rfl
section
variable {n : Nat} {μ : Store}
theorem law_bag_ok {ns : List Int} {k : Nat} (hk : k ≤ 1000) : ∃ x y : Int, m__law_bag [.arg (ns.map .int), .int k] μ = .ok (.ptr μ.length) (μ ++ [.lst [.int x, .int y]]) ∧ Bag μ.length (μ ++ [.lst [.int x, .int y]]) := by
  have fin : ∀ c : Int, (sRet (eLst true (aCons (eIf (tOf (eBin gGe (eVar 2) (eBin gPow (eC (.int 10)) (eC (.int 18))))) (eVar 2) (eC (.int 0))) (aCons (eBin gMod (eCall gInt1 (aCons (eBin (gAdd false) (eBin (gAdd false) (eBin gMod (eCall gInt1 (aCons (eVar 2) aNil)) (eC (.int 2147483269))) (eBin gMulI (eC (.int 90011)) (eVar 1))) (eC (.int 47))) aNil)) (eC (.int 2147483269))) aNil))))
      [some (.arg (ns.map .int)), some (.int k), some (.int c)] μ = .ok (.ret (.ptr μ.length)) (μ ++ [.lst [.int (if 1000000000000000000 ≤ c then c else 0), .int ((c % 2147483269 + 90011 * k + 47) % 2147483269)]]) := fun c => by
    have m1 : ∀ z : Int, gMod (.int z) (.int 2147483269) μ = .ok (.int (z % 2147483269)) μ := fun z => gMod_pos (by omega)
    have w1 : gMulI (.int 90011) (.int k) μ = .ok (.int (90011 * k)) μ := gMulI_int (by omega) (by omega)
    by_cases h : 1000000000000000000 ≤ c
    · simp [pow18, h, m1, w1]
    · simp [pow18, h, m1, w1]
  have bag : ∀ c : Int, Bag μ.length (μ ++ [.lst [.int (if 1000000000000000000 ≤ c then c else 0), .int ((c % 2147483269 + 90011 * k + 47) % 2147483269)]]) := fun c => ⟨if 1000000000000000000 ≤ c then c else 0, (c % 2147483269 + 90011 * k + 47) % 2147483269, by simp, Int.emod_nonneg _ (by omega), Int.emod_lt_of_pos _ (by omega)⟩
  by_cases h : k < ns.length
  · let c : Int := if ix ns k < 0 then -(ix ns k) else ix ns k
    refine ⟨if 1000000000000000000 ≤ c then c else 0, (c % 2147483269 + 90011 * k + 47) % 2147483269, defM_ret rfl ((seq_at (ρ1 := [some (.arg (ns.map .int)), some (.int k), some (.int c)]) (μ1 := μ) ?_).trans (fin c)), bag c⟩
    have e1 : gIxL (ns.map .int) (k : Int) μ = .ok (.int (ix ns k)) μ := by rw [gIxL_map (x := 0) (by omega) (by omega)]; rfl
    simp [h, e1, c]
  · refine ⟨_, _, defM_ret rfl ((seq_at (ρ1 := [some (.arg (ns.map .int)), some (.int k), some (.int (61 * k + 23))]) (μ1 := μ) ?_).trans (fin _)), bag _⟩
    have w1 : gMulI (.int 61) (.int k) μ = .ok (.int (61 * k)) μ := gMulI_int (by omega) (by omega)
    have h' : ¬ ((k : Int) < ns.length) := by omega
    simp [h, w1]
/-- a list to be read, beside the bag -/
def LstAt (n : Nat) (μ : Store) (d : D) (xs : List D) : Prop := d = .lst xs ∨ ∃ q : Nat, d = .ptr q ∧ q ≠ n ∧ μ[q]? = some (.lst xs)
theorem law_of_ok {d : D} {xs : List D} (h : Bag n μ) (hd : LstAt n μ d xs) (h1 : xs ≠ []) (h2 : xs.length ≤ 1000000) : ∃ y μ', m__law_of [.ptr n, d] μ = .ok y μ' ∧ y ∈ xs ∧ Bg n μ μ' := by
  have hl : 0 < xs.length := List.length_pos_iff.mpr h1
  obtain ⟨v, μ', e, v1, v2, bg⟩ := law_take_ok (m := xs.length) h (by omega) (by omega)
  have hv : v.toNat < xs.length := by omega
  have ei : gIxL xs v μ' = .ok xs[v.toNat] μ' := gIxL_nn v1 (List.getElem?_eq_getElem hv)
  refine ⟨xs[v.toNat], μ', defM_ret rfl ?_, List.getElem_mem hv, bg⟩
  rcases hd with rfl | ⟨q, rfl, hq, hx⟩
  · simp [e, ei]
  · have g1 := gLen_ptr hx
    have g2 : gIx (.ptr q) (.int v) μ' = .ok xs[v.toNat] μ' := by rw [gIx_ptr ((bg.old q hq).trans hx), ei]
    simp [g1, e, g2]
/-- bars as drawn -/
structure BarsOk (m : Nat) (b : List (List Int)) : Prop where
  asc : ∀ l ∈ b, l.Pairwise (· < ·)
  ran : ∀ l ∈ b, ∀ i ∈ l, 0 ≤ i ∧ i < m
theorem law_bars_ok {m : Nat} (h : Bag n μ) (hm : m ≤ 100) : ∃ b μ', m__law_bars [.ptr n, .int m] μ = .ok (barsD b) μ' ∧ b.length = m ∧ BarsOk m b ∧ Bg n μ μ' := by
  obtain ⟨w, μ1, e0, w1, w2, bg0⟩ := law_take_ok (m := 4) h (by omega) (by omega)
  have main := for_pre (f := D.int) (g := gVar 2) (c := always) (body := sSeq (sSet 5 (eIf (tOf (eBin gLt (eVar 3) (eC (.int 2)))) (eLst false (aCons (eVar 2) aNil)) (eLst false aNil)))
    (sSeq (sFor (iRange1 (eVar 1)) (gVar 6) (sIf (tAndM (tOf (eBin (gIn true) (eVar 6) (eVar 5))) (tOf (eBin (gEq false) (eCall m__law_take (aCons (eVar 0) (aCons (eIf (tOf (eBin (gEq true) (eVar 3) (eC (.int 1)))) (eC (.int 4)) (eC (.int 7))) aNil))) (eC (.int 0))))) (sSet 5 (eBin (gAdd false) (eVar 5) (eLst false (aCons (eVar 6) aNil)))) sNil))
    (sSet 4 (eBin (gAdd false) (eVar 4) (eTup (aCons (eCall gTuple (aCons (eCall gSorted (aCons (eVar 5) aNil)) aNil)) aNil))))))
    (fun p ρ μ' => Bg n μ μ' ∧ ∃ b x5 x6 x2, b.length = p.length ∧ BarsOk m b ∧ ρ = [some (.ptr n), some (.int m), x2, some (.int w), some (barsD b), x5, x6]) (rng m)
    (ρ := [some (.ptr n), some (.int m), none, some (.int w), some (.tup []), none, none]) (μ := μ1) (fun _ _ _ _ => rfl) ?_ ⟨bg0, [], none, none, none, rfl, ⟨fun _ h => (nomatch h), fun _ h => (nomatch h)⟩, rfl⟩
  · obtain ⟨ρ', μ', e, bg, b, x5, x6, x2, hb, ok, rfl⟩ := main
    rw [rng_len] at hb
    refine ⟨b, μ', defM_ret rfl ?_, hb, ok, bg⟩
    simp [e0, kR1_nat (show m ≤ 1000 by omega), rngD_0, e]
  · rintro p a s ρ μ' hp ⟨bg, b, x5, x6, x2, hb, ok, rfl⟩
    have ha : a ∈ rng m := by rw [hp]; simp
    have hpl : p.length ≤ 100 := by
      have := congrArg List.length hp
      rw [rng_len, List.length_append] at this
      omega
    have main := for_pre (f := D.int) (g := gVar 6) (c := always) (body := sIf (tAndM (tOf (eBin (gIn true) (eVar 6) (eVar 5))) (tOf (eBin (gEq false) (eCall m__law_take (aCons (eVar 0) (aCons (eIf (tOf (eBin (gEq true) (eVar 3) (eC (.int 1)))) (eC (.int 4)) (eC (.int 7))) aNil))) (eC (.int 0))))) (sSet 5 (eBin (gAdd false) (eVar 5) (eLst false (aCons (eVar 6) aNil)))) sNil)
      (fun q ρ μ' => Bg n μ μ' ∧ ∃ (l : List Int) (x6 : Option D), l.Nodup ∧ (∀ i ∈ l, i ∈ rng m) ∧ ρ = [some (.ptr n), some (.int m), some (.int a), some (.int w), some (barsD b), some (.lst (l.map .int)), x6]) (rng m)
      (ρ := [some (.ptr n), some (.int m), some (.int a), some (.int w), some (barsD b), some (.lst ((if w < 2 then [a] else []).map .int)), x6]) (μ := μ') (fun _ _ _ _ => rfl) ?_ ⟨bg, if w < 2 then [a] else [], x6, by split <;> simp, by split <;> simp [ha], rfl⟩
    · obtain ⟨ρ2, μ2, e, bg2, l, x6', hn, hl, rfl⟩ := main
      refine ⟨[some (.ptr n), some (.int m), some (.int a), some (.int w), some (barsD (b ++ [sortI l])), some (.lst (l.map .int)), x6'], μ2, ?_, bg2, b ++ [sortI l], _, _, _, by simp [hb], ⟨fun l' h => ?_, fun l' h => ?_⟩, rfl⟩
      · have ga : gAdd false (barsD b) (.tup [.tup ((sortI l).map .int)]) μ2 = .ok (barsD (b ++ [sortI l])) μ2 := by
          rw [barsD, gAdd_tup false (by simp; omega), barsD, List.map_append]; rfl
        by_cases hw : w < 2
        · simp only [hw, if_true, List.map_cons, List.map_nil] at e
          simp [hw, kR1_nat (show m ≤ 1000 by omega), rngD_0, e, ga]
        · simp only [hw, if_false, List.map_nil] at e
          simp [hw, kR1_nat (show m ≤ 1000 by omega), rngD_0, e, ga]
      · rcases List.mem_append.mp h with h | h
        · exact ok.asc l' h
        · rw [List.mem_singleton.mp h]; exact sortI_asc hn
      · rcases List.mem_append.mp h with h | h
        · exact ok.ran l' h
        · rw [List.mem_singleton.mp h]; exact fun i hi => mem_rng.mp (hl i (sortI_mem.mp hi))
    · rintro q c s' ρ μ' hq ⟨bg, l, x6, hn, hl, rfl⟩
      have hc : c ∈ rng m := by rw [hq]; simp
      have hll : l.length ≤ m := int_len hn fun i hi => mem_rng.mp (hl i hi)
      by_cases h1 : c ∈ l
      · exact ⟨_, μ', by simp [h1], bg, l, some (.int c), hn, hl, rfl⟩
      · have tk : ∃ v μ2, (∀ u : Int, u = (if w = 1 then 7 else 4) → m__law_take [.ptr n, .int u] μ' = .ok (.int v) μ2) ∧ Bg n μ' μ2 := by
          obtain ⟨v, μ2, e, _, _, b2⟩ := law_take_ok (m := if w = 1 then 7 else 4) bg.bag (by split <;> omega) (by split <;> omega)
          exact ⟨v, μ2, fun u hu => by rw [hu]; exact e, b2⟩
        obtain ⟨v, μ2, e, b2⟩ := tk
        by_cases hv : v = 0
        · refine ⟨[some (.ptr n), some (.int m), some (.int a), some (.int w), some (barsD b), some (.lst ((l ++ [c]).map .int)), some (.int c)], μ2, ?_, bg.trans b2, l ++ [c], _, ?_, ?_, rfl⟩
          · have ga : gAdd false (.lst (l.map D.int)) (.lst [.int c]) μ2 = .ok (.lst ((l ++ [c]).map .int)) μ2 := by
              rw [gAdd_lst false (by simp; omega)]; simp
            by_cases hw : w = 1
            · simp [h1, hw, e 7 (by simp [hw]), hv, ga]
            · simp [h1, hw, e 4 (by simp [hw]), hv, ga]
          · exact List.nodup_append.mpr ⟨hn, by simp, fun x hx y hy e => h1 (by rw [← List.mem_singleton.mp hy, ← e]; exact hx)⟩
          · intro i hi
            rcases List.mem_append.mp hi with h | h
            · exact hl i h
            · rw [List.mem_singleton.mp h]; exact hc
        · refine ⟨[some (.ptr n), some (.int m), some (.int a), some (.int w), some (barsD b), some (.lst (l.map .int)), some (.int c)], μ2, ?_, bg.trans b2, l, _, hn, hl, rfl⟩
          by_cases hw : w = 1
          · simp [h1, hw, e 7 (by simp [hw]), hv]
          · simp [h1, hw, e 4 (by simp [hw]), hv]
theorem law_rule_ok (h : Bag n μ) {m : Nat} (h1 : 2 ≤ m) (h2 : m ≤ 6) : ∃ r μ', m__law_rule [.ptr n, .int m] μ = .ok (ruleD r) μ' ∧ r.Ok ∧ r.b.length ≤ m ∧ Bg n μ μ' := by
  obtain ⟨v, μ1, e1, v1, v2, bg1⟩ := law_take_ok (m := (m : Int) - 1) h (by omega) (by omega)
  have hv : (2 : Int) + v = ((2 + v.toNat : Nat) : Int) := by omega
  obtain ⟨b, μ2, e2, hb, ok, bg2⟩ := law_bars_ok (m := 2 + v.toNat) bg1.bag (by omega)
  obtain ⟨u, μ3, e3, u1, u2, bg3⟩ := law_take_ok (m := 3) bg2.bag (by omega) (by omega)
  obtain ⟨y, μ4, e4, hy, bg4⟩ := law_of_ok (d := .lst [.str "again", .str "again", .str "swap", .str "swap", .str "anew"]) bg3.bag (.inl rfl) (by simp) (by simp)
  have : ∃ w : Str, y = .str w ∧ (w = "again" ∨ w = "anew" ∨ w = "swap") := by
    simp only [List.mem_cons, List.not_mem_nil, or_false] at hy
    rcases hy with h | h | h | h | h <;> exact ⟨_, h, by simp⟩
  obtain ⟨w, rfl, hw⟩ := this
  refine ⟨⟨b, decide (u = 0), w⟩, μ4, defM_ret rfl ?_, ⟨by show 2 ≤ b.length; omega, by show b.length ≤ 6; omega, ok.asc, by show ∀ l ∈ b, ∀ i ∈ l, 0 ≤ i ∧ i < (b.length : Int); rw [hb]; exact ok.ran, hw⟩, by show b.length ≤ m; omega, ((bg1.trans bg2).trans bg3).trans bg4⟩
  rw [← hv] at e2
  simp [e1, e2, e3, e4, ruleD]
end
end Lw
namespace Lw
open PySem PySem.Spec PyProof.Rows L2 DL
section
variable {n : Nat} {μ : Store}
theorem gEq_lst_nil (neg : Bool) (l : List Int) : gEq neg (.lst (l.map .int)) (.lst []) μ = .ok (.bl (if neg then !decide (l = []) else decide (l = []))) μ := gEq_lstI (m := []) neg
theorem gEq_self {m : Nat} {d : D} (neg : Bool) (h : cl m d = true) (hm : m ≤ 64 := by decide) : gEq neg d d μ = .ok (.bl (!neg)) μ := by
  rw [gEq_cl (n := m) neg (by rw [view_of μ h]; exact h) (by rw [view_of μ h]; exact h) hm]
  cases neg <;> simp
theorem cl_pairs (l : List (Int × Int)) : cl 2 (.lst (l.map pairD)) = true := cl_lst fun z hz => by
  obtain ⟨p, _, rfl⟩ := List.mem_map.mp hz
  rfl
theorem remove_ptr {q : Nat} {l : List Int} {i : Int} (h : μ[q]? = some (.lst (l.map .int))) (hi : i ∈ l) : gMut hRemove (.ptr q) [.int i] μ = .ok .non (μ.set q (.lst ((l.erase i).map .int))) := by
  refine gMut_ptr h ?_
  simp only [hRemove, intsOf_map, if_pos hi]
theorem Bag.set {q : Nat} {o : Ob} (h : Bag n μ) (hq : q ≠ n) : Bag n (μ.set q o) := by
  obtain ⟨x, y, h1, h2⟩ := h
  exact ⟨x, y, by rw [List.getElem?_set_ne hq]; exact h1, h2⟩
theorem Bag.lt (h : Bag n μ) : n < μ.length := by
  obtain ⟨x, y, h1, h2⟩ := h
  exact (List.getElem?_eq_some_iff.mp h1).1
theorem Bag.app (h : Bag n μ) (l : Store) : Bag n (μ ++ l) := by
  have := h.lt
  obtain ⟨x, y, h1, h2⟩ := h
  exact ⟨x, y, by rw [List.getElem?_append_left this]; exact h1, h2⟩
theorem rng_nodup (n : Nat) : (rng n).Nodup := List.pairwise_map.mpr (List.nodup_range.imp fun q e => q (by omega))
/-! data with itself -/
def okE : Nat → D → Bool
  | _, .non => true
  | _, .int _ => true
  | _, .bl _ => true
  | _, .str s => PyData.strOk s
  | n + 1, .tup xs => xs.all (okE n)
  | n + 1, .lst xs => xs.all (okE n)
  | _, _ => false
theorem okE_py : ∀ (n : Nat) (d : D), okE n d = true → ∃ p, Cl n d p
  | n, .non, _ => ⟨.none, rfl, by simp [PyData.canLay0], by simp [PyData.depth]⟩
  | n, .int i, _ => ⟨.int i, rfl, by simp [PyData.canLay0], by simp [PyData.depth]⟩
  | n, .bl i, _ => ⟨.bool i, rfl, by simp [PyData.canLay0], by simp [PyData.depth]⟩
  | n, .str s, h => ⟨.str s, rfl, by simpa [PyData.canLay0, okE] using h, by simp [PyData.depth]⟩
  | n + 1, .tup xs, h => by
    have h' : ∀ x ∈ xs, okE n x = true := by simpa [okE] using h
    obtain ⟨ps, h1, h2, h3⟩ := clL (n := n) fun x hx => okE_py n x (h' x hx)
    exact ⟨.tuple ps, by simp only [toPy, h1, Option.map_some], by simpa [PyData.canLay0] using h2, by simp only [PyData.depth]; omega⟩
  | n + 1, .lst xs, h => by
    have h' : ∀ x ∈ xs, okE n x = true := by simpa [okE] using h
    obtain ⟨ps, h1, h2, h3⟩ := clL (n := n) fun x hx => okE_py n x (h' x hx)
    exact ⟨.list ps, by simp only [toPy, h1, Option.map_some], by simpa [PyData.canLay0] using h2, by simp only [PyData.depth]; omega⟩
  | 0, .tup xs, h => by simp [okE] at h
  | 0, .lst xs, h => by simp [okE] at h
  | _, .arg _, h => by simp [okE] at h
  | _, .ptr _, h => by simp [okE] at h
  | _, .raw _, h => by simp [okE] at h
theorem gEq_refl {m : Nat} {d : D} (neg : Bool) (h : okE m d = true) (hm : m ≤ 64 := by decide) : gEq neg d d μ = .ok (.bl (!neg)) μ := by
  obtain ⟨p, hp⟩ := okE_py m d h
  have hv : view μ d = d := by
    cases d <;> first | rfl | (simp [okE] at h)
  have e : eqB μ d d = some true := by
    unfold eqB pyV
    simp only [hv, hp.py, cl_shaped hp hm, Bool.and_self, if_true, SeqAt.eqv_refl p hp.lay]
  unfold gEq
  rw [e]
  cases neg <;> rfl
theorem okE_names (l : List Int) (n : Nat) : okE (n + 1) (namesD l) = true := by
  simp only [namesD, okE, List.all_map, List.all_eq_true]
  intro x _
  cases n <;> rfl
theorem okE_bars (b : List (List Int)) (n : Nat) : okE (n + 2) (barsD b) = true := by
  simp only [barsD, okE, List.all_map, List.all_eq_true]
  intro l _
  exact okE_names l n
theorem okE_rule {r : Rl} (h : r.w = "again" ∨ r.w = "anew" ∨ r.w = "swap") : okE 3 (ruleD r) = true := by
  have hw : okE 2 (.str r.w) = true := by rcases h with h | h | h <;> rw [h] <;> decide +kernel
  have hw' : PyData.strOk r.w = true := by simpa [okE] using hw
  simp only [ruleD, okE, List.all_cons, List.all_nil, okE_bars r.b 0, hw', Bool.and_self, Bool.and_true]
end
/-- all lists that may bar -/
def subs : List Int → List (List Int)
  | [] => [[]]
  | x :: xs => subs xs ++ (subs xs).map (x :: ·)
theorem mem_subs {l m : List Int} (h : l.Sublist m) : l ∈ subs m := by
  induction h with
  | slnil => simp [subs]
  | cons a h ih => exact List.mem_append_left _ ih
  | cons_cons a h ih => exact List.mem_append_right _ (List.mem_map.mpr ⟨_, ih, rfl⟩)
theorem asc_ext : ∀ (l m : List Int), l.Pairwise (· < ·) → m.Pairwise (· < ·) → (∀ i, i ∈ l ↔ i ∈ m) → l = m
  | [], [], _, _, _ => rfl
  | [], y :: m, _, _, h => absurd ((h y).mpr List.mem_cons_self) (by simp)
  | x :: l, [], _, _, h => absurd ((h x).mp List.mem_cons_self) (by simp)
  | x :: l, y :: m, hl, hm, h => by
    have hl' := List.pairwise_cons.mp hl
    have hm' := List.pairwise_cons.mp hm
    have e : x = y := by
      rcases List.mem_cons.mp ((h x).mp List.mem_cons_self) with q | q
      · exact q
      · rcases List.mem_cons.mp ((h y).mpr List.mem_cons_self) with q2 | q2
        · exact q2.symm
        · have := hm'.1 x q
          have := hl'.1 y q2
          omega
    subst e
    congr 1
    refine asc_ext l m hl'.2 hm'.2 fun i => ⟨fun hi => ?_, fun hi => ?_⟩
    · rcases List.mem_cons.mp ((h i).mp (List.mem_cons_of_mem _ hi)) with q | q
      · have := hl'.1 i hi
        omega
      · exact q
    · rcases List.mem_cons.mp ((h i).mpr (List.mem_cons_of_mem _ hi)) with q | q
      · have := hm'.1 i hi
        omega
      · exact q
theorem rng_asc (n : Nat) : (rng n).Pairwise (· < ·) := List.pairwise_map.mpr (List.pairwise_lt_range.imp fun q => by omega)
theorem subs_mem : ∀ (m l : List Int), l ∈ subs m → ∀ i ∈ l, i ∈ m
  | [], l, h, i, hi => by simp only [subs, List.mem_singleton] at h; rw [h] at hi; exact hi
  | x :: m, l, h, i, hi => by
    simp only [subs, List.mem_append, List.mem_map] at h
    rcases h with h | ⟨l', h, rfl⟩
    · exact List.mem_cons_of_mem _ (subs_mem m l h i hi)
    · rcases List.mem_cons.mp hi with q | q
      · rw [q]; exact List.mem_cons_self
      · exact List.mem_cons_of_mem _ (subs_mem m l' h i q)
end Lw
namespace Lw
open PySem PySem.Spec PyProof.Rows L2 DL
/-! ### rows: what people can have -/
def behind (r : Rl) (ns : List Int) : List (List Int) :=
  if letOf r ns ≠ [] then (letOf r ns).map fun x => ns ++ [x]
  else if r.w ≠ "swap" then [] else (pairsOf r ns).map fun p => exch ns p.1 p.2
def turnsAt (r : Rl) : Nat → List (List Int)
  | 0 => [[]]
  | p + 1 => ssort ((turnsAt r p).flatMap (behind r))
section
variable {μ : Store} {r : Rl} {ns : List Int} {i j : Int}
theorem letOf_mem (h : i ∈ letOf r ns) : (0 ≤ i ∧ i < r.b.length) ∧ i ∉ ns := left_mem.mp (List.mem_filter.mp h).1
theorem pairs_mem {p : Int × Int} (h : p ∈ pairsOf r ns) : (0 ≤ p.1 ∧ p.1 < ns.length) ∧ (0 ≤ p.2 ∧ p.2 < r.b.length) ∧ p.2 ∉ ns := by
  simp only [pairsOf, prs, List.mem_flatMap, List.mem_map, List.mem_filter] at h
  obtain ⟨e, he, n, ⟨hn, _⟩, rfl⟩ := h
  have := left_mem.mp hn
  exact ⟨mem_rng.mp he, this.1, this.2⟩
theorem ns_snoc (h : Ns r ns) (hi : 0 ≤ i ∧ i < r.b.length) (hn : i ∉ ns) : Ns r (ns ++ [i]) :=
  ⟨List.nodup_append.mpr ⟨h.nd, by simp, fun x hx y hy e => hn (by rw [← List.mem_singleton.mp hy, ← e]; exact hx)⟩, fun j hj => by
    rcases List.mem_append.mp hj with q | q
    · exact h.ran j q
    · rw [List.mem_singleton.mp q]; exact hi⟩
theorem nodup_set {l : List Int} {k : Nat} {x : Int} (h : l.Nodup) (hx : x ∉ l) : (l.set k x).Nodup := by
  induction l generalizing k with
  | nil => simp
  | cons a l ih =>
    have h' := List.nodup_cons.mp h
    cases k with
    | zero => exact List.nodup_cons.mpr ⟨fun q => hx (List.mem_cons_of_mem _ q), h'.2⟩
    | succ k =>
      rw [List.set_cons_succ]
      refine List.nodup_cons.mpr ⟨fun q => ?_, ih h'.2 fun q => hx (List.mem_cons_of_mem _ q)⟩
      rcases List.mem_or_eq_of_mem_set q with q | q
      · exact h'.1 q
      · exact hx (by rw [← q]; exact List.mem_cons_self)
theorem not_mem_set {l : List Int} {k : Nat} {x : Int} (h : l.Nodup) (hk : k < l.length) (hx : x ∉ l) : l[k] ∉ l.set k x := by
  intro q
  obtain ⟨m, hm, e⟩ := List.mem_iff_getElem.mp q
  rw [List.length_set] at hm
  by_cases hmk : k = m
  · subst hmk
    rw [List.getElem_set_self] at e
    exact hx (by rw [e]; exact List.getElem_mem hk)
  · rw [List.getElem_set_ne hmk] at e
    exact hmk ((List.getElem_inj h).mp e.symm)
theorem ns_exch (h : Ns r ns) (hi : 0 ≤ i ∧ i < ns.length) (hj : 0 ≤ j ∧ j < r.b.length) (hn : j ∉ ns) : Ns r (exch ns i j) := by
  have hk : i.toNat < ns.length := by omega
  have e1 : ix ns i = ns[i.toNat] := by simp [ix, List.getD_eq_getElem?_getD, List.getElem?_eq_getElem hk]
  rw [exch, withName_set hi.1 hi.2]
  refine ⟨List.nodup_append.mpr ⟨nodup_set h.nd hn, by simp, fun x hx y hy e => ?_⟩, fun x hx => ?_⟩
  · rw [List.mem_singleton.mp hy, e1] at e
    exact not_mem_set h.nd hk hn (by rw [← e]; exact hx)
  · rcases List.mem_append.mp hx with q | q
    · rcases List.mem_or_eq_of_mem_set q with q | q
      · exact h.ran x q
      · rw [q]; exact hj
    · rw [List.mem_singleton.mp q]
      exact h.ran _ (ix_mem hi.1 hi.2)
theorem behind_ns (h : Ns r ns) {m : List Int} (hm : m ∈ behind r ns) : Ns r m ∧ m.length = ns.length + 1 := by
  unfold behind at hm
  split at hm
  · obtain ⟨x, hx, rfl⟩ := List.mem_map.mp hm
    have := letOf_mem hx
    exact ⟨ns_snoc h this.1 this.2, by simp⟩
  · split at hm
    · cases hm
    · obtain ⟨p, hp, rfl⟩ := List.mem_map.mp hm
      have := pairs_mem hp
      exact ⟨ns_exch h this.1 this.2.1 this.2.2, exch_len this.1.1 this.1.2⟩
theorem turns_ns : ∀ (p : Nat) {ns : List Int}, ns ∈ turnsAt r p → Ns r ns ∧ ns.length = p
  | 0, ns, h => by
    rw [List.mem_singleton.mp h]
    exact ⟨⟨List.nodup_nil, fun _ h => (nomatch h)⟩, rfl⟩
  | p + 1, ns, h => by
    rw [turnsAt, mem_ssort, List.mem_flatMap] at h
    obtain ⟨m, hm, hn⟩ := h
    have h1 := turns_ns p hm
    have h2 := behind_ns h1.1 hn
    exact ⟨h2.1, by rw [h2.2, h1.2]⟩
theorem ssort_nodup (rows : List (List Int)) : (ssort rows).Nodup := by
  unfold ssort
  exact (List.mergeSort_perm _ _).nodup_iff.mpr (dd_nodup rows)
theorem turns_nodup : ∀ p : Nat, (turnsAt r p).Nodup
  | 0 => by simp [turnsAt]
  | p + 1 => ssort_nodup _
/-! how many -/
def allRows (n : Nat) : Nat → List (List Int)
  | 0 => [[]]
  | p + 1 => (allRows n p).flatMap fun ns => ((rng n).filter fun x => !decide (x ∈ ns)).map fun x => ns ++ [x]
theorem mem_allRows {n : Nat} : ∀ (p : Nat) (ns : List Int), ns.Nodup → (∀ i ∈ ns, 0 ≤ i ∧ i < n) → ns.length = p → ns ∈ allRows n p
  | 0, ns, _, _, h => by rw [List.length_eq_zero_iff.mp h]; simp [allRows]
  | p + 1, ns, h1, h2, h => by
    rcases List.eq_nil_or_concat ns with e | ⟨m, x, e⟩
    · rw [e] at h; cases h
    · have e : ns = m ++ [x] := by rw [e, List.concat_eq_append]
      subst e
      have h1' := List.nodup_append.mp h1
      rw [allRows, List.mem_flatMap]
      refine ⟨m, mem_allRows p m h1'.1 (fun i hi => h2 i (List.mem_append_left _ hi)) (by simpa using h), List.mem_map.mpr ⟨x, List.mem_filter.mpr ⟨mem_rng.mpr (h2 x (by simp)), ?_⟩, rfl⟩⟩
      simp only [Bool.not_eq_true', decide_eq_false_iff_not]
      exact fun q => h1'.2.2 x q x (by simp) rfl
theorem sum_sub {α : Type} [DecidableEq α] (f : α → Nat) : ∀ (l m : List α), l.Nodup → (∀ x ∈ l, x ∈ m) → (l.map f).sum ≤ (m.map f).sum
  | [], m, _, _ => by simp
  | x :: l, m, h, hs => by
    have h' := List.nodup_cons.mp h
    have hx := hs x List.mem_cons_self
    have ih := sum_sub f l (m.erase x) h'.2 fun y hy => (List.mem_erase_of_ne (fun e => h'.1 (by rw [← e]; exact hy))).mpr (hs y (List.mem_cons_of_mem _ hy))
    have e : (m.map f).sum = f x + ((m.erase x).map f).sum := by
      have := ((List.perm_cons_erase hx).map f).sum_nat
      rw [this, List.map_cons, List.sum_cons]
    rw [List.map_cons, List.sum_cons, e]
    omega
theorem flat_sum {α β : Type} (f : α → List β) : ∀ l : List α, (l.flatMap f).length = (l.map fun a => (f a).length).sum
  | [] => rfl
  | a :: l => by rw [List.flatMap_cons, List.length_append, flat_sum f l, List.map_cons, List.sum_cons]
theorem turns_sum (f : List Int → Nat) (p : Nat) : ((turnsAt r p).map f).sum ≤ ((allRows r.b.length p).map f).sum :=
  sum_sub f _ _ (turns_nodup p) fun ns h => mem_allRows p ns (turns_ns p h).1.nd (turns_ns p h).1.ran (turns_ns p h).2
theorem len_split {α : Type} (p : α → Bool) : ∀ l : List α, (l.filter p).length + (l.filter fun x => !p x).length = l.length
  | [] => rfl
  | x :: l => by
    have := len_split p l
    cases h : p x <;> simp [h] <;> omega
theorem left_count (h : Ns r ns) : (left r ns).length + ns.length = r.b.length := by
  have h1 : ((rng r.b.length).filter fun n => decide (n ∈ ns)).length = ns.length := by
    have e : ((rng r.b.length).filter fun n => decide (n ∈ ns)).Perm ns := (List.perm_ext_iff_of_nodup ((rng_nodup _).sublist List.filter_sublist) h.nd).mpr fun i => by
      simp only [List.mem_filter, mem_rng, decide_eq_true_eq]
      exact ⟨fun q => q.2, fun q => ⟨h.ran i q, q⟩⟩
    exact e.length_eq
  have h2 := len_split (fun n => decide (n ∈ ns)) (rng r.b.length)
  rw [rng_len, h1] at h2
  unfold left
  omega
theorem behind_len (h : Ns r ns) : (behind r ns).length ≤ (r.b.length - ns.length) * max 1 ns.length := by
  have hc := left_count h
  have hl : (left r ns).length = r.b.length - ns.length := by omega
  have h1 : (letOf r ns).length ≤ (left r ns).length := List.length_filter_le _ _
  have h2 : (pairsOf r ns).length ≤ ns.length * (left r ns).length := by
    have := flat_len (fun e => ((left r ns).filter (canEx r ns e)).map fun n => (e, n)) (left r ns).length (rng ns.length) fun e _ => by
      rw [List.length_map]; exact List.length_filter_le _ _
    rwa [rng_len] at this
  rw [← hl]
  unfold behind
  split
  · rw [List.length_map]
    exact Nat.le_trans h1 (Nat.le_mul_of_pos_right _ (by omega))
  · split
    · simp
    · rw [List.length_map]
      refine Nat.le_trans h2 ?_
      rw [Nat.mul_comm]
      exact Nat.mul_le_mul_left _ (Nat.le_max_right _ _)
/-- four people, the last one's turn: all bars of the last one, looked at one by one -/
def mock (B : List Int) (m : Bool) : Rl := ⟨[[], [], [], B], m, "swap"⟩
theorem mock_all : ((subs (rng 4)).all fun B => [true, false].all fun m => decide (((allRows 4 3).map fun ns => (behind (mock B m) ns).length).sum < 64)) = true := by decide +kernel
theorem mock_let (hb : r.b.length = 4) (hl : ns.length = 3) : letOf (mock (ixL r.b 3) r.m) ns = letOf r ns := by
  have e1 : left (mock (ixL r.b 3) r.m) ns = left r ns := by unfold left; rw [hb]; rfl
  unfold letOf
  rw [e1]
  congr 1
  funext n
  unfold isLet
  rw [hl]
  rfl
theorem mock_ex (hl : ns.length = 3) {e n : Int} (he : e ∈ rng 3) (h : canEx r ns e n = true) : canEx (mock (ixL r.b 3) r.m) ns e n = true := by
  have he' := mem_rng.mp he
  have e0 : ixL (mock (ixL r.b 3) r.m).b e = [] := by
    have : e = 0 ∨ e = 1 ∨ e = 2 := by omega
    rcases this with h | h | h <;> subst h <;> rfl
  unfold canEx at h ⊢
  rw [hl] at h ⊢
  rw [e0]
  have e3 : ixL (mock (ixL r.b 3) r.m).b ((3 : Nat) : Int) = ixL r.b ((3 : Nat) : Int) := rfl
  rw [e3]
  simp only [Bool.and_eq_true, Bool.not_eq_true', Bool.or_eq_false_iff] at h ⊢
  exact ⟨⟨h.1.1, by simp⟩, h.2⟩
theorem filter_len {α : Type} {p q : α → Bool} : ∀ (l : List α), (∀ x ∈ l, p x = true → q x = true) → (l.filter p).length ≤ (l.filter q).length
  | [], _ => by simp
  | x :: l, h => by
    have ih := filter_len l fun y hy => h y (List.mem_cons_of_mem _ hy)
    cases hp : p x with
    | true =>
      rw [List.filter_cons_of_pos hp, List.filter_cons_of_pos (h x List.mem_cons_self hp), List.length_cons, List.length_cons]; omega
    | false =>
      rw [List.filter_cons_of_neg (by simp [hp])]
      cases hq : q x with
      | true => rw [List.filter_cons_of_pos hq, List.length_cons]; omega
      | false => rw [List.filter_cons_of_neg (by simp [hq])]; exact ih
theorem sum_mono {α : Type} (f g : α → Nat) : ∀ l : List α, (∀ x ∈ l, f x ≤ g x) → (l.map f).sum ≤ (l.map g).sum
  | [], _ => by simp
  | x :: l, h => by
    have h1 := h x List.mem_cons_self
    have h2 := sum_mono f g l fun y hy => h y (List.mem_cons_of_mem _ hy)
    rw [List.map_cons, List.map_cons, List.sum_cons, List.sum_cons]; omega
theorem mock_behind (hb : r.b.length = 4) (hl : ns.length = 3) : (behind r ns).length ≤ (behind (mock (ixL r.b 3) r.m) ns).length := by
  have e1 : left (mock (ixL r.b 3) r.m) ns = left r ns := by unfold left; rw [hb]; rfl
  unfold behind
  rw [mock_let hb hl]
  split
  · simp
  · split
    · simp
    · have e2 : ¬ ((mock (ixL r.b 3) r.m).w ≠ ("swap" : Str)) := by simp [mock]
      rw [if_neg e2, List.length_map, List.length_map]
      unfold pairsOf prs
      rw [flat_sum, flat_sum, e1, hl]
      refine sum_mono _ _ _ fun e he => ?_
      rw [List.length_map, List.length_map]
      exact filter_len _ fun n _ h => mock_ex hl he h
theorem later_few (h : r.Ok) (hn : r.b.length ≤ 4) {p : Nat} (hp : p < r.b.length) : ((turnsAt r p).flatMap (behind r)).length < 64 := by
  rw [flat_sum]
  by_cases hq : r.b.length = 4 ∧ p = 3
  · obtain ⟨h4, rfl⟩ := hq
    have h1 := sum_mono (fun ns => (behind r ns).length) (fun ns => (behind (mock (ixL r.b 3) r.m) ns).length) (turnsAt r 3) fun ns hns => mock_behind h4 (turns_ns 3 hns).2
    have h2 := turns_sum (r := r) (fun ns => (behind (mock (ixL r.b 3) r.m) ns).length) 3
    rw [h4] at h2
    have hB : ixL r.b 3 ∈ subs (rng 4) := by
      have hm : ixL r.b 3 ∈ r.b := by
        have h3 : (3 : Int).toNat < r.b.length := by omega
        simp only [ixL, List.getD_eq_getElem?_getD, List.getElem?_eq_getElem h3, Option.getD_some]
        exact List.getElem_mem h3
      have e : ixL r.b 3 = (rng 4).filter fun i => decide (i ∈ ixL r.b 3) := asc_ext _ _ (h.asc _ hm) ((rng_asc 4).sublist List.filter_sublist) fun i => by
        simp only [List.mem_filter, mem_rng, decide_eq_true_eq]
        exact ⟨fun hi => ⟨by have := h.ran _ hm i hi; omega, hi⟩, fun hi => hi.2⟩
      rw [e]
      exact mem_subs List.filter_sublist
    have hm : r.m ∈ [true, false] := by cases r.m <;> simp
    have h3 := List.all_eq_true.mp (List.all_eq_true.mp mock_all _ hB) r.m hm
    simp only [decide_eq_true_eq] at h3
    omega
  · have h1 := sum_mono (fun ns => (behind r ns).length) (fun _ => (r.b.length - p) * max 1 p) (turnsAt r p) fun ns hns => by
      have := behind_len (turns_ns p hns).1
      rw [(turns_ns p hns).2] at this
      exact this
    have h2 := turns_sum (r := r) (fun _ => (r.b.length - p) * max 1 p) p
    have hlo := h.lo
    generalize r.b.length = n at h1 h2 hn hp hlo hq
    have : ((allRows n p).map fun _ => (n - p) * max 1 p).sum < 64 := by
      have cs : (n = 2 ∧ (p = 0 ∨ p = 1)) ∨ (n = 3 ∧ (p = 0 ∨ p = 1 ∨ p = 2)) ∨ (n = 4 ∧ (p = 0 ∨ p = 1 ∨ p = 2)) := by omega
      rcases cs with ⟨rfl, rfl | rfl⟩ | ⟨rfl, rfl | rfl | rfl⟩ | ⟨rfl, rfl | rfl | rfl⟩ <;> decide +kernel
    omega
/-! the mirrors -/
theorem okE_rows (l : List (List Int)) : cl 2 (.lst (l.map rowD)) = true := cl_lst fun z hz => by
  obtain ⟨p, _, rfl⟩ := List.mem_map.mp hz
  exact cl_tupI p 0
theorem np_rows (l : List (List Int)) : noPtrL (l.map rowD) = true := np_L fun d hd => by
  obtain ⟨p, _, rfl⟩ := List.mem_map.mp hd
  exact np_names p
theorem names_behind_ok (h : r.b.length ≤ 100) (hl : ns.length < r.b.length) (hn : ∀ x ∈ ns, 0 ≤ x) (hw : PyData.strOk r.w = true) : m_names_behind [ruleD r, namesD ns] μ = .ok (.lst ((behind r ns).map rowD)) μ := by
  refine pure_ret (μ' := []) (by simp) rfl ?_ (by simp [np_rows])
  have al := all_let_ok (μ := []) (r := r) (ns := ns) (by omega) hl
  have lim : (letOf r ns).length ≤ 100 := Nat.le_trans (List.length_filter_le _ _) (Nat.le_trans left_len h)
  refine (seq_at (ρ1 := [some (ruleD r), some (namesD ns), some (.lst ((letOf r ns).map .int)), none, none]) (μ1 := []) (by simp [al])).trans ?_
  have nil := gEq_lst_nil (μ := []) true (letOf r ns)
  unfold behind
  by_cases h1 : letOf r ns = []
  · rw [if_neg (by simp [h1])]
    have nil' : gEq true (.lst []) (.lst []) [] = .ok (.bl false) [] := gEq_self (m := 1) true rfl
    refine (seq_at (ρ1 := [some (ruleD r), some (namesD ns), some (.lst ((letOf r ns).map .int)), none, none]) (μ1 := []) (by simp [h1, nil'])).trans ?_
    have ge : gEq true (.str r.w) (.str "swap") [] = .ok (.bl (!decide (r.w = "swap"))) [] := by
      rw [gEq_cl (n := 0) (x := .str r.w) (y := .str "swap") true (by simpa [view, cl] using hw) (by decide +kernel)]
      simp only [view, if_true]
      congr 3
      simp
    by_cases h2 : r.w = "swap"
    · rw [if_neg (by simp [h2])]
      refine (seq_at (ρ1 := [some (ruleD r), some (namesD ns), some (.lst ((letOf r ns).map .int)), none, none]) (μ1 := []) (by rw [h2] at ge; simp [ge, h2])).trans ?_
      have ae := all_exchanges_ok (μ := []) (r := r) (ns := ns) h hl hn
      rw [sRet_at, lc_all (ds := (pairsOf r ns).map pairD) (c := always) (μ1 := []) (fun d => match d with
        | .tup [.int a, .int b] => rowD (exch ns a b)
        | d => d)]
      · rw [retL_f, List.map_map, List.map_map]; rfl
      · simp [ae]
      · rfl
      · intro d hd
        obtain ⟨q, hq, rfl⟩ := List.mem_map.mp hd
        have := pairs_mem hq
        exact ⟨_, by simp [wipeE, pairD]; rfl, by simp [pairD, exchanged_ok this.1.1 this.1.2 (show ns.length ≤ 1000 by omega)]; rfl⟩
      · rw [List.length_map]
        have := prs_len (r := r) (ns := ns) (rng ns.length)
        rw [rng_len] at this
        have l2 : ns.length * r.b.length ≤ 100 * 100 := Nat.mul_le_mul (by omega) h
        show (prs r ns (rng ns.length)).length < _
        omega
    · rw [if_pos h2]
      simp [ge, h2]
  · rw [if_pos h1]
    rw [sSeq_at]
    have lc : eLc false (iSeq (eVar 2)) (gVar 3) tYesM (eBin (gAdd false) (eVar 1) (eTup (aCons (eVar 3) aNil))) [3] [some (ruleD r), some (namesD ns), some (.lst ((letOf r ns).map .int)), none, none] [] = .ok (.lst (((letOf r ns).map fun x => ns ++ [x]).map rowD)) [] := by
      rw [lc_all (ds := (letOf r ns).map .int) (c := always) (μ1 := []) (fun d => match d with
        | .int a => rowD (ns ++ [a])
        | d => d)]
      · rw [retL_f, List.map_map, List.map_map]; rfl
      · simp
      · rfl
      · intro d hd
        obtain ⟨x, hx, rfl⟩ := List.mem_map.mp hd
        have ga : gAdd false (namesD ns) (namesD [x]) [] = .ok (namesD (ns ++ [x])) [] := gAdd_names false (by simp; omega)
        exact ⟨_, by rw [gVar_at], by simp [wipeE, tup_names1, ga]; rfl⟩
      · simp; omega
    simp [nil, h1, lc]
def levelsD (r : Rl) (k : Nat) : List D := (List.range k).map fun p => .lst ((turnsAt r p).map rowD)
theorem levels_succ (k : Nat) : levelsD r (k + 1) = levelsD r k ++ [.lst ((turnsAt r k).map rowD)] := by simp [levelsD, List.range_succ]
theorem levels_len (k : Nat) : (levelsD r k).length = k := by simp [levelsD]
theorem levels_last (k : Nat) : gIxL (levelsD r (k + 1)) (-1) μ = .ok (.lst ((turnsAt r k).map rowD)) μ := by
  refine gIxL_at ?_
  unfold atI ixN
  rw [levels_len, if_neg (by omega), if_pos (by omega)]
  have : (-1 + ((k + 1 : Nat) : Int)).toNat = k := by omega
  rw [this, Option.bind_some, levels_succ, List.getElem?_append_right (by rw [levels_len]; exact Nat.le_refl _), levels_len]
  simp
theorem levels_at {k p : Nat} (h : p < k) : gIxL (levelsD r k) (p : Int) μ = .ok (.lst ((turnsAt r p).map rowD)) μ := by
  refine gIxL_nn (by omega) ?_
  simp [levelsD, h]
theorem np_levels (k : Nat) : noPtrL (levelsD r k) = true := np_L fun d hd => by
  obtain ⟨p, _, rfl⟩ := List.mem_map.mp hd
  exact np_rows _
theorem flat_take {α β : Type} (f : α → List β) (p : List α) (a : α) : (p ++ [a]).flatMap f = p.flatMap f ++ f a := by simp
theorem turns_of_ok (h : r.Ok) (hn : r.b.length ≤ 4) : m_turns_of [ruleD r] μ = .ok (.lst (levelsD r (r.b.length + 1))) μ := by
  have hlo := h.lo
  have hw : PyData.strOk r.w = true := by rcases h.way with q | q | q <;> rw [q] <;> decide +kernel
  have main := for_pre (f := D.int) (g := gVar 2) (c := always) (body := sSeq (sSet 3 (eLst false aNil))
    (sSeq (sFor (iSeq (eBin gIx (eVar 1) (eUn gNeg (eC (.int 1))))) (gVar 4) (sSet 3 (eBin (gAdd false) (eVar 3) (eCall m_names_behind (aCons (eVar 0) (aCons (eVar 4) aNil))))))
    (sSet 1 (eBin (gAdd false) (eVar 1) (eLst false (aCons (eSortSet (eVar 3)) aNil))))))
    (fun p ρ μ => μ = [] ∧ ∃ x2 x3 x4, ρ = [some (ruleD r), some (.lst (levelsD r (p.length + 1))), x2, x3, x4]) (rng r.b.length)
    (ρ := [some (ruleD r), some (.lst [.lst [.tup []]]), none, none, none]) (μ := []) (fun _ _ _ _ => rfl) ?_ ⟨rfl, none, none, none, rfl⟩
  · obtain ⟨ρ', μ', e, rfl, x2, x3, x4, rfl⟩ := main
    rw [rng_len] at e
    refine pure_ret (μ' := []) (by simp) rfl ?_ (by simp [np_levels])
    simp [kR1_nat (show r.b.length ≤ 1000 by omega), rngD_0, e]
  · rintro p a s ρ μ hp ⟨rfl, x2, x3, x4, rfl⟩
    have hpl := congrArg List.length hp
    rw [rng_len, List.length_append, List.length_cons] at hpl
    have few := later_few h hn (show p.length < r.b.length by omega)
    have main := for_pre (f := rowD) (g := gVar 4) (c := always) (body := sSet 3 (eBin (gAdd false) (eVar 3) (eCall m_names_behind (aCons (eVar 0) (aCons (eVar 4) aNil)))))
      (fun q ρ μ => μ = [] ∧ ∃ x4, ρ = [some (ruleD r), some (.lst (levelsD r (p.length + 1))), some (.int a), some (.lst ((q.flatMap (behind r)).map rowD)), x4]) (turnsAt r p.length)
      (ρ := [some (ruleD r), some (.lst (levelsD r (p.length + 1))), some (.int a), some (.lst []), x4]) (μ := []) (fun _ _ _ _ => rfl) ?_ ⟨rfl, x4, rfl⟩
    · obtain ⟨ρ', μ', e, rfl, x4', rfl⟩ := main
      have ss := gSortSet_at (μ := []) (rows := (turnsAt r p.length).flatMap (behind r)) (k := p.length + 1) few (by omega) fun m hm => by
        obtain ⟨ns, h1, h2⟩ := List.mem_flatMap.mp hm
        have a1 := turns_ns _ h1
        have a2 := behind_ns a1.1 h2
        exact ⟨by rw [a2.2, a1.2], fun i hi => by have := a2.1.ran i hi; omega⟩
      have ga : gAdd false (.lst (levelsD r (p.length + 1))) (.lst [.lst ((ssort ((turnsAt r p.length).flatMap (behind r))).map rowD)]) [] = .ok (.lst (levelsD r (p.length + 1 + 1))) [] := by
        rw [gAdd_lst false (by rw [levels_len]; simp; omega), retL_f, levels_succ (p.length + 1)]; rfl
      refine ⟨[some (ruleD r), some (.lst (levelsD r (p.length + 1 + 1))), some (.int a), some (.lst (((turnsAt r p.length).flatMap (behind r)).map rowD)), x4'], [], ?_, rfl, some (.int a), some (.lst (((turnsAt r p.length).flatMap (behind r)).map rowD)), x4', by simp⟩
      have lst1 : gIx (.lst (levelsD r (p.length + 1))) (.int (-1)) [] = .ok (.lst ((turnsAt r p.length).map rowD)) [] := by rw [gIx_lst, levels_last]
      rw [Mbind_at, gVar_at, and_ok]
      refine (seq_at (ρ1 := [some (ruleD r), some (.lst (levelsD r (p.length + 1))), some (.int a), some (.lst []), x4]) (μ1 := []) (by simp)).trans ?_
      refine (seq_at (ρ1 := [some (ruleD r), some (.lst (levelsD r (p.length + 1))), some (.int a), some (.lst (((turnsAt r p.length).flatMap (behind r)).map rowD)), x4']) (μ1 := []) ?_).trans ?_
      · rw [sFor_at, iSeq_at]
        simp only [eBin_at, eUn_at, eVar_at, eC_at, List.getElem?_cons_succ, List.getElem?_cons_zero, vr_some, and_ok, Mbind_at, gNeg_int, lst1, gSeq_lst]
        exact e
      · simp only [sSet_at, eBin_at, eLst_at, aCons_at, eSortSet_at, eVar_at, List.getElem?_cons_succ, List.getElem?_cons_zero, vr_some, and_ok, Mbind_at, ss, aNil_at, Mret_at, kLst_at _ (show ([D.lst ((ssort ((turnsAt r p.length).flatMap (behind r))).map rowD)]).length ≤ 16777216 by simp), retL_f, ga]
        rfl
    · rintro q ns s' ρ μ hq ⟨rfl, x4, rfl⟩
      have hns : ns ∈ turnsAt r p.length := by rw [hq]; simp
      have a1 := turns_ns _ hns
      have nb := names_behind_ok (μ := []) (r := r) (ns := ns) (by omega) (by rw [a1.2]; omega) (fun x hx => (a1.1.ran x hx).1) hw
      have l1 : (q.flatMap (behind r)).length + (behind r ns).length ≤ ((turnsAt r p.length).flatMap (behind r)).length := by
        rw [hq]; simp
      have ga : gAdd false (.lst ((q.flatMap (behind r)).map rowD)) (.lst ((behind r ns).map rowD)) [] = .ok (.lst (((q ++ [ns]).flatMap (behind r)).map rowD)) [] := by
        rw [gAdd_lst false (by simp only [List.length_map]; omega), flat_take, List.map_append]; rfl
      refine ⟨_, [], ?_, rfl, some (rowD ns), rfl⟩
      have nb' : m_names_behind [ruleD r, rowD ns] [] = .ok (.lst ((behind r ns).map rowD)) [] := nb
      simp only [Mbind_at, gVar_at, and_ok, sSet_at, eBin_at, eCall_at, aCons_at, eVar_at, List.set_cons_succ, List.set_cons_zero, List.getElem?_cons_succ, List.getElem?_cons_zero, vr_some, aNil_at, Mret_at, nb', ga]
def stuckB (r : Rl) (ns : List Int) : Bool := decide (letOf r ns = [])
theorem first_stuck_ok (h : r.Ok) {k p : Nat} (hk : p < k) (hp : p < r.b.length) : m_first_stuck [ruleD r, .lst (levelsD r k), .int p] μ = .ok (match (turnsAt r p).find? (stuckB r) with
    | some ns => rowD ns
    | none => .non) μ := by
  have hhi := h.hi
  have main := for_find (g := gVar 3) (c := always) (body := sIf (tOf (eBin (gEq false) (eCall m_all_let (aCons (eVar 0) (aCons (eVar 3) aNil))) (eLst false aNil))) (sRet (eVar 3)) sNil)
    (fun ρ μ => μ = [] ∧ ∃ x, ρ = [some (ruleD r), some (.lst (levelsD r k)), some (.int p), x]) (fun d => match d with
      | .tup b => match intsOf b with
        | some ns => stuckB r ns
        | none => false
      | _ => false) id ((turnsAt r p).map rowD) [some (ruleD r), some (.lst (levelsD r k)), some (.int p), none] [] (fun _ _ _ => rfl) ?_ ⟨rfl, none, rfl⟩
  · have ef : ((turnsAt r p).map rowD).find? (fun d => match d with
      | .tup b => match intsOf b with
        | some ns => stuckB r ns
        | none => false
      | _ => false) = ((turnsAt r p).find? (stuckB r)).map rowD := by
      rw [List.find?_map]
      congr 2
      funext ns
      simp only [Function.comp_apply, rowD, intsOf_map]
    rw [ef] at main
    have ix1 : gIx (.lst (levelsD r k)) (.int p) [] = .ok (.lst ((turnsAt r p).map rowD)) [] := by rw [gIx_lst, levels_at hk]
    cases e : (turnsAt r p).find? (stuckB r) with
    | some ns =>
      rw [e] at main
      obtain ⟨μ', e2⟩ := main
      refine pure_ret (μ' := μ') (by simp [np_levels]) rfl ?_ (np_names ns)
      rw [sSeq_at]
      simp only [sFor_at, iSeq_at, eBin_at, eVar_at, List.map_cons, List.map_nil, List.cons_append, List.nil_append, List.getElem?_cons_succ, List.getElem?_cons_zero, vr_some, and_ok, Mbind_at, ix1, gSeq_lst]
      show (forL always _ _ _ [some (ruleD r), some (.lst (levelsD r k)), some (.int p), none] []).and _ = _
      rw [e2]; rfl
    | none =>
      rw [e] at main
      obtain ⟨ρ', μ', e2, rfl, x, rfl⟩ := main
      refine pure_ret (μ' := []) (by simp [np_levels]) rfl ?_ rfl
      rw [sSeq_at]
      simp only [sFor_at, iSeq_at, eBin_at, eVar_at, List.map_cons, List.map_nil, List.cons_append, List.nil_append, List.getElem?_cons_succ, List.getElem?_cons_zero, vr_some, and_ok, Mbind_at, ix1, gSeq_lst]
      show (forL always _ _ _ [some (ruleD r), some (.lst (levelsD r k)), some (.int p), none] []).and _ = _
      rw [e2]; rfl
  · rintro d ρ μ hd ⟨rfl, x, rfl⟩
    obtain ⟨ns, hns, rfl⟩ := List.mem_map.mp hd
    have a1 := turns_ns _ hns
    have al := all_let_ok (μ := []) (r := r) (ns := ns) (by omega) (by rw [a1.2]; exact hp)
    have al' : m_all_let [ruleD r, rowD ns] [] = .ok (.lst ((letOf r ns).map .int)) [] := al
    have nil := gEq_lst_nil (μ := []) false (letOf r ns)
    have nil' : gEq false (.lst []) (.lst []) [] = .ok (.bl true) [] := gEq_self (m := 1) false rfl
    simp only [rowD, intsOf_map]
    by_cases hs : letOf r ns = []
    · have : stuckB r ns = true := by simp [stuckB, hs]
      rw [this, if_pos rfl]
      have al2 : m_all_let [ruleD r, .tup (ns.map .int)] [] = .ok (.lst ((letOf r ns).map .int)) [] := al
      simp [al2, hs, nil']
    · have : stuckB r ns = false := by simp [stuckB, hs]
      rw [this, if_neg (by simp)]
      have al2 : m_all_let [ruleD r, .tup (ns.map .int)] [] = .ok (.lst ((letOf r ns).map .int)) [] := al
      exact ⟨_, [], by simp [al2, hs, nil]; rfl, rfl, _, rfl⟩
end
end Lw
namespace Lw
open PySem PySem.Spec PyProof.Rows L2 DL
/-- a loop that returns v at the first item with p, by what holds behind the first items -/
theorem for_pret {α : Type} {f : α → D} {g : GM} {body : SM} {c : Store → Bool} (R : List α → DL.Env → Store → Prop) (p : α → Bool) (v : D) (l : List α) {ρ : DL.Env} {μ : Store} (hc : ∀ q ρ μ, R q ρ μ → c μ = true)
    (h : ∀ q a s ρ μ, l = q ++ a :: s → R q ρ μ → (p a = true ∧ ∃ μ', Mbind (g (f a) ρ) body μ = .ok (.ret v) μ') ∨ (p a = false ∧ ∃ ρ' μ', Mbind (g (f a) ρ) body μ = .ok (.nx ρ') μ' ∧ R (q ++ [a]) ρ' μ')) (r : R [] ρ μ) :
    (l.any p = true ∧ ∃ μ', forL c g body (l.map f) ρ μ = .ok (.ret v) μ') ∨ (l.any p = false ∧ ∃ ρ' μ', forL c g body (l.map f) ρ μ = .ok (.nx ρ') μ' ∧ R l ρ' μ') := by
  have main : ∀ (s q : List α) (ρ : DL.Env) (μ : Store), l = q ++ s → R q ρ μ → (s.any p = true ∧ ∃ μ', forL c g body (s.map f) ρ μ = .ok (.ret v) μ') ∨ (s.any p = false ∧ ∃ ρ' μ', forL c g body (s.map f) ρ μ = .ok (.nx ρ') μ' ∧ R l ρ' μ') := by
    intro s
    induction s with
    | nil =>
      intro q ρ μ e r
      refine .inr ⟨rfl, ρ, μ, ?_, by rw [e, List.append_nil]; exact r⟩
      rw [List.map_nil]; unfold forL; rw [if_pos (hc q ρ μ r)]
    | cons a s ih =>
      intro q ρ μ e r
      have step : ∀ fl μ1, Mbind (g (f a) ρ) body μ = .ok fl μ1 → forL c g body ((a :: s).map f) ρ μ = (match fl with
        | .nx ρ2 => forL c g body (s.map f) ρ2
        | .ct ρ2 => forL c g body (s.map f) ρ2
        | .bk ρ2 => Mret (.nx ρ2)
        | .ret d => Mret (.ret d)) μ1 := fun fl μ1 e1 => by
        rw [List.map_cons]
        conv => lhs; unfold forL
        rw [if_pos (hc q ρ μ r)]
        simp only [Mbind_at] at e1 ⊢
        cases e3 : g (f a) ρ μ with
        | ok ρ3 μ3 =>
          rw [e3] at e1
          simp only [and_ok, Mbind_at] at e1 ⊢
          rw [e1]
          rfl
        | _ => rw [e3] at e1; cases e1
      rcases h q a s ρ μ e r with ⟨hp, μ', e1⟩ | ⟨hp, ρ1, μ1, e1, r1⟩
      · exact .inl ⟨by rw [List.any_cons, hp]; rfl, μ', by rw [step _ _ e1]; rfl⟩
      · rcases ih (q ++ [a]) ρ1 μ1 (by rw [e]; simp) r1 with ⟨h1, μ', e2⟩ | ⟨h1, ρ', μ', e2, r2⟩
        · exact .inl ⟨by rw [List.any_cons, hp, h1]; rfl, μ', by rw [step _ _ e1]; exact e2⟩
        · exact .inr ⟨by rw [List.any_cons, hp, h1]; rfl, ρ', μ', by rw [step _ _ e1]; exact e2, r2⟩
  exact main l [] ρ μ rfl r
/-- a comprehension over the images of a list -/
theorem compL_map {α : Type} {fa : α → D} {c : Store → Bool} {g : GM} {t : DL.Env → M Bool} {f : DL.Env → M D} {ρ : DL.Env} {μ : Store} {p : α → Bool} {q : α → D} (hc : c μ = true) : ∀ (l : List α) (acc : List D),
    (∀ a ∈ l, ∃ ρ1, g (fa a) ρ μ = .ok ρ1 μ ∧ t ρ1 μ = .ok (p a) μ ∧ (p a = true → f ρ1 μ = .ok (q a) μ)) → acc.length + l.length < 16777216 → compL c g t f ρ (l.map fa) acc μ = .ok (acc ++ (l.filter p).map q) μ
  | [], acc, h, hl => by rw [List.map_nil]; unfold compL; rw [if_pos hc]; simp
  | a :: l, acc, h, hl => by
    obtain ⟨ρ1, e1, e2, e3⟩ := h a List.mem_cons_self
    simp only [List.length_cons] at hl
    rw [List.map_cons]
    unfold compL
    rw [if_pos hc]
    simp only [Mbind_at, Mno, e1, and_ok, e2]
    cases hp : p a with
    | true =>
      have el : acc.length < sizeLine := by rw [line16]; omega
      simp only [if_true, Mbind_at, Mno, e3 hp, and_ok, el]
      rw [compL_map hc l (acc ++ [q a]) (fun b hb => h b (List.mem_cons_of_mem _ hb)) (by simp only [List.length_append, List.length_cons, List.length_nil]; omega), List.filter_cons_of_pos hp]
      simp
    | false =>
      simp only [Bool.false_eq_true, if_false]
      rw [compL_map hc l acc (fun b hb => h b (List.mem_cons_of_mem _ hb)) (by omega), List.filter_cons_of_neg (by simp [hp])]
theorem lc_map {α : Type} {fa : α → D} {mu : Bool} {it : IM} {g : GM} {t : DL.Env → M Bool} {f : DL.Env → M D} {vs : List Nat} {ρ : DL.Env} {μ μ1 : Store} {c : Store → Bool} {l : List α} (p : α → Bool) (q : α → D) (hi : it ρ μ = .ok (l.map fa, c) μ1) (hc : c μ1 = true)
    (h : ∀ a ∈ l, ∃ ρ1, g (fa a) (wipeE ρ vs) μ1 = .ok ρ1 μ1 ∧ t ρ1 μ1 = .ok (p a) μ1 ∧ (p a = true → f ρ1 μ1 = .ok (q a) μ1)) (hl : l.length < 16777216) : eLc mu it g t f vs ρ μ = retL mu ((l.filter p).map q) μ1 := by
  unfold eLc
  simp only [Mbind_at, hi, and_ok]
  rw [compL_map hc l [] h (by simpa using hl)]
  simp
theorem lc_mapA {α : Type} {fa : α → D} {mu : Bool} {it : IM} {g : GM} {f : DL.Env → M D} {vs : List Nat} {ρ : DL.Env} {μ μ1 : Store} {c : Store → Bool} {l : List α} (q : α → D) (hi : it ρ μ = .ok (l.map fa, c) μ1) (hc : c μ1 = true)
    (h : ∀ a ∈ l, ∃ ρ1, g (fa a) (wipeE ρ vs) μ1 = .ok ρ1 μ1 ∧ f ρ1 μ1 = .ok (q a) μ1) (hl : l.length < 16777216) : eLc mu it g tYesM f vs ρ μ = retL mu (l.map q) μ1 := by
  rw [lc_map (fun _ => true) q hi hc (fun a ha => by obtain ⟨ρ1, h1, h2⟩ := h a ha; exact ⟨ρ1, h1, rfl, fun _ => h2⟩) hl, List.filter_eq_self.mpr (fun _ _ => rfl)]
section
variable {μ : Store} {r : Rl} {ns : List Int} {i j : Int}
/-! ### who is stuck -/
def stuckAt (r : Rl) (p : Int) : Bool := (turnsAt r p.toNat).any (stuckB r)
def stuckP (r : Rl) : List Int := (rng r.b.length).filter (stuckAt r)
theorem first_of_ok (h : r.Ok) {k : Nat} {p : Int} (h0 : 0 ≤ p) (hk : p < k) (hp : p < r.b.length) : m_first_stuck [ruleD r, .lst (levelsD r k), .int p] μ = .ok (match (turnsAt r p.toNat).find? (stuckB r) with
    | some ns => rowD ns
    | none => .non) μ := by
  have := first_stuck_ok (μ := μ) h (k := k) (p := p.toNat) (by omega) (by omega)
  rwa [show ((p.toNat : Nat) : Int) = p by omega] at this
theorem people_stuck_ok (h : r.Ok) (hn : r.b.length ≤ 4) : m_people_stuck [ruleD r] μ = .ok (.lst ((stuckP r).map .int)) μ := by
  refine pure_ret (μ' := []) (by simp) rfl ?_ (by simp)
  have tn := turns_of_ok (μ := []) h hn
  refine (seq_at (ρ1 := [some (ruleD r), some (.lst (levelsD r (r.b.length + 1))), none]) (μ1 := []) (by simp [tn])).trans ?_
  rw [sRet_at, lc_keep (μ1 := []) (l := rng r.b.length) (c := always) (stuckAt r)]
  · rfl
  · simp [kLR_nat false (show r.b.length ≤ 1000 by omega), rngD_0]
  · rfl
  · intro p hp
    obtain ⟨h1, h2⟩ := mem_rng.mp hp
    refine ⟨_, by simp [wipeE]; rfl, ?_, by simp⟩
    have fo := first_of_ok (μ := []) h (k := r.b.length + 1) h1 (by omega) h2
    cases e : (turnsAt r p.toNat).find? (stuckB r) with
    | none =>
      have : stuckAt r p = false := by
        unfold stuckAt
        rw [List.any_eq_false]
        intro x hx
        have := List.find?_eq_none.mp e x hx
        exact this
      rw [this]
      rw [e] at fo
      have gn : gIsN true .non .non [] = .ok (.bl false) [] := rfl
      simp [fo, gn]
    | some ns =>
      have : stuckAt r p = true := List.any_eq_true.mpr ⟨ns, List.mem_of_find?_eq_some e, List.find?_some e⟩
      rw [this]
      rw [e] at fo
      have gn : gIsN true (rowD ns) .non [] = .ok (.bl true) [] := rfl
      simp [fo, gn]
  · rw [rng_len]; omega
def smoothB (r : Rl) : Bool := !(rng r.b.length).any (stuckAt r)
theorem is_smooth_ok (h : r.Ok) (hn : r.b.length ≤ 4) : m_is_smooth [ruleD r] μ = .ok (.bl (smoothB r)) μ := by
  refine pure_ret (μ' := []) (by simp) rfl ?_ rfl
  have ps := people_stuck_ok (μ := []) h hn
  have nil := gEq_lst_nil (μ := []) false (stuckP r)
  have e : smoothB r = decide (stuckP r = []) := by
    unfold smoothB stuckP
    rw [Bool.eq_iff_iff]
    simp [List.filter_eq_nil_iff]
  rw [e]
  simp only [sRet_at, eBin_at, eCall_at, aCons_at, eVar_at, List.map_cons, List.map_nil, List.cons_append, List.nil_append, List.getElem?_cons_succ, List.getElem?_cons_zero, vr_some, and_ok, Mbind_at, aNil_at, Mret_at, ps, eLst_at, kLst_at _ (show ([] : List D).length ≤ 16777216 by simp), retL_f, nil]
  simp
/-! the law's own walk -/
def walkAt (r : Rl) : Nat → List (List Int)
  | 0 => [[]]
  | p + 1 => (walkAt r p).flatMap fun ns => (letOf r ns).map fun x => ns ++ [x]
def wStuck (r : Rl) (p : Int) : Bool := (walkAt r p.toNat).any (stuckB r)
theorem walk_ns : ∀ (p : Nat) {ns : List Int}, ns ∈ walkAt r p → Ns r ns ∧ ns.length = p
  | 0, ns, h => by
    rw [List.mem_singleton.mp h]
    exact ⟨⟨List.nodup_nil, fun _ h => (nomatch h)⟩, rfl⟩
  | p + 1, ns, h => by
    rw [walkAt, List.mem_flatMap] at h
    obtain ⟨m, hm, hn⟩ := h
    obtain ⟨x, hx, rfl⟩ := List.mem_map.mp hn
    have h1 := walk_ns p hm
    have := letOf_mem hx
    exact ⟨ns_snoc h1.1 this.1 this.2, by simp [h1.2]⟩
theorem walk_len (p : Nat) : (walkAt r p).length ≤ r.b.length ^ p := by
  induction p with
  | zero => simp [walkAt]
  | succ p ih =>
    have := flat_len (fun ns => (letOf r ns).map fun x => ns ++ [x]) r.b.length (walkAt r p) fun ns _ => by
      rw [List.length_map]; exact Nat.le_trans (List.length_filter_le _ _) left_len
    rw [Nat.pow_succ]
    exact Nat.le_trans this (Nat.mul_le_mul_right _ ih)
/-- as long as nobody is stuck, both walks meet the same rows -/
theorem walks_meet (p : Nat) : ((∀ q, q < p → (turnsAt r q).any (stuckB r) = false) ∨ (∀ q, q < p → (walkAt r q).any (stuckB r) = false)) → ∀ ns, ns ∈ turnsAt r p ↔ ns ∈ walkAt r p := by
  induction p with
  | zero => intro _ ns; exact Iff.rfl
  | succ p ih =>
    intro h ns
    have ih' := ih (h.imp (fun h q hq => h q (by omega)) fun h q hq => h q (by omega))
    have free : ∀ m, m ∈ turnsAt r p → letOf r m ≠ [] := fun m hm e => by
      rcases h with h | h
      · have := List.any_eq_false.mp (h p (by omega)) m hm
        exact this (by simp [stuckB, e])
      · have := List.any_eq_false.mp (h p (by omega)) m ((ih' m).mp hm)
        exact this (by simp [stuckB, e])
    rw [turnsAt, mem_ssort, walkAt, List.mem_flatMap, List.mem_flatMap]
    constructor
    · rintro ⟨m, hm, hn⟩
      refine ⟨m, (ih' m).mp hm, ?_⟩
      unfold behind at hn
      rwa [if_pos (free m hm)] at hn
    · rintro ⟨m, hm, hn⟩
      have hm' := (ih' m).mpr hm
      refine ⟨m, hm', ?_⟩
      unfold behind
      rwa [if_pos (free m hm')]
theorem any_mem {l m : List (List Int)} (h : ∀ ns, ns ∈ l ↔ ns ∈ m) (p : List Int → Bool) : l.any p = m.any p := by
  rw [Bool.eq_iff_iff, List.any_eq_true, List.any_eq_true]
  exact ⟨fun ⟨x, hx, q⟩ => ⟨x, (h x).mp hx, q⟩, fun ⟨x, hx, q⟩ => ⟨x, (h x).mpr hx, q⟩⟩
theorem first_same (f g : Nat → Bool) (h : ∀ p, ((∀ q, q < p → f q = false) ∨ (∀ q, q < p → g q = false)) → f p = g p) (n : Nat) : (∃ p, p < n ∧ f p = true) ↔ ∃ p, p < n ∧ g p = true := by
  have low : ∀ f : Nat → Bool, (∃ p, p < n ∧ f p = true) → ∃ p, p < n ∧ f p = true ∧ ∀ q, q < p → f q = false := by
    intro f ⟨p, hp, e⟩
    induction p using Nat.strongRecOn with
    | ind p ih =>
      by_cases q : ∃ q, q < p ∧ f q = true
      · obtain ⟨q, h1, h2⟩ := q
        exact ih q h1 (by omega) h2
      · exact ⟨p, hp, e, fun k hk => by
          cases ek : f k with
          | false => rfl
          | true => exact absurd ⟨k, hk, ek⟩ q⟩
  constructor
  · intro q
    obtain ⟨p, h1, h2, h3⟩ := low f q
    exact ⟨p, h1, by rw [← h p (.inl h3)]; exact h2⟩
  · intro q
    obtain ⟨p, h1, h2, h3⟩ := low g q
    exact ⟨p, h1, by rw [h p (.inr h3)]; exact h2⟩
theorem smooth_eq : smoothB r = !(rng r.b.length).any (wStuck r) := by
  unfold smoothB
  congr 1
  have key := first_same (fun p => (turnsAt r p).any (stuckB r)) (fun p => (walkAt r p).any (stuckB r)) (fun p h => any_mem (walks_meet p h) _) r.b.length
  have conv : ∀ f : Nat → Bool, ((rng r.b.length).any fun p => f p.toNat) = true ↔ ∃ p, p < r.b.length ∧ f p = true := fun f => by
    rw [List.any_eq_true]
    constructor
    · rintro ⟨x, hx, q⟩
      have := mem_rng.mp hx
      exact ⟨x.toNat, by omega, q⟩
    · rintro ⟨p, hp, q⟩
      exact ⟨(p : Int), mem_rng.mpr (by omega), by simpa using q⟩
  rw [Bool.eq_iff_iff]
  exact (conv fun p => (turnsAt r p).any (stuckB r)).trans (key.trans (conv fun p => (walkAt r p).any (stuckB r)).symm)
end
end Lw
namespace Lw
open PySem PySem.Spec PyProof.Rows L2 DL
section
variable {μ : Store} {r : Rl} {ns : List Int} {i j : Int}
theorem law_smooth_ok (h : r.b.length ≤ 6) : m__law_smooth [ruleD r] μ = .ok (.bl (smoothB r)) μ := by
  rw [smooth_eq]
  have main := for_pret (f := D.int) (g := gVar 2) (c := always) (body := sSeq (sSet 3 (eLst false aNil))
    (sSeq (sFor (iSeq (eVar 1)) (gVar 4) (sSeq (sSet 5 (eCall m__law_let (aCons (eVar 0) (aCons (eVar 4) aNil))))
    (sSeq (sIf (tOf (eBin (gEq false) (eVar 5) (eLst false aNil))) (sRet (eC (.bl false))) sNil)
    (sSet 3 (eBin (gAdd false) (eVar 3) (eLc false (iSeq (eVar 5)) (gVar 6) tYesM (eBin (gAdd false) (eVar 4) (eTup (aCons (eVar 6) aNil))) [6]))))))
    (sSet 1 (eVar 3))))
    (fun p ρ μ => μ = [] ∧ ∃ x2 x3 x4 x5 x6, ρ = [some (ruleD r), some (.lst ((walkAt r p.length).map rowD)), x2, x3, x4, x5, x6]) (wStuck r) (.bl false) (rng r.b.length)
    (ρ := [some (ruleD r), some (.lst [.tup []]), none, none, none, none, none]) (μ := []) (fun _ _ _ _ => rfl) ?_ ⟨rfl, none, none, none, none, none, rfl⟩
  · have start : (sFor (iRange1 (eCall gLen (aCons (eBin gIx (eVar 0) (eC (.int 0))) aNil))) (gVar 2) (sSeq (sSet 3 (eLst false aNil))
      (sSeq (sFor (iSeq (eVar 1)) (gVar 4) (sSeq (sSet 5 (eCall m__law_let (aCons (eVar 0) (aCons (eVar 4) aNil))))
      (sSeq (sIf (tOf (eBin (gEq false) (eVar 5) (eLst false aNil))) (sRet (eC (.bl false))) sNil)
      (sSet 3 (eBin (gAdd false) (eVar 3) (eLc false (iSeq (eVar 5)) (gVar 6) tYesM (eBin (gAdd false) (eVar 4) (eTup (aCons (eVar 6) aNil))) [6]))))))
      (sSet 1 (eVar 3))))) [some (ruleD r), some (.lst [.tup []]), none, none, none, none, none] [] = forL always (gVar 2) (sSeq (sSet 3 (eLst false aNil))
      (sSeq (sFor (iSeq (eVar 1)) (gVar 4) (sSeq (sSet 5 (eCall m__law_let (aCons (eVar 0) (aCons (eVar 4) aNil))))
      (sSeq (sIf (tOf (eBin (gEq false) (eVar 5) (eLst false aNil))) (sRet (eC (.bl false))) sNil)
      (sSet 3 (eBin (gAdd false) (eVar 3) (eLc false (iSeq (eVar 5)) (gVar 6) tYesM (eBin (gAdd false) (eVar 4) (eTup (aCons (eVar 6) aNil))) [6]))))))
      (sSet 1 (eVar 3)))) ((rng r.b.length).map .int) [some (ruleD r), some (.lst [.tup []]), none, none, none, none, none] [] := by
      rw [sFor_at, iRange1_at]
      simp only [eCall_at, aCons_at, eBin_at, eVar_at, eC_at, List.getElem?_cons_zero, vr_some, and_ok, Mbind_at, gIx_rule0, aNil_at, Mret_at, gLen_bars, kR1_nat (show r.b.length ≤ 1000 by omega), rngD_0]
    rcases main with ⟨h1, μ', e⟩ | ⟨h1, ρ', μ', e, rfl, x2, x3, x4, x5, x6, rfl⟩
    · rw [h1]
      refine pure_ret (μ' := μ') (by simp) rfl ?_ rfl
      refine (seq_at (ρ1 := [some (ruleD r), some (.lst [.tup []]), none, none, none, none, none]) (μ1 := []) (by simp)).trans ?_
      rw [sSeq_at, start, e]; rfl
    · rw [h1]
      refine pure_ret (μ' := []) (by simp) rfl ?_ rfl
      refine (seq_at (ρ1 := [some (ruleD r), some (.lst [.tup []]), none, none, none, none, none]) (μ1 := []) (by simp)).trans ?_
      rw [sSeq_at, start, e]; simp
  · rintro p a s ρ μ hp ⟨rfl, x2, x3, x4, x5, x6, rfl⟩
    have hpl := congrArg List.length hp
    rw [rng_len, List.length_append, List.length_cons] at hpl
    have ea : a.toNat = p.length := by
      have h1 : (rng r.b.length)[p.length]? = some a := by rw [hp]; simp
      unfold rng at h1
      simp only [List.getElem?_map, Option.map_eq_some_iff] at h1
      obtain ⟨q, h2, h3⟩ := h1
      have := (List.getElem?_eq_some_iff.mp h2).2
      simp at this
      omega
    have wl := walk_len (r := r) p.length
    have wl2 : r.b.length ^ p.length ≤ 6 ^ 6 := Nat.le_trans (Nat.pow_le_pow_left h _) (Nat.pow_le_pow_right (by decide) (by omega))
    have inner := for_pret (f := rowD) (g := gVar 4) (c := always) (body := sSeq (sSet 5 (eCall m__law_let (aCons (eVar 0) (aCons (eVar 4) aNil))))
      (sSeq (sIf (tOf (eBin (gEq false) (eVar 5) (eLst false aNil))) (sRet (eC (.bl false))) sNil)
      (sSet 3 (eBin (gAdd false) (eVar 3) (eLc false (iSeq (eVar 5)) (gVar 6) tYesM (eBin (gAdd false) (eVar 4) (eTup (aCons (eVar 6) aNil))) [6])))))
      (fun q ρ μ => μ = [] ∧ ∃ x4 x5 x6, ρ = [some (ruleD r), some (.lst ((walkAt r p.length).map rowD)), some (.int a), some (.lst ((q.flatMap fun ns => (letOf r ns).map fun x => ns ++ [x]).map rowD)), x4, x5, x6]) (stuckB r) (.bl false) (walkAt r p.length)
      (ρ := [some (ruleD r), some (.lst ((walkAt r p.length).map rowD)), some (.int a), some (.lst []), x4, x5, x6]) (μ := []) (fun _ _ _ _ => rfl) ?_ ⟨rfl, x4, x5, x6, rfl⟩
    · have hst : wStuck r a = (walkAt r p.length).any (stuckB r) := by unfold wStuck; rw [ea]
      rw [hst, Mbind_at, gVar_at, and_ok]
      have s1 : ∀ X : SM, sSeq (sSet 3 (eLst false aNil)) X [some (ruleD r), some (.lst ((walkAt r p.length).map rowD)), some (.int a), x3, x4, x5, x6] [] = X [some (ruleD r), some (.lst ((walkAt r p.length).map rowD)), some (.int a), some (.lst []), x4, x5, x6] [] := fun X => seq_at (by simp)
      have s2 : ∀ (g : GM) (b : SM), sFor (iSeq (eVar 1)) g b [some (ruleD r), some (.lst ((walkAt r p.length).map rowD)), some (.int a), some (.lst []), x4, x5, x6] [] = forL always g b ((walkAt r p.length).map rowD) [some (ruleD r), some (.lst ((walkAt r p.length).map rowD)), some (.int a), some (.lst []), x4, x5, x6] [] := fun g b => by
        rw [sFor_at, iSeq_at]; simp
      simp only [List.set_cons_succ, List.set_cons_zero]
      rw [s1]
      rcases inner with ⟨h1, μ', e⟩ | ⟨h1, ρ', μ', e, rfl, y4, y5, y6, rfl⟩
      · exact .inl ⟨h1, μ', by rw [sSeq_at, s2, e]; rfl⟩
      · refine .inr ⟨h1, [some (ruleD r), some (.lst ((walkAt r (p.length + 1)).map rowD)), some (.int a), some (.lst ((walkAt r (p.length + 1)).map rowD)), y4, y5, y6], [], ?_, rfl, some (.int a), some (.lst ((walkAt r (p.length + 1)).map rowD)), y4, y5, y6, by simp⟩
        rw [sSeq_at, s2, e]
        simp [walkAt]
    · rintro q ns s' ρ μ hq ⟨rfl, x4, x5, x6, rfl⟩
      have hns : ns ∈ walkAt r p.length := by rw [hq]; simp
      have a1 := walk_ns _ hns
      have ll := law_let_ok (μ := []) (r := r) (ns := ns) (by omega) (by rw [a1.2]; omega)
      have ll' : m__law_let [ruleD r, rowD ns] [] = .ok (.lst ((letOf r ns).map .int)) [] := ll
      have lim : (letOf r ns).length ≤ 6 := Nat.le_trans (List.length_filter_le _ _) (Nat.le_trans left_len h)
      rw [Mbind_at, gVar_at, and_ok]
      simp only [List.set_cons_succ, List.set_cons_zero]
      have s1 : ∀ X : SM, sSeq (sSet 5 (eCall m__law_let (aCons (eVar 0) (aCons (eVar 4) aNil)))) X [some (ruleD r), some (.lst ((walkAt r p.length).map rowD)), some (.int a), some (.lst ((q.flatMap fun ns => (letOf r ns).map fun x => ns ++ [x]).map rowD)), some (rowD ns), x5, x6] [] =
        X [some (ruleD r), some (.lst ((walkAt r p.length).map rowD)), some (.int a), some (.lst ((q.flatMap fun ns => (letOf r ns).map fun x => ns ++ [x]).map rowD)), some (rowD ns), some (.lst ((letOf r ns).map .int)), x6] [] := fun X => seq_at (by simp [ll'])
      rw [s1]
      by_cases hs : letOf r ns = []
      · refine .inl ⟨by simp [stuckB, hs], [], ?_⟩
        have nil' : gEq false (.lst []) (.lst []) [] = .ok (.bl true) [] := gEq_self (m := 1) false rfl
        simp [hs, nil']
      · refine .inr ⟨by simp [stuckB, hs], [some (ruleD r), some (.lst ((walkAt r p.length).map rowD)), some (.int a), some (.lst (((q ++ [ns]).flatMap fun ns => (letOf r ns).map fun x => ns ++ [x]).map rowD)), some (rowD ns), some (.lst ((letOf r ns).map .int)), x6], [], ?_, rfl, _, _, _, rfl⟩
        have nil := gEq_lst_nil (μ := []) false (letOf r ns)
        refine (seq_at (ρ1 := [some (ruleD r), some (.lst ((walkAt r p.length).map rowD)), some (.int a), some (.lst ((q.flatMap fun ns => (letOf r ns).map fun x => ns ++ [x]).map rowD)), some (rowD ns), some (.lst ((letOf r ns).map .int)), x6]) (μ1 := []) (by simp [nil, hs])).trans ?_
        have lc : eLc false (iSeq (eVar 5)) (gVar 6) tYesM (eBin (gAdd false) (eVar 4) (eTup (aCons (eVar 6) aNil))) [6] [some (ruleD r), some (.lst ((walkAt r p.length).map rowD)), some (.int a), some (.lst ((q.flatMap fun ns => (letOf r ns).map fun x => ns ++ [x]).map rowD)), some (rowD ns), some (.lst ((letOf r ns).map .int)), x6] [] = .ok (.lst (((letOf r ns).map fun x => ns ++ [x]).map rowD)) [] := by
          rw [lc_all (ds := (letOf r ns).map .int) (c := always) (μ1 := []) (fun d => match d with
            | .int a => rowD (ns ++ [a])
            | d => d)]
          · rw [retL_f, List.map_map, List.map_map]; rfl
          · simp
          · rfl
          · intro d hd
            obtain ⟨x, hx, rfl⟩ := List.mem_map.mp hd
            have ga : gAdd false (rowD ns) (rowD [x]) [] = .ok (rowD (ns ++ [x])) [] := gAdd_names (l := ns) (ns := [x]) false (by have := a1.2; simp; omega)
            have e1 : D.tup [.int x] = rowD [x] := rfl
            exact ⟨_, by rw [gVar_at], by simp [wipeE, e1, ga]⟩
          · simp; omega
        have l1 : (q.flatMap fun ns => (letOf r ns).map fun x => ns ++ [x]).length ≤ 6 ^ 6 * 6 := by
          have f1 := flat_len (fun ns => (letOf r ns).map fun x => ns ++ [x]) r.b.length q fun ns _ => by
            rw [List.length_map]; exact Nat.le_trans (List.length_filter_le _ _) left_len
          have f2 : q.length ≤ (walkAt r p.length).length := by rw [hq]; simp
          exact Nat.le_trans f1 (Nat.mul_le_mul (by omega) h)
        have ga : gAdd false (.lst ((q.flatMap fun ns => (letOf r ns).map fun x => ns ++ [x]).map rowD)) (.lst (((letOf r ns).map fun x => ns ++ [x]).map rowD)) [] = .ok (.lst (((q ++ [ns]).flatMap fun ns => (letOf r ns).map fun x => ns ++ [x]).map rowD)) [] := by
          rw [gAdd_lst false (by simp only [List.length_map]; omega), flat_take, List.map_append]; rfl
        simp only [sSet_at, eBin_at, eVar_at, List.getElem?_cons_succ, List.getElem?_cons_zero, vr_some, and_ok, Mbind_at, lc, ga, Mret_at, List.set_cons_succ, List.set_cons_zero]
/-! ### bars turned over -/
def flipL (l : List Int) (n : Nat) (x : Int) : List Int := (rng n).filter fun i => decide (i ∈ l) != decide (i = x)
def turnR (r : Rl) (p : Int × Int) : Rl := ⟨r.b.set p.1.toNat (flipL (ixL r.b p.1) r.b.length p.2), r.m, r.w⟩
def BarIn (r : Rl) (p : Int × Int) : Prop := (0 ≤ p.1 ∧ p.1 < r.b.length) ∧ 0 ≤ p.2 ∧ p.2 < r.b.length
theorem turnR_len (p : Int × Int) : (turnR r p).b.length = r.b.length := by simp [turnR]
theorem turnR_ok (h : r.Ok) (p : Int × Int) : (turnR r p).Ok := by
  have fl : ∀ l ∈ (turnR r p).b, l ∈ r.b ∨ l = flipL (ixL r.b p.1) r.b.length p.2 := fun l hl => List.mem_or_eq_of_mem_set hl
  refine ⟨by rw [turnR_len]; exact h.lo, by rw [turnR_len]; exact h.hi, fun l hl => ?_, fun l hl => ?_, h.way⟩
  · rcases fl l hl with q | q
    · exact h.asc l q
    · rw [q]; exact (rng_asc _).sublist List.filter_sublist
  · rw [turnR_len]
    rcases fl l hl with q | q
    · exact h.ran l q
    · rw [q]; exact fun i hi => mem_rng.mp (List.mem_filter.mp hi).1
theorem ixL_mem (h1 : 0 ≤ i) (h2 : i < r.b.length) : ixL r.b i ∈ r.b := by
  have h3 : i.toNat < r.b.length := by omega
  simp only [ixL, List.getD_eq_getElem?_getD, List.getElem?_eq_getElem h3, Option.getD_some]
  exact List.getElem_mem h3
theorem gSl_bars_to {b : List (List Int)} {k : Int} (h : 0 ≤ k) : gSl (barsD b) none (some k) μ = .ok (barsD (b.take k.toNat)) μ := by rw [barsD, gSl_tup, cut_to h, ← List.map_take]; rfl
theorem gSl_bars_from {b : List (List Int)} {k : Int} (h : 0 ≤ k) : gSl (barsD b) (some k) none μ = .ok (barsD (b.drop k.toNat)) μ := by rw [barsD, gSl_tup, cut_from h, ← List.map_drop]; rfl
theorem gAdd_bars {b c : List (List Int)} (h : b.length + c.length ≤ 1000) : gAdd false (barsD b) (barsD c) μ = .ok (barsD (b ++ c)) μ := by
  rw [barsD, barsD, gAdd_tup false (by simp only [List.length_map]; omega), ← List.map_append]; rfl
theorem set_bars {b : List (List Int)} {k : Int} {x : List Int} (h : 0 ≤ k) (h2 : k < b.length) : b.take k.toNat ++ ([x] ++ b.drop (k + 1).toNat) = b.set k.toNat x := by
  rw [List.set_eq_take_append_cons_drop, if_pos (by omega), show (k + 1).toNat = k.toNat + 1 by omega]; rfl
theorem gEq_bl (a b : Bool) (neg : Bool) : gEq neg (.bl a) (.bl b) μ = .ok (.bl (if neg then a != b else a == b)) μ := by
  cases a <;> cases b <;> cases neg <;> rfl
theorem law_turned_ok (h : r.Ok) {p : Int × Int} (hp : BarIn r p) : m__law_turned [ruleD r, pairD p] μ = .ok (ruleD (turnR r p)) μ := by
  obtain ⟨⟨p1, p2⟩, p3, p4⟩ := hp
  have hhi := h.hi
  refine pure_ret (μ' := []) (by simp) rfl ?_ (by simp)
  refine (seq_at (ρ1 := [some (ruleD r), some (pairD p), none, some (.int p.1), some (.int p.2), none]) (μ1 := []) (by simp [pairD])).trans ?_
  have lc : eLc false (iRange1 (eCall gLen (aCons (eBin gIx (eVar 0) (eC (.int 0))) aNil))) (gVar 5) (tOf (eBin (gEq true) (eBin (gIn false) (eVar 5) (eBin gIx (eBin gIx (eVar 0) (eC (.int 0))) (eVar 3))) (eBin (gEq false) (eVar 5) (eVar 4)))) (eVar 5) [5]
      [some (ruleD r), some (pairD p), none, some (.int p.1), some (.int p.2), none] [] = .ok (.lst ((flipL (ixL r.b p.1) r.b.length p.2).map .int)) [] := by
    rw [lc_keep (μ1 := []) (l := rng r.b.length) (c := always) (fun i => decide (i ∈ ixL r.b p.1) != decide (i = p.2))]
    · rfl
    · simp [kR1_nat (show r.b.length ≤ 1000 by omega), rngD_0]
    · rfl
    · intro i hi
      have gb := gIx_bars (μ := []) (b := r.b) p1 p2
      exact ⟨_, by simp [wipeE]; rfl, by simp [gb, gEq_bl], by simp⟩
    · rw [rng_len]; omega
  refine (seq_at (ρ1 := [some (ruleD r), some (pairD p), some (.lst ((flipL (ixL r.b p.1) r.b.length p.2).map .int)), some (.int p.1), some (.int p.2), none]) (μ1 := []) (by rw [sSet_at, lc]; rfl)).trans ?_
  have e1 : D.tup [.tup ((flipL (ixL r.b p.1) r.b.length p.2).map .int)] = barsD [flipL (ixL r.b p.1) r.b.length p.2] := rfl
  have t1 := gSl_bars_to (μ := []) (b := r.b) p1
  have t2 := gSl_bars_from (μ := []) (b := r.b) (show 0 ≤ p.1 + 1 by omega)
  have l1 : (r.b.take p.1.toNat).length ≤ 6 := by rw [List.length_take]; omega
  have l2 : (r.b.drop (p.1 + 1).toNat).length ≤ 6 := by rw [List.length_drop]; omega
  have g1 := gAdd_bars (μ := []) (b := r.b.take p.1.toNat) (c := [flipL (ixL r.b p.1) r.b.length p.2]) (by simp; omega)
  have g2 := gAdd_bars (μ := []) (b := r.b.take p.1.toNat ++ [flipL (ixL r.b p.1) r.b.length p.2]) (c := r.b.drop (p.1 + 1).toNat) (by rw [List.length_append]; simp only [List.length_cons, List.length_nil]; omega)
  rw [List.append_assoc, set_bars p1 p2] at g2
  simp [e1, t1, t2, g1, g2, ruleD, turnR, gIx_rule0, gIx_rule1, gIx_rule2]
def flipO (l : List Int) (x : Int) : List Int := if x ∈ l then l.filter fun i => !decide (i = x) else l ++ [x]
theorem flipO_eq {l : List Int} {n : Nat} {x : Int} (ha : l.Pairwise (· < ·)) (hr : ∀ i ∈ l, 0 ≤ i ∧ i < n) (hx : 0 ≤ x ∧ x < n) : sortI (flipO l x) = flipL l n x := by
  have nd := asc_nodup ha
  have nd2 : (flipO l x).Nodup := by
    unfold flipO
    split
    · exact nd.sublist List.filter_sublist
    · rename_i hn
      exact List.nodup_append.mpr ⟨nd, by simp, fun a ha b hb e => hn (by rw [← List.mem_singleton.mp hb, ← e]; exact ha)⟩
  refine asc_ext _ _ (sortI_asc nd2) ((rng_asc n).sublist List.filter_sublist) fun i => ?_
  rw [sortI_mem]
  unfold flipO flipL
  simp only [List.mem_filter, mem_rng, bne_iff_ne, ne_eq]
  by_cases h1 : x ∈ l
  · rw [if_pos h1]
    simp only [List.mem_filter, Bool.not_eq_true', decide_eq_false_iff_not]
    by_cases h2 : i = x
    · subst h2; simp [h1]
    · by_cases h3 : i ∈ l
      · have := hr i h3; simp [h2, h3, this]
      · simp [h2, h3]
  · rw [if_neg h1]
    simp only [List.mem_append, List.mem_singleton]
    by_cases h2 : i = x
    · subst h2; simp [h1, hx]
    · by_cases h3 : i ∈ l
      · have := hr i h3; simp [h2, h3, this]
      · simp [h2, h3]
theorem int_self {l : List Int} {ρ : DL.Env} {v q : Nat} (hv : eVar v ρ μ = .ok (.lst (l.map .int)) μ) (hq : ∀ i : Int, eVar q ((wipeE ρ [q]).set q (some (.int i))) μ = .ok (.int i) μ) (hl : l.length ≤ 1000) :
    eLc false (iSeq (eVar v)) (gVar q) tYesM (eCall gInt1 (aCons (eVar q) aNil)) [q] ρ μ = .ok (.lst (l.map .int)) μ := by
  rw [lc_all (ds := l.map D.int) (c := always) (μ1 := μ) id]
  · rw [retL_f, List.map_id]
  · rw [iSeq_at, hv, and_ok, gSeq_lst]
  · rfl
  · intro d hd
    obtain ⟨i, hi, rfl⟩ := List.mem_map.mp hd
    exact ⟨_, by rw [gVar_at], by rw [eCall_at, aCons_at, hq]; simp⟩
  · simp; omega
theorem turned_over_ok (h : r.Ok) {p : Int × Int} (hp : BarIn r p) : m_turned_over [ruleD r, pairD p] μ = .ok (ruleD (turnR r p)) μ := by
  obtain ⟨⟨p1, p2⟩, p3, p4⟩ := hp
  have hhi := h.hi
  have hm := ixL_mem p1 p2
  have fe := flipO_eq (h.asc _ hm) (h.ran _ hm) ⟨p3, p4⟩
  have len1 : (ixL r.b p.1).length ≤ 6 := Nat.le_trans (int_len (asc_nodup (h.asc _ hm)) (h.ran _ hm)) hhi
  refine pure_ret (μ' := []) (by simp) rfl ?_ (by simp)
  have gb := gIx_bars (μ := []) (b := r.b) p1 p2
  refine (seq_at (ρ1 := [some (ruleD r), some (pairD p), none, none, some (.int p.1), some (.int p.2), none]) (μ1 := []) (by simp [pairD])).trans ?_
  refine (seq_at (ρ1 := [some (ruleD r), some (pairD p), some (namesD (ixL r.b p.1)), none, some (.int p.1), some (.int p.2), none]) (μ1 := []) (by simp [gb])).trans ?_
  refine (seq_at (ρ1 := [some (ruleD r), some (pairD p), some (namesD (ixL r.b p.1)), some (.lst ((flipO (ixL r.b p.1) p.2).map .int)), some (.int p.1), some (.int p.2), none]) (μ1 := []) ?_).trans ?_
  · by_cases hx : p.2 ∈ ixL r.b p.1
    · have lc : eLc false (iSeq (eVar 2)) (gVar 6) (tOf (eBin (gEq true) (eVar 6) (eVar 5))) (eVar 6) [6] [some (ruleD r), some (pairD p), some (namesD (ixL r.b p.1)), none, some (.int p.1), some (.int p.2), none] [] = .ok (.lst (((ixL r.b p.1).filter fun i => !decide (i = p.2)).map .int)) [] := by
        rw [lc_keep (μ1 := []) (l := ixL r.b p.1) (c := always) (fun i => !decide (i = p.2))]
        · rfl
        · simp
        · rfl
        · intro i hi
          exact ⟨_, by simp [wipeE]; rfl, by simp, by simp⟩
        · omega
      have e1 : flipO (ixL r.b p.1) p.2 = (ixL r.b p.1).filter fun i => !decide (i = p.2) := by unfold flipO; rw [if_pos hx]
      rw [e1]
      simp only [sSet_at, eIf_at, tOf_at, eBin_at, eVar_at, List.getElem?_cons_succ, List.getElem?_cons_zero, vr_some, and_ok, Mbind_at, gIn_names, hx, decide_true, Bool.false_eq_true, if_false, asB_bl, kIf_t, lc, Mret_at, List.set_cons_succ, List.set_cons_zero]
    · have e1 : flipO (ixL r.b p.1) p.2 = ixL r.b p.1 ++ [p.2] := by unfold flipO; rw [if_neg hx]
      have gl : gList false [namesD (ixL r.b p.1)] [] = .ok (.lst ((ixL r.b p.1).map .int)) [] := rfl
      have ga : gAdd false (.lst ((ixL r.b p.1).map .int)) (.lst [.int p.2]) [] = .ok (.lst ((ixL r.b p.1 ++ [p.2]).map .int)) [] := by
        rw [gAdd_lst false (by simp; omega), List.map_append]; rfl
      rw [e1]
      simp [hx, gl]
      rw [ga]
      simp
  have len2 : (flipO (ixL r.b p.1) p.2).length ≤ 1000 := by
    unfold flipO
    split
    · exact Nat.le_trans (List.length_filter_le _ _) (by omega)
    · simp; omega
  have lc := int_self (μ := []) (l := flipO (ixL r.b p.1) p.2) (ρ := [some (ruleD r), some (pairD p), some (namesD (ixL r.b p.1)), some (.lst ((flipO (ixL r.b p.1) p.2).map .int)), some (.int p.1), some (.int p.2), none]) (v := 3) (q := 6) (by simp) (fun i => by simp [wipeE]) len2
  have so := gSorted_ints (μ := []) (flipO (ixL r.b p.1) p.2)
  rw [fe] at so
  have e1 : D.tup [.tup ((flipL (ixL r.b p.1) r.b.length p.2).map .int)] = barsD [flipL (ixL r.b p.1) r.b.length p.2] := rfl
  have t1 := gSl_bars_to (μ := []) (b := r.b) p1
  have t2 := gSl_bars_from (μ := []) (b := r.b) (show 0 ≤ p.1 + 1 by omega)
  have l1 : (r.b.take p.1.toNat).length ≤ 6 := by rw [List.length_take]; omega
  have l2 : (r.b.drop (p.1 + 1).toNat).length ≤ 6 := by rw [List.length_drop]; omega
  have g1 := gAdd_bars (μ := []) (b := r.b.take p.1.toNat) (c := [flipL (ixL r.b p.1) r.b.length p.2]) (by simp; omega)
  have g2 := gAdd_bars (μ := []) (b := r.b.take p.1.toNat ++ [flipL (ixL r.b p.1) r.b.length p.2]) (c := r.b.drop (p.1 + 1).toNat) (by rw [List.length_append]; simp only [List.length_cons, List.length_nil]; omega)
  rw [List.append_assoc, set_bars p1 p2] at g2
  simp only [sRet_at, eTup_at, aCons_at, eBin_at, eSl_at, oSome_at, oNone_at, eCall_at, eVar_at, eC_at, List.getElem?_cons_succ, List.getElem?_cons_zero, vr_some, and_ok, Mbind_at, gIx_rule0, gIx_rule1, gIx_rule2, asI_int, Mret_at, aNil_at, lc, so, gTuple_lst, kTup_1, t1, t2, e1, g1, gAdd_int, g2, kTup_3]
  rfl
/-! ### least bars -/
def ev (n : Nat) : List (Int × Int) := (rng (n * n)).map fun k => (k / n, k % n)
theorem ev_in {n : Nat} {p : Int × Int} (h : p ∈ ev n) : (0 ≤ p.1 ∧ p.1 < n) ∧ 0 ≤ p.2 ∧ p.2 < n := by
  obtain ⟨k, hk, rfl⟩ := List.mem_map.mp h
  obtain ⟨h1, h2⟩ := mem_rng.mp hk
  have hn : 0 < n := by
    rcases Nat.eq_zero_or_pos n with e | e
    · subst e; simp at h2; omega
    · exact e
  refine ⟨⟨Int.ediv_nonneg h1 (by omega), ?_⟩, Int.emod_nonneg _ (by omega), Int.emod_lt_of_pos _ (by omega)⟩
  refine Int.ediv_lt_of_lt_mul (by omega) ?_
  have : ((n * n : Nat) : Int) = (n : Int) * n := by simp
  omega
def lexP (a b : Int × Int) : Bool := decide (a.1 < b.1 ∨ (a.1 = b.1 ∧ a.2 < b.2))
theorem ev_asc {n : Nat} (h : 2 ≤ n ∧ n ≤ 4) : (ev n).Pairwise fun a b => lexP a b = true := by
  have : n = 2 ∨ n = 3 ∨ n = 4 := by omega
  rcases this with rfl | rfl | rfl <;> decide +kernel
def psD (ps : List (Int × Int)) : D := .tup (ps.map pairD)
def nextOk (ps : List (Int × Int)) (b : Int × Int) : Bool := match ps.getLast? with
  | none => true
  | some q => lexP q b
def lotsAt (r : Rl) : Nat → List (List (Int × Int) × Rl)
  | 0 => [([], r)]
  | k + 1 => (lotsAt r k).flatMap fun x => ((ev r.b.length).filter (nextOk x.1)).map fun b => (x.1 ++ [b], turnR x.2 b)
def lotD (x : List (Int × Int) × Rl) : D := .tup [psD x.1, ruleD x.2]
def goodAt (r : Rl) (k : Nat) : List (List (Int × Int)) := ((lotsAt r k).filter fun x => smoothB x.2).map (·.1)
theorem lots_in : ∀ (k : Nat) {x : List (Int × Int) × Rl}, r.Ok → x ∈ lotsAt r k → x.2.Ok ∧ x.2.b.length = r.b.length ∧ x.1.length = k
  | 0, x, h, hx => by rw [List.mem_singleton.mp hx]; exact ⟨h, rfl, rfl⟩
  | k + 1, x, h, hx => by
    rw [lotsAt, List.mem_flatMap] at hx
    obtain ⟨y, hy, hx⟩ := hx
    obtain ⟨b, hb, rfl⟩ := List.mem_map.mp hx
    obtain ⟨h1, h2, h3⟩ := lots_in k h hy
    exact ⟨turnR_ok h1 b, by rw [turnR_len, h2], by simp [h3]⟩
theorem ev_len (n : Nat) : (ev n).length = n * n := by simp [ev]
theorem lots_len (h : r.b.length ≤ 4) (k : Nat) : (lotsAt r k).length ≤ 16 ^ k := by
  have he : (ev r.b.length).length ≤ 16 := by rw [ev_len]; exact Nat.mul_le_mul h h
  induction k with
  | zero => simp [lotsAt]
  | succ k ih =>
    have := flat_len (fun x : List (Int × Int) × Rl => ((ev r.b.length).filter (nextOk x.1)).map fun b => (x.1 ++ [b], turnR x.2 b)) 16 (lotsAt r k) fun x _ => by
      rw [List.length_map]; exact Nat.le_trans (List.length_filter_le _ _) he
    rw [Nat.pow_succ]
    exact Nat.le_trans this (Nat.mul_le_mul_right _ ih)
@[simp] theorem np_ps (ps : List (Int × Int)) : noPtr (psD ps) = true := np_pairs ps
@[simp] theorem np_pss (l : List (List (Int × Int))) : noPtrL (l.map psD) = true := np_L fun d hd => by
  obtain ⟨p, _, rfl⟩ := List.mem_map.mp hd
  exact np_ps p
/-! sorted ones stay -/
theorem lt_pair (a b : Int × Int) : PySem.W.dataLt (encD (pairD a)) (encD (pairD b)) = lexP a b := PySem.W.dataLt_ii _ _ _ _
theorem al_pair (a b : Int × Int) : PySem.W.alike (encD (pairD a)) (encD (pairD b)) = true := rfl
theorem nil_lt : PyProof.Rows.lexLt PyProof.Rows.itemOrd (PySem.W.keyToksAll []) (PySem.W.keyToksAll []) = false := PyProof.Rows.lex_irrefl _
theorem lt_1 (a b : Int × Int) (h : lexP a b = true) : leD (psD [a]) (psD [b]) = true := by
  have e : leD (psD [a]) (psD [b]) = !PySem.W.dataLt (.tuple [encD (pairD b)]) (.tuple [encD (pairD a)]) := rfl
  rw [e]
  show (!PyProof.Rows.lexLt PyProof.Rows.itemOrd (PySem.W.keyToksAll [encD (pairD b)]) (PySem.W.keyToksAll [encD (pairD a)])) = true
  rw [PySem.W.dataLt_cons (al_pair b a), nil_lt, lt_pair]
  unfold lexP at h ⊢
  simp only [decide_eq_true_eq] at h
  split
  · rfl
  · simp only [Bool.not_eq_true', decide_eq_false_iff_not]; omega
theorem eqv_pair (a b : Int × Int) : PyData.eqv (encD (pairD a)) (encD (pairD b)) = decide (a = b) := by
  have := cl_eqv 1 (pairD a) (pairD b) (encD (pairD a)) (encD (pairD b)) rfl rfl rfl rfl
  rw [this]
  have e : (pairD a = pairD b) ↔ a = b := by
    constructor
    · intro h
      simp only [pairD, D.tup.injEq, List.cons.injEq, D.int.injEq, and_true] at h
      exact Prod.ext h.1 h.2
    · intro h; rw [h]
  simp only [e]
theorem lt_2 (a b c d : Int × Int) (h : lexP a c = true ∨ (a = c ∧ lexP b d = true)) : leD (psD [a, b]) (psD [c, d]) = true := by
  have e : leD (psD [a, b]) (psD [c, d]) = !PySem.W.dataLt (.tuple [encD (pairD c), encD (pairD d)]) (.tuple [encD (pairD a), encD (pairD b)]) := rfl
  rw [e]
  show (!PyProof.Rows.lexLt PyProof.Rows.itemOrd (PySem.W.keyToksAll [encD (pairD c), encD (pairD d)]) (PySem.W.keyToksAll [encD (pairD a), encD (pairD b)])) = true
  rw [PySem.W.dataLt_cons (al_pair c a), PySem.W.dataLt_cons (al_pair d b), nil_lt, lt_pair, lt_pair, eqv_pair, eqv_pair]
  by_cases h1 : c = a
  · subst h1
    have h2 : lexP b d = true := by
      rcases h with h | h
      · unfold lexP at h; simp only [decide_eq_true_eq] at h; omega
      · exact h.2
    simp only [decide_true, if_true]
    unfold lexP at h2 ⊢
    simp only [decide_eq_true_eq] at h2
    split
    · rfl
    · simp only [Bool.not_eq_true', decide_eq_false_iff_not]; omega
  · rcases h with h | h
    · simp only [h1, decide_false, Bool.false_eq_true, if_false]
      unfold lexP at h ⊢
      simp only [decide_eq_true_eq] at h
      simp only [Bool.not_eq_true', decide_eq_false_iff_not]; omega
    · exact absurd h.1.symm h1
theorem sortB_all (l : List D) (h1 : ∀ x ∈ l, (toPy x).isSome = true ∧ SeqAt.shaped (encD x) = true ∧ Nat.ble (encD x).depth 50 = true ∧ tupB1 (encD x) = true) (h2 : ∀ x ∈ l, ∀ y ∈ l, PySem.W.alike (encD x) (encD y) = true) : sortB l = true := by
  unfold sortB alikeB
  rw [Bool.and_eq_true, Bool.or_eq_true]
  refine ⟨List.all_eq_true.mpr fun x hx => ?_, .inl (List.all_eq_true.mpr fun x hx => (h1 x hx).2.2.2)⟩
  obtain ⟨a, b, c, _⟩ := h1 x hx
  rw [a, b, c]
  exact List.all_eq_true.mpr fun y hy => h2 x hx y hy
theorem sorted_stays (l : List D) (hs : 2 ≤ l.length → sortB l = true ∧ l.Pairwise fun a b => leD a b = true) (h1 : ∀ d, l = [d] → oneB d = true) : gSortedE [.lst l] μ = .ok (.lst l) μ := by
  match l, hs, h1 with
  | [], _, _ =>
    show gSorted [.lst []] μ = _
    unfold gSorted
    have e : sortB [] = true := rfl
    simp only [asLst, e, if_true, List.mergeSort_nil]
  | [d], _, h1 =>
    unfold gSortedE
    simp only [asLst, h1 d rfl, if_true]
  | a :: b :: l, hs, _ =>
    obtain ⟨s1, s2⟩ := hs (by simp)
    show gSorted [.lst (a :: b :: l)] μ = _
    unfold gSorted
    simp only [asLst, s1, if_true, List.mergeSort_of_pairwise s2]
theorem ps_cases {k : Nat} {ps : List (Int × Int)} (h : ps.length = k) (hk : k ≤ 2) : (k = 0 ∧ ps = []) ∨ (k = 1 ∧ ∃ a, ps = [a]) ∨ (k = 2 ∧ ∃ a b, ps = [a, b]) := by
  match ps, h with
  | [], h => exact .inl ⟨h.symm, rfl⟩
  | [a], h => exact .inr (.inl ⟨h.symm, a, rfl⟩)
  | [a, b], h => exact .inr (.inr ⟨h.symm, a, b, rfl⟩)
  | a :: b :: c :: l, h => simp at h; omega
theorem lots_1 : lotsAt r 1 = (ev r.b.length).map fun b => ([b], turnR r b) := by
  simp only [lotsAt, List.flatMap_cons, List.flatMap_nil, List.append_nil, List.nil_append]
  have e : (ev r.b.length).filter (nextOk []) = ev r.b.length := List.filter_eq_self.mpr fun _ _ => rfl
  rw [e]
theorem lots_2 : lotsAt r 2 = (ev r.b.length).flatMap fun a => ((ev r.b.length).filter (lexP a)).map fun b => ([a, b], turnR (turnR r a) b) := by
  rw [lotsAt, lots_1, List.flatMap_map]
  rfl
theorem good_pair (h : 2 ≤ r.b.length ∧ r.b.length ≤ 4) {k : Nat} (hk : k ≤ 2) : ((lotsAt r k).map fun x => psD x.1).Pairwise fun a b => leD a b = true := by
  have : k = 0 ∨ k = 1 ∨ k = 2 := by omega
  rcases this with rfl | rfl | rfl
  · simp [lotsAt]
  · rw [lots_1, List.map_map, List.pairwise_map]
    exact (ev_asc h).imp fun q => lt_1 _ _ q
  · rw [lots_2, List.map_flatMap, List.pairwise_flatMap]
    refine ⟨fun a _ => ?_, (ev_asc h).imp fun {a b} q x hx y hy => ?_⟩
    · rw [List.map_map, List.pairwise_map]
      exact ((ev_asc h).sublist List.filter_sublist).imp fun q => lt_2 _ _ _ _ (.inr ⟨rfl, q⟩)
    · rw [List.map_map] at hx hy
      obtain ⟨x, _, rfl⟩ := List.mem_map.mp hx
      obtain ⟨y, _, rfl⟩ := List.mem_map.mp hy
      exact lt_2 _ _ _ _ (.inl q)
theorem good_sorted (h : r.Ok) (hn : r.b.length ≤ 4) {k : Nat} (hk : k ≤ 2) : gSortedE [.lst ((goodAt r k).map psD)] μ = .ok (.lst ((goodAt r k).map psD)) μ := by
  have mem : ∀ ps ∈ goodAt r k, ps.length = k := fun ps hp => by
    obtain ⟨x, hx, rfl⟩ := List.mem_map.mp hp
    exact (lots_in k h (List.mem_filter.mp hx).1).2.2
  have g0 : k = 0 → (goodAt r k).length ≤ 1 := fun e => by
    subst e
    unfold goodAt
    rw [List.length_map]
    exact Nat.le_trans (List.length_filter_le _ _) (by simp [lotsAt])
  refine sorted_stays _ (fun h2 => ⟨sortB_all _ (fun x hx => ?_) fun x hx y hy => ?_, ?_⟩) fun d hd => ?_
  · obtain ⟨ps, hp, rfl⟩ := List.mem_map.mp hx
    rcases ps_cases (mem ps hp) hk with ⟨e, rfl⟩ | ⟨_, a, rfl⟩ | ⟨_, a, b, rfl⟩
    · have := g0 e; rw [List.length_map] at h2; omega
    · exact ⟨rfl, rfl, rfl, rfl⟩
    · exact ⟨rfl, rfl, rfl, rfl⟩
  · obtain ⟨ps, hp, rfl⟩ := List.mem_map.mp hx
    obtain ⟨qs, hq, rfl⟩ := List.mem_map.mp hy
    rcases ps_cases (mem ps hp) hk with ⟨e, rfl⟩ | ⟨e, a, rfl⟩ | ⟨e, a, b, rfl⟩ <;> rcases ps_cases (mem qs hq) hk with ⟨e', rfl⟩ | ⟨e', a', rfl⟩ | ⟨e', a', b', rfl⟩ <;> first | rfl | omega
  · have := good_pair ⟨h.lo, hn⟩ hk
    unfold goodAt
    rw [List.map_map]
    exact this.sublist ((List.filter_sublist (p := fun x : List (Int × Int) × Rl => smoothB x.2) (l := lotsAt r k)).map fun x : List (Int × Int) × Rl => psD x.1)
  · have hm : d ∈ (goodAt r k).map psD := by rw [hd]; simp
    obtain ⟨ps, hp, rfl⟩ := List.mem_map.mp hm
    rcases ps_cases (mem ps hp) hk with ⟨e, rfl⟩ | ⟨_, a, rfl⟩ | ⟨_, a, b, rfl⟩ <;> rfl
theorem cl_ps (ps : List (Int × Int)) : cl 2 (psD ps) = true := cl_tup fun z hz => by
  obtain ⟨p, _, rfl⟩ := List.mem_map.mp hz
  rfl
theorem cl_pss (l : List (List (Int × Int))) : cl 3 (.lst (l.map psD)) = true := cl_lst fun z hz => by
  obtain ⟨p, _, rfl⟩ := List.mem_map.mp hz
  exact cl_ps p
theorem gEq_pss_nil (neg : Bool) (l : List (List (Int × Int))) : gEq neg (.lst (l.map psD)) (.lst []) μ = .ok (.bl (if neg then !decide (l = []) else decide (l = []))) μ := by
  rw [gEq_cl (n := 3) (x := .lst (l.map psD)) (y := .lst []) neg (cl_pss l) rfl]
  have : (view μ (.lst (l.map psD)) = view μ (.lst [])) ↔ l = [] := by simp [view]
  simp only [this]
theorem gEq_ps_nil (neg : Bool) (l : List (Int × Int)) : gEq neg (psD l) (.tup []) μ = .ok (.bl (if neg then !decide (l = []) else decide (l = []))) μ := by
  rw [gEq_cl (n := 2) (x := psD l) (y := .tup []) neg (cl_ps l) rfl]
  have : (view μ (psD l) = view μ (.tup [])) ↔ l = [] := by simp [view, psD]
  simp only [this]
theorem gLt_pair (a b : Int × Int) : gLt (pairD a) (pairD b) μ = .ok (.bl (lexP a b)) μ := by
  have : ltB μ (pairD a) (pairD b) = some (lexP a b) := by
    have e := PySem.W.dataLt_ii a.1 a.2 b.1 b.2
    show some (PySem.W.dataLt (.tuple [.int a.1, .int a.2]) (.tuple [.int b.1, .int b.2])) = _
    rw [e]; rfl
  unfold gLt
  rw [this]
theorem last_ps {ps : List (Int × Int)} {q : Int × Int} (h : ps.getLast? = some q) : gIx (psD ps) (.int (-1)) μ = .ok (pairD q) μ := by
  have hn : ps ≠ [] := fun e => by rw [e] at h; cases h
  have hl : 0 < ps.length := List.length_pos_iff.mpr hn
  rw [psD, gIx_tup]
  refine gIxL_at ?_
  unfold atI ixN
  rw [if_neg (by omega), List.length_map, if_pos (by omega), Option.bind_some]
  have : (-1 + (ps.length : Int)).toNat = ps.length - 1 := by omega
  rw [this, List.getElem?_map, ← List.getLast?_eq_getElem?, h]; rfl
abbrev bLater : SM := sSet 6 (eBin (gAdd false) (eVar 6) (eLc false (iSeq (eVar 4)) (gVar 10) (tOrM (tOf (eBin (gEq false) (eVar 7) (eTup aNil))) (tOf (eBin gLt (eBin gIx (eVar 7) (eUn gNeg (eC (.int 1)))) (eVar 10)))) (eTup (aCons (eBin (gAdd false) (eVar 7) (eTup (aCons (eVar 10) aNil))) (aCons (eCall m_turned_over (aCons (eVar 8) (aCons (eVar 10) aNil))) aNil))) [10]))
abbrev bLevel : SM := sSeq (sSet 5 (eLc false (iSeq (eVar 3)) (gTupl 2 (gsCons (gVar 7) (gsCons (gVar 8) gsNil))) (tOf (eCall m_is_smooth (aCons (eVar 8) aNil))) (eVar 7) [7, 8]))
    (sSeq (sIf (tOf (eBin (gEq true) (eVar 5) (eLst false aNil))) (sRet (eCall gSortedE (aCons (eVar 5) aNil))) sNil)
    (sSeq (sSet 6 (eLst false aNil))
    (sSeq (sFor (iSeq (eVar 3)) (gTupl 2 (gsCons (gVar 7) (gsCons (gVar 8) gsNil))) bLater)
    (sSet 3 (eVar 6)))))
theorem level_ok (h : r.Ok) (hn : r.b.length ≤ 4) {k : Nat} (hk : k ≤ 2) {x0 x1 x2 x5 x6 x7 x8 x9 x10 : Option D} :
    (goodAt r k ≠ [] ∧ bLevel [x0, x1, x2, some (.lst ((lotsAt r k).map lotD)), some (.lst ((ev r.b.length).map pairD)), x5, x6, x7, x8, x9, x10] [] = .ok (.ret (.lst ((goodAt r k).map psD))) []) ∨
    (goodAt r k = [] ∧ ∃ y5 y6 y7 y8 y9 y10, bLevel [x0, x1, x2, some (.lst ((lotsAt r k).map lotD)), some (.lst ((ev r.b.length).map pairD)), x5, x6, x7, x8, x9, x10] [] = .ok (.nx [x0, x1, x2, some (.lst ((lotsAt r (k + 1)).map lotD)), some (.lst ((ev r.b.length).map pairD)), y5, y6, y7, y8, y9, y10]) []) := by
  have ll := lots_len (r := r) hn k
  have ll2 : 16 ^ k ≤ 16 ^ 2 := Nat.pow_le_pow_right (by decide) hk
  have lc : eLc false (iSeq (eVar 3)) (gTupl 2 (gsCons (gVar 7) (gsCons (gVar 8) gsNil))) (tOf (eCall m_is_smooth (aCons (eVar 8) aNil))) (eVar 7) [7, 8] [x0, x1, x2, some (.lst ((lotsAt r k).map lotD)), some (.lst ((ev r.b.length).map pairD)), x5, x6, x7, x8, x9, x10] [] = .ok (.lst ((goodAt r k).map psD)) [] := by
    rw [lc_map (fa := lotD) (l := lotsAt r k) (c := always) (μ1 := []) (fun x => smoothB x.2) (fun x => psD x.1)]
    · rw [retL_f, goodAt, List.map_map]; rfl
    · simp
    · rfl
    · intro x hx
      obtain ⟨a1, a2, a3⟩ := lots_in k h hx
      have sm := is_smooth_ok (μ := []) a1 (by rw [a2]; exact hn)
      exact ⟨_, by simp [wipeE, lotD]; rfl, by simp [sm], fun _ => by simp⟩
    · omega
  have s1 : ∀ X : SM, sSeq (sSet 5 (eLc false (iSeq (eVar 3)) (gTupl 2 (gsCons (gVar 7) (gsCons (gVar 8) gsNil))) (tOf (eCall m_is_smooth (aCons (eVar 8) aNil))) (eVar 7) [7, 8])) X [x0, x1, x2, some (.lst ((lotsAt r k).map lotD)), some (.lst ((ev r.b.length).map pairD)), x5, x6, x7, x8, x9, x10] [] =
      X [x0, x1, x2, some (.lst ((lotsAt r k).map lotD)), some (.lst ((ev r.b.length).map pairD)), some (.lst ((goodAt r k).map psD)), x6, x7, x8, x9, x10] [] := fun X => seq_at (by rw [sSet_at, lc]; rfl)
  show (_ ∧ sSeq _ _ _ _ = _) ∨ (_ ∧ ∃ y5 y6 y7 y8 y9 y10, sSeq _ _ _ _ = _)
  rw [s1]
  by_cases hg : goodAt r k = []
  · refine .inr ⟨hg, ?_⟩
    have nil' : gEq true (.lst []) (.lst []) [] = .ok (.bl false) [] := gEq_self (m := 1) true rfl
    have main := for_pre (f := lotD) (g := gTupl 2 (gsCons (gVar 7) (gsCons (gVar 8) gsNil))) (c := always) (body := bLater)
      (fun q ρ μ => μ = [] ∧ ∃ y7 y8, ρ = [x0, x1, x2, some (.lst ((lotsAt r k).map lotD)), some (.lst ((ev r.b.length).map pairD)), some (.lst ((goodAt r k).map psD)), some (.lst ((q.flatMap fun x => ((ev r.b.length).filter (nextOk x.1)).map fun b => (x.1 ++ [b], turnR x.2 b)).map lotD)), y7, y8, x9, x10]) (lotsAt r k)
      (ρ := [x0, x1, x2, some (.lst ((lotsAt r k).map lotD)), some (.lst ((ev r.b.length).map pairD)), some (.lst ((goodAt r k).map psD)), some (.lst []), x7, x8, x9, x10]) (μ := []) (fun _ _ _ _ => rfl) ?_ ⟨rfl, x7, x8, rfl⟩
    · obtain ⟨ρ', μ', e, rfl, y7, y8, rfl⟩ := main
      refine ⟨some (.lst ((goodAt r k).map psD)), some (.lst ((lotsAt r (k + 1)).map lotD)), y7, y8, x9, x10, ?_⟩
      refine (seq_at (ρ1 := [x0, x1, x2, some (.lst ((lotsAt r k).map lotD)), some (.lst ((ev r.b.length).map pairD)), some (.lst ((goodAt r k).map psD)), x6, x7, x8, x9, x10]) (μ1 := []) (by simp [hg, nil'])).trans ?_
      refine (seq_at (ρ1 := [x0, x1, x2, some (.lst ((lotsAt r k).map lotD)), some (.lst ((ev r.b.length).map pairD)), some (.lst ((goodAt r k).map psD)), some (.lst []), x7, x8, x9, x10]) (μ1 := []) (by simp)).trans ?_
      rw [sSeq_at, sFor_at, iSeq_at]
      simp only [eVar_at, List.getElem?_cons_succ, List.getElem?_cons_zero, vr_some, and_ok, gSeq_lst]
      rw [e]
      simp [lotsAt]
    · rintro q x s' ρ μ hq ⟨rfl, y7, y8, rfl⟩
      have hx : x ∈ lotsAt r k := by rw [hq]; simp
      obtain ⟨a1, a2, a3⟩ := lots_in k h hx
      have lc2 : eLc false (iSeq (eVar 4)) (gVar 10) (tOrM (tOf (eBin (gEq false) (eVar 7) (eTup aNil))) (tOf (eBin gLt (eBin gIx (eVar 7) (eUn gNeg (eC (.int 1)))) (eVar 10)))) (eTup (aCons (eBin (gAdd false) (eVar 7) (eTup (aCons (eVar 10) aNil))) (aCons (eCall m_turned_over (aCons (eVar 8) (aCons (eVar 10) aNil))) aNil))) [10]
          [x0, x1, x2, some (.lst ((lotsAt r k).map lotD)), some (.lst ((ev r.b.length).map pairD)), some (.lst ((goodAt r k).map psD)), some (.lst ((q.flatMap fun x => ((ev r.b.length).filter (nextOk x.1)).map fun b => (x.1 ++ [b], turnR x.2 b)).map lotD)), some (psD x.1), some (ruleD x.2), x9, x10] [] =
          .ok (.lst ((((ev r.b.length).filter (nextOk x.1)).map fun b => (x.1 ++ [b], turnR x.2 b)).map lotD)) [] := by
        rw [lc_map (fa := pairD) (l := ev r.b.length) (c := always) (μ1 := []) (nextOk x.1) (fun b => lotD (x.1 ++ [b], turnR x.2 b))]
        · rw [retL_f, List.map_map]; rfl
        · simp
        · rfl
        · intro b hb
          have hbi := ev_in hb
          have tv := turned_over_ok (μ := []) a1 (p := b) (by unfold BarIn; rw [a2]; exact hbi)
          have g1 := gEq_ps_nil (μ := []) false x.1
          have ga : gAdd false (psD x.1) (.tup [pairD b]) [] = .ok (psD (x.1 ++ [b])) [] := by
            rw [psD, gAdd_tup false (by simp; omega), psD, List.map_append]; rfl
          refine ⟨_, by rw [gVar_at], ?_, fun _ => by simp [wipeE, ga, tv, lotD]⟩
          cases e : x.1.getLast? with
          | none =>
            have e0 : x.1 = [] := List.getLast?_eq_none_iff.mp e
            have g2 : gEq false (psD []) (.tup []) [] = .ok (.bl true) [] := by rw [gEq_ps_nil]; rfl
            simp [wipeE, e0, g2, nextOk]
          | some l0 =>
            have e0 : x.1 ≠ [] := fun z => by rw [z] at e; cases e
            have l1 := last_ps (μ := []) e
            have g3 := gLt_pair (μ := []) l0 b
            simp [wipeE, g1, e0, l1, g3, nextOk, e]
        · rw [ev_len]
          have : r.b.length * r.b.length ≤ 4 * 4 := Nat.mul_le_mul hn hn
          omega
      have he : (ev r.b.length).length ≤ 16 := by rw [ev_len]; exact Nat.mul_le_mul hn hn
      have f1 := flat_len (fun x : List (Int × Int) × Rl => ((ev r.b.length).filter (nextOk x.1)).map fun b => (x.1 ++ [b], turnR x.2 b)) 16 q fun x _ => by
        rw [List.length_map]; exact Nat.le_trans (List.length_filter_le _ _) he
      have f2 : q.length ≤ (lotsAt r k).length := by rw [hq]; simp
      have f3 : ((ev r.b.length).filter (nextOk x.1)).length ≤ 16 := Nat.le_trans (List.length_filter_le _ _) he
      have ga : gAdd false (.lst ((q.flatMap fun x => ((ev r.b.length).filter (nextOk x.1)).map fun b => (x.1 ++ [b], turnR x.2 b)).map lotD)) (.lst ((((ev r.b.length).filter (nextOk x.1)).map fun b => (x.1 ++ [b], turnR x.2 b)).map lotD)) [] = .ok (.lst (((q ++ [x]).flatMap fun x => ((ev r.b.length).filter (nextOk x.1)).map fun b => (x.1 ++ [b], turnR x.2 b)).map lotD)) [] := by
        rw [gAdd_lst false (by simp only [List.length_map]; omega), flat_take, List.map_append]; rfl
      refine ⟨[x0, x1, x2, some (.lst ((lotsAt r k).map lotD)), some (.lst ((ev r.b.length).map pairD)), some (.lst ((goodAt r k).map psD)), some (.lst (((q ++ [x]).flatMap fun x => ((ev r.b.length).filter (nextOk x.1)).map fun b => (x.1 ++ [b], turnR x.2 b)).map lotD)), some (psD x.1), some (ruleD x.2), x9, x10], [], ?_, rfl, some (psD x.1), some (ruleD x.2), rfl⟩
      have gt : gTupl 2 (gsCons (gVar 7) (gsCons (gVar 8) gsNil)) (lotD x) [x0, x1, x2, some (.lst ((lotsAt r k).map lotD)), some (.lst ((ev r.b.length).map pairD)), some (.lst ((goodAt r k).map psD)), some (.lst ((q.flatMap fun x => ((ev r.b.length).filter (nextOk x.1)).map fun b => (x.1 ++ [b], turnR x.2 b)).map lotD)), y7, y8, x9, x10] [] =
        .ok [x0, x1, x2, some (.lst ((lotsAt r k).map lotD)), some (.lst ((ev r.b.length).map pairD)), some (.lst ((goodAt r k).map psD)), some (.lst ((q.flatMap fun x => ((ev r.b.length).filter (nextOk x.1)).map fun b => (x.1 ++ [b], turnR x.2 b)).map lotD)), some (psD x.1), some (ruleD x.2), x9, x10] [] := by
        simp [lotD]
      rw [Mbind_at, gt, and_ok]
      show sSet 6 (eBin (gAdd false) (eVar 6) _) _ _ = _
      rw [sSet_at, eBin_at]
      simp only [eVar_at, List.getElem?_cons_succ, List.getElem?_cons_zero, vr_some, and_ok, Mbind_at, lc2, ga, Mret_at, List.set_cons_succ, List.set_cons_zero]
  · refine .inl ⟨hg, ?_⟩
    have g1 := gEq_pss_nil (μ := []) true (goodAt r k)
    have so := good_sorted (μ := []) h hn hk
    rw [sSeq_at]
    simp only [sIf_at, tOf_at, eBin_at, eVar_at, eLst_at, aNil_at, List.getElem?_cons_succ, List.getElem?_cons_zero, vr_some, and_ok, Mbind_at, kLst_at _ (show ([] : List D).length ≤ 16777216 by simp), retL_f, g1, hg, decide_false, if_true, Bool.not_false, asB_bl, kIf_t, sRet_at, eCall_at, aCons_at, Mret_at, so, kSeq_ret]
/-- the least lots of bars -/
def least (r : Rl) : List (List (Int × Int)) := if goodAt r 0 ≠ [] then goodAt r 0 else if goodAt r 1 ≠ [] then goodAt r 1 else goodAt r 2
theorem forL_ret {g : GM} {b : SM} {a : D} {l : List D} {ρ : DL.Env} {v : D} {μ μ' : Store} (h : Mbind (g a ρ) b μ = .ok (.ret v) μ') : forL always g b (a :: l) ρ μ = .ok (.ret v) μ' := by
  unfold forL
  rw [if_pos (always_at)]
  simp only [Mbind_at] at h ⊢
  cases e3 : g a ρ μ with
  | ok ρ3 μ3 =>
    rw [e3] at h
    simp only [and_ok, Mbind_at] at h ⊢
    rw [h]; rfl
  | _ => rw [e3] at h; cases h
theorem forL_nx {g : GM} {b : SM} {a : D} {l : List D} {ρ ρ1 : DL.Env} {μ μ1 : Store} (h : Mbind (g a ρ) b μ = .ok (.nx ρ1) μ1) : forL always g b (a :: l) ρ μ = forL always g b l ρ1 μ1 := by
  conv => lhs; unfold forL
  rw [if_pos (always_at)]
  simp only [Mbind_at] at h ⊢
  cases e3 : g a ρ μ with
  | ok ρ3 μ3 =>
    rw [e3] at h
    simp only [and_ok, Mbind_at] at h ⊢
    rw [h]; rfl
  | _ => rw [e3] at h; cases h
theorem every_ok {n : Nat} (hn : n ≤ 4) (hlo : 2 ≤ n) {it : IM} {v m : Nat} {ρ : DL.Env} (hi : it ρ μ = .ok ((rng (n * n)).map .int, always) μ) (h1 : ∀ i : Int, eVar v ((wipeE ρ [v]).set v (some (.int i))) μ = .ok (.int i) μ) (h2 : ∀ i : Int, eVar m ((wipeE ρ [v]).set v (some (.int i))) μ = .ok (.int n) μ) :
    eLc false it (gVar v) tYesM (eTup (aCons (eBin gDiv (eVar v) (eVar m)) (aCons (eBin gMod (eVar v) (eVar m)) aNil))) [v] ρ μ = .ok (.lst ((ev n).map pairD)) μ := by
  rw [lc_mapA (fa := D.int) (l := rng (n * n)) (c := always) (μ1 := μ) (fun k => pairD (k / n, k % n)) hi rfl]
  · rw [retL_f, ev, List.map_map]; rfl
  · intro k hk
    have g1 : gDiv (.int k) (.int n) μ = .ok (.int (k / n)) μ := gDiv_pos (by omega) (by omega)
    have g2 : gMod (.int k) (.int n) μ = .ok (.int (k % n)) μ := gMod_pos (by omega)
    refine ⟨_, by rw [gVar_at], ?_⟩
    rw [eTup_at, aCons_at, eBin_at, h1, and_ok, Mbind_at, h2, and_ok, g1, and_ok, Mbind_at, aCons_at, eBin_at, h1, and_ok, Mbind_at, h2, and_ok, g2]
    simp [pairD]
  · rw [rng_len]
    have : n * n ≤ 4 * 4 := Nat.mul_le_mul hn hn
    omega
theorem least_bars_ok (h : r.Ok) (hn : r.b.length ≤ 4) : m_least_bars [ruleD r] μ = .ok (.lst ((least r).map psD)) μ := by
  have hlo := h.lo
  refine pure_ret (μ' := []) (by simp) rfl ?_ (by simp)
  have n4 : r.b.length * r.b.length ≤ 4 * 4 := Nat.mul_le_mul hn hn
  have gm : gMulI (.int r.b.length) (.int r.b.length) [] = .ok (.int ((r.b.length * r.b.length : Nat) : Int)) [] := by
    rw [gMulI_int (by omega) (by omega)]; simp
  refine (seq_at (ρ1 := [some (ruleD r), none, none, none, none, none, none, none, none, none, none]) (μ1 := []) (by simp [need_rule_ok h])).trans ?_
  refine (seq_at (ρ1 := [some (ruleD r), some (.int r.b.length), none, none, none, none, none, none, none, none, none]) (μ1 := []) (by simp)).trans ?_
  have evy := every_ok (μ := []) hn hlo (it := iSeq (eLR1 false (eBin gMulI (eVar 1) (eVar 1)))) (v := 9) (m := 1) (ρ := [some (ruleD r), some (.int r.b.length), none, none, none, none, none, none, none, none, none]) (by simp [gm]; rw [← Int.natCast_mul, kLR_nat false (by omega)]; simp [rngD_0]) (fun i => by simp [wipeE]) (fun i => by simp [wipeE])
  have z0 : D.lst [.tup [.tup [], ruleD r]] = .lst ((lotsAt r 0).map lotD) := rfl
  refine (seq_at (ρ1 := [some (ruleD r), some (.int r.b.length), none, some (.lst ((lotsAt r 0).map lotD)), some (.lst ((ev r.b.length).map pairD)), none, none, none, none, none, none]) (μ1 := []) ?_).trans ?_
  · rw [sPar_at]
    simp [evy, z0]
  rw [sSeq_at, sFor_at, iRange1_at, eC_at, and_ok, kR1_at (by omega) (by omega), and_ok, rngD_0]
  have e3 : (rng (3 : Int).toNat).map D.int = [.int 0, .int 1, .int 2] := rfl
  show (forL always (gVar 2) bLevel ((rng (3 : Int).toNat).map D.int) _ _).and _ = _
  rw [e3]
  have st : ∀ (k : Nat) (t : Int) (x2 x5 x6 x7 x8 x9 x10 : Option D), Mbind (gVar 2 (.int t) [some (ruleD r), some (.int r.b.length), x2, some (.lst ((lotsAt r k).map lotD)), some (.lst ((ev r.b.length).map pairD)), x5, x6, x7, x8, x9, x10]) bLevel [] =
      bLevel [some (ruleD r), some (.int r.b.length), some (.int t), some (.lst ((lotsAt r k).map lotD)), some (.lst ((ev r.b.length).map pairD)), x5, x6, x7, x8, x9, x10] [] := fun _ _ _ _ _ _ _ _ _ => rfl
  unfold least
  rcases level_ok h hn (k := 0) (by omega) (x0 := some (ruleD r)) (x1 := some (.int r.b.length)) (x2 := some (.int 0)) (x5 := none) (x6 := none) (x7 := none) (x8 := none) (x9 := none) (x10 := none) with ⟨g0, e0⟩ | ⟨g0, y5, y6, y7, y8, y9, y10, e0⟩
  · rw [forL_ret ((st 0 0 _ _ _ _ _ _ _).trans e0), if_pos g0]; rfl
  · rw [forL_nx ((st 0 0 _ _ _ _ _ _ _).trans e0), if_neg (by simp [g0])]
    rcases level_ok h hn (k := 1) (by omega) (x0 := some (ruleD r)) (x1 := some (.int r.b.length)) (x2 := some (.int 1)) (x5 := y5) (x6 := y6) (x7 := y7) (x8 := y8) (x9 := y9) (x10 := y10) with ⟨g1, e1⟩ | ⟨g1, z5, z6, z7, z8, z9, z10, e1⟩
    · rw [forL_ret ((st 1 1 _ _ _ _ _ _ _).trans e1), if_pos g1]; rfl
    · rw [forL_nx ((st 1 1 _ _ _ _ _ _ _).trans e1), if_neg (by simp [g1])]
      rcases level_ok h hn (k := 2) (by omega) (x0 := some (ruleD r)) (x1 := some (.int r.b.length)) (x2 := some (.int 2)) (x5 := z5) (x6 := z6) (x7 := z7) (x8 := z8) (x9 := z9) (x10 := z10) with ⟨g2, e2⟩ | ⟨g2, w5, w6, w7, w8, w9, w10, e2⟩
      · rw [forL_ret ((st 2 2 _ _ _ _ _ _ _).trans e2)]; rfl
      · rw [forL_nx ((st 2 2 _ _ _ _ _ _ _).trans e2), g2]
        unfold forL
        rw [if_pos (always_at)]
        simp
theorem good_0 : goodAt r 0 = if smoothB r = true then [[]] else [] := by
  unfold goodAt
  simp only [lotsAt]
  cases h : smoothB r <;> simp [h]
theorem good_1 : goodAt r 1 = ((ev r.b.length).filter fun b => smoothB (turnR r b)).map fun b => [b] := by
  unfold goodAt
  rw [lots_1, List.filter_map, List.map_map]; rfl
theorem good_2 : goodAt r 2 = (ev r.b.length).flatMap fun a => ((ev r.b.length).filter fun b => lexP a b && smoothB (turnR (turnR r a) b)).map fun b => [a, b] := by
  unfold goodAt
  rw [lots_2, List.filter_flatMap, List.map_flatMap]
  congr 1
  funext a
  rw [List.filter_map, List.map_map, List.filter_filter]
  congr 1
  congr 1
  funext b
  simp only [Function.comp_apply, Bool.and_comm]
abbrev bPairs : SM := sSeq (sSet 9 (eCall m__law_turned (aCons (eVar 3) (aCons (eVar 7) aNil))))
    (sSet 6 (eBin (gAdd false) (eVar 6) (eLc false (iSeq (eVar 5)) (gVar 10) (tAndM (tOf (eBin gLt (eVar 7) (eVar 10))) (tTru (eCall m__law_smooth (aCons (eCall m__law_turned (aCons (eVar 9) (aCons (eVar 10) aNil))) aNil)))) (eTup (aCons (eVar 7) (aCons (eVar 10) aNil))) [10])))
abbrev bCell : SM := sSeq (sSet 4 (eCall gLen (aCons (eBin gIx (eVar 3) (eC (.int 0))) aNil)))
    (sSeq (sSet 5 (eLc false (iRange1 (eBin gMulI (eVar 4) (eVar 4))) (gVar 8) tYesM (eTup (aCons (eBin gDiv (eVar 8) (eVar 4)) (aCons (eBin gMod (eVar 8) (eVar 4)) aNil))) [8]))
    (sSeq (sSet 6 (eIf (tTru (eCall m__law_smooth (aCons (eVar 3) aNil))) (eLst false (aCons (eTup aNil) aNil)) (eLst false aNil)))
    (sSeq (sIf (tOf (eBin (gEq false) (eVar 6) (eLst false aNil))) (sSet 6 (eLc false (iSeq (eVar 5)) (gVar 7) (tTru (eCall m__law_smooth (aCons (eCall m__law_turned (aCons (eVar 3) (aCons (eVar 7) aNil))) aNil))) (eTup (aCons (eVar 7) aNil)) [7])) sNil)
    (sSeq (sIf (tOf (eBin (gEq false) (eVar 6) (eLst false aNil))) (sFor (iSeq (eVar 5)) (gVar 7) bPairs) sNil)
    (sIf (tOf (eBin (gEq true) (eCall m_least_bars (aCons (eVar 3) aNil)) (eVar 6))) (sRet (eC (.bl false))) sNil)))))
theorem cell_ok (h : r.Ok) (hn : r.b.length ≤ 4) {x0 x1 x2 x4 x5 x6 x7 x8 x9 x10 : Option D} : ∃ y4 y5 y6 y7 y8 y9 y10, bCell [x0, x1, x2, some (ruleD r), x4, x5, x6, x7, x8, x9, x10] μ = .ok (.nx [x0, x1, x2, some (ruleD r), y4, y5, y6, y7, y8, y9, y10]) μ := by
  have hlo := h.lo
  have n4 : r.b.length * r.b.length ≤ 4 * 4 := Nat.mul_le_mul hn hn
  have he : (ev r.b.length).length ≤ 16 := by rw [ev_len]; exact n4
  have gm : gMulI (.int r.b.length) (.int r.b.length) μ = .ok (.int ((r.b.length * r.b.length : Nat) : Int)) μ := by
    rw [gMulI_int (by omega) (by omega)]; simp
  have evy := every_ok (μ := μ) hn hlo (it := iRange1 (eBin gMulI (eVar 4) (eVar 4))) (v := 8) (m := 4) (ρ := [x0, x1, x2, some (ruleD r), some (.int r.b.length), x5, x6, x7, x8, x9, x10]) (by simp [gm]; rw [← Int.natCast_mul, kR1_nat (by omega)]; simp [rngD_0]) (fun i => by simp [wipeE]) (fun i => by simp [wipeE])
  have sm := law_smooth_ok (μ := μ) (r := r) (by omega)
  have s0 : ∀ b : Bool, smoothB r = b → (eIf (tTru (eCall m__law_smooth (aCons (eVar 3) aNil))) (eLst false (aCons (eTup aNil) aNil)) (eLst false aNil)) [x0, x1, x2, some (ruleD r), some (.int r.b.length), some (.lst ((ev r.b.length).map pairD)), x6, x7, x8, x9, x10] μ = .ok (.lst ((goodAt r 0).map psD)) μ := fun b hb => by
    rw [good_0]
    cases b <;> simp [sm, hb, psD]
  have s0 := s0 _ rfl
  have lc1 : eLc false (iSeq (eVar 5)) (gVar 7) (tTru (eCall m__law_smooth (aCons (eCall m__law_turned (aCons (eVar 3) (aCons (eVar 7) aNil))) aNil))) (eTup (aCons (eVar 7) aNil)) [7] [x0, x1, x2, some (ruleD r), some (.int r.b.length), some (.lst ((ev r.b.length).map pairD)), some (.lst ((goodAt r 0).map psD)), x7, x8, x9, x10] μ = .ok (.lst ((goodAt r 1).map psD)) μ := by
    rw [lc_map (fa := pairD) (l := ev r.b.length) (c := always) (μ1 := μ) (fun b => smoothB (turnR r b)) (fun b => psD [b])]
    · rw [retL_f, good_1, List.map_map]; rfl
    · simp
    · rfl
    · intro b hb
      have tv := law_turned_ok (μ := μ) h (p := b) (ev_in hb)
      have sm2 := law_smooth_ok (μ := μ) (r := turnR r b) (by rw [turnR_len]; omega)
      exact ⟨_, by rw [gVar_at], by simp [wipeE, tv, sm2], fun _ => by simp [wipeE, psD]⟩
    · omega
  have pairs : ∀ x7 x9 : Option D, ∃ y7 y9, forL always (gVar 7) bPairs ((ev r.b.length).map pairD) [x0, x1, x2, some (ruleD r), some (.int r.b.length), some (.lst ((ev r.b.length).map pairD)), some (.lst []), x7, x8, x9, x10] μ =
      .ok (.nx [x0, x1, x2, some (ruleD r), some (.int r.b.length), some (.lst ((ev r.b.length).map pairD)), some (.lst ((goodAt r 2).map psD)), y7, x8, y9, x10]) μ := fun x7 x9 => by
    have main := for_pre (f := pairD) (g := gVar 7) (c := always) (body := bPairs)
      (fun q ρ μ' => μ' = μ ∧ ∃ y7 y9, ρ = [x0, x1, x2, some (ruleD r), some (.int r.b.length), some (.lst ((ev r.b.length).map pairD)), some (.lst ((q.flatMap fun a => ((ev r.b.length).filter fun b => lexP a b && smoothB (turnR (turnR r a) b)).map fun b => [a, b]).map psD)), y7, x8, y9, x10]) (ev r.b.length)
      (ρ := [x0, x1, x2, some (ruleD r), some (.int r.b.length), some (.lst ((ev r.b.length).map pairD)), some (.lst []), x7, x8, x9, x10]) (μ := μ) (fun _ _ _ _ => rfl) ?_ ⟨rfl, x7, x9, rfl⟩
    · obtain ⟨ρ', μ', e, rfl, y7, y9, rfl⟩ := main
      exact ⟨y7, y9, by rw [e, good_2]⟩
    · rintro q a s' ρ μ' hq ⟨rfl, y7, y9, rfl⟩
      have ha : a ∈ ev r.b.length := by rw [hq]; simp
      have tv := law_turned_ok (μ := μ') h (p := a) (ev_in ha)
      have ok1 := turnR_ok h a
      rw [Mbind_at, gVar_at, and_ok]
      refine ⟨[x0, x1, x2, some (ruleD r), some (.int r.b.length), some (.lst ((ev r.b.length).map pairD)), some (.lst (((q ++ [a]).flatMap fun a => ((ev r.b.length).filter fun b => lexP a b && smoothB (turnR (turnR r a) b)).map fun b => [a, b]).map psD)), some (pairD a), x8, some (ruleD (turnR r a)), x10], μ', ?_, rfl, _, _, rfl⟩
      refine (seq_at (ρ1 := [x0, x1, x2, some (ruleD r), some (.int r.b.length), some (.lst ((ev r.b.length).map pairD)), some (.lst ((q.flatMap fun a => ((ev r.b.length).filter fun b => lexP a b && smoothB (turnR (turnR r a) b)).map fun b => [a, b]).map psD)), some (pairD a), x8, some (ruleD (turnR r a)), x10]) (μ1 := μ') (by simp [tv])).trans ?_
      have lc2 : eLc false (iSeq (eVar 5)) (gVar 10) (tAndM (tOf (eBin gLt (eVar 7) (eVar 10))) (tTru (eCall m__law_smooth (aCons (eCall m__law_turned (aCons (eVar 9) (aCons (eVar 10) aNil))) aNil)))) (eTup (aCons (eVar 7) (aCons (eVar 10) aNil))) [10]
          [x0, x1, x2, some (ruleD r), some (.int r.b.length), some (.lst ((ev r.b.length).map pairD)), some (.lst ((q.flatMap fun a => ((ev r.b.length).filter fun b => lexP a b && smoothB (turnR (turnR r a) b)).map fun b => [a, b]).map psD)), some (pairD a), x8, some (ruleD (turnR r a)), x10] μ' =
          .ok (.lst ((((ev r.b.length).filter fun b => lexP a b && smoothB (turnR (turnR r a) b)).map fun b => [a, b]).map psD)) μ' := by
        rw [lc_map (fa := pairD) (l := ev r.b.length) (c := always) (μ1 := μ') (fun b => lexP a b && smoothB (turnR (turnR r a) b)) (fun b => psD [a, b])]
        · rw [retL_f, List.map_map]; rfl
        · simp
        · rfl
        · intro b hb
          have tv2 := law_turned_ok (μ := μ') ok1 (p := b) (by unfold BarIn; rw [turnR_len]; exact ev_in hb)
          have sm2 := law_smooth_ok (μ := μ') (r := turnR (turnR r a) b) (by rw [turnR_len, turnR_len]; omega)
          have gl := gLt_pair (μ := μ') a b
          refine ⟨_, by rw [gVar_at], ?_, fun _ => by simp [wipeE, psD]⟩
          cases hl : lexP a b
          · simp [wipeE, gl, hl]
          · simp [wipeE, gl, hl, tv2, sm2]
        · omega
      have f1 := flat_len (fun a => ((ev r.b.length).filter fun b => lexP a b && smoothB (turnR (turnR r a) b)).map fun b => [a, b]) 16 q fun x _ => by
        rw [List.length_map]; exact Nat.le_trans (List.length_filter_le _ _) he
      have f2 : q.length ≤ (ev r.b.length).length := by rw [hq]; simp
      have f3 : ((ev r.b.length).filter fun b => lexP a b && smoothB (turnR (turnR r a) b)).length ≤ 16 := Nat.le_trans (List.length_filter_le _ _) he
      have ga : gAdd false (.lst ((q.flatMap fun a => ((ev r.b.length).filter fun b => lexP a b && smoothB (turnR (turnR r a) b)).map fun b => [a, b]).map psD)) (.lst ((((ev r.b.length).filter fun b => lexP a b && smoothB (turnR (turnR r a) b)).map fun b => [a, b]).map psD)) μ' = .ok (.lst (((q ++ [a]).flatMap fun a => ((ev r.b.length).filter fun b => lexP a b && smoothB (turnR (turnR r a) b)).map fun b => [a, b]).map psD)) μ' := by
        rw [gAdd_lst false (by simp only [List.length_map]; omega), flat_take, List.map_append]; rfl
      rw [sSet_at, eBin_at]
      simp only [eVar_at, List.getElem?_cons_succ, List.getElem?_cons_zero, vr_some, and_ok, Mbind_at, lc2, ga, Mret_at, List.set_cons_succ, List.set_cons_zero]
  have lb := least_bars_ok (μ := μ) h hn
  have g0 := gEq_pss_nil (μ := μ) false (goodAt r 0)
  have g1 := gEq_pss_nil (μ := μ) false (goodAt r 1)
  have nil' : gEq false (.lst []) (.lst []) μ = .ok (.bl true) μ := gEq_self (m := 1) false rfl
  have same : ∀ l : List (List (Int × Int)), gEq true (.lst (l.map psD)) (.lst (l.map psD)) μ = .ok (.bl false) μ := fun l => gEq_self (m := 3) true (cl_pss l)
  have last : ∀ z7 z9 : Option D, ∀ l, least r = l → (sIf (tOf (eBin (gEq true) (eCall m_least_bars (aCons (eVar 3) aNil)) (eVar 6))) (sRet (eC (.bl false))) sNil) [x0, x1, x2, some (ruleD r), some (.int r.b.length), some (.lst ((ev r.b.length).map pairD)), some (.lst (l.map psD)), z7, x8, z9, x10] μ =
      .ok (.nx [x0, x1, x2, some (ruleD r), some (.int r.b.length), some (.lst ((ev r.b.length).map pairD)), some (.lst (l.map psD)), z7, x8, z9, x10]) μ := fun z7 z9 l hl => by
    subst hl
    simp [lb, same]
  have a0 : ∀ X : SM, ∀ x4 x5 x6, sSeq (sSet 4 (eCall gLen (aCons (eBin gIx (eVar 3) (eC (.int 0))) aNil))) X [x0, x1, x2, some (ruleD r), x4, x5, x6, x7, x8, x9, x10] μ = X [x0, x1, x2, some (ruleD r), some (.int r.b.length), x5, x6, x7, x8, x9, x10] μ := fun X _ _ _ => seq_at (by simp)
  show ∃ y4 y5 y6 y7 y8 y9 y10, sSeq _ _ _ _ = _
  rw [a0]
  have a1 : ∀ X : SM, sSeq (sSet 5 (eLc false (iRange1 (eBin gMulI (eVar 4) (eVar 4))) (gVar 8) tYesM (eTup (aCons (eBin gDiv (eVar 8) (eVar 4)) (aCons (eBin gMod (eVar 8) (eVar 4)) aNil))) [8])) X [x0, x1, x2, some (ruleD r), some (.int r.b.length), x5, x6, x7, x8, x9, x10] μ = X [x0, x1, x2, some (ruleD r), some (.int r.b.length), some (.lst ((ev r.b.length).map pairD)), x6, x7, x8, x9, x10] μ := fun X => seq_at (by rw [sSet_at, evy]; rfl)
  rw [a1]
  have a2 : ∀ X : SM, sSeq (sSet 6 (eIf (tTru (eCall m__law_smooth (aCons (eVar 3) aNil))) (eLst false (aCons (eTup aNil) aNil)) (eLst false aNil))) X [x0, x1, x2, some (ruleD r), some (.int r.b.length), some (.lst ((ev r.b.length).map pairD)), x6, x7, x8, x9, x10] μ = X [x0, x1, x2, some (ruleD r), some (.int r.b.length), some (.lst ((ev r.b.length).map pairD)), some (.lst ((goodAt r 0).map psD)), x7, x8, x9, x10] μ := fun X => seq_at (by rw [sSet_at, s0]; rfl)
  rw [a2]
  by_cases c0 : goodAt r 0 = []
  · rw [c0] at lc1
    simp only [List.map_nil] at lc1
    rw [c0]
    simp only [List.map_nil]
    have a3 : ∀ X : SM, sSeq (sIf (tOf (eBin (gEq false) (eVar 6) (eLst false aNil))) (sSet 6 (eLc false (iSeq (eVar 5)) (gVar 7) (tTru (eCall m__law_smooth (aCons (eCall m__law_turned (aCons (eVar 3) (aCons (eVar 7) aNil))) aNil))) (eTup (aCons (eVar 7) aNil)) [7])) sNil) X [x0, x1, x2, some (ruleD r), some (.int r.b.length), some (.lst ((ev r.b.length).map pairD)), some (.lst []), x7, x8, x9, x10] μ =
      X [x0, x1, x2, some (ruleD r), some (.int r.b.length), some (.lst ((ev r.b.length).map pairD)), some (.lst ((goodAt r 1).map psD)), x7, x8, x9, x10] μ := fun X => seq_at (by
        rw [sIf_at]
        simp only [tOf_at, eBin_at, eVar_at, eLst_at, aNil_at, List.getElem?_cons_succ, List.getElem?_cons_zero, vr_some, and_ok, Mbind_at, kLst_at _ (show ([] : List D).length ≤ 16777216 by simp), retL_f, nil', asB_bl, kIf_t, sSet_at, lc1, Mret_at, List.set_cons_succ, List.set_cons_zero])
    rw [a3]
    by_cases c1 : goodAt r 1 = []
    · rw [c1]
      simp only [List.map_nil]
      obtain ⟨y7, y9, ep⟩ := pairs x7 x9
      have a4 : ∀ X : SM, sSeq (sIf (tOf (eBin (gEq false) (eVar 6) (eLst false aNil))) (sFor (iSeq (eVar 5)) (gVar 7) bPairs) sNil) X [x0, x1, x2, some (ruleD r), some (.int r.b.length), some (.lst ((ev r.b.length).map pairD)), some (.lst []), x7, x8, x9, x10] μ =
        X [x0, x1, x2, some (ruleD r), some (.int r.b.length), some (.lst ((ev r.b.length).map pairD)), some (.lst ((goodAt r 2).map psD)), y7, x8, y9, x10] μ := fun X => seq_at (by
          rw [sIf_at]
          simp only [tOf_at, eBin_at, eVar_at, eLst_at, aNil_at, List.getElem?_cons_succ, List.getElem?_cons_zero, vr_some, and_ok, Mbind_at, kLst_at _ (show ([] : List D).length ≤ 16777216 by simp), retL_f, nil', asB_bl, kIf_t, sFor_at, iSeq_at, gSeq_lst, ep])
      rw [a4]
      exact ⟨_, _, _, _, _, _, _, last _ _ _ (by simp [least, c0, c1])⟩
    · have a4 : ∀ X : SM, sSeq (sIf (tOf (eBin (gEq false) (eVar 6) (eLst false aNil))) (sFor (iSeq (eVar 5)) (gVar 7) bPairs) sNil) X [x0, x1, x2, some (ruleD r), some (.int r.b.length), some (.lst ((ev r.b.length).map pairD)), some (.lst ((goodAt r 1).map psD)), x7, x8, x9, x10] μ =
        X [x0, x1, x2, some (ruleD r), some (.int r.b.length), some (.lst ((ev r.b.length).map pairD)), some (.lst ((goodAt r 1).map psD)), x7, x8, x9, x10] μ := fun X => seq_at (by simp [g1, c1])
      rw [a4]
      exact ⟨_, _, _, _, _, _, _, last _ _ _ (by simp [least, c0, c1])⟩
  · have a3 : ∀ X : SM, sSeq (sIf (tOf (eBin (gEq false) (eVar 6) (eLst false aNil))) (sSet 6 (eLc false (iSeq (eVar 5)) (gVar 7) (tTru (eCall m__law_smooth (aCons (eCall m__law_turned (aCons (eVar 3) (aCons (eVar 7) aNil))) aNil))) (eTup (aCons (eVar 7) aNil)) [7])) sNil) X [x0, x1, x2, some (ruleD r), some (.int r.b.length), some (.lst ((ev r.b.length).map pairD)), some (.lst ((goodAt r 0).map psD)), x7, x8, x9, x10] μ =
      X [x0, x1, x2, some (ruleD r), some (.int r.b.length), some (.lst ((ev r.b.length).map pairD)), some (.lst ((goodAt r 0).map psD)), x7, x8, x9, x10] μ := fun X => seq_at (by simp [g0, c0])
    have a4 : ∀ X : SM, sSeq (sIf (tOf (eBin (gEq false) (eVar 6) (eLst false aNil))) (sFor (iSeq (eVar 5)) (gVar 7) bPairs) sNil) X [x0, x1, x2, some (ruleD r), some (.int r.b.length), some (.lst ((ev r.b.length).map pairD)), some (.lst ((goodAt r 0).map psD)), x7, x8, x9, x10] μ =
      X [x0, x1, x2, some (ruleD r), some (.int r.b.length), some (.lst ((ev r.b.length).map pairD)), some (.lst ((goodAt r 0).map psD)), x7, x8, x9, x10] μ := fun X => seq_at (by simp [g0, c0])
    rw [a3, a4]
    exact ⟨_, _, _, _, _, _, _, last _ _ _ (by simp [least, c0])⟩
theorem law_ok {ns : List Int} (h : ns.length ≤ 63) : m_law [.arg (ns.map .int)] μ = .ok (.bl true) μ := by
  have na : noPtrL [D.arg (ns.map .int)] = true := by simp [noPtr]
  let K : Int := if (if (ns.length : Int) + 2 < 6 then (ns.length : Int) + 2 else 6) > 3 then (if (ns.length : Int) + 2 < 6 then (ns.length : Int) + 2 else 6) else 3
  have hK : 0 ≤ K ∧ K ≤ 12 := by constructor <;> (simp only [K]; split <;> split <;> omega)
  have main := for_pre (f := D.int) (g := gVar 1) (c := always) (body := sSeq (sSet 2 (eCall m__law_bag (aCons (eVar 0) (aCons (eVar 1) aNil))))
    (sSeq (sSet 3 (eCall m__law_rule (aCons (eVar 2) (aCons (eCall m__law_of (aCons (eVar 2) (aCons (eLst false (aCons (eC (.int 3)) (aCons (eC (.int 4)) aNil))) aNil))) aNil))))
    bCell))
    (fun p ρ μ' => ∃ x1 x2 x3 x4 x5 x6 x7 x8 x9 x10, ρ = [some (.arg (ns.map .int)), x1, x2, x3, x4, x5, x6, x7, x8, x9, x10]) (rng K.toNat)
    (ρ := [some (.arg (ns.map .int)), none, none, none, none, none, none, none, none, none, none]) (μ := []) (fun _ _ _ _ => rfl) ?_ ⟨_, _, _, _, _, _, _, _, _, _, rfl⟩
  · obtain ⟨ρ', μ', e, x1, x2, x3, x4, x5, x6, x7, x8, x9, x10, rfl⟩ := main
    refine pure_ret (μ' := μ') na rfl ?_ rfl
    have kr : ∀ μ : Store, kR1 (.int K) μ = .ok ((rng K.toNat).map .int, always) μ := fun μ => by rw [kR1_at (by omega) (by omega), rngD_0]
    refine (seq_at (ρ1 := [some (.arg (ns.map .int)), x1, x2, x3, x4, x5, x6, x7, x8, x9, x10]) (μ1 := μ') ?_).trans (by simp)
    rw [sFor_at, iRange1_at]
    have em : (eCall gMax2 (aCons (eC (.int 3)) (aCons (eCall gMin2 (aCons (eC (.int 6)) (aCons (eBin (gAdd false) (eCall gLen (aCons (eVar 0) aNil)) (eC (.int 2))) aNil))) aNil))) ([D.arg (ns.map .int)].map some ++ List.replicate (11 - 1) none) [] = .ok (.int K) [] := by
      simp [K]
    rw [em, and_ok, kr, and_ok]
    exact e
  · rintro p a s ρ μ' hp ⟨x1, x2, x3, x4, x5, x6, x7, x8, x9, x10, rfl⟩
    have ha : a ∈ rng K.toNat := by rw [hp]; simp
    obtain ⟨ha1, ha2⟩ := mem_rng.mp ha
    have ea : ((a.toNat : Nat) : Int) = a := by omega
    obtain ⟨x, y, e1, hb⟩ := law_bag_ok (ns := ns) (μ := μ') (k := a.toNat) (by omega)
    rw [ea] at e1
    obtain ⟨m, μ1, e0, hm, bg0⟩ := law_of_ok (d := .lst [.int 3, .int 4]) hb (.inl rfl) (by simp) (by simp)
    have hm' : ∃ m' : Nat, m = .int m' ∧ 2 ≤ m' ∧ m' ≤ 4 := by
      simp only [List.mem_cons, List.not_mem_nil, or_false] at hm
      rcases hm with hm | hm
      · exact ⟨3, hm, by omega, by omega⟩
      · exact ⟨4, hm, by omega, by omega⟩
    obtain ⟨m', rfl, hm1, hm2⟩ := hm'
    obtain ⟨r, μ2, e2, hr, hrl, bg⟩ := law_rule_ok (m := m') bg0.bag hm1 (by omega)
    obtain ⟨y4, y5, y6, y7, y8, y9, y10, e3⟩ := cell_ok (μ := μ2) hr (show r.b.length ≤ 4 by omega) (x0 := some (.arg (ns.map .int))) (x1 := some (.int a)) (x2 := some (.ptr μ'.length)) (x4 := x4) (x5 := x5) (x6 := x6) (x7 := x7) (x8 := x8) (x9 := x9) (x10 := x10)
    refine ⟨_, μ2, ?_, some (.int a), some (.ptr μ'.length), some (ruleD r), y4, y5, y6, y7, y8, y9, y10, rfl⟩
    rw [Mbind_at, gVar_at, and_ok]
    refine (seq_at (ρ1 := [some (.arg (ns.map .int)), some (.int a), some (.ptr μ'.length), x3, x4, x5, x6, x7, x8, x9, x10]) (μ1 := μ' ++ [.lst [.int x, .int y]]) (by simp [e1])).trans ?_
    refine (seq_at (ρ1 := [some (.arg (ns.map .int)), some (.int a), some (.ptr μ'.length), some (ruleD r), x4, x5, x6, x7, x8, x9, x10]) (μ1 := μ2) (by simp [e0, e2])).trans ?_
    exact e3
end
end Lw
namespace Hd
open PySem PySem.Spec PyProof.Rows L2
def dd__law_bag : He.DefD := ⟨("_law_bag", none), "_law_bag", "_law_bag", defArgs (top 33), defBody (top 33), defScope (top 33), [], []⟩
def dd__law_take : He.DefD := ⟨("_law_take", none), "_law_take", "_law_take", defArgs (top 34), defBody (top 34), defScope (top 34), [], []⟩
def dd__law_bars : He.DefD := ⟨("_law_bars", none), "_law_bars", "_law_bars", defArgs (top 36), defBody (top 36), defScope (top 36), [], []⟩
def dd__law_of : He.DefD := ⟨("_law_of", none), "_law_of", "_law_of", defArgs (top 35), defBody (top 35), defScope (top 35), [], []⟩
def dd__law_rule : He.DefD := ⟨("_law_rule", none), "_law_rule", "_law_rule", defArgs (top 37), defBody (top 37), defScope (top 37), [], []⟩
def dd__law_let : He.DefD := ⟨("_law_let", none), "_law_let", "_law_let", defArgs (top 38), defBody (top 38), defScope (top 38), [], []⟩
def dd__law_smooth : He.DefD := ⟨("_law_smooth", none), "_law_smooth", "_law_smooth", defArgs (top 40), defBody (top 40), defScope (top 40), [], []⟩
def dd_is_ascending : He.DefD := ⟨("is_ascending", none), "is_ascending", "is_ascending", defArgs (top 11), defBody (top 11), defScope (top 11), [], []⟩
def dd_is_number : He.DefD := ⟨("is_number", none), "is_number", "is_number", defArgs (top 9), defBody (top 9), defScope (top 9), [], []⟩
def dd_is_from : He.DefD := ⟨("is_from", none), "is_from", "is_from", defArgs (top 10), defBody (top 10), defScope (top 10), [], []⟩
def dd_are_names : He.DefD := ⟨("are_names", none), "are_names", "are_names", defArgs (top 12), defBody (top 12), defScope (top 12), [], []⟩
def dd_is_rule : He.DefD := ⟨("is_rule", none), "is_rule", "is_rule", defArgs (top 13), defBody (top 13), defScope (top 13), [], []⟩
def dd_need_rule : He.DefD := ⟨("need_rule", none), "need_rule", "need_rule", defArgs (top 14), defBody (top 14), defScope (top 14), [], []⟩
def dd_names_left : He.DefD := ⟨("names_left", none), "names_left", "names_left", defArgs (top 16), defBody (top 16), defScope (top 16), [], []⟩
def dd_is_let : He.DefD := ⟨("is_let", none), "is_let", "is_let", defArgs (top 17), defBody (top 17), defScope (top 17), [], []⟩
def dd_all_let : He.DefD := ⟨("all_let", none), "all_let", "all_let", defArgs (top 18), defBody (top 18), defScope (top 18), [], []⟩
def dd_with_name : He.DefD := ⟨("with_name", none), "with_name", "with_name", defArgs (top 19), defBody (top 19), defScope (top 19), [], []⟩
def dd_exchanged : He.DefD := ⟨("exchanged", none), "exchanged", "exchanged", defArgs (top 20), defBody (top 20), defScope (top 20), [], []⟩
def dd_is_sound : He.DefD := ⟨("is_sound", none), "is_sound", "is_sound", defArgs (top 21), defBody (top 21), defScope (top 21), [], []⟩
def dd_can_exchange : He.DefD := ⟨("can_exchange", none), "can_exchange", "can_exchange", defArgs (top 22), defBody (top 22), defScope (top 22), [], []⟩
def dd_all_exchanges : He.DefD := ⟨("all_exchanges", none), "all_exchanges", "all_exchanges", defArgs (top 23), defBody (top 23), defScope (top 23), [], []⟩
def dd_names_behind : He.DefD := ⟨("names_behind", none), "names_behind", "names_behind", defArgs (top 24), defBody (top 24), defScope (top 24), [], []⟩
def dd_turns_of : He.DefD := ⟨("turns_of", none), "turns_of", "turns_of", defArgs (top 25), defBody (top 25), defScope (top 25), [], []⟩
def dd_first_stuck : He.DefD := ⟨("first_stuck", none), "first_stuck", "first_stuck", defArgs (top 26), defBody (top 26), defScope (top 26), [], []⟩
def dd_people_stuck : He.DefD := ⟨("people_stuck", none), "people_stuck", "people_stuck", defArgs (top 27), defBody (top 27), defScope (top 27), [], []⟩
def dd_is_smooth : He.DefD := ⟨("is_smooth", none), "is_smooth", "is_smooth", defArgs (top 30), defBody (top 30), defScope (top 30), [], []⟩
def dd_turned_over : He.DefD := ⟨("turned_over", none), "turned_over", "turned_over", defArgs (top 29), defBody (top 29), defScope (top 29), [], []⟩
def dd_least_bars : He.DefD := ⟨("least_bars", none), "least_bars", "least_bars", defArgs (top 31), defBody (top 31), defScope (top 31), [], []⟩
def dd__law_turned : He.DefD := ⟨("_law_turned", none), "_law_turned", "_law_turned", defArgs (top 39), defBody (top 39), defScope (top 39), [], []⟩
def dd_law : He.DefD := ⟨("law", none), "law", "law", defArgs (top 41), defBody (top 41), defScope (top 41), [], []⟩
def fn : List He.DefD := [dd__law_bag, dd__law_take, dd__law_bars, dd__law_of, dd__law_rule, dd__law_let, dd__law_smooth, dd_is_ascending, dd_is_number, dd_is_from, dd_are_names, dd_is_rule, dd_need_rule, dd_names_left, dd_is_let, dd_all_let, dd_with_name, dd_exchanged, dd_is_sound, dd_can_exchange, dd_all_exchanges, dd_names_behind, dd_turns_of, dd_first_stuck, dd_people_stuck, dd_is_smooth, dd_turned_over, dd_least_bars, dd__law_turned, dd_law]
def fa : List He.Fa := [.glo "_law_bag", .glo "_law_take", .glo "_law_bars", .glo "_law_of", .glo "_law_rule", .glo "_law_let", .glo "_law_smooth", .glo "is_ascending", .glo "is_number", .glo "is_from", .glo "are_names", .glo "is_rule", .glo "need_rule", .glo "names_left", .glo "is_let", .glo "all_let", .glo "with_name", .glo "exchanged", .glo "is_sound", .glo "can_exchange", .glo "all_exchanges", .glo "names_behind", .glo "turns_of", .glo "first_stuck", .glo "people_stuck", .glo "is_smooth", .glo "turned_over", .glo "least_bars", .glo "_law_turned", .glo "law", .free "abs", .free "all", .free "bool", .free "enumerate", .free "int", .free "isinstance", .free "len", .free "list", .free "max", .free "min", .free "range", .free "set", .free "sorted", .free "str", .free "tuple", .free "zip", .int "MOST" 6, .str "SWAP" "swap", .glo "WAYS"]
def ex (K : PySem.W.Frag) : Bool := He.tupB K "WAYS" [.str "again", .str "anew", .str "swap"]
theorem exs_0 {K : PySem.W.Frag} (h : ex K = true) : He.tupB K "WAYS" [.str "again", .str "anew", .str "swap"] = true := h
abbrev R : PySem.W.OpenRow := PySem.W.OpenLaw.row PySem.Challenge.rw_hatnames_k10_whole_least_bars
abbrev hk : PySem.W.Hook := He.hookX 5 fa fn [] [] ex
def ob (s : PySem.W.SharedT) : He.AlX := He.obsX 5 fa fn [] [] ex (HandSHeadRun.getT s)
theorem ob_eq (s : PySem.W.SharedT) : ob s = hk.obs s.abs := He.obsX_eq (HandSHeadRun.getT_eq s)
def loose : List Str := (["DrawError", "InvalidRule", "AGAIN", "ANEW", "SWAP", "WAYS", "MOST", "is_number", "is_from", "is_ascending", "are_names", "is_rule", "need_rule", "names_left", "is_let", "all_let", "with_name", "exchanged", "is_sound", "can_exchange", "all_exchanges", "names_behind", "turns_of", "first_stuck", "people_stuck", "turned_over", "is_smooth", "least_bars", "_law_bag", "_law_take"] : List Str) ++ (["_law_of", "_law_bars", "_law_rule", "_law_let", "_law_turned", "_law_smooth"] : List Str)
theorem run (w : World) : HandSHeadRun.RunEq R (PySem.W.view R.prog [41]) hk ob 4000 loose w := by
  intro os
  kernel_rfl
theorem fx {w : World} {h : Heap} {K : PySem.W.Frag} {mg : Str → Option Value} (X : K.In h) (G : h.Ns mainGlobals mg) (c : He.SaysX fa fn [] [] ex w h K) : Lw.Fx K mg where
  d__law_bag := ⟨_, He.glo_ok X G (c.t.d.fact 0 (f := .glo "_law_bag") rfl), c.t.d.def_ 0 (d := dd__law_bag) rfl⟩
  d__law_take := ⟨_, He.glo_ok X G (c.t.d.fact 1 (f := .glo "_law_take") rfl), c.t.d.def_ 1 (d := dd__law_take) rfl⟩
  d__law_bars := ⟨_, He.glo_ok X G (c.t.d.fact 2 (f := .glo "_law_bars") rfl), c.t.d.def_ 2 (d := dd__law_bars) rfl⟩
  d__law_of := ⟨_, He.glo_ok X G (c.t.d.fact 3 (f := .glo "_law_of") rfl), c.t.d.def_ 3 (d := dd__law_of) rfl⟩
  d__law_rule := ⟨_, He.glo_ok X G (c.t.d.fact 4 (f := .glo "_law_rule") rfl), c.t.d.def_ 4 (d := dd__law_rule) rfl⟩
  d__law_let := ⟨_, He.glo_ok X G (c.t.d.fact 5 (f := .glo "_law_let") rfl), c.t.d.def_ 5 (d := dd__law_let) rfl⟩
  d__law_smooth := ⟨_, He.glo_ok X G (c.t.d.fact 6 (f := .glo "_law_smooth") rfl), c.t.d.def_ 6 (d := dd__law_smooth) rfl⟩
  d_is_ascending := ⟨_, He.glo_ok X G (c.t.d.fact 7 (f := .glo "is_ascending") rfl), c.t.d.def_ 7 (d := dd_is_ascending) rfl⟩
  d_is_number := ⟨_, He.glo_ok X G (c.t.d.fact 8 (f := .glo "is_number") rfl), c.t.d.def_ 8 (d := dd_is_number) rfl⟩
  d_is_from := ⟨_, He.glo_ok X G (c.t.d.fact 9 (f := .glo "is_from") rfl), c.t.d.def_ 9 (d := dd_is_from) rfl⟩
  d_are_names := ⟨_, He.glo_ok X G (c.t.d.fact 10 (f := .glo "are_names") rfl), c.t.d.def_ 10 (d := dd_are_names) rfl⟩
  d_is_rule := ⟨_, He.glo_ok X G (c.t.d.fact 11 (f := .glo "is_rule") rfl), c.t.d.def_ 11 (d := dd_is_rule) rfl⟩
  d_need_rule := ⟨_, He.glo_ok X G (c.t.d.fact 12 (f := .glo "need_rule") rfl), c.t.d.def_ 12 (d := dd_need_rule) rfl⟩
  d_names_left := ⟨_, He.glo_ok X G (c.t.d.fact 13 (f := .glo "names_left") rfl), c.t.d.def_ 13 (d := dd_names_left) rfl⟩
  d_is_let := ⟨_, He.glo_ok X G (c.t.d.fact 14 (f := .glo "is_let") rfl), c.t.d.def_ 14 (d := dd_is_let) rfl⟩
  d_all_let := ⟨_, He.glo_ok X G (c.t.d.fact 15 (f := .glo "all_let") rfl), c.t.d.def_ 15 (d := dd_all_let) rfl⟩
  d_with_name := ⟨_, He.glo_ok X G (c.t.d.fact 16 (f := .glo "with_name") rfl), c.t.d.def_ 16 (d := dd_with_name) rfl⟩
  d_exchanged := ⟨_, He.glo_ok X G (c.t.d.fact 17 (f := .glo "exchanged") rfl), c.t.d.def_ 17 (d := dd_exchanged) rfl⟩
  d_is_sound := ⟨_, He.glo_ok X G (c.t.d.fact 18 (f := .glo "is_sound") rfl), c.t.d.def_ 18 (d := dd_is_sound) rfl⟩
  d_can_exchange := ⟨_, He.glo_ok X G (c.t.d.fact 19 (f := .glo "can_exchange") rfl), c.t.d.def_ 19 (d := dd_can_exchange) rfl⟩
  d_all_exchanges := ⟨_, He.glo_ok X G (c.t.d.fact 20 (f := .glo "all_exchanges") rfl), c.t.d.def_ 20 (d := dd_all_exchanges) rfl⟩
  d_names_behind := ⟨_, He.glo_ok X G (c.t.d.fact 21 (f := .glo "names_behind") rfl), c.t.d.def_ 21 (d := dd_names_behind) rfl⟩
  d_turns_of := ⟨_, He.glo_ok X G (c.t.d.fact 22 (f := .glo "turns_of") rfl), c.t.d.def_ 22 (d := dd_turns_of) rfl⟩
  d_first_stuck := ⟨_, He.glo_ok X G (c.t.d.fact 23 (f := .glo "first_stuck") rfl), c.t.d.def_ 23 (d := dd_first_stuck) rfl⟩
  d_people_stuck := ⟨_, He.glo_ok X G (c.t.d.fact 24 (f := .glo "people_stuck") rfl), c.t.d.def_ 24 (d := dd_people_stuck) rfl⟩
  d_is_smooth := ⟨_, He.glo_ok X G (c.t.d.fact 25 (f := .glo "is_smooth") rfl), c.t.d.def_ 25 (d := dd_is_smooth) rfl⟩
  d_turned_over := ⟨_, He.glo_ok X G (c.t.d.fact 26 (f := .glo "turned_over") rfl), c.t.d.def_ 26 (d := dd_turned_over) rfl⟩
  d_least_bars := ⟨_, He.glo_ok X G (c.t.d.fact 27 (f := .glo "least_bars") rfl), c.t.d.def_ 27 (d := dd_least_bars) rfl⟩
  d__law_turned := ⟨_, He.glo_ok X G (c.t.d.fact 28 (f := .glo "_law_turned") rfl), c.t.d.def_ 28 (d := dd__law_turned) rfl⟩
  b_abs := He.free_ok X G (c.t.d.fact 30 (f := .free "abs") rfl)
  b_all := He.free_ok X G (c.t.d.fact 31 (f := .free "all") rfl)
  b_bool := He.free_ok X G (c.t.d.fact 32 (f := .free "bool") rfl)
  b_enumerate := He.free_ok X G (c.t.d.fact 33 (f := .free "enumerate") rfl)
  b_int := He.free_ok X G (c.t.d.fact 34 (f := .free "int") rfl)
  b_isinstance := He.free_ok X G (c.t.d.fact 35 (f := .free "isinstance") rfl)
  b_len := He.free_ok X G (c.t.d.fact 36 (f := .free "len") rfl)
  b_list := He.free_ok X G (c.t.d.fact 37 (f := .free "list") rfl)
  b_max := He.free_ok X G (c.t.d.fact 38 (f := .free "max") rfl)
  b_min := He.free_ok X G (c.t.d.fact 39 (f := .free "min") rfl)
  b_range := He.free_ok X G (c.t.d.fact 40 (f := .free "range") rfl)
  b_set := He.free_ok X G (c.t.d.fact 41 (f := .free "set") rfl)
  b_sorted := He.free_ok X G (c.t.d.fact 42 (f := .free "sorted") rfl)
  b_str := He.free_ok X G (c.t.d.fact 43 (f := .free "str") rfl)
  b_tuple := He.free_ok X G (c.t.d.fact 44 (f := .free "tuple") rfl)
  b_zip := He.free_ok X G (c.t.d.fact 45 (f := .free "zip") rfl)
  c_MOST := He.int_ok X G (c.t.d.fact 46 (f := .int "MOST" 6) rfl)
  c_SWAP := He.str_ok X G (c.t.d.fact 47 (f := .str "SWAP" "swap") rfl)
  c_WAYS := ⟨_, He.glo_ok X G (c.t.d.fact 48 (f := .glo "WAYS") rfl), fun F θ => .tup (He.tupB_ok (exs_0 c.more) F) (.cons (.str _) (.cons (.str _) (.cons (.str _) (.nil))))⟩
end Hd
open PySem PySem.W PySem.Calls PyProof.Rows
theorem PySem.Challenge.cw_hatnames_k10_whole_least_bars_holds : PySem.Challenge.rw_hatnames_k10_whole_least_bars.Holds := by
  w_on; o_law
  refine HandSHeadRun.head_any (r := OpenLaw.row PySem.Challenge.rw_hatnames_k10_whole_least_bars) (q := view (OpenLaw.row PySem.Challenge.rw_hatnames_k10_whole_least_bars).prog [41]) (H := Hd.hk) (ob := Hd.ob) (M := 4000) (loose := Hd.loose) (d := HandSHeadRun.topDef (OpenLaw.row PySem.Challenge.rw_hatnames_k10_whole_least_bars).prog 41) (kwd := []) Hd.ob_eq
    (by kernel_rfl) (fun s => by kernel_rfl) Hd.run (by kernel_rfl) (by kernel_rfl) (by kernel_rfl) (by rfl) (by first | assumption | decide +kernel) (by decide +kernel) ⟨rfl, rfl, rfl, rfl, rfl, by decide +kernel⟩ ?hw ?hc
  case hw => w_witness2
  case hc =>
    refine LamX.walk_ofTsE (l := PySem.Challenge.rw_hatnames_k10_whole_least_bars) (n := 63) (k := 10) (x := "script") (CX := fun w => L2.CX (PySem.Challenge.rw_hatnames_k10_whole_least_bars).prog w) rfl (by decide) (by kernel_rfl) ⟨rfl, by decide, by decide⟩ ?F (fun _ _ _ _ _ ⟨_, _, _, _, _, _, _, _, _, _, _, _, z⟩ => z)
    case F =>
      intro w mg fa h Y G hmg0
      obtain ⟨K, KX, c⟩ := Y
      have hmg : mg ("law" : PySem.Str) = some (.ref fa) := by
        have e : (HandSHeadRun.topDef (OpenLaw.row PySem.Challenge.rw_hatnames_k10_whole_least_bars).prog 41).name = ("law" : PySem.Str) := by kernel_rfl
        rw [← e]
        exact hmg0
      have e := hmg.symm.trans (He.glo_ok KX G (c.t.d.fact 29 (f := .glo "law") rfl))
      cases e
      obtain ⟨fd, hb, hF⟩ := Lw.g_law (P := (PySem.Challenge.rw_hatnames_k10_whole_least_bars).prog) (w := w) (Hd.fx KX G c) (c.t.d.def_ 29 (d := Hd.dd_law) rfl)
      exact ⟨K, KX, fd, [], DL.spM K mg Lw.m_law, fun _ h => (nomatch h), fun _ h => (nomatch h), fun _ h => (nomatch h), hb, fun H a ns hl _ _ hS => DL.law_sp hS (Lw.law_ok hl), fun base _ _ _ => hF base⟩
